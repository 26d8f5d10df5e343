import Derived.Test.YtncpbkoinennoaaGreatDoorMAQ
import Derived.Test.YtncpbkoinennoaaGreatDoorMAT
set_option linter.all false
set_option maxRecDepth 100000
set_option maxHeartbeats 0
namespace Go.Proofs.YtncpbkoinennoaaGreatDoor
open Go.RowKit Proofs.Tryz
attribute [local irreducible] wpList Calls
section
open TreeM
def BD.bq(x:BD):Bool:=
 x.right&&(if x.a.size=x.b.size then(!decide (x.a.aE=x.b.aE)&&(decide (x.e.length=0)&&decide (x.a.ahead x.b<0)))
  else(decide (fF x.a.size x.b.size x.e=0)&&(decide (hQ x.a.size x.b.size x.e=x.b.aE)&& !decide (iu x.a.size x.b.size x.e=x.a.aE))))
def qZ(a b:ag):(a.toList==b.toList)=decide (a=b):=by
 rw[bI,fB,ju,tH]
def yo(a b:ag):(a.toList=b.toList)=(decide (a=b)=true):=by rw[dx,tH]
def Fh(a b:Int):(a==b)=decide (a=b):=by rw[bI,fB,ju]
def mx(x:BD)(i:ab)(w:aa)(j:cp w)(f:bg w i x.e):CB 142 #[x.val i] w (aF x.bq):=by
 have p1:=λ(a:aa) (h:BW w a)=>By x i a (f.below h rfl);have p2:=λ(a:aa)=>Hi x.a x.b a;have p3:=λ(a:aa) (h:BW w a)=>FB (j.below h) (f.below h rfl) x.a.size x.b.size;obtain⟨A,I,rfl⟩:=f.form;obtain⟨R,a⟩:∃R,x.bq=R:=⟨_,rfl⟩;rw[a];unfold BD.bq at a;have f1:=js x.a.size x.b.size;have f2:=yo x.a.aE x.b.aE;have D:=qZ x.a.aE x.b.aE;have f3:((x.e.length:Int)==0)=decide (x.e.length=0):=by rw[bI];simp
 obtain⟨q,c⟩:∃q,x.a.ahead x.b=q:=⟨_,rfl⟩;obtain⟨e,b⟩:∃e,fF x.a.size x.b.size x.e=e:=⟨_,rfl⟩;obtain⟨s,h⟩:∃s,hQ x.a.size x.b.size x.e=s:=⟨_,rfl⟩;obtain⟨r,d⟩:∃r,iu x.a.size x.b.size x.e=r:=⟨_,rfl⟩;rw[c] at a p2;rw[b,h,d] at a p3;have E:=Fh e 0;have F:=qZ s x.b.aE;have g:=yo r x.a.aE;have G:=qZ r x.a.aE;clear c b h d;generalize b:decide (x.a.size=x.b.size)=c at*;have h:(x.right&&(if c=true then(!decide (x.a.aE=x.b.aE)&&(decide (x.e.length=0)&&decide (q<0))) else(decide (e=0)&&(decide (s=x.b.aE)&& !decide (r=x.a.aE)))))=R:=by
  rw[<-a,<-b];simp
 clear a b;generalize x.right=u at*;generalize decide (x.a.aE=x.b.aE)=v at*;generalize decide (x.e.length=0)=y at*;generalize J:decide (q<0)=H at*;generalize decide (e=0)=z at*;generalize decide (s=x.b.aE)=B at*;generalize decide (r=x.a.aE)=C at*;have k:=Z p1;have l:=Z p2;have m:=Z p3;have a:=Z (af.start w []);have b:=Z h;clear p1 p2 p3 h j f;obtain⟨⟨n,o,p,t⟩,⟨d1,d2,d3,d4⟩,L⟩:=x;simp only at f1 f2 D f3 F g G
 go_enter func142,ntmps142
 cases u
 rotate_left;focus
  cases c
  focus
   cases z
   rotate_left;focus
    cases B
    rotate_left;focus
     cases C
     focus simp only[fy] at g
     rotate_left;focus simp only[Bu] at g
  rotate_left 4;focus
   cases v
   focus
    simp only[fy] at f2;cases y
   rotate_left 2;focus simp only[Bu] at f2
 all_goals
  have d:=b.U;simp only[sB,↓reduceIte,fy] at d;subst d;clear b
  go_wp2_with(first|refine KT a 9 ?_|refine Kl a ?_|refine KT a 4 ?_|refine KB a 66 1 (BD.cells ⟨⟨n,o,p,t⟩,⟨d1,d2,d3,d4⟩,L⟩ _) λ E M K a=>?_|go_at_call 76;(refine(k.U _ a.U.ak).mono ?_);rintro e h ⟨rfl,b⟩;replace a:=Z (a.U.below b);clear b|go_at_call 211;(refine(l.U _).mono ?_);rintro e h ⟨rfl,b⟩;replace a:=Z (a.U.below b);clear b|go_at_call 212;(refine(m.U _ a.U.ak).mono ?_);rintro e h ⟨rfl,b⟩;replace a:=Z (a.U.below b);clear b)
  go_ret
  exact⟨rfl,a.U.ak⟩
end
def MG.part(x:MG)(c:Nat):Bool:=
 if c=108 then decide (x.log<8) else if c=109 then(decide (1<=x.m)&&(decide (x.m<=x.n)&&decide (x.n<=1099511627776))) else if c=104 then x.h.right else if c=98 then x.b.bq
 else if c=112 then(decide (x.e.length<=48)&& !cu x.e) else if c=107 then uh x.aL else true
def Wi(x:MG)(f m pM:ab)(w:aa)(k:cp w)(d:x.Rd w f m pM)(l:x.aL.length<=1000000)(c:Nat)(p:pL c):
 CB 175 #[x.val f m pM,.int .i32 (c:Int)] w (aF (x.part c)):=by
 have p1:=λ(a:aa)=>tV x.h a
 have p2:=λ(a:aa) (h:BW w a)=>mx x.b f a (k.below h) (d.b.below h rfl)
 have p3:=λ(a:aa) (h:BW w a)=>Og (d.p.below h rfl)
 have p4:=λ(a:aa) (h:BW w a)=>U0 x.aL l pM (d.m.below h)
 obtain⟨s,v,rfl⟩:=d.b.form
 obtain⟨u,z,rfl⟩:=d.p.form
 obtain⟨t,y,rfl⟩:=d.m.iQ
 have h:=Z p1;have i:=Z p2;have n:=Z p3;have j:=Z p4
 have b:=Z (af.start w [])
 clear p1 p2 p3 p4 k d l
 obtain⟨R,a⟩:∃R,x.part c=R:=⟨_,rfl⟩
 rw[a]
 unfold MG.part at a
 rcases p with rfl|rfl|rfl|rfl|rfl|rfl|rfl|rfl
 all_goals simp only[Nat.reduceEqDiff,↓reduceIte] at a
 focus
  have e1:decide ((x.log:Int)<8)=decide (x.log<8):=by rw[bI];simp;omega
  rw[a] at e1
  clear a
 rotate_left
 focus subst a
 rotate_left
 focus
  have e1:decide ((1:Int)<=(x.m:Int))=decide (1<=x.m):=by rw[bI];simp;omega
  have e3:decide ((x.n:Int)<=1099511627776)=decide (x.n<=1099511627776):=by rw[bI];simp;omega
  generalize decide (1<=x.m)=e at*
  generalize q:decide (x.m<=x.n)=g at*
  generalize decide (x.n<=1099511627776)=o at*
  cases e
  focus
   simp only[oc] at a
   subst a
  rotate_left
  focus
   cases g
   focus
    simp only[oc,vc] at a
    subst a
   rotate_left
   focus
    simp only[mR] at a
    subst a
 rotate_left 3
 focus subst a
 rotate_left
 focus
  rw[a] at h
  clear a
 rotate_left
 focus
  rw[a] at i
  clear a
 rotate_left
 focus
  have e1:decide ((x.e.length:Int)<=48)=decide (x.e.length<=48):=by rw[bI];simp;omega
  generalize decide (x.e.length<=48)=e at*
  generalize cu x.e=g at*
  cases e
  focus
   simp only[oc] at a
   subst a
  rotate_left
  focus
   simp only[mR] at a
   subst a
 rotate_left 2
 focus
  rw[a] at j
  clear a
 all_goals
  go_enter func175,ntmps175
  go_wp2_with(first|refine KT b 9 ?_|refine KT b 4 ?_|refine KB b 81 2 (x.cells _ _ _) λ o r q b=>?_|refine Kl b ?_|refine KB b 81 2 (x.cells _ _ _) λ o r q b=>?_|go_at_call 243;(refine(j.U _ b.U.ak).mono ?_);rintro e g ⟨rfl,a⟩;replace b:=Z (b.U.below a);clear a|go_at_call 154;(refine(n.U _ b.U.ak).mono ?_);rintro e g ⟨rfl,rfl⟩|go_at_call 142;(refine(i.U _ b.U.ak).mono ?_);rintro e g ⟨rfl,a⟩;replace b:=Z (b.U.below a);clear a|go_at_call 153;(refine(h.U _).mono ?_);rintro e g ⟨rfl,a⟩;replace b:=Z (b.U.below a);clear a)
  go_ret
  exact⟨rfl,b.U.ak⟩
section
section
variable{P:Program}{Q:Exit->Act->aa->Prop}{S:aa->Prop}{n:Nat}{l:List Oper}{i f:Nat}{o:Oper}{listed:Array Bool}{a:Act}{w:aa}
def az.wm(D:Region.ready .any l.toArray listed=[i])(A:i<n)(C:l.toArray[i]?=some o)(F:Region.wanted o (yielded l.toArray a.tmps)=true)(k:Tmp)(hd:o.dst=some k){c:Call}(t:o.op= .call c)(j:FuncId)(z:c.callee= .value (.func j))
 (y:∀d b,(callFunc j d).run P b= .ok (.enter j d) b) (m:List ab) (E:c.args.toList.mapM (fE a)=some m)
 (h:Calls P j m.toArray w λ e b=>∃v,e=ao v/\S b/\az P l Q S n f (listed.setIfInBounds i true) {a with tmps:=a.tmps.setIfInBounds k v} b):az P l Q S n (f+1) listed a w:=by
 refine az.one D A C (λ H s=> ?_)
 rw[ax F]
 have B:∀(d:List Operand) (g:List ab),d.mapM (fE a)=some g->d.map a.eval=g:=by
  intro d
  induction d with
  |nil=>intro g h;simp at h;simp[h]
  |cons x d G=>
   intro g h
   rw[zq] at h
   cases hx:fE a x with
   |none=>rw[hx] at h;cases h
   |some u=>
    rw[hx] at h
    cases p:d.mapM (fE a) with
    |none=>rw[p] at h;cases h
    |some q=>
     rw[p] at h
     have r:u::q=g:=by simpa using h
     rw[<-r,cw,wI hx,G q p]
 refine sU t z (vs:=m.toArray) ?_ y (h.mono ?_)
 ·apply kx
  simpa using B _ _ E
 ·rintro e b ⟨v,rfl,p,q⟩
  refine⟨v,rfl,?_⟩
  refine s _ _ p (λ _=> ?_)
  rw[hd]
  exact q
end
def MG.right(x:MG):Bool:=hY x.c&&(decide (x=x.bare)&&(eC (eQ x.c)).all x.part)
def H9(x:MG)(u v pM:ab)(w:aa)(z:cp w)(s:(Y.dP 0 gI).P w)(r:x.Rd w u v pM)(A:x.aL.length<=1000000):
 CB 88 #[x.val u v pM] w (aF x.right):=by
 have m:=Z r
 have t:=λ(j:aa) (h:BW w j)=>(Y.dP 0 gI).st w j (λ k q=>h.block k ((Y.dP 0 gI).lt _ s k q)) s
 have p0:=λ(j:aa)=>Iy x.c j
 have p2:=λ(c:Nat) (p:pL c) (j:aa) (h:BW w j)=>Wi x u v pM j (z.below h) (r.below h) A c p
 obtain⟨R,g⟩:∃R,x.right=R:=⟨_,rfl⟩
 rw[g]
 unfold MG.right at g
 have k:hY x.c=true->x.c<11:=λ h=>by unfold hY at h;simp at h;exact h.2
 generalize hY x.c=a7 at*
 have d:=Z (af.start w [])
 cases a7 with
 |false=>
  rw[oc] at g
  subst g
  have y:=Z p0
  clear p0 p2 k t z s r A
  obtain⟨E,H,rfl⟩:=m.U.b.form
  obtain⟨G,J,rfl⟩:=m.U.p.form
  obtain⟨F,I,rfl⟩:=m.U.m.iQ
  go_enter func88,ntmps88
  go_upto_region 1 with((refine KB d 81 1 (x.cells _ _ _) λ K C a8 d=>?_))
  refine RG d 10 [0] λ b0 d b=>?_
  refine VV [0,2001] b ?_
  clear b
  refine KV 2 (en 163) 7 ?_
  refine(y.U _).mono ?_;rintro e B ⟨rfl,rfl⟩
  refine⟨_,rfl,bo d [0],?_⟩
  simp only[aH,au,ay]
  have b:=bo d [0]
  refine VV [3,4,1005,1006,1007,1008,1009] b ?_
  clear b
  refine WT ?_
  go_wp2
  go_ret
  exact⟨rfl,d.U.ak⟩
 |true=>
  rw[mR] at g
  have q:x.c<11:=k rfl
  have p1:=λ(j:aa) (h:BW w j)=>M3 x u v pM j (r.below h) q (t j h)
  have j:=wX x.c q
  have h:=wW x.c
  generalize D:eQ x.c=S at*
  have y:=Z p0;have a4:=Z p1;have a5:=Z p2;have a3:=Z t;have a0:=Z j;have N:=Z h
  have b3:(x.c:Int)<11:=by omega
  have b4:decide ((x.c:Int)<11)=true:=by simp;omega
  clear p0 p1 p2 k t z s r A j h D q
  obtain⟨E,H,rfl⟩:=m.U.b.form
  obtain⟨G,J,rfl⟩:=m.U.p.form
  obtain⟨F,I,rfl⟩:=m.U.m.iQ
  generalize p:decide (x=x.bare)=c at g
  have T:=Z p
  clear p
  go_enter func88,ntmps88
  go_upto_region 1 with((refine KB d 81 1 (x.cells _ _ _) λ K C a8 d=>?_))
  refine RG d 10 [0] λ b0 d b=>?_
  refine VV [0,2001] b ?_
  clear b
  refine KV 2 (en 163) 7 ?_
  refine(y.U _).mono ?_;rintro e B ⟨rfl,rfl⟩
  refine⟨_,rfl,bo d [0],?_⟩
  simp only[aH,au,ay]
  have b:=bo d [0]
  refine VV [3,4] b ?_
  refine WR 5 20 b ?_
  refine WR 6 20 b ?_
  clear b
  refine az.wm (i:=7) V zD rfl V 12 rfl rfl 174 rfl (en 174) _ rfl ?_
  refine(a4.U _ d.U.ak).mono ?_;rintro e B ⟨b5,b7,b6,rfl,h,j⟩;replace d:=Z (d.U.below h);clear h;have a2:=Z j;clear j
  refine⟨_,rfl,bo d [0],?_⟩
  simp only[aH,au,ay]
  refine az.wm (i:=8) V zD rfl V 13 rfl rfl 173 rfl (en 173) _ rfl ?_
  refine(Vc x x.bare _ _ _ _ _ _ _ (m.U.below d.U.ak) a2.U).mono ?_;rintro e B ⟨rfl,h⟩;replace d:=Z (d.U.below h);clear h;rw[T.U]
  refine⟨_,rfl,bo d [0],?_⟩
  simp only[aH,au,ay]
  have b:=bo d [0]
  refine VV [9] b ?_
  clear b
  refine WT ?_
  cases c with
  |false=>
   rw[oc] at g
   subst g
   go_wp2
   go_ret
   exact⟨rfl,d.U.ak⟩
  |true=>
   rw[mR] at g
   have k:=Z g
   clear g
   go_wp2_with(first|refine Kl d ?_|refine vq rfl 9 rfl rfl ((yq (a3.U _ d.U.ak) _).trans a0.U) V ?_|(with_reducible show wV);(refine Rg d.U rfl 20 rfl rfl S rfl λ L C b1 g=>?_;replace d:=Z g;clear g))
   try simp only[Act.put,aH,au,ay]
   go_loopw [] (λ wr=>∃(j:Nat),j<=S.size/\af w wr [] [Y.iter L S j,Y.row K 81 (x.cells (ad E x.b.e.length H) (ad G x.e.length J) (ad F x.aL.length I))]/\((eC S).drop j).all x.part=R) (λ wr=>S.size-iterPos wr L)
   case atStart=>exact⟨0,bh _,d.U,k.U⟩
   case round=>
    clear d k
    obtain⟨j,b2,b,q⟩:=hrel
    have d:=Z b;have k:=Z q
    have a1:=Z (iterPos_of (b.get (i:=0) rfl))
    clear b q
    by_cases q:j<S.size
    ·obtain⟨c,p,b⟩:=xf S q
     have t:=Z (N.U c (dB b))
     have X:=Z p
     have D:ai ((x.part c&&((eC S).drop (j+1)).all x.part)=R):=Z (by
      obtain⟨a6,a9⟩:=ed.1 b
      rw[<-k.U,gE a6,te,a9])
     have M:ai (c<128):=Z (by have:=t.U;unfold pL at this;omega)
     have a6:=Z (a5.U c t.U)
     clear p b k
     generalize h:x.part c=b at*
     clear h
     cases b
     all_goals
      go_wp2_with(first|refine KT d 20 ?_|(with_reducible show eP);(refine Nx d.U 0 rfl rfl rfl rfl q c X.U M.U λ C g=>?_;simp only[au,ay] at g;replace d:=Z g;clear g)|go_at_call 175;(refine(a6.U _ d.U.ak).mono ?_);rintro e p ⟨rfl,h⟩;replace d:=Z (d.U.below h);clear h)
     ·go_ret
      exact⟨by rw[<-D.U];rfl,d.U.ak⟩
     ·go_roundw
      case rel=>exact⟨j+1,by omega,d.U,by rw[<-D.U];rfl⟩
      case measure=>(rw[a1.U,iterPos_of (d.U.get (i:=0) rfl)];omega)
    ·obtain rfl:j=S.size:=by omega
     rw[List.drop_of_length_le (by rw[ub];exact aW _)] at k
     have p:R=true:=k.U.symm
     subst p
     go_wp2_with(((with_reducible show eP);(refine rE d.U 0 rfl rfl rfl rfl q ?_)))
     go_ret
     exact⟨rfl,d.U.ak⟩
end
variable{h:HD}{r:Int}{G:MG}{g:Nat}
structure MG.Ok(x:MG):Prop where
 id:x.id<18446744073709551616
 m:x.m<18446744073709551616
 n:x.n<18446744073709551616
 h:x.h.Ok
 b:x.b.Ok
 aL:∀k∈x.aL,k.size<18446744073709551616
 len:x.aL.length<=1000000
def MG.kq(x:MG)(z:WS)(c:Nat):WS:=
 if c=108 then z.byte (x.log:Int) else if c=105 then z.num x.id else if c=109 then z.num x.m else if c=110 then z.num x.n
 else if c=104 then z.head x.h else if c=98 then z.jY x.b else if c=112 then(z.num x.e.length).fX x.e else(z.byte (x.aL.length:Int)).aL x.aL
def MG.enc(x:MG):ag:=if x.right=true then((eC (eQ x.c)).foldl x.kq ((⟨[],0⟩:WS).byte (x.c:Int))).text else⟨#[]⟩
def Hf(k:Nat):(eQ k).size<=5:=by
 rcases k with _|_|_|_|_|_|_|_|_|_|_|k;all_goals first|decide|(rw[show eQ (k+11)=⟨#[]⟩ by unfold eQ;simp];decide)
def MH{L:List ag}(h:cu L=false):∀s∈L,s.size=32:=by
 intro s a;unfold cu at h;rw[List.any_eq_false] at h;have:=h s a;unfold eE at this;simpa using this
def HD.Xm(a:h.right=true):h.aE.size<=100000/\h.a.size<=100000:=by
 unfold HD.right at a;simp only[cQ,dx] at a;omega
def Qr{k:MK}(h:k.cd r=true):k.aE.size<=1000:=by
 unfold MK.cd at h;simp only[yU,Bool.or_eq_false_iff,Bool.not_eq_false',Bool.or_eq_true,cQ,dx] at h;rcases h.2.2.2.1 with b|⟨_,a⟩
 ·omega
 ·rw[a];decide
def HY:∀(L:List MK) (q:Int),nG q L=true->∀k∈L,k.aE.size<=1000
 |[],_,_,k,a=>by cases a
 |x::L,q,h,k,a=>by
  rw[nG,cQ] at h
  rcases bV.1 a with rfl|a
  ·exact Qr h.1
  ·exact HY L _ h.2 k a
structure MG.PtO(x:MG)(c:Nat):Prop where
 h:c=104->x.h.aE.size<=100000/\x.h.a.size<=100000
 b:c=98->x.b.right=true
 p:c=112->x.e.length<=48/\∀s∈x.e,s.size=32
 k:c=107->x.aL.length<=8/\∀k∈x.aL,k.aE.size<=1000
def Wj(h:G.part g=true):G.PtO g:=by
 refine⟨?_,?_,?_,?_⟩<;>rintro rfl<;>simp only[MG.part,Nat.reduceEqDiff,↓reduceIte] at h
 ·exact HD.Xm h
 ·unfold BD.bq at h;rw[cQ] at h;exact h.1
 ·simp only[cQ,dx,yU] at h;exact⟨h.1,MH h.2⟩
 ·unfold uh at h;rw[cQ,dx] at h;exact⟨h.2,HY _ _ h.1⟩
def qG(x:MG)(hx:x.Ok)(B C pM:ab)(w:aa)(E:cp w)(z:(Y.dP 0 gI).P w)(A:x.Rd w B C pM):
 CB 30 #[x.val B C pM] w (ae x.enc):=by
 have o:=Z A
 have d:=λ(a:aa) (h:BW w a)=>(Y.dP 0 gI).st w a (λ k s=>h.block k ((Y.dP 0 gI).lt _ z k s)) z
 have p1:=λ(a:aa) (h:BW w a)=>H9 x B C pM a (E.below h) (d a h) (A.below h) hx.len
 have v:=Z hx
 have a:=Z (af.start w [])
 cases b:x.right with
 |false=>
  have c:x.enc=⟨#[]⟩:=by unfold MG.enc;rw[b];rfl
  rw[c]
  rw[b] at p1
  have D:=Z p1
  clear p1 b c d E z A hx
  obtain⟨N,R,rfl⟩:=o.U.b.form
  obtain⟨Q,X,rfl⟩:=o.U.p.form
  obtain⟨P,T,rfl⟩:=o.U.m.iQ
  go_enter func30,ntmps30
  go_wp2_with(first|refine KT a 20 ?_|refine KB a 81 1 (x.cells _ _ _) λ a0 m b3 a=>?_|go_at_call 88;(refine(D.U _ a.U.ak).mono ?_);rintro e l ⟨rfl,y⟩;replace a:=Z (a.U.below y);clear y)
  go_ret
  exact⟨rfl,a.U.ak⟩
 |true=>
  have c:x.enc=((eC (eQ x.c)).foldl x.kq ((⟨[],0⟩:WS).byte (x.c:Int))).text:=by unfold MG.enc;rw[b];rfl
  rw[c]
  rw[b] at p1
  have I:=b
  unfold MG.right at I
  rw[cQ,cQ,gC] at I
  obtain⟨f,-,j⟩:=I
  have s:x.c<11:=by unfold hY at f;simp at f;exact f.2
  have h:=wX x.c s
  have g:=wW x.c
  have c0:=Hf x.c
  generalize n:eQ x.c=S at*
  have D:=Z p1;have a9:=Z d;have a6:=Z h;have a4:=Z g;have a8:=Z j
  have b8:(x.c:Int)<11:=by omega
  have b9:decide ((x.c:Int)<11)=true:=by simp;omega
  clear p1 b c d E z A hx f j h g n s
  have K:=Z (show(Y.sr B x.b.e).P w from o.U.b)
  have M:=Z (show(Y.sr C x.e).P w from o.U.p)
  have L:=Z (show(Y.er 4 pM (x.aL.map MK.cells)).P w from o.U.m)
  obtain⟨N,R,rfl⟩:=o.U.b.form
  obtain⟨Q,X,rfl⟩:=o.U.p.form
  obtain⟨P,T,rfl⟩:=o.U.m.iQ
  go_enter func30,ntmps30
  go_upto_region 4 with(first|refine KT a 20 ?_|refine KA a _ 3 yJ λ b2 m b6 a=>?_|refine KB a 81 1 (x.cells _ _ _) λ a0 m b3 a=>?_|go_at_call 88;(refine(D.U _ a.U.ak).mono ?_);rintro e l ⟨rfl,y⟩;replace a:=Z (a.U.below y);clear y)
  replace a:=Z (a.U.Cu)
  have d:ai ((⟨[],0⟩:WS).b.length<=0):=Z zS
  go_upto_region 5 with(first|refine Kl a ?_|go_at_call 89;(refine(tA (a.U.in mZ) d.U _ W).mono ?_);rintro e l ⟨rfl,h,g,f⟩;have b:=a.U.rep (by exact .head _) g;clear a d;have a:=Z b;have d:=Z f;clear b g f)
  obtain⟨y0,c⟩:∃y0,(⟨[],0⟩:WS).byte (x.c:Int)=y0:=⟨_,rfl⟩
  rw[c] at a d
  have b1:=Z c
  clear c
  go_wp2_with(first|refine Kl a ?_|refine vq rfl 9 rfl rfl ((yq (a9.U _ a.U.ak) _).trans a6.U) V ?_|(with_reducible show wV);(refine Rg a.U rfl 16 rfl rfl S rfl λ a1 m b5 b=>?_;replace a:=Z b;clear b))
  try simp only[Act.put,aH,au,ay]
  go_loopw [] (λ wr=>∃(j:Nat) (h:ab),j<=S.size/\af w wr [] [Y.iter a1 S j,Y.wr b2 h (((eC S).take j).foldl x.kq y0),Y.row a0 81 (x.cells (ad N x.b.e.length R) (ad Q x.e.length X) (ad P x.aL.length T))]/\(((eC S).take j).foldl x.kq y0).b.length<=1+500001*j) (λ wr=>S.size-iterPos wr a1)
  case atStart=>exact⟨0,_,bh _,a.U,d.U⟩
  case round=>
   clear a d
   obtain⟨j,h,b7,t,f⟩:=hrel
   have a7:=Z (iterPos_of (t.get (i:=0) rfl))
   by_cases n:j<S.size
   focus
    obtain⟨c,a2,G⟩:=xf S n
    have H:=dB G
    have a5:=Z (a4.U c H)
    have r:=Z (Wj (a8.U c H))
    have p:=Z a2
    have u:=Z (BJ x.kq y0 G)
    obtain⟨q,a3⟩:∃q,((eC S).take j).foldl x.kq y0=q:=⟨_,rfl⟩
    rw[a3] at t f u
    obtain⟨J,F⟩:∃J,1+500001*j=J:=⟨_,rfl⟩
    rw[F] at f
    have b4:J<=2500000:=by omega
    have a:=Z t;have d:=Z f;have b0:=Z F
    clear a2 G H t f a3 F
    rcases a5.U with rfl|rfl|rfl|rfl|rfl|rfl|rfl|rfl
   rotate_left 8
   ·obtain rfl:j=S.size:=by omega
    rw[cS (by rw[ub];exact aW _)] at t f
    have a:=Z t;have d:=Z f
    clear t f
    go_wp2_with(first|(with_reducible show eP);(refine rE a.U 0 rfl rfl rfl rfl n ?_)|go_at_call 11;(refine(DH (a.U.in (by exact mQ mZ))).mono ?_);rintro e l ⟨rfl,rfl⟩)
    go_ret
    rw[b1.U]
    exact⟨rfl,a.U.ak⟩
   all_goals
    have c:=u.U
    simp only[MG.kq,Nat.reduceEqDiff,↓reduceIte] at c
    clear u
    have u:=Z c
    clear c
    go_wp2_with(first|refine KT a 9 ?_|(with_reducible show eP);(refine Nx a.U 0 rfl rfl rfl rfl n 98 p.U zD λ m b=>?_;simp only[au,ay] at b;replace a:=Z b;clear b)|go_at_call 92;(refine(EP (a.U.in (by exact mQ mZ)) d.U x.b v.U.b (r.U.b rfl) W _ (a.U.xT K.U) (a.U.wL K.U (by exact mQ mZ))).mono ?_);rintro e l ⟨rfl,h,g,f⟩;have b:=a.U.rep (by exact .tail _ (.head _)) g;clear a d;have a:=Z b;have d:=Z f;clear b g f|refine KT a 4 ?_|(with_reducible show eP);(refine Nx a.U 0 rfl rfl rfl rfl n 104 p.U zD λ m b=>?_;simp only[au,ay] at b;replace a:=Z b;clear b)|go_at_call 91;(refine(AH (a.U.in (by exact mQ mZ)) d.U x.h v.U.h W (r.U.h rfl).1 (r.U.h rfl).2).mono ?_);rintro e l ⟨rfl,h,g,f⟩;have b:=a.U.rep (by exact .tail _ (.head _)) g;clear a d;have a:=Z b;have d:=Z f;clear b g f|refine Kl a ?_|(with_reducible show eP);(refine Nx a.U 0 rfl rfl rfl rfl n 107 p.U zD λ m b=>?_;simp only[au,ay] at b;replace a:=Z b;clear b)|go_at_call 94;(refine(L5 (a.U.in (by exact mQ mZ)) d.U x.aL (r.U.k rfl).1 (λ k s=>⟨v.U.aL k s,(r.U.k rfl).2 k s⟩) W _ (a.U.xT L.U) (a.U.wL L.U (by exact mQ mZ))).mono ?_);rintro e l ⟨rfl,h,g,f⟩;have b:=a.U.rep (by exact .tail _ (.head _)) g;clear a d;have a:=Z b;have d:=Z f;clear b g f|(with_reducible show eP);(refine Nx a.U 0 rfl rfl rfl rfl n 112 p.U zD λ m b=>?_;simp only[au,ay] at b;replace a:=Z b;clear b)|go_at_call 93;(refine(L4 (a.U.in (by exact mQ mZ)) d.U x.e (r.U.p rfl).1 (r.U.p rfl).2 W _ (a.U.xT M.U) (a.U.wL M.U (by exact mQ mZ))).mono ?_);rintro e l ⟨rfl,h,g,f⟩;have b:=a.U.rep (by exact .tail _ (.head _)) g;clear a d;have a:=Z b;have d:=Z f;clear b g f|(with_reducible show eP);(refine Nx a.U 0 rfl rfl rfl rfl n 110 p.U zD λ m b=>?_;simp only[au,ay] at b;replace a:=Z b;clear b)|go_at_call 90;(refine(oF (a.U.in (by exact mQ mZ)) d.U _ W v.U.n).mono ?_);rintro e l ⟨rfl,h,g,f⟩;have b:=a.U.rep (by exact .tail _ (.head _)) g;clear a d;have a:=Z b;have d:=Z f;clear b g f|(with_reducible show eP);(refine Nx a.U 0 rfl rfl rfl rfl n 109 p.U zD λ m b=>?_;simp only[au,ay] at b;replace a:=Z b;clear b)|go_at_call 90;(refine(oF (a.U.in (by exact mQ mZ)) d.U _ W v.U.m).mono ?_);rintro e l ⟨rfl,h,g,f⟩;have b:=a.U.rep (by exact .tail _ (.head _)) g;clear a d;have a:=Z b;have d:=Z f;clear b g f|(with_reducible show eP);(refine Nx a.U 0 rfl rfl rfl rfl n 105 p.U zD λ m b=>?_;simp only[au,ay] at b;replace a:=Z b;clear b)|go_at_call 90;(refine(oF (a.U.in (by exact mQ mZ)) d.U _ W v.U.id).mono ?_);rintro e l ⟨rfl,h,g,f⟩;have b:=a.U.rep (by exact .tail _ (.head _)) g;clear a d;have a:=Z b;have d:=Z f;clear b g f|(with_reducible show eP);(refine Nx a.U 0 rfl rfl rfl rfl n 108 p.U zD λ m b=>?_;simp only[au,ay] at b;replace a:=Z b;clear b)|go_at_call 89;(refine(tA (a.U.in (by exact mQ mZ)) d.U _ W).mono ?_);rintro e l ⟨rfl,h,g,f⟩;have b:=a.U.rep (by exact .tail _ (.head _)) g;clear a d;have a:=Z b;have d:=Z f;clear b g f)
    go_roundw
    case rel=>exact⟨j+1,_,by omega,by rw[u.U];exact a.U,by rw[u.U];exact iM d.U (by have:=b0.U;clear d a;omega)⟩
    case measure=>(rw[a7.U,iterPos_of (a.U.get (i:=0) rfl)];omega)
variable{m:List Nat}{n:Nat}
abbrev zw(g d:Nat)(y:MG)(x:RD)(a c b:ab)(rest:List Y):List Y:=
 Y.row g 81 (y.cells a c b)::Y.rd d x::Y.ow 9 1 a y.b.e.length (aV y.b.e)::Y.ow 9 1 c y.e.length (aV y.e)::Y.ow 240 4 b y.aL.length (cy y.aL)::rest
def LU{p w:aa}{y:MG}{x:RD}{qB qP qM:ab}{rest:List Y}(l:af p w m (zw g n y x qB qP qM rest))(c:Nat)(q:c=108\/c=105\/c=109\/c=110\/c=104\/c=98\/c=112\/c=107):
 Calls prog 164 #[pV g,pV n,.int .i32 (c:Int)] w λ r d=>r=ao (aJ #[])/\∃b f e,af p d m (zw g n (y.ln c x) (x.qv c) b f e rest):=by
 have a:=Z l
 clear l
 obtain⟨k0,I,H,m0,K,⟨D,E,F,G⟩,⟨⟨r,s,t,u⟩,⟨v,z,A,B⟩,C⟩,L,J⟩:=y
 simp only[MG.ln,RD.qv]
 go_enter func164,ntmps164
 rcases q with rfl|rfl|rfl|rfl|rfl|rfl|rfl|rfl
 ·go_wp2_with(first|refine KS a λ f a=>?_|go_at_call 162;(refine(ts (a.U.in (by exact mQ mZ))).mono ?_);rintro e d ⟨rfl,b⟩;replace a:=Z (a.U.rep (by exact .tail _ (.head _)) b);clear b)
  go_end0
  exact⟨rfl,_,_,_,a.U⟩
 ·go_wp2_with(first|refine KS a λ f a=>?_|go_at_call 47;(refine(qd (a.U.in (by exact mQ mZ))).mono ?_);rintro e d ⟨rfl,b⟩;replace a:=Z (a.U.rep (by exact .tail _ (.head _)) b);clear b)
  go_end0
  exact⟨rfl,_,_,_,a.U⟩
 ·go_wp2_with(first|refine KS a λ f a=>?_|go_at_call 47;(refine(qd (a.U.in (by exact mQ mZ))).mono ?_);rintro e d ⟨rfl,b⟩;replace a:=Z (a.U.rep (by exact .tail _ (.head _)) b);clear b)
  go_end0
  exact⟨rfl,_,_,_,a.U⟩
 ·go_wp2_with(first|refine KS a λ f a=>?_|go_at_call 47;(refine(qd (a.U.in (by exact mQ mZ))).mono ?_);rintro e d ⟨rfl,b⟩;replace a:=Z (a.U.rep (by exact .tail _ (.head _)) b);clear b)
  go_end0
  exact⟨rfl,_,_,_,a.U⟩
 ·go_wp2_with(first|refine KS a λ f a=>?_|go_at_call 150;(refine(EF (a.U.in (by exact mQ mZ))).mono ?_);rintro e d ⟨rfl,b⟩;replace a:=Z (a.U.rep (by exact .tail _ (.head _)) b);clear b)
  go_end0
  exact⟨rfl,_,_,_,a.U⟩
 ·go_wp2_with fail
  refine(EE (a.U.in (by exact mQ mZ))).mono ?_
  rintro e d ⟨k,rfl,b⟩
  replace a:=Z (a.U.xS (by exact .tail _ (.head _)) b);clear b
  obtain⟨pA,o,j,-⟩:=cF (show d.ownsRow 0 9 1 k _ _ from a.U.get (i:=0) rfl)
  subst j
  go_wp2_with(refine KS a λ f a=>?_)
  go_end0
  have h:=(a.U.ar 3 rfl).tail
  exact⟨rfl,_,_,_,((h.ar 2 rfl).ar 2 rfl)⟩
 ·go_wp2_with fail
  refine(LV (a.U.in (by exact mQ mZ))).mono ?_
  rintro e d ⟨k,rfl,b⟩
  replace a:=Z (a.U.xS (by exact .tail _ (.head _)) b);clear b
  obtain⟨pA,o,j,-⟩:=cF (show d.ownsRow 0 9 1 k _ _ from a.U.get (i:=0) rfl)
  subst j
  go_wp2_with(refine KS a λ f a=>?_)
  go_end0
  have h:=(a.U.ar 4 rfl).tail
  exact⟨rfl,_,_,_,(((h.ar 3 rfl).ar 3 rfl).ar 3 rfl)⟩
 ·go_wp2_with fail
  refine(LX (a.U.in (by exact mQ mZ))).mono ?_
  rintro e d ⟨k,rfl,b⟩
  replace a:=Z (a.U.xS (by exact .tail _ (.head _)) b);clear b
  obtain⟨pA,o,j,-⟩:=cF (show d.ownsRow 0 240 4 k _ _ from a.U.get (i:=0) rfl)
  subst j
  go_wp2_with(refine KS a λ f a=>?_)
  go_end0
  have h:=(a.U.ar 5 rfl).tail
  exact⟨rfl,_,_,_,((((h.ar 4 rfl).ar 4 rfl).ar 4 rfl).ar 4 rfl)⟩
def mh(p:MG×RD)(c:Nat):MG×RD:=(p.1.ln c p.2,p.2.qv c)
def ha(k:Nat)(x:RD):MG×RD:=(eC (eQ k)).foldl mh ({dL with c:=k},x)
def dm(s:ag):Except Nat MG:=
 if s=⟨#[]⟩ then .error 2 else if hY (⟨s,0⟩:RD).dG=false then .error 3 else
  if(ha (⟨s,0⟩:RD).dG ((⟨s,0⟩:RD).bF 1)).2.ea=0 then(if(ha (⟨s,0⟩:RD).dG ((⟨s,0⟩:RD).bF 1)).1.right=true then .ok (ha (⟨s,0⟩:RD).dG ((⟨s,0⟩:RD).bF 1)).1 else .error 3)
  else .error (ha (⟨s,0⟩:RD).dG ((⟨s,0⟩:RD).bF 1)).2.ea
structure MG.Small(y:MG):Prop where
 b:y.b.e.length<=48
 p:y.e.length<=48
 m:y.aL.length<=8
def Ra(x:RD):x.nA.length<=48:=by
 unfold RD.nA;split
 ·simp
 ·rw[xg];omega
def HZ:∀(k:Nat) (r:RD),(r.kl k).length=k
 |0,r=>rfl
 |k+1,r=>by simp[RD.kl,HZ k]
def HV(x:RD):x.kk.length<=8:=by
 unfold RD.kk;split
 ·simp
 ·rw[HZ];omega
def Hc(h:G.Small)(c:Nat)(x:RD):(G.ln c x).Small:=by
 unfold MG.ln;by_cases a:c=108
 ·rw[ax a];exact⟨h.b,h.p,h.m⟩
 rw[aj a];by_cases b:c=105
 ·rw[ax b];exact⟨h.b,h.p,h.m⟩
 rw[aj b];by_cases d:c=109
 ·rw[ax d];exact⟨h.b,h.p,h.m⟩
 rw[aj d];by_cases e:c=110
 ·rw[ax e];exact⟨h.b,h.p,h.m⟩
 rw[aj e];by_cases f:c=104
 ·rw[ax f];exact⟨h.b,h.p,h.m⟩
 rw[aj f];by_cases g:c=98
 ·rw[ax g];exact⟨Ch x,h.p,h.m⟩
 rw[aj g];by_cases i:c=112
 ·rw[ax i];exact⟨h.b,Ra x,h.m⟩
 rw[aj i];exact⟨h.b,h.p,HV x⟩
def pK(s:ag)(w:aa)(e:Ending)(d:aa):Prop:=
 (match dm s with
  | .error k=>e=ao (aJ #[dL.val (ad none 0 0) (ad none 0 0) (ad none 0 0),O (k:Int)])/\k≠0
  | .ok y=>∃a c b,e=ao (aJ #[y.val a c b,O 0])/\y.Rd d a c b)/\BW w d
def MG.Small.rd{w:aa}{a c b:ab}(h:G.Small)(h1:(Y.ow 9 1 a G.b.e.length (aV G.b.e)).P w)(h2:(Y.ow 9 1 c G.e.length (aV G.e)).P w)(h3:(Y.ow 240 4 b G.aL.length (cy G.aL)).P w):G.Rd w a c b:=
 ⟨hn h1 (by have:=h.b;unfold maxLen;omega),hn h2 (by have:=h.p;unfold maxLen;omega),qL (xs:=G.aL.map MK.cells) (λ x hx=>by
  obtain⟨k,-,rfl⟩:=ep.1 hx
  rfl) (by rw[cR];exact h3) (by rw[cR];have:=h.m;unfold maxLen;omega)⟩
def lI(s:ag)(w:aa)(e:Ending)(d:aa):Prop:=
 (match dm s with
  | .error k=>e=ao (aJ #[dL.val (ad none 0 0) (ad none 0 0) (ad none 0 0),O (k:Int)])/\k≠0
  | .ok y=>∃a c b,e=ao (aJ #[y.val a c b,O 0])/\y.Small/\af w d [] [Y.ow 9 1 a y.b.e.length (aV y.b.e),Y.ow 9 1 c y.e.length (aV y.e),Y.ow 240 4 b y.aL.length (cy y.aL)])/\BW w d
def xp(s:ag)(w:aa)(Q:cp w)(M:(Y.dP 0 gI).P w):Calls prog 83 #[ae s] w (lI s w):=by
 have b:=λ(f:aa) (h:BW w f)=>(Y.dP 0 gI).st w f (λ k m=>h.block k ((Y.dP 0 gI).lt _ M k m)) M;have a:=λ(f:aa) (h:BW w f)=>Q.below h;have a7:=Z a;have P:=Z b;clear a b Q M;have a:=Z (af.start w []);obtain⟨x,hx⟩:∃x:RD,(⟨s,0⟩:RD)=x:=⟨_,rfl⟩;obtain⟨K,c⟩:∃K,x.dG=K:=⟨_,rfl⟩;obtain⟨x1,e⟩:∃x1,x.bF 1=x1:=⟨_,rfl⟩;have d:=λ f g (h:(Y.rd g x).P f)=>ts h;rw[c,e] at d;have E:=Z d;have b:dm s=if s=⟨#[]⟩ then .error 2 else if hY K=false then .error 3 else if(ha K x1).2.ea=0 then(if(ha K x1).1.right=true then .ok (ha K x1).1 else .error 3) else .error (ha K x1).2.ea:=by
  unfold dm;rw[hx,c,e]
 have G:=Z hx;clear d hx c e;have R:=gn s;by_cases c:s=⟨#[]⟩
 ·rw[ax c] at b;rw[aS c] at R;have HD:=Z b;clear b c
  go_enter func83,ntmps83
  go_upto_region 2 with(first|refine KA a _ 2 ei λ A h T a=>?_|go_at_call 10;(refine(ov s a.U).mono ?_);rintro e q ⟨J,rfl,X,d⟩;replace a:=Z d;clear d)
  rw[G.U] at a
  go_wp2_with(first|refine KS a λ h a=>?_|refine KA a _ 5 ei λ L h a0 a=>?_|go_at_call 162;(refine(E.U _ _ (a.U.in mZ)).mono ?_);rintro e q ⟨rfl,l⟩;replace a:=Z (a.U.rep (by exact .head _) l);clear l)
  refine cz a.U 2 rfl 81 20 rfl rfl rfl V rfl rfl ?_;unfold lI;rw[HD.U];exact⟨⟨rfl,by decide⟩,a.U.ak⟩
 ·rw[aj c] at b;rw[bu c] at R;have j:=λ f=>Iy K f;cases g:hY K with
  |false=>
   rw[g] at b j;have F:=Z j;have HD:ai (dm s= .error 3):=Z b;clear b c j g
   go_enter func83,ntmps83
   go_upto_region 2 with(first|refine KA a _ 2 ei λ A h T a=>?_|go_at_call 10;(refine(ov s a.U).mono ?_);rintro e q ⟨J,rfl,X,d⟩;replace a:=Z d;clear d)
   rw[G.U] at a
   go_wp2_with(first|refine Kl a ?_|refine KS a λ h a=>?_|refine KA a _ 5 ei λ L h a0 a=>?_|go_at_call 162;(refine(E.U _ _ (a.U.in mZ)).mono ?_);rintro e q ⟨rfl,l⟩;replace a:=Z (a.U.rep (by exact .head _) l);clear l|go_at_call 163;(refine(F.U _).mono ?_);rintro e q ⟨rfl,rfl⟩)
   refine cz a.U 2 rfl 81 20 rfl rfl rfl V rfl rfl ?_;unfold lI;rw[HD.U];exact⟨⟨rfl,by decide⟩,a.U.ak⟩
  |true=>
   have m:K<11:=by unfold hY at g;simp at g;exact g.2
   rw[g] at b j;rw[aj zD] at b;have F:=Z j;have n:ha K x1=(eC (eQ K)).foldl mh ({dL with c:=K},x1):=rfl;have p:=wX K m;have o:=wW K;generalize t:eQ K=S at*;obtain⟨p0,r⟩:∃p0,ha K x1=p0:=⟨_,rfl⟩;rw[r] at b n;have HD:=Z b;have D:=Z n;have a5:=Z p;have a2:=Z o;have b8:(K:Int)<11:=by omega
   have b9:decide ((K:Int)<11)=true:=by simp;omega
   clear b n r p o t m j g c
   go_enter func83,ntmps83
   go_upto_region 2 with(first|refine KA a _ 2 ei λ A h T a=>?_|go_at_call 10;(refine(ov s a.U).mono ?_);rintro e q ⟨J,rfl,X,d⟩;replace a:=Z d;clear d)
   rw[G.U] at a
   go_wp2_with(first|refine Kl a ?_|refine KS a λ h a=>?_|refine KA a _ 5 ei λ L h a0 a=>?_|refine vq rfl 9 rfl rfl ((yq (P.U _ a.U.ak) _).trans a5.U) V ?_|(with_reducible show wV);(refine Rg a.U rfl 28 rfl rfl S rfl λ I h b6 d=>?_;replace a:=Z d;clear d)|go_at_call 162;(refine(E.U _ _ (a.U.in mZ)).mono ?_);rintro e q ⟨rfl,l⟩;replace a:=Z (a.U.rep (by exact .head _) l);clear l|go_at_call 163;(refine(F.U _).mono ?_);rintro e q ⟨rfl,rfl⟩)
   try simp only[Act.put,aH,au,ay]
   have d:=((a.U.dj (Y.ow 240 4 (ad none 0 0) 0 (cy [])) (ct _ _ _ _) rfl).dj (Y.ow 9 1 (ad none 0 0) 0 (aV [])) (ct _ _ _ _) rfl).dj (Y.ow 9 1 (ad none 0 0) 0 (aV [])) (ct _ _ _ _) rfl;replace a:=Z ((d.ar 5 rfl).ar 5 rfl)
   go_loopw [] (λ wr=>∃(j:Nat) (y:MG) (r:RD) (n p o:ab),j<=S.size/\af w wr [] (zw L J y r n p o [Y.iter I S j,Y.row A 81 D8])/\((eC S).take j).foldl mh ({dL with c:=K},x1)=(y,r)/\y.Small) (λ wr=>S.size-iterPos wr I)
   case atStart=>exact⟨0,{dL with c:=K},x1,_,_,_,bh _,a.U,rfl,⟨bh _,bh _,bh _⟩⟩
   case round=>
    clear a;obtain⟨j,y,r,n,p,o,b7,c,t,v⟩:=hrel;have a6:=Z (iterPos_of (c.get (i:=5) rfl));have u:=Z v;have a:=Z c;clear c v;by_cases v:j<S.size
    ·obtain⟨c,H,z⟩:=xf S v;have C:=Z (a2.U c (dB z));have B:=BJ mh ({dL with c:=K},x1) z;rw[t] at B;have a4:=Z B;have a3:=Z H;have a1:ai (c<128):=Z (by have:=C.U;unfold pL at this;omega);clear H z t B
     go_wp2_with(first|(with_reducible show eP);(refine Nx a.U 5 rfl rfl rfl rfl v c a3.U a1.U λ h d=>?_;simp only[au,ay] at d;replace a:=Z d;clear d)|go_at_call 164;(have z:=LU (y:=y) (x:=r) (qB:=n) (qP:=p) (qM:=o) (rest:=[Y.iter I S (j+1),Y.row A 81 D8]) a.U c C.U);(refine z.mono ?_);clear z;rintro e q ⟨rfl,B,a8,H,d⟩;replace a:=Z d;clear d)
     go_roundw
     case rel=>exact⟨j+1,_,_,_,_,_,by omega,a.U,a4.U,Hc u.U _ _⟩
     case measure=>(rw[a6.U,iterPos_of (a.U.get (i:=5) rfl)];omega)
    ·obtain rfl:j=S.size:=by omega
     rw[cS (by rw[ub];exact aW _)] at t;have a1:=Z (show p0=(y,r) by rw[D.U,t]);have b:dm s=if r.ea=0 then(if y.right=true then .ok y else .error 3) else .error r.ea:=by rw[HD.U,a1.U]
     clear t HD D;have z:=λ(f:aa) (B:(Y.ow 9 1 n y.b.e.length (aV y.b.e)).P f) (C:(Y.ow 9 1 p y.e.length (aV y.e)).P f) (t:(Y.ow 240 4 o y.aL.length (cy y.aL)).P f)=>u.U.rd B C t;have p1:=λ(f:aa) (g:BW w f) (B:(Y.ow 9 1 n y.b.e.length (aV y.b.e)).P f) (C:(Y.ow 9 1 p y.e.length (aV y.e)).P f) (t:(Y.ow 240 4 o y.aL.length (cy y.aL)).P f)=>H9 y n p o f (a7.U f g) (P.U f g) (u.U.rd B C t) (by have:=u.U.m;omega);have a9:=Z z;clear z;obtain⟨b0,b3,a3,-⟩:=cF (show wr.ownsRow 0 9 1 n _ _ from a.U.get (i:=2) rfl);obtain⟨b2,b5,a8,-⟩:=cF (show wr.ownsRow 0 9 1 p _ _ from a.U.get (i:=3) rfl);obtain⟨b1,b4,a4,-⟩:=cF (show wr.ownsRow 0 240 4 o _ _ from a.U.get (i:=4) rfl);subst a3 a8 a4;by_cases f:r.ea=0
     ·rw[ax f] at b;have z:=Z f;clear f;cases t:y.right with
      |true=>
       rw[ax t] at b;rw[t] at p1;have HD:=Z b;have H:=Z p1;clear b p1 t
       go_wp2_with(first|refine KT a 20 ?_|refine KS a λ h a=>?_|(with_reducible show eP);(refine rE a.U 5 rfl rfl rfl rfl v ?_)|go_at_call 14;(refine(rF (a.U.in (by exact mQ mZ))).mono ?_);rintro e D ⟨rfl,rfl⟩;rw[z.U]|go_at_call 88;(refine(H.U _ a.U.ak (a.U.get (i:=2) rfl) (a.U.get (i:=3) rfl) (a.U.get (i:=4) rfl)).mono ?_);rintro e D ⟨rfl,g⟩;replace a:=Z (a.U.below g);clear g)
       refine cz a.U 6 rfl 81 20 rfl rfl rfl V rfl rfl ?_;unfold lI;rw[HD.U];exact⟨⟨_,_,_,rfl,u.U,((a.U.tail.tail.ar 3 rfl).tail.ar 3 rfl).tail⟩,a.U.ak⟩
      |false=>
       rw[aj (by rw[t];decide)] at b;rw[t] at p1;have HD:=Z b;have H:=Z p1;clear b p1 t
       go_wp2_with(first|refine KT a 20 ?_|refine KS a λ h a=>?_|(with_reducible show eP);(refine rE a.U 5 rfl rfl rfl rfl v ?_)|go_at_call 14;(refine(rF (a.U.in (by exact mQ mZ))).mono ?_);rintro e D ⟨rfl,rfl⟩;rw[z.U]|go_at_call 88;(refine(H.U _ a.U.ak (a.U.get (i:=2) rfl) (a.U.get (i:=3) rfl) (a.U.get (i:=4) rfl)).mono ?_);rintro e D ⟨rfl,g⟩;replace a:=Z (a.U.below g);clear g)
       refine cz a.U 6 rfl 81 20 rfl rfl rfl V rfl rfl ?_;unfold lI;rw[HD.U];exact⟨⟨rfl,by decide⟩,a.U.ak⟩
     ·rw[aj f] at b;obtain⟨k,m⟩:∃k,r.ea=k:=⟨_,rfl⟩;rw[m] at b f;have B:((k:Int)==0)=false:=by rw[cc];omega
      have C:((k:Int) !=0)=true:=by rw[nu];omega
      have z:=Z m;have t:=Z f;have HD:=Z b;clear m b f p1
      go_wp2_with(first|refine KS a λ h a=>?_|(with_reducible show eP);(refine rE a.U 5 rfl rfl rfl rfl v ?_)|go_at_call 14;(refine(rF (a.U.in (by exact mQ mZ))).mono ?_);rintro e D ⟨rfl,rfl⟩;rw[z.U])
      refine cz a.U 6 rfl 81 20 rfl rfl rfl V rfl rfl ?_;unfold lI;rw[HD.U];exact⟨⟨rfl,t.U⟩,a.U.ak⟩
def ui(s:ag)(w:aa)(j:cp w)(l:(Y.dP 0 gI).P w):Calls prog 83 #[ae s] w (pK s w):=(xp s w j l).mono λ e b h=>by
 unfold lI at h;unfold pK;revert h;cases dm s with
 |error k=>exact id
 |ok y=>exact λ⟨⟨a,b,c,e,f,d⟩,g⟩=>⟨⟨a,b,c,e,f.rd (d.get (i:=0) rfl) (d.get (i:=1) rfl) (d.get (i:=2) rfl)⟩,g⟩
def Y2(k:Nat):∀v∈(eV k).toList,v.oneCell'=true:=by
 intro v a;simp only[eV,ep] at a;obtain⟨j,_,rfl⟩:=a;rfl
def YZ(k:Nat)(a:k<16):(eV 16)[k]?=some (.int .u32 (ra k)):=by simp[eV,a]
def GX(n:Nat)(h:n<4294967296):bits .xor .u32 IntKind.u32.max (n:Int)=((4294967295-n:Nat):Int):=by
 have:=uU 4294967295 n W h;rw[CrcM.QG n h,<-this];rfl
def UG(m c:Nat)(a:m<4294967296)(b:c<256):bits .xor .u32 (m:Int) (c:Int)=((m^^^c:Nat):Int):=uU m c a W
def He(m:Nat)(b:m<4294967296):bits .xor .u32 ((m:Int)/16) (ra (m%16):Int)=((CrcM.gP m:Nat):Int):=by
 have a:ra (m%16)<4294967296:=CrcM.yl _ W;have:=uU (m/16) (ra (m%16)) W a;rw[show((m/16:Nat):Int)=(m:Int)/16 by omega] at this;rw[this,CrcM.Yz m];rfl
def XC(m:Nat)(l:List UInt8)(c:UInt8):CrcM.run m (l++[c])=CrcM.gP (CrcM.gP (CrcM.run m l^^^c.toNat)):=by simp[CrcM.run,CrcM.byte,CrcM.Dd]
def VK(n:Nat)(F:n<4294967296)(s:ag)(R:s.size<=140737488351232)(w:aa):
 CB 277 #[.int .u32 n,ae s] w (.int .u32 (CrcM.on n s.data.toList)):=by
 have N:=GX n F
 go_enter func277,ntmps277
 go_wp2_with fail
 refine(Y6 _).mono ?_
 rintro e a ⟨rfl,g⟩
 have H:=g.size
 have c:=uH (P:=prog) a (eV 0) 365 (eV 16).toList (by simp[eV]) (Y2 16)
 rw[KG,mP] at c
 have X:=Y4 16
 have D:=Z YZ
 generalize eV 16=I at*
 obtain⟨J,d,l,h,m,L,b⟩:=tK (P:=prog) (a.alloc (.cells I 365)) 9 29 5 s dO dZ gi
 have B:BW w d:=(g.alloc H _).trans (h.mono (by simp;omega))
 have i:∀k,k<16->d.cell? ⟨a.heap.size,k,none⟩=some (.int .u32 (ra k)):=by
  intro k j
  rw[h.cell zS,nx _ _ _ _ _ _ (lo a _)]
  exact D.U k j
 have f:=Z i;clear i
 have o:=Z b;clear b
 clear m
 have E:4294967295-n<4294967296:=by omega
 go_wp2
 generalize b:4294967295-n=m0 at*
 have q:=Z b;clear b
 clear l c
 go_loop [6,15] (λ v i=>∃k:Nat,k<=s.size/\i=O k/\v= .int .u32 (CrcM.run m0 (s.data.toList.take k))) (λ _ i=>s.size-(intOf i).toNat)
 case atStart=>exact⟨0,by omega,rfl,rfl⟩
 case round=>
  obtain⟨k,j,rfl,rfl⟩:=hrel
  have b:=CrcM.JL (s.data.toList.take k) m0 E
  have i:=XC m0 (s.data.toList.take k)
  generalize c:CrcM.run m0 (s.data.toList.take k)=r at*
  have t:=Z c;clear c
  have u:=Z i;clear i
  by_cases l:k<s.size
  ·have K:d.cell? ⟨a.heap.size+1,k,none⟩=some (.int .u8 (s[k].toNat:Int)):=by simpa using o.U k l
   have C:s[k].toNat<256:=s[k].toNat_lt
   have A:=Z (Zl s k l)
   generalize s[k]=c at*
   have a0:=UG r c.toNat b C
   have m:r^^^c.toNat<4294967296:=Ez (n:=32) b W
   have v:=Z (u.U c)
   generalize r^^^c.toNat=x at*
   have S:=f.U (x%16) W
   have oN:=He x m
   have G:=CrcM.yl x m
   generalize CrcM.gP x=y at*
   have T:=f.U (y%16) W
   have Q:=He y G
   generalize CrcM.gP y=z at*
   go_wp2
   go_round
   case rel=>exact⟨k+1,by omega,by go_num,by rw[A.U,v.U]⟩
   case measure=>simp[intOf];omega
  ·obtain rfl:k=s.size:=by omega
   have M:=GX r b
   have i:CrcM.on n s.data.toList=4294967295-r:=by
    rw[CrcM.on,q.U,<-t.U,cS zS]
   have p:=Z i;clear i
   go_wp2
   go_ret
   exact⟨by rw[p.U];rfl,B⟩
def VJ(s:ag)(b:s.size<=140737488351232)(w:aa):
 CB 224 #[ae s] w (.int .u32 (CrcM.on 0 s.data.toList)):=by
 go_enter func224,ntmps224
 go_wp2_with fail
 refine(VK 0 W s b _).mono ?_
 rintro e c ⟨rfl,a⟩
 go_wp2
 go_ret
 exact⟨rfl,a⟩
def qQ(n:Nat):List Int:=[(n:Int)/16777216,(n:Int)/65536%256,(n:Int)/256%256,(n:Int)%256]
def Wv(n:Nat)(d:n<4294967296)(w:aa):
 CB 223 #[.int .u32 n] w (ae (strOfNums (qQ n))):=by
 have a:=wy (P:=prog) w 29 9 5 (qQ n) dZ gi dO 4 4 rfl 5
 have b:=Z a;clear a
 generalize c:strOfNums (qQ n)=e at*
 have a:=b.U;clear c b
 simp only[qQ,cw,ek] at a
 go_enter func223,ntmps223
 go_wp2
 go_ret
 exact⟨rfl,(bz _ _).alloc (aW _) _⟩
variable{I:List Y}
structure DK where
 f0:ag
 f1:ag
 a:List (Nat×Nat)
 room:Nat
variable{d:DK}
def jM(L:List (Nat×Nat)):List ab:=(L.map λ p=>[Value.int .i64 (p.1:Int),Value.int .i64 (p.2:Int)]).flatten
abbrev DK.cells(d:DK)(a:ab):List ab:=[ae d.f0,ae d.f1,a,O (d.room:Int)]
def Y.dk(g:Nat)(a:ab)(d:DK):Y:=Y.star (Y.row g 146 (d.cells a)) (Y.ow 169 2 a d.a.length (jM d.a))
structure DK.Ok(d:DK):Prop where
 fit:d.f0.size+d.f1.size<=d.room
 room:d.room<=16777216
def FZ(f:Nat)(w:aa):Calls prog 221 #[O (f:Int)] w λ e a=>e=ao (aF (decide (f<2)))/\w=a:=by
 have c:decide ((f:Int)<2)=decide (f<2):=by rw[bI];simp;omega
 generalize decide (f<2)=b at*
 go_enter func221,ntmps221
 go_wp2
 go_ret
 exact⟨rfl,rfl⟩
def F0{d w:aa}(h:af d w m I)(a:Nat)(o:a<=16777216):Calls prog 26 #[O (a:Int)] w λ r b=>
 ∃g,r=ao (aJ #[pV g,O 0])/\w.heap.size<=g/\af d b m (Y.dk g (ad none 0 0) ⟨⟨#[]⟩,⟨#[]⟩,[],a⟩::I):=by
 have e:=Z h
 have b:=Z (af.start w [])
 have l:decide ((a:Int)<0)=false:=by simp
 have n:decide ((16777216:Int)<(a:Int))=false:=by simp;omega
 clear h
 go_enter func26,ntmps26
 go_wp2_with((refine KB b 146 12 (DK.cells ⟨⟨#[]⟩,⟨#[]⟩,[],a⟩ (ad none 0 0)) λ c p f b=>?_))
 have j:=e.U.join b.U.ak (Y.row c 146 _) (b.U.get (i:=0) rfl) (by intro k g;exact b.U.lu mZ k g)
 exact iI rfl rfl rfl rfl ⟨c,rfl,f,((j.dj (Y.ow 169 2 (ad none 0 0) 0 (jM [])) (ct _ _ _ _) rfl).ar 1 rfl).cr⟩
def OH{w:aa}{k:ab}(h:(Y.row g 146 (d.cells k)).P w)(hd:d.Ok):CB 316 #[pV g] w (O ((d.room-d.f0.size-d.f1.size:Nat):Int)):=by
 obtain⟨b,j⟩:=hd;have a:=Z (af.start w []);have i:=Z (aP h bf);have e:((d.room-d.f0.size-d.f1.size:Nat):Int)=(d.room:Int)-(d.f0.size:Int)-(d.f1.size:Int):=by omega
 rw[e];have c:ai (IntKind.i64.wrap ((d.room:Int)-(d.f0.size:Int))=(d.room:Int)-(d.f0.size:Int)):=Z (bd _ W);have f:ai (IntKind.i64.wrap ((d.room:Int)-(d.f0.size:Int)-(d.f1.size:Int))=(d.room:Int)-(d.f0.size:Int)-(d.f1.size:Int)):=Z (bd _ W);clear h e b j
 go_enter func316,ntmps316
 go_upto_region 1 with fail
 refine kJ a i 18 [] λ e a b=>?_;refine VV [0,1,2,2003,4,5,6,7,2008,9,10,11,12,13,14,2015,16,17] b ?_;clear b;refine WT ?_
 go_wp2
 go_ret
 exact⟨by show Ending.returned (O (IntKind.i64.wrap (IntKind.i64.wrap ((d.room:Int)-(d.f0.size:Int))-(d.f1.size:Int))))=_;rw[c.U,f.U],a.U.ak⟩
def OK{w:aa}{l:ab}(h:(Y.row g 146 (d.cells l)).P w)(f:Nat)(k:f<2):CB 159 #[pV g,O (f:Int)] w (ae (if f=0 then d.f0 else d.f1)):=by
 have j:=Z (aP h bf);have b:=λ a=>FZ f a;rw[aS k] at b;have c:=Z b;clear h b;rcases f with _|_|f
 ·have i:ai (∀a,Calls prog 221 #[O 0] a λ e b=>e=ao (aF true)/\a=b):=Z (λ a=>c.U a);clear c;show Calls prog 159 #[pV g,O 0] w _
  go_enter func159,ntmps159
  go_wp2_with(first|refine il (j.U) 0 rfl rfl 9 rfl rfl V rfl ?_|go_at_call 221;(refine(i.U _).mono ?_);rintro e b ⟨rfl,rfl⟩)
  go_ret
  exact⟨rfl,bz _ _⟩
 ·have i:ai (∀a,Calls prog 221 #[O 1] a λ e b=>e=ao (aF true)/\a=b):=Z (λ a=>c.U a);clear c;show Calls prog 159 #[pV g,O 1] w _
  go_enter func159,ntmps159
  go_wp2_with(first|refine il (j.U) 0 rfl rfl 9 rfl rfl V rfl ?_|go_at_call 221;(refine(i.U _).mono ?_);rintro e b ⟨rfl,rfl⟩)
  go_ret
  exact⟨rfl,bz _ _⟩
 ·omega
def iR(L:List (Nat×Nat)):Nat:=(L.map Prod.snd).sum
def Bc{w:aa}{c:ab}(h:(Y.dk g c d).P w):Calls prog 96 #[pV g] w λ r a=>r=ao (aJ #[])/\bj (Y.dk g c d) w a (Y.dk g (ad none 0 0) {d with a:=[]}):=by
 have a:=(af.self h).fZ;have b:=Z a;clear a h
 go_enter func96,ntmps96
 go_wp2_with(refine KS b λ f b=>?_)
 go_end0
 have a:=((b.U.ar 1 rfl).tail.dj (Y.ow 169 2 (ad none 0 0) 0 (jM [])) (ct _ _ _ _) rfl).ar 1 rfl;exact⟨rfl,(a.cr).gQ⟩
section
section
variable{w0 w:aa}{m:List Nat}{aq:List Y}{Q:Exit->Act->aa->Prop}{S:aa->Prop}{n:Nat}{l:List Oper}{i f:Nat}{o:Oper}{listed:Array Bool}{a:Act}
end
end
variable{k:Nat}{X:Operand}{t:TypeId}
def One(P:Program)(l:List Oper)(Q:Exit->Act->aa->Prop)(S:aa->Prop)(n f:Nat)(listed:Array Bool)(a:Act)(w:aa)(i:Nat)(o:Oper):Prop:=
 ∀b:Act->aa->Prop,Shut (∀a w,S w->(S w->az P l Q S n f (listed.setIfInBounds i true) a w)->b a w)->if Region.wanted o (yielded l.toArray a.tmps)=true then Oper.wp P o a w b Q else b (a.put o.dst undef) w
section
variable{P:Program}{Q:Exit->Act->aa->Prop}{S:aa->Prop}{n:Nat}{l:List Oper}{i j f:Nat}{o oj:Oper}{listed:Array Bool}{a:Act}{w:aa}
def az.iW(d:Region.ready .any l.toArray listed=[i])(b:i<n)(c:l.toArray[i]?=some o)(h:One P l Q S n f listed a w i o):az P l Q S n (f+1) listed a w:=az.one d b c h
def az.two(p:Region.ready .any l.toArray listed=[i,j])(c:i<n)(d:j<n)(e:l.toArray[i]?=some o)(g:l.toArray[j]?=some oj)(h:One P l Q S n f listed a w i o)(k:One P l Q S n f listed a w j oj):az P l Q S n (f+1) listed a w:=
 az.many p zS (λ k b=>by
  rcases bV.1 b with rfl|b
  ·exact c
  ·rcases bV.1 b with rfl|b
   ·exact d
   ·cases b) (gB.cons e h (gB.cons g k gB.nil))
def HU{a:Act}:∀(c:List Operand) (b:List ab),c.mapM (fE a)=some b->c.map a.eval=b:=λ _ _ h=>HT h
def One.eM(y:Region.wanted o (yielded l.toArray a.tmps)=true)(k:Tmp)(hd:o.dst=some k){c:Call}(s:o.op= .call c)(d:FuncId)(u:c.callee= .value (.func d))
 (t:∀e b,(callFunc d e).run P b= .ok (.enter d e) b) (g:List ab) (x:c.args.toList.mapM (fE a)=some g)
 (h:Calls P d g.toArray w λ e b=>∃v,e=ao v/\S b/\az P l Q S n f (listed.setIfInBounds i true) {a with tmps:=a.tmps.setIfInBounds k v} b):One P l Q S n f listed a w i o:=by
 intro z p
 rw[ax y]
 refine sU s u (vs:=g.toArray) ?_ t (h.mono ?_)
 ·apply kx
  simpa using HU _ _ x
 ·rintro e b ⟨v,rfl,q,r⟩
  refine⟨v,rfl,?_⟩
  refine p _ _ q (λ _=> ?_)
  rw[hd]
  exact r
end
section
variable{Q:Exit->Act->aa->Prop}{S:aa->Prop}{n:Nat}{l:List Oper}{i f:Nat}{o:Oper}{listed:Array Bool}{a:Act}{w0 w:aa}{m:List Nat}{aq:List Y}
def One.alloc(e:af w0 w m aq)(s:Region.wanted o (yielded l.toArray a.tmps)=true)(b:TypeId)(k:Tmp)(hd:o.dst=some k)(q:o.op= .alloc b)(c:List ab)(r:fx b c)
 (h:∀g d,w0.heap.size<=g->af w0 d m (Y.row g b c::aq)->S d/\az prog l Q S n f (listed.setIfInBounds i true) {a with tmps:=a.tmps.setIfInBounds k (pV g)} d):One prog l Q S n f listed a w i o:=by
 intro t p
 rw[ax s]
 unfold Oper.wp execOp
 simp only[q,cL,r w,cZ,dw]
 obtain⟨d,g⟩:=h _ _ e.size (e.alloc c b)
 refine p _ _ d (λ _=> ?_)
 rw[hd]
 exact g
def One.str(u:af w0 w m aq)(C:Region.wanted o (yielded l.toArray a.tmps)=true)(hd:o.dst=none)(p:Nat){c:List ab}(r:aq[p]?=some (Y.row g t c))(q:TypeId)(d:Nat){y:Operand}(B:o.op= .store q X y)(hx:a.eval X= .pointer (some ⟨g,k,none⟩))
 (b:List ab) (D:a.eval y=aG b.toArray) (s:b.length=d) (v:iB q d=true) (z:decide (k+d<=c.length)=true) (h1:b.all (·.oneCell')=true)
 (h:∀e,af w0 e m (aq.set p (Y.row g t (eF c k b)))->S e/\az prog l Q S n f (listed.setIfInBounds i true) a e):One prog l Q S n f listed a w i o:=by
 intro G x
 rw[ax C]
 have A:k+d<=c.length:=my z
 obtain⟨E,F⟩:=h _ (u.cells p r k b)
 refine wp_store_mid q X y B g k b.toArray hx D ((u.row r).mH (by simpa[s] using A)) (by rw[sL v];simp[s]) (by simpa using h1) (x _ _ ?_ (λ _=> ?_))
 ·simpa using E
 ·rw[hd]
  have e:a.put none undef=a:=rfl
  rw[e]
  simpa using F
def One.qY(r:af w0 w m aq)(G:Region.wanted o (yielded l.toArray a.tmps)=true)(hd:o.dst=none)(e:Nat){c:List ab}(p:aq[e]?=some (Y.row g t c))(b:TypeId){y:Operand}(E:o.op= .store b X y)(hx:a.eval X= .pointer (some ⟨g,k,none⟩))
 {v:ab} (H:a.eval y=v) (z:iB b 1=true) (h1:v.oneCell'=true) (C:decide (k<c.length)=true)
 (h:∀d,af w0 d m (aq.set e (Y.row g t (c.set k v)))->S d/\az prog l Q S n f (listed.setIfInBounds i true) a d):One prog l Q S n f listed a w i o:=by
 intro J B
 rw[ax G]
 have A:=r.row p
 have K:k<c.length:=my C
 have D:v.cells=#[v]:=by cases v<;>simp_all[Value.oneCell',Value.cells]
 have x:=A.mH (o:=k) (n:=1) (by simp;omega)
 have s:=xY (P:=prog) g k [v] 0 w (λ j d=>by simpa using(x j (by simpa using d)).1) (λ j d=>by simpa using(x j (by simpa using d)).2) (λ u d=>by
  have:u=v:=by simpa using d
  rw[this];exact h1)
 simp only[hJ] at s
 have q:(prog.info? b).map (·.size)=some 1:=sL z
 have u:(storeVar b ⟨g,k,none⟩ v).run prog w= .ok () (w.setCells g k [v]):=by
  cases d:prog.info? b with
  |none=>simp[d] at q
  |some I=>
   have F:I.size=1:=by simpa[d] using q
   simp[storeVar,sizeOf,typeInfo,d,F,D,s]
 unfold Oper.wp execOp
 simp only[E,hx,H,Instr.storeAt,Instr.sureAddr,cL,dw,cZ,u]
 obtain⟨d,F⟩:=h _ (r.cells e p k [v])
 refine B _ _ d (λ _=> ?_)
 rw[hd]
 exact F
end
