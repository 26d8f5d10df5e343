import Derived.Test.YtncpbkoinennoaaGreatDoorMBH
set_option linter.all false
set_option maxRecDepth 100000
set_option maxHeartbeats 0
namespace Go.Proofs.YtncpbkoinennoaaGreatDoor
open Go.RowKit Proofs.Tryz
attribute [local irreducible] wpList Calls
variable{d:DK}{h:HD}{J:Y}{I:List Y}{m:List Nat}{T:NA}{N:ND}
def qS(c:Bool)(b:HD)(pd:List HD)(E:ag)(a:Bool):List ag:=(if c=true then [(cD b).enc] else [])++((pd.map λ h=>(cD h).enc)++(if a=true then [] else [E]))
def V9{b w:aa}{v:ab}{L:List ag}(h:af b w m (Y.ow 9 1 v L.length (aV L)::I)):af b w m (Y.sr v L::I):=by
 refine h.at 0 rfl ⟨aR.refl _ _ _,hn (h.get (i:=0) rfl) (IM (h.get (i:=0) rfl)),λ k a=> .inl ?_⟩;unfold Y.sr at a;dsimp only at a;split at a
 ·cases a
 ·exact a
def Vm{b w:aa}{rest:List Y}{x:NV}{a:ab}(h:af b w m (J::Y.aQ T x N::Y.dk T.a a d::rest)):
 af b w m (Y.jr T.f T.a x.a N.j::Y.dk T.a a d::J::Y.row T.g 139 (N.cells T)::Y.row T.b 133 (N.hq x)::Y.ho x.pv N.st.f::Y.rt T.c T.d T.e x.b N.c.rc (lA N.g)::Y.mp T.rg (nQ N.g)::rest):=
 (((Cs (h.ft [2,2])).ar 7 rfl).ar 2 rfl).ar 2 rfl
def sP(L:List ag)(s:ag):aV L++[ae s]=aV (L++[s]):=by rw[pw];rfl
def tU(a:h.Ok):(cD h).Ok/\(cD h).Small:=ly (y:=cD h) (ck _) (ck _) (ck _) a rfl rfl rfl
def Ic{a0 w:aa}{rest:List Y}{x:NV}{c4:ab}(c0:TM m a0)(h:af a0 w m (Y.aQ T x N::Y.dk T.a c4 N.d::rest))(b:N.Ok)(c2:¬(N.j.cut=true\/N.j.sure<N.j.l.length)->N.d.Still)(k:Nat)(e4:k<=1000000000):
 Calls prog 148 #[pV T.g,O (k:Int)] w λ r a=>r=ao (O (N.xR k:Int))/\∃c b1,af a0 a m (Y.aQ T c (N.lz k)::Y.dk T.a b1 (N.lz k).d::rest):=by
 have c9:=Z h
 have c:=c0.at h
 have l:(Y.aQ T x N).P w:=h.get (i:=0) rfl
 have t:=b.o
 have o:=oO (sx l) W
 have b6:=Z o
 have X:=Z (aP (jz l) (aP (oY l) bf))
 have b8:=Z (λ a (f:BW w a)=>Cp ((Y.aQ T x N).lift l f))
 have b4:=Z (λ a (f:BW w a) S (E:N.proof.Rd a S (ad none 0 0) (ad none 0 0))=>qG N.proof (uu N).1 S (ad none 0 0) (ad none 0 0) a (c.below f).a (c.below f).aT E)
 have a2:=Z (λ(z:HD) (A:z.Ok) a (f:BW w a)=>qG (cD z) (tU A).1 (ad none 0 0) (ad none 0 0) (ad none 0 0) a (c.below f).a (c.below f).aT (oZ _ rfl rfl rfl a))
 have e:=b.ar
 have n:=b.f
 have B:∀s∈N.eb,s.size<=1000000:=by
  intro s g
  unfold ND.eb at g
  rcases eJ.1 g with g|g
  ·split at g
   ·rw[ot] at g
    rw[g];have:=xo (tU e).1 (tU e).2;omega
   ·cases g
  ·rcases eJ.1 g with g|g
   ·obtain⟨z,A,rfl⟩:=ep.1 g
    have:=xo (tU (n z A)).1 (tU (n z A)).2;omega
   ·split at g
    ·cases g
    ·rw[ot] at g
     rw[g];have:=xo (uu N).1 (uu N).2;omega
 have p:N.eb=qS N.st.aT N.st.ar N.st.f N.proof.enc (decide (N.st.aM=⟨#[]⟩)):=by
  unfold ND.eb qS
  by_cases f:N.st.aM=⟨#[]⟩
  ·rw[ax f,aS f,ax rfl]
  ·rw[aj f,bu f];rfl
 have y:N.eb.length<=1002:=by
  rw[p];unfold qS
  rw[bA,bA,cR]
  have d:(if N.st.aT=true then [(cD N.st.ar).enc] else []).length<=1:=by split<;>simp
  have j:(if decide (N.st.aM=⟨#[]⟩)=true then [] else [N.proof.enc]).length<=1:=by split<;>simp
  omega
 have b5:=Z (λ(a:aa) (j:List Y) (v:ab) (d:af a0 a m (Y.jr T.f T.a x.a N.j::Y.dk T.a c4 N.d::Y.sr v N.eb::j))=>Tt d c2 B W (by have:=b.q;omega) k e4)
 have a:N.xR k=iy N.j N.d N.eb k:=rfl
 have r:N.lz k={N with j:=iw N.j N.d N.eb k,d:=ix N.j N.d N.eb k}:=rfl
 rw[a,r]
 have c8:=Z y
 generalize iy N.j N.d N.eb k=f4 at*
 generalize iw N.j N.d N.eb k=f5 at*
 generalize ix N.j N.d N.eb k=f3 at*
 obtain⟨q,u⟩:∃q,N.eb=q:=⟨_,rfl⟩
 rw[u] at p b5 c8
 have e5:=ks N.st.aM
 have d8:=gn N.st.aM
 generalize N.proof=d0 at*
 generalize d0.enc=b3 at*
 obtain⟨pA,b2,c1⟩:=o.form
 clear a r c l o c0 h b c2 B y u
 obtain⟨S,g4,e7,e8⟩:=x
 simp only at c1
 subst c1
 obtain⟨⟨c3,g1,g3,f6,f8,g2⟩,⟨g,r,pd,a7⟩,c6,next,c5,j,d,id,g0,g5,g6⟩:=N
 simp only at e5 d8 p e n t
 have c7:=Z e;have b7:=Z n;have y:=Z t
 generalize c:decide (a7=⟨#[]⟩)=b9 at*
 have I:=Z p
 clear e n t c p
 have a:=Z ((af.start w []).dj (Y.ow 9 1 (ad none 0 0) 0 (aV [])) (ct _ _ _ _) rfl)
 go_enter func148,ntmps148
 go_wp2_with(refine KH (a.U.bH X.U) ?_)
 go_loopw [5,15] (λ J t wr=>(J=ad none 0 0/\t=O 0/\ai (af w wr [] [Y.ow 9 1 (ad none 0 0) 0 (aV [])]))\/∃(a1:Option Addr) (a8:Nat),J=ad a1 q.length a8/\t=O 1/\ai (af w wr [] [Y.ow 9 1 (ad a1 q.length a8) q.length (aV q)])) (λ _ t _=>1-(intOf t).toNat)
 case atStart=>exact .inl ⟨rfl,rfl,a⟩
 case round=>
  clear a
  obtain⟨rfl,rfl,a⟩|⟨a1,a8,rfl,rfl,a⟩:=hrel
  ·cases g with
   |true=>
    go_wp2_with(first|refine KI (a.U.bH X.U) 11 ?_|refine Kl a ?_|refine KT a 4 ?_|refine KS a λ l a=>?_|refine KA a _ 7 ku λ a9 l e1 a=>?_|(with_reducible show cH);(refine Mk a.U rfl 30 rfl (some 1) 9 [_] (by go_simp;(exact⟨rfl,rfl⟩)) ?_;intro f7 l f9 b;replace a:=Z b;clear b;simp only[bk])|refine Ap a.U rfl la rfl 2 rfl rfl 0 rfl rfl rfl rfl (by unfold maxLen;(decide)) zD ?_;intro M L l b;simp only[au,ay] at b;replace a:=Z b;clear b|go_at_call 30;refine KC a (a2.U _ c7.U _ a.U.ak) λ H a=>?_)
    go_loopw [5,36] (λ J t wr=>∃(j:Nat) (B:Option Addr) (D:Nat),j<=pd.length/\J=ad B (1+j) D/\t=O (j:Int)/\ai (af w wr [] [Y.ow 9 1 (ad B (1+j) D) (1+j) (aV ([(cD r).enc]++(pd.take j).map λ h=>(cD h).enc)),Y.row a9 133 [ae c3,aF true,U (r.size:Int),U (r.time:Int),ae r.aE,ae r.a,ad pA pd.length b2,ae a7,U (c6:Int),U (next:Int),O (uF c5:Int)]])) (λ _ t _=>pd.length-(intOf t).toNat)
    case atStart=>exact⟨0,some ⟨M,0,none⟩,L,bh _,rfl,rfl,Z (a.U.tail.fs [1])⟩
    case round=>
     clear a
     obtain⟨j,B,D,e3,rfl,rfl,a⟩:=hrel
     by_cases c:j<pd.length
     ·have P:=b6.U.below a.U.ak
      obtain⟨bb,o,b0,hx⟩:=P.at (j:=j) (by rw[hi];exact c)
      subst b0
      have Q:(bE pd)[j]'(by rw[hi];exact c)=(pd[j]).cells:=by unfold bE;rw[lJ]
      rw[Q] at hx
      have G:(pd[j]).Ok:=b7.U _ (cY c)
      have R:(pd.take (j+1)).map (λ h=>(cD h).enc)=(pd.take j).map (λ h=>(cD h).enc)++[(cD pd[j]).enc]:=by rw[dC c,pR];rfl
      have F:aV ([(cD r).enc]++(pd.take j).map λ h=>(cD h).enc)++[ae (cD pd[j]).enc]=aV ([(cD r).enc]++(pd.take (j+1)).map λ h=>(cD h).enc):=by rw[R,sP,di]
      obtain⟨z,A⟩:∃z,pd[j]=z:=⟨_,rfl⟩
      rw[A] at hx G F
      have a5:=Z hx;have a6:=Z G;have a4:=Z F;have K:=Z c
      have d1:decide (j<pd.length)=true:=aS c
      have d2:decide ((j:Int)<(pd.length:Int))=true:=aS W
      have e6:pd.length<=1000000:=by have:=y.U;omega
      have d3:(0:Int)<=(j:Int):=by omega
      have d4:(j:Int)<(pd.length:Int):=by omega
      clear P Q hx G R F A c
      obtain⟨f1,f2,f0,e9⟩:=z
      go_wp2_with(first|(with_reducible show wpList _ _ _ (⟨_,.load 59 (.tmp 38),_,_,_,_⟩::_) _ _);refine dX rfl 59 4 rfl rfl a5.U rfl V ?_|refine KT a 4 ?_|refine KS a λ l a=>?_|refine KA a _ 9 hy λ d7 l e2 a=>?_|(with_reducible show cH);(refine Mk a.U rfl 45 rfl (some 1) 9 [_] (by go_simp;(exact⟨rfl,rfl⟩)) ?_;intro d5 l d9 b;replace a:=Z b;clear b;simp only[bk])|refine Ap a.U rfl la rfl 2 rfl rfl 0 rfl rfl rfl rfl (by unfold maxLen;(have:=y.U;omega)) (by(have:=y.U;omega)) ?_;intro M L l b;simp only[au,ay] at b;replace a:=Z b;clear b|go_at_call 30;refine KC a (a2.U _ a6.U _ a.U.ak) λ H a=>?_)
      have b:=a.U.tail.tail
      rw[a4.U] at b
      exact⟨⟨j+1,_,_,by have:=K.U;omega,rfl,by go_num,Z b⟩,by have:=K.U;simp[intOf];omega⟩
     ·obtain rfl:j=pd.length:=by omega
      have d1:decide (pd.length<pd.length)=false:=bu (vA _)
      have p:=I.U
      rw[lO] at a
      cases b9 with
      |true=>
       have n:q=[(cD r).enc]++pd.map λ h=>(cD h).enc:=by rw[p];unfold qS;simp
       have v:(1+pd.length)=q.length:=by rw[n];simp;try omega
       have C:=Z n;have u:=Z v
       clear p n v I c
       go_wp2_with(refine Kl a ?_)
       have b:=a.U.fs [1,1000]
       rw[<-C.U,u.U] at b
       exact⟨.inr ⟨_,_,by rw[u.U],rfl,Z b⟩,by decide⟩
      |false=>
       have n:q=([(cD r).enc]++pd.map λ h=>(cD h).enc)++[b3]:=by rw[p];unfold qS;simp
       have v:(1+pd.length)+1=q.length:=by rw[n];simp;try omega
       have C:=Z n;have u:=Z v
       clear p n v I c
       go_wp2_with(first|refine Kl a ?_|(with_reducible show cH);(refine Mk a.U rfl 57 rfl (some 1) 9 [_] (by go_simp;(exact⟨rfl,rfl⟩)) ?_;intro d6 l e0 b;replace a:=Z b;clear b;simp only[bk])|refine Ap a.U rfl la rfl 1 rfl rfl 0 rfl rfl rfl rfl (by unfold maxLen;(have:=y.U;omega)) (by(have:=y.U;omega)) ?_;intro M L l b;simp only[au,ay] at b;replace a:=Z b;clear b|go_at_call 215;(refine(b8.U _ a.U.ak).mono ?_);rintro e H ⟨S,rfl,E,f⟩;replace a:=Z (a.U.below f);clear f;have a3:=Z E;clear E|go_at_call 30;refine KC a (b4.U _ a.U.ak _ a3.U) λ H a=>?_)
       have b:=a.U.tail.fs [1,1000]
       rw[sP,<-C.U,u.U] at b
       exact⟨.inr ⟨_,_,by rw[u.U],rfl,Z b⟩,by decide⟩
   |false=>
    go_wp2_with(first|refine KI (a.U.bH X.U) 11 ?_|refine Kl a ?_|refine KS a λ l a=>?_|refine KA a _ 7 ku λ a9 l e1 a=>?_)
    go_loopw [5,36] (λ J t wr=>∃(j:Nat) (B:Option Addr) (D:Nat),j<=pd.length/\J=ad B j D/\t=O (j:Int)/\ai (af w wr [] [Y.ow 9 1 (ad B j D) j (aV ([]++(pd.take j).map λ h=>(cD h).enc)),Y.row a9 133 [ae c3,aF false,U (r.size:Int),U (r.time:Int),ae r.aE,ae r.a,ad pA pd.length b2,ae a7,U (c6:Int),U (next:Int),O (uF c5:Int)]])) (λ _ t _=>pd.length-(intOf t).toNat)
    case atStart=>exact⟨0,none,0,bh _,rfl,rfl,Z (a.U.fs [1])⟩
    case round=>
     clear a
     obtain⟨j,B,D,e3,rfl,rfl,a⟩:=hrel
     by_cases c:j<pd.length
     ·have P:=b6.U.below a.U.ak
      obtain⟨bb,o,b0,hx⟩:=P.at (j:=j) (by rw[hi];exact c)
      subst b0
      have Q:(bE pd)[j]'(by rw[hi];exact c)=(pd[j]).cells:=by unfold bE;rw[lJ]
      rw[Q] at hx
      have G:(pd[j]).Ok:=b7.U _ (cY c)
      have R:(pd.take (j+1)).map (λ h=>(cD h).enc)=(pd.take j).map (λ h=>(cD h).enc)++[(cD pd[j]).enc]:=by rw[dC c,pR];rfl
      have F:aV ([]++(pd.take j).map λ h=>(cD h).enc)++[ae (cD pd[j]).enc]=aV ([]++(pd.take (j+1)).map λ h=>(cD h).enc):=by rw[R,sP,di]
      obtain⟨z,A⟩:∃z,pd[j]=z:=⟨_,rfl⟩
      rw[A] at hx G F
      have a5:=Z hx;have a6:=Z G;have a4:=Z F;have K:=Z c
      have d1:decide (j<pd.length)=true:=aS c
      have d2:decide ((j:Int)<(pd.length:Int))=true:=aS W
      have e6:pd.length<=1000000:=by have:=y.U;omega
      have d3:(0:Int)<=(j:Int):=by omega
      have d4:(j:Int)<(pd.length:Int):=by omega
      clear P Q hx G R F A c
      obtain⟨f1,f2,f0,e9⟩:=z
      go_wp2_with(first|(with_reducible show wpList _ _ _ (⟨_,.load 59 (.tmp 38),_,_,_,_⟩::_) _ _);refine dX rfl 59 4 rfl rfl a5.U rfl V ?_|refine KT a 4 ?_|refine KS a λ l a=>?_|refine KA a _ 9 hy λ d7 l e2 a=>?_|(with_reducible show cH);(refine Mk a.U rfl 45 rfl (some 1) 9 [_] (by go_simp;(exact⟨rfl,rfl⟩)) ?_;intro d5 l d9 b;replace a:=Z b;clear b;simp only[bk])|refine Ap a.U rfl la rfl 2 rfl rfl 0 rfl rfl rfl rfl (by unfold maxLen;(have:=y.U;omega)) (by(have:=y.U;omega)) ?_;intro M L l b;simp only[au,ay] at b;replace a:=Z b;clear b|go_at_call 30;refine KC a (a2.U _ a6.U _ a.U.ak) λ H a=>?_)
      have b:=a.U.tail.tail
      rw[a4.U] at b
      exact⟨⟨j+1,_,_,by have:=K.U;omega,rfl,by go_num,Z b⟩,by have:=K.U;simp[intOf];omega⟩
     ·obtain rfl:j=pd.length:=by omega
      have d1:decide (pd.length<pd.length)=false:=bu (vA _)
      have p:=I.U
      rw[lO] at a
      cases b9 with
      |true=>
       have n:q=[]++pd.map λ h=>(cD h).enc:=by rw[p];unfold qS;simp
       have v:pd.length=q.length:=by rw[n];simp;try omega
       have C:=Z n;have u:=Z v
       clear p n v I c
       go_wp2_with(refine Kl a ?_)
       have b:=a.U.fs [1,1000]
       rw[<-C.U,u.U] at b
       exact⟨.inr ⟨_,_,by rw[u.U],rfl,Z b⟩,by decide⟩
      |false=>
       have n:q=([]++pd.map λ h=>(cD h).enc)++[b3]:=by rw[p];unfold qS;simp
       have v:pd.length+1=q.length:=by rw[n];simp;try omega
       have C:=Z n;have u:=Z v
       clear p n v I c
       go_wp2_with(first|refine Kl a ?_|(with_reducible show cH);(refine Mk a.U rfl 57 rfl (some 1) 9 [_] (by go_simp;(exact⟨rfl,rfl⟩)) ?_;intro d6 l e0 b;replace a:=Z b;clear b;simp only[bk])|refine Ap a.U rfl la rfl 1 rfl rfl 0 rfl rfl rfl rfl (by unfold maxLen;(have:=y.U;omega)) (by(have:=y.U;omega)) ?_;intro M L l b;simp only[au,ay] at b;replace a:=Z b;clear b|go_at_call 215;(refine(b8.U _ a.U.ak).mono ?_);rintro e H ⟨S,rfl,E,f⟩;replace a:=Z (a.U.below f);clear f;have a3:=Z E;clear E|go_at_call 30;refine KC a (b4.U _ a.U.ak _ a3.U) λ H a=>?_)
       have b:=a.U.tail.fs [1,1000]
       rw[sP,<-C.U,u.U] at b
       exact⟨.inr ⟨_,_,by rw[u.U],rfl,Z b⟩,by decide⟩
  ·go_wp2_with(first|refine KH (a.U.bH X.U) ?_|go_at_call 216;(refine(b5.U _ _ _ (Vm (V9 (c9.U.plus a.U)))).mono ?_);rintro e H ⟨rfl,l,b1,b⟩;replace a:=Z b;clear b)
   go_ret
   have c:=Cr (a.U.ft [2,1000])
   exact⟨rfl,⟨ad pA pd.length b2,l,e7,e8⟩,b1,eR T _ _ c⟩
variable{C:CF}{G:MG}{g:Nat}{S:ST}
structure ST.bL(r:Nat)(s:ST):Prop where
 ar:s.ar.Ok
 f:∀h∈s.f,h.Ok
 len:s.f.length<=r
def yM(r:Nat):fj.bL r:=⟨⟨ck _,ck _⟩,(λ h a=>by cases a),bh _⟩
def Ze{c:ag}(a:S.bL g)(b:h.Ok):(S.take c h g).1.bL g:=by
 unfold ST.take;split
 ·split
  ·split
   ·split
    ·exact a
    ·exact⟨a.ar,a.f,a.len⟩
    ·split
     ·exact a
     ·rename_i d;refine⟨a.ar,λ x hx=> ?_,?_⟩
      ·rcases eJ.1 hx with hx|hx
       ·exact a.f x (oq hx)
       ·rcases bV.1 hx with rfl|hx
        ·exact b
        ·exact a.f x (pT hx)
      grind
   ·exact⟨b,a.f,a.len⟩
  grind
 grind
def Ut(a:S.bL g)(m n:Nat)(d:List ag):(S.link m n d).1.bL g:=by
 unfold ST.link;split
 ·split
  ·split
   ·exact a
   ·rename_i i h;have hx:(S.f.getD i ec).Ok:=a.f _ (Hb h);have k:∀e c:HD,c.Ok->ST.bL g (if fF m n d=0/\hQ m n d=c.aE then(if iu m n d=e.aE then({S with ar:=c,f:=S.f.eraseIdx i},4) else match fa e c d with|none=>(S,7)|some b=>({S with aM:=b.enc},5)) else(S,7):ST×Nat).1:=by
     intro e c f;split
     ·split
      ·refine⟨f,λ y j=>a.f y (zr j),?_⟩;show(S.f.eraseIdx i).length<=g;have:=a.len;grind
      ·split
       ·exact a
       ·exact⟨a.ar,a.f,a.len⟩
     ·exact a
    refine k _ _ ?_;split
    ·exact a.ar
    grind
  grind
 grind
def T3(a:S.bL g)(c b:ag):(S.lay c b).1.bL g:=by
 unfold ST.lay;split
 ·split
  ·exact⟨a.ar,a.f,a.len⟩
  grind
 grind
def Bh(a:S.bL C.room)(b:G.Ok):(bS C S G).1.bL C.room:=by
 unfold bS;split
 ·exact Ze a b.h
 ·split
  ·exact Ut a _ _ _
  ·split
   ·exact T3 a _ _
   grind
def DK.Still.Zw(h:d.Still)(n:Nat):(d.trim 0 n).Still:=by
 have a:¬0<iR d.a:=by rw[h.none];simp[iR]
 unfold DK.trim;rw[aj a];split
 ·exact h
 ·refine⟨?_,h.room,h.none⟩;have:=h.fit;simp[DK.iY,DK.file,ij];omega
def CD(h:d.Ok):(fG d).Still:=((show d.sync.Still from⟨h.fit,h.room,rfl⟩).Zw _).trim.1
abbrev bn(c:CF)(s:ST)(J:JN)(D:DK):ND:=⟨c,s,0,0,none,J,D,1,0,0,0⟩
def AV{s:ST}{J:JN}{D:DK}(b:C.bL)(a:s.bL C.room)(c:J.l.length<=100000)(hd:D.Still):(bn C s J D).Ok:=
 ⟨b,a.ar,by have:=a.len;have:=b.a;grind,a.f,ck _,ck _,ck _,ck _,bh _,aW _,(show(1:Nat)<=1000000 by decide),(λ r h=>by cases h),c,hd.ok,by show D.a.length<=1000;rw[hd.none];simp⟩
def Fp{r:ag}{l:List ag}(h:dm r= .error g):gr C (r::l) S=none:=by unfold gr;rw[h]
def Ft{r:ag}{l:List ag}(h:dm r= .ok G)(h1:¬G.log=0):gr C (r::l) S=none:=by
 rw[gr,h];grind
def Fo{c:CF}{r:ag}{l:List ag}{s:ST}{y:MG}(h:dm r= .ok y)(h1:y.log=0)(h2:counts (bS c s y).2=false):gr c (r::l) s=none:=by
 rw[gr,h];grind
def A2{c:CF}{r:ag}{l:List ag}{s:ST}{y:MG}(h:dm r= .ok y)(h1:y.log=0)(h2:counts (bS c s y).2=true):gr c (r::l) s=gr c l (bS c s y).1:=by
 rw[gr,h];grind
def Fq{c:CF}:∀(L:List ag) {s a:ST},s.bL c.room->gr c L s=some a->a.bL c.room
 |[],s,a,d,h=>by cases h;exact d
 |r::L,s,a,d,h=>by
  cases hd:dm r with
  |error e=>rw[Fp hd] at h;cases h
  |ok y=>
   by_cases b:y.log=0
   ·cases f:counts (bS c s y).2 with
    |true=>rw[A2 hd b f] at h;exact Fq L (Bh d (ny hd).1) h
    |false=>rw[Fo hd b f] at h;cases h
   ·rw[Ft hd b] at h;cases h
variable{k n:Nat}
abbrev ME.cells(m:ME)(c:ag)(a b:ab):List ab:=[ae c,O 2,O (m.c.room:Int),U (m.c.every:Int),U (m.c.a:Int),U (m.c.rc.base:Int),U (m.c.rc.j:Int),U (m.c.rc.span:Int),O (m.c.rc.i:Int),O (m.c.rc.room:Int),
 ae m.k.a,ae m.k.pre,ae m.k.pub,a,b,U (m.now:Int)]
def bB(L:List PK):List ab:=(L.map λ p=>[Value.int .i64 p.src,Value.int .i64 p.dst,ae p.s]).flatten
def Wo(L:List PK)(p:PK):bB L++[Value.int .i64 p.src,Value.int .i64 p.dst,ae p.s]=bB (L++[p]):=by simp[bB]
def Y.mc(g:Nat)(c:ag)(b a:ab)(m:ME):Y:=Y.star (Y.row g 126 (m.cells c b a)) (Y.ow 210 3 a m.b.length (bB m.b))
abbrev PK.val(p:PK):ab:=aG #[O p.src,O p.dst,ae p.s]
def ud{w:aa}{q:ag}{o u:ab}{m:ME}(h:(Y.mc g q o u m).P w)(A:m.b.length<=64)(p:PK):
 Calls prog 146 #[pV g,p.val] w λ r b=>r=ao (O (m.cC:Int))/\∃a,bj (Y.mc g q o u m) w b (Y.mc g q o a (m.put p)):=by
 have d:=(af.self h).fZ
 generalize H:(Y.mc g q o u m).bs=N at*
 obtain⟨C,D,J,-⟩:=cF (show w.ownsRow 0 210 3 u m.b.length (bB m.b) from d.get (i:=1) rfl)
 subst J
 have b:=Z d
 have x:=Z H
 obtain⟨k,c,l,a,f⟩:=m
 obtain⟨src,e,s⟩:=p
 simp only at A b x
 by_cases h64:64<=a.length
 ·have e1:(⟨k,c,l,a,f⟩:ME).cC=8:=ax h64
  have e2:(⟨k,c,l,a,f⟩:ME).put ⟨src,e,s⟩=⟨k,c,l,a,f⟩:=ax h64
  rw[e1,e2]
  have d1:decide (64<=a.length)=true:=aS h64
  have d2:decide ((64:Int)<=(a.length:Int))=true:=aS W
  go_enter func146,ntmps146
  go_wp2_with(first|refine Kl b ?_|refine KB b 210 3 _ λ y v G b=>?_)
  go_ret
  have d:=b.U.tail
  rw[<-x.U] at d
  exact⟨rfl,_,d.kt⟩
 ·have e1:(⟨k,c,l,a,f⟩:ME).cC=0:=aj h64
  have e2:(⟨k,c,l,a,f⟩:ME).put ⟨src,e,s⟩=⟨k,c,l,a++[⟨src,e,s⟩],f⟩:=aj h64
  rw[e1,e2]
  have d1:decide (64<=a.length)=false:=bu h64
  have d2:decide ((64:Int)<=(a.length:Int))=false:=bu W
  have F:=Z (Wo a ⟨src,e,s⟩)
  have E:ai ((a++[(⟨src,e,s⟩:PK)]).length=a.length+1):=Z zS
  have z:=Z A
  go_enter func146,ntmps146
  go_upto_region 3 with(first|refine Kl b ?_|refine KB b 210 3 _ λ y v G b=>?_)
  refine af.region b.U (n:=10) (S:=bc [Y.row g 126 (ME.cells ⟨k,c,l,a,f⟩ q o (ad C a.length D)),Y.row y 210 [O src,O e,ae s]]) V V (λ K B=>(aP (B.in (by exact mQ mZ)) (aP (B.in mZ) bf))) (λ K d j=> ?_)
  replace b:=Z d
  refine V2 0 11 j ?_
  refine V2 1 12 j ?_
  refine V2 2 13 j ?_
  refine V2 3 14 j ?_
  refine L2 4 15 0 118 j ?_
  refine W2 5 16 rfl rfl (Yr V 1 rfl 210 3 rfl rfl V _ rfl rfl) j ?_
  refine az.make b.U (i:=6) V zD rfl rfl 17 rfl (some 1) 210 [O src,O e,ae s] ?RE ?rr6
  case RE=>(go_simp;(rfl))
  intro L v M d
  replace b:=Z d
  refine⟨(aP (b.U.in (by exact mQ (mQ mZ))) (aP (b.U.in (by exact mQ mZ)) bf)),?_⟩
  simp only[bk]
  simp only[aH,au,ay]
  refine az.app b.U (i:=7) V zD rfl rfl 18 rfl tN rfl 3 rfl rfl 0 rfl rfl rfl rfl (by unfold maxLen;have:=z.U;omega) (by have:=z.U;omega) (λ t r v d=> ?_)
  simp only[au,ay] at d
  replace b:=Z d
  refine⟨(aP (b.U.in (by exact mQ (mQ mZ))) (aP (b.U.in (by exact mQ mZ)) bf)),?_⟩
  have j:bc [Y.row g 126 (ME.cells ⟨k,c,l,a,f⟩ q o (ad C a.length D)),Y.row y 210 [O src,O e,ae s]] _:=(aP (b.U.in (by exact mQ (mQ mZ))) (aP (b.U.in (by exact mQ mZ)) bf))
  refine V2 8 19 j ?_
  refine V2 9 20 j ?_
  refine az.tail V ?_
  simp only[bU,bC]
  go_wp2_with(refine KS b λ v b=>?_)
  go_ret
  have d:=b.U.tail.tail
  rw[<-x.U] at d
  refine⟨rfl,ad (some ⟨t,0,none⟩) (a.length+1) r,?_⟩
  have I:=d.kt
  have e3:Y.mc g q o (ad (some ⟨t,0,none⟩) (a.length+1) r) ⟨k,c,l,a++[⟨src,e,s⟩],f⟩=Y.star (Y.row g 126 (ME.cells ⟨k,c,l,a,f⟩ q o (ad (some ⟨t,0,none⟩) (a.length+1) r))) (Y.ow 210 3 (ad (some ⟨t,0,none⟩) (a.length+1) r) (a.length+1) (bB a++[Value.int .i64 src,Value.int .i64 e,ae s])):=by
   unfold Y.mc
   dsimp only
   rw[E.U,<-F.U]
  rw[e3]
  exact I
def su{w:aa}{l:ag}{j:ab}{m:ME}(h:(Y.row g 126 (m.cells l (ad (some ⟨n,0,none⟩) 2 k) j)).P w)(i:Int):CB 72 #[pV g,O i] w (aF (decide (0<=i)&&decide (i<2))):=by
 have a:=Z (af.start w []);have c:=Z (aP h bf);clear h;obtain⟨d,e⟩:∃b,decide (0<=i)=b:=⟨_,rfl⟩;obtain⟨o,f⟩:∃b,decide (i<2)=b:=⟨_,rfl⟩;rw[e,f];cases d
 all_goals
  go_enter func72,ntmps72
  go_wp2_with(refine KH (a.U.bH c.U) ?_)
  go_ret
  exact⟨by simp,a.U.ak⟩
variable{p:List Nat}{A:Option Addr}
def Hq(n:Int)(w:aa):Calls prog 145 #[O n] w λ r b=>r=ao (aF (decide (0<=n)&&decide (n<=255)))/\w=b:=by
 obtain⟨a,c⟩:∃b,decide (0<=n)=b:=⟨_,rfl⟩;obtain⟨e,d⟩:∃b,decide (n<=255)=b:=⟨_,rfl⟩;rw[c,d];cases a
 all_goals
  go_enter func145,ntmps145
  go_wp2
  go_ret
  exact⟨by simp,rfl⟩
abbrev AC.val(a:AC):ab:=aG #[O a.c,O a.a,O a.b,U (a.n:Int),ae a.s]
def Mh(x:AC)(w:aa):CB 65 #[x.val] w (aF x.right):=by
 have a:=Z (af.start w []);have k:=Z (λ b=>Hq x.a b);have n:=Z (λ b=>Hq x.b b);obtain⟨g,d,f,h,i⟩:=x;simp only at k n;have b:(⟨g,d,f,h,i⟩:AC).right=(decide (0<=g)&&(decide (g<9)&&((decide (0<=d)&&decide (d<=255))&&((decide (0<=f)&&decide (f<=255))&&(decide (h<=4294967296)&&decide (i.size<=4096)))))):=by
  unfold AC.right;simp only[Bool.and_assoc]
 rw[b];clear b;have f5:decide ((h:Int)<=4294967296)=decide (h<=4294967296):=by rw[bI];simp;omega
 have f6:decide ((i.size:Int)<=4096)=decide (i.size<=4096):=by rw[bI];simp;omega
 obtain⟨R,b⟩:∃R,(decide (0<=g)&&(decide (g<9)&&((decide (0<=d)&&decide (d<=255))&&((decide (0<=f)&&decide (f<=255))&&(decide (h<=4294967296)&&decide (i.size<=4096))))))=R:=⟨_,rfl⟩;rw[b];generalize(decide (0<=d)&&decide (d<=255))=t3 at*;generalize(decide (0<=f)&&decide (f<=255))=t4 at*;generalize j:decide (0<=g)=t1 at*;generalize p:decide (g<9)=t2 at*;generalize q:decide (h<=4294967296)=t5 at*;generalize r:decide (i.size<=4096)=t6 at*;have c:=Z b.symm;clear b;cases t1 with
 |true=>
  cases t2 with
  |true=>
   cases t3 with
   |true=>
    cases t4;rotate_left
    cases t5
    all_goals
     have b:=c.U;simp only[sB,↓reduceIte,reduceCtorEq,fy] at b;subst b;clear c
     go_enter Ac,Aw
     go_wp2_with(first|refine Kl a ?_|refine KB a 55 1 _ λ j m l a=>?_|(go_at_call 145;(first|(refine(k.U _).mono ?_)|(refine(n.U _).mono ?_));rintro e o ⟨rfl,rfl⟩))
     go_ret
     exact⟨by rfl,a.U.ak⟩
   |false=>
    have b:=c.U;simp only[sB,↓reduceIte,reduceCtorEq,fy] at b;subst b;clear c
    go_enter Ac,Aw
    go_wp2_with(first|refine Kl a ?_|refine KB a 55 1 _ λ j m l a=>?_|go_at_call 145;((refine(k.U _).mono ?_));rintro e o ⟨rfl,rfl⟩)
    go_ret
    exact⟨by rfl,a.U.ak⟩
  |false=>
   have b:=c.U;simp only[sB,↓reduceIte,reduceCtorEq,fy] at b;subst b;clear c
   go_enter Ac,Aw
   go_wp2_with(first|refine Kl a ?_|refine KB a 55 1 _ λ j m l a=>?_)
   go_ret
   exact⟨by rfl,a.U.ak⟩
 |false=>
  have b:=c.U;simp only[sB,↓reduceIte,reduceCtorEq,fy] at b;subst b;clear c
  go_enter Ac,Aw
  go_wp2_with(first|refine Kl a ?_|refine KB a 55 1 _ λ j m l a=>?_)
  go_ret
  exact⟨by rfl,a.U.ak⟩
def XT(i:Nat)(m:ME)(x:SD)(h:m.b.length<=64):(ME.fO i m x).b.length<=64:=by
 have a:∀p,(m.put p).b.length<=64:=λ p=>by
  unfold ME.put;split
  ·exact h
  ·show(m.b++[p]).length<=64;rw[bA];simp;omega
 unfold ME.fO;split
 ·exact a _
 ·split
  ·exact h
  ·exact a _
def Ka(i:Nat):∀(L:List SD) (m:ME),m.b.length<=64->(L.foldl (ME.fO i) m).b.length<=64
 |[],m,h=>h
 |x::L,m,h=>Ka i L _ (XT i m x h)
def Yg{w:aa}{L:List SD}(h:(Y.so (ad A n g) L).P w)(f:L.length<=1000)(c:k<L.length):∃b o,A=some ⟨b,o,none⟩/\w.rangeAt b (o+k*2) [O (L[k]).1,ae (L[k]).2]:=by
 have d:bD 2 w (ad A n g) (L.map λ p=>[Value.int .i64 p.1,ae p.2]):=qL (e:=272) (λ x hx=>by
  obtain⟨p,-,rfl⟩:=ep.1 hx;rfl) (by rw[cR];exact h) (by rw[cR];unfold maxLen;omega)
 obtain⟨b,o,a,hx⟩:=d.at (j:=k) (by rw[cR];exact c);rw[lJ] at hx;exact⟨b,o,a,hx⟩
def ue{t w:aa}{rest:List Y}{q:ag}{n y v:ab}{m:ME}{L:List SD}(h:af t w p (Y.mc g q n y m::Y.so v L::rest))(i:Nat)(R:i<2)(H:m.b.length<=64)(P:L.length<=10)(hx:∀x∈L,-10<=x.1/\x.1<=10):
 Calls prog 140 #[pV g,O (i:Int),v] w λ r a=>r=ao (aJ #[])/\∃b,af t a p (Y.mc g q n b (m.send i L)::Y.so v L::rest):=by
 have a:=Z h
 obtain⟨A,c,J,-⟩:=cF (show w.ownsRow 0 272 2 v L.length (fv L) from h.get (i:=1) rfl)
 subst J
 have F:=Z hx
 have C:=Z (λ(j:aa) (nq:ab) (b:ME) (f:PK) (d:(Y.mc g q n nq b).P j) (e:b.b.length<=64)=>ud d e f)
 have B:=Z H
 go_enter func140,ntmps140
 go_wp2
 go_loopw [11] (λ b wr=>∃(j:Nat) (nq:ab),j<=L.length/\b=O (j:Int)/\ai (af t wr p (Y.mc g q n nq ((L.take j).foldl (ME.fO i) m)::Y.so (ad A L.length c) L::rest))) (λ b _=>L.length-(intOf b).toNat)
 case atStart=>exact⟨0,y,bh _,rfl,a⟩
 case round=>
  obtain⟨j,nq,S,rfl,a⟩:=hrel
  by_cases l:j<L.length
  ·obtain⟨bb,o,G,hx⟩:=Yg (a.U.get (i:=1) rfl) W l
   subst G
   have u:(L.take (j+1)).foldl (ME.fO i) m=ME.fO i ((L.take j).foldl (ME.fO i) m) L[j]:=by rw[dC l,ti];rfl
   have k:=F.U _ (cY l)
   have I:=Ka i (L.take j) m B.U
   obtain⟨⟨b,s⟩,K⟩:∃z,L[j]=z:=⟨_,rfl⟩
   rw[K] at hx u k
   simp only at hx k
   generalize(L.take j).foldl (ME.fO i) m=m1 at*
   have E:=Z hx;have x:=Z u;have r:=Z l;have z:=Z I
   have d1:decide (j<L.length)=true:=aS l
   have d2:decide ((j:Int)<(L.length:Int))=true:=aS W
   have d3:(0:Int)<=(j:Int):=by omega
   have d4:(j:Int)<(L.length:Int):=by omega
   have d:ME.fO i m1 (b,s)=if(i:Int)<=b then m1.put ⟨i,b+1,s⟩ else if b< -1 then m1 else m1.put ⟨i,b,s⟩:=rfl
   have M:=Z k
   by_cases e:(i:Int)<=b
   focus
    rw[ax e] at d
    have e1:decide ((i:Int)<=b)=true:=aS e
    have f:IntKind.wrap .i64 (b+1)=b+1:=by rw[fS]<;>omega
   rotate_left
   focus
    rw[aj e] at d
    have e1:decide ((i:Int)<=b)=false:=bu e
    by_cases f:b< -1
    focus
     rw[ax f] at d
     have e2:decide (b< -1)=true:=aS f
    rotate_left
    focus
     rw[aj f] at d
     have e2:decide (b< -1)=false:=bu f
   all_goals
    have D:=Z d
    first|clear e d k|clear e f d k
    go_wp2_with(first|(with_reducible show wpList _ _ _ (⟨_,.load 272 (.tmp 13),_,_,_,_⟩::_) _ _);refine dX rfl 272 2 rfl rfl E.U rfl V ?_|refine Kl a ?_|refine KS a λ k a=>?_|refine KA a _ 7 Lz λ N k Q a=>?_|go_at_call 146;(refine(C.U _ _ _ ⟨i,_,s⟩ (a.U.get (i:=1) rfl) z.U).mono ?_);rintro e X ⟨rfl,T,f⟩;have d:=a.U.at 1 rfl f;simp only[au,ay] at d;replace a:=Z d)
    have d:=a.U.tail
    rw[<-D.U,<-x.U] at d
    exact⟨⟨j+1,_,by have:=r.U;omega,by go_num,Z d⟩,by have:=r.U;simp[intOf];omega⟩
  ·obtain rfl:j=L.length:=by omega
   have d1:decide (L.length<L.length)=false:=bu (vA _)
   rw[lO] at a
   go_wp2
   go_end0
   exact⟨rfl,nq,a.U⟩
variable{M:ME}
def FN{w:aa}{t:ag}{p s:ab}{m:ME}(h:(Y.row g 126 (m.cells t p s)).P w)(f:m.c.bG=1)(e:m.c.key=m.k.pub):Calls prog 64 #[pV g] w λ r a=>∃q,r=ao (m.c.val (ad (some ⟨q,0,none⟩) 1 1))/\af w a [] [Y.row q 9 [ae m.c.key]]:=by
 have a:=Z (af.start w []);have c:=Z (aP h bf);have d:=Z (λ k=>HH m.k k);obtain⟨⟨B,C,D⟩,⟨o,G,I,q,x,H⟩,l,E,F⟩:=m;simp only at f e d;subst f e
 go_enter func64,ntmps64
 go_upto_region 1 with(refine KA a _ 2 LB λ r j z a=>?_)
 refine kJ a c 33 [] λ K a b=>?_;refine VV [0,1,2] b ?_;refine WR 3 3 b ?_;refine VV [6,7,8,9,2010] b ?_;refine W2 11 14 (v:=O 1) rfl rfl (Or.inl ⟨by kernel_rfl,λ k y=>by(go_simp;rfl)⟩) b ?_;refine VV [12,13,14,15,2016,17,18,19,20,2021,22,23,24,25,2026,27,28,29,30] b ?_;refine WR 31 5 b ?_;refine KV 4 (en 77) 7 ?_;refine KC a (d.U _) λ J a=>?_;refine⟨_,rfl,a.U.bH c.U,?_⟩;simp only[aH,au,ay];refine az.make a.U (i:=5) V zD rfl rfl 8 rfl (some 1) 9 [ae o] ?Rz ?_;case Rz=>(go_simp;(rfl))
 intro u j A n;replace a:=Z n;refine⟨a.U.bH c.U,?_⟩;simp only[bk];simp only[aH,au,ay];have b:=sW a c [];refine VV [32] b ?_;refine WT ?_
 go_wp2_with(refine KS a λ j a=>?_)
 refine iH a.U 1 rfl 73 10 rfl rfl V rfl rfl ?_;exact⟨_,rfl,(a.U.ft [1,1000])⟩
def HR{w:aa}{f:ag}{d e:ab}(h:(Y.row g 126 (M.cells f d e)).P w):CB 27 #[pV g] w (ae M.k.pub):=by
 have a:=Z (af.start w []);have b:=Z (aP h bf);have c:=Z (λ i=>HH M.k i)
 go_enter func27,ntmps27
 go_wp2_with(first|refine KI (a.U.bH b.U) 3 ?_|go_at_call 77;refine KC a (c.U _) λ j a=>?_)
 go_ret
 exact⟨rfl,a.U.ak⟩
variable{E:JN}{i:Nat}
def od(f:aa)(m:List Nat)(rest:List Y)(b:Nat)(o:Option ND)(D:DK)(e:Ending)(d:aa):Prop:=
 (∀n,o=some n->∃a x c,e=ao (aJ #[pV a.g,O 0])/\a.a=b/\af f d m (Y.aQ a x n::Y.dk b c n.d::rest))/\
 (o=none->e=ao (aJ #[.pointer none,O 3])/\∃c,af f d m (Y.dk b c D::rest))
def A1{c b:aa}{rest:List Y}{a:ab}(h:af c b m (Y.dk g a d::rest)):od c m rest g none d (ao (aJ #[.pointer none,O 3])) b:=
 ⟨λ n h=>(by cases h),λ _=>⟨rfl,a,h⟩⟩
def Nq{f e:aa}{rest:List Y}{a:NA}{x:NV}{n:ND}{c:ab}(h:af f e m (Y.aQ a x n::Y.dk a.a c n.d::rest)):od f m rest a.a (some n) d (ao (aJ #[pV a.g,O 0])) e:=
 ⟨λ g b=>(by cases b;exact⟨a,x,c,rfl,rfl,h⟩),λ b=>(by cases b)⟩
def Xd{w:aa}{L:List ag}(h:(Y.ow 9 1 (ad A k g) L.length (aV L)).P w)(f:L.length<=maxLen)(e:i<L.length):∃b o,A=some ⟨b,o,none⟩/\w.cell? ⟨b,o+i,none⟩=some (ae L[i]):=by
 obtain⟨l,m,j,-,d⟩:=hn h f;cases j
 obtain⟨b,o,a,-,c⟩:=d i e;exact⟨b,o,a,c⟩
abbrev AZ(g e d a h f:Nat)(b:ab)(c:CF):List ab:=[b,O (c.bG:Int),O (c.room:Int),U (c.every:Int),U (c.a:Int),U (c.rc.base:Int),U (c.rc.j:Int),U (c.rc.span:Int),O (c.rc.i:Int),O (c.rc.room:Int),ad (some ⟨e,0,none⟩) 1 d,pV a,pV h,.map (some f),O 1,U 0,U 0,O 0]
abbrev AY(a:ag)(s:ST)(b:ab)(c:List ab):List ab:=ae a::Value.bool s.aT::Value.int .u64 (s.ar.size:Int)::Value.int .u64 (s.ar.time:Int)::ae s.ar.aE::ae s.ar.a::b::ae s.aM::Value.int .u64 0::Value.int .u64 0::Value.int .i64 0::c
def A0{q w:aa}{rest:List Y}{c l e b d:Nat}{j a o f:ab}{p:List ab}{D:DK}
 (h:af q w m (Y.row g 139 (AZ g n k i c b j C)::Y.row n 133 (AY C.key S a p)::Y.ho a S.f::Y.jr i d o E::Y.rt c l e f C.rc none::Y.mp b []::rest)):
 af q w m (Y.aQ ⟨g,n,k,i,c,l,e,b,d,j⟩ ⟨a,o,f,p⟩ (bn C S E D)::rest):=eR ⟨g,n,k,i,c,l,e,b,d,j⟩ ⟨a,o,f,p⟩ (bn C S E D) h
def Py:dh 134 133 11 136:=dh.mk' underlying134 (z:= .agg #[.string ⟨#[]⟩,.bool false,U 0,U 0,.string ⟨#[]⟩,.string ⟨#[]⟩,.slice none 0 0,.string ⟨#[]⟩,U 0,U 0,O 0]) V rfl zD
def tF{a0 w:aa}{rest:List Y}{k0:ab}(f9:TM m a0)(q:Y.row g 9 [ae C.key]∈rest)(h:af a0 w m (Y.dk k k0 d::rest))(c6:C.bL)(hd:d.Ok)(c9:(eA d).l.length<=100000):
 Calls prog 28 #[C.val (ad (some ⟨g,0,none⟩) 1 1),pV k] w (od a0 m rest k (gq C d) (fG d)):=by
 have b:=Z h
 have c4:=Z f9
 have f5:=Z q
 clear q
 have e0:gq C d=(gr C (eA d).l fj).map λ s=>bn C s (eA d) (fG d):=rfl
 rw[e0]
 have f:=CD hd
 have X:=Z (λ(c:aa) (a:List Y) (q:af a0 c m a)=>WN q C.rc c6.rc)
 have a2:=Z (λ(c:aa) (A:Option Addr) (e:Nat) (g0:bg c (ad A 1 e) [C.key])=>NL C c6 g0)
 have y:=Z (λ(c:aa) (e:ab) (a:List Y) (q:af a0 c m (Y.dk k e d::a))=>Tq q hd)
 have K:=Z (λ(c:aa) (a:Nat) (F:ab) (q:(Y.jr a k F (eA d)).P c)=>Ts q W)
 have e8:=Z (λ(c:aa) (a:NA) (e:NV) (s:ST) (N:bQ c) (o:s.bL C.room) (q:(Y.aQ a e (bn C s (eA d) (fG d))).P c)=>Gd N q (AV c6 o c9 f))
 have M:ai (fj.bL C.room):=Z (yM C.room)
 generalize eA d=J at*
 generalize fG d=D at*
 obtain⟨p,e⟩:∃p,J.l=p:=⟨_,rfl⟩
 obtain⟨e5,R⟩:∃e5,gr C p fj=e5:=⟨_,rfl⟩
 rw[e,R]
 rw[e] at K c9
 have f0:=Z R;have f3:=Z c9
 clear f9 h hd c6 f R e c9 e0
 show Calls prog 28 #[aG #[ad (some ⟨g,0,none⟩) 1 1,O (C.bG:Int),O (C.room:Int),U (C.every:Int),U (C.a:Int),U (C.rc.base:Int),U (C.rc.j:Int),U (C.rc.span:Int),O (C.rc.i:Int),O (C.rc.room:Int)],pV k] w _
 go_enter func28,ntmps28
 go_upto_region 5 with(first|refine KT b 5 ?_|refine KT b 10 ?_|refine Kl b ?_|refine KS b λ t b=>?_|refine KB b 73 2 _ λ i7 t l3 b=>?_|go_at_call 78;(refine(X.U _ _ b.U).mono ?_);rintro e a1 ⟨I,a8,a5,rfl,l6,f⟩;replace b:=Z f;clear f|go_at_call 79;refine KC b (a2.U _ _ _ (uE (L:=[C.key]) (b.U.in (.tail _ (.tail _ (.tail _ f5.U)))) (show(1:Nat)<=maxLen by decide))) λ a1 b=>?_|go_at_call 80;(refine(wu (uE (L:=[C.key]) (b.U.in (.tail _ (.tail _ (.tail _ f5.U)))) (show(1:Nat)<=maxLen by decide)) (show(1:Nat)<=20000000 by decide)).mono ?_);rintro e a1 ⟨⟨j7,rfl,H⟩,G⟩;obtain⟨e4,Q,c8⟩:=bP.form H;have j2:j7=ad e4 1 Q:=c8;subst j2;clear c8;replace b:=Z (b.U.db G H);clear G H)
 try simp only[uw,CP,aH,au,ay]
 go_cut [8] from 34 to 40 (λ s8 l=>∃u E z F T,s8=pV u/\af a0 l m (Y.row u 139 [ad e4 1 Q,O (C.bG:Int),O (C.room:Int),U (C.every:Int),U (C.a:Int),U (C.rc.base:Int),U (C.rc.j:Int),U (C.rc.span:Int),O (C.rc.i:Int),O (C.rc.room:Int),ad none 0 0,pV z,pV I,.map (some E),O 1,U 0,U 0,O 0]::Y.ow 9 1 (ad e4 1 Q) [C.key].length (aV [C.key])::Y.row i7 73 [ad e4 1 Q,O (C.bG:Int),O (C.room:Int),U (C.every:Int),U (C.a:Int),U (C.rc.base:Int),U (C.rc.j:Int),U (C.rc.span:Int),O (C.rc.i:Int),O (C.rc.room:Int)]::Y.jr z k F J::Y.dk k T D::Y.rt I a8 a5 (ad none 0 0) C.rc none::Y.mp E []::rest))
 case first=>
  refine RG b 5 [2] λ f1 b l=>?_
  refine WR 0 10 l ?_
  refine VV [1,3] l ?_
  clear l
  refine az.two (i:=2) (j:=4) V zD zD rfl rfl ?_ ?_
  ·refine One.mk b.U V 36 rfl rfl ?_
   intro E t P f
   replace b:=Z f;clear f
   refine⟨bo b [3],?_⟩
   simp only[aH,au,ay]
   refine az.iW (i:=4) V zD rfl ?_
   refine One.eM V 38 rfl rfl 81 rfl (en 81) _ rfl ?_
   refine(y.U _ _ _ (by exact b.U.fs [4])).mono ?_
   rintro e a1 ⟨z,F,T,rfl,B,f⟩
   replace b:=Z f;clear f
   refine⟨_,rfl,bo b [5],?_⟩
   simp only[aH,au,ay]
   refine WT ?_
   go_wp2_with((refine KB b 139 40 (_) λ u t r b=>?_))
   go_meet
   exact⟨u,E,z,F,T,rfl,(b.U.fs [3,5,4,4,6,6,6])⟩
  ·refine One.eM V 38 rfl rfl 81 rfl (en 81) _ rfl ?_
   refine(y.U _ _ _ (by exact b.U.fs [3])).mono ?_
   rintro e a1 ⟨z,F,T,rfl,B,f⟩
   replace b:=Z f;clear f
   refine⟨_,rfl,bo b [4],?_⟩
   simp only[aH,au,ay]
   refine az.iW (i:=2) V zD rfl ?_
   refine One.mk b.U V 36 rfl rfl ?_
   intro E t P f
   replace b:=Z f;clear f
   refine⟨bo b [5],?_⟩
   simp only[aH,au,ay]
   refine WT ?_
   go_wp2_with((refine KB b 139 40 (_) λ u t r b=>?_))
   go_meet
   exact⟨u,E,z,F,T,rfl,(b.U.fs [1,5,4,4,6,6,6])⟩
 case rest=>
  obtain⟨u,E,z,F,T,rfl,o⟩:=hcut
  clear b
  obtain⟨a6,l7,j8,c8,-,-,-,f⟩:=nL o 1 rfl (show(1:Nat)≠0 by decide)
  cases c8
  simp only[au,ay] at f
  have b:=Z (f.dj (Y.ow 133 11 (ad none 0 0) 0 []) (ct _ _ _ _) rfl)
  clear o f
  go_wp2_with(refine Kl b ?_)
  replace b:=Z ((b.U.fs [3,1000,6,6,6,6,6,6,6]))
  go_loopw [44] (λ o wr=>(o=O 0/\ai (af a0 wr m (Y.ow 133 11 (ad none 0 0) 0 []::Y.row u 139 [ad (some ⟨a6,0,none⟩) 1 Q,O (C.bG:Int),O (C.room:Int),U (C.every:Int),U (C.a:Int),U (C.rc.base:Int),U (C.rc.j:Int),U (C.rc.span:Int),O (C.rc.i:Int),O (C.rc.room:Int),ad none 0 0,pV z,pV I,.map (some E),O 1,U 0,U 0,O 0]::Y.row a6 9 (aV [C.key]++j8)::Y.jr z k F J::Y.dk k T D::Y.rt I a8 a5 (ad none 0 0) C.rc none::Y.mp E []::rest)))\/(∃S a7 a4,o=O 1/\ai (af a0 wr m (Y.row u 139 (AZ u S a7 z I E (ad (some ⟨a6,0,none⟩) 1 Q) C)::Y.row S 133 (AY C.key fj (ad none 0 0) a4)::Y.ho (ad none 0 0) fj.f::Y.jr z k F J::Y.rt I a8 a5 (ad none 0 0) C.rc none::Y.mp E []::Y.dk k T D::rest)))) (λ o _=>1-(intOf o).toNat)
  case atStart=>exact .inl ⟨rfl,b⟩
  case round=>
   clear b
   obtain⟨rfl,b⟩|⟨S,a7,a4,rfl,b⟩:=hrel
   ·go_wp2_with(first|refine Kl b ?_|refine KS b λ t b=>?_|(with_reducible show cH);(refine Mk b.U rfl 55 rfl (some 1) 133 [_,_,_,_,_,_,_,_,_,_,_] (by go_simp;(exact⟨rfl,rfl⟩)) ?_;intro l1 t l4 f;replace b:=Z f;clear f;simp only[bk])|refine Ap b.U rfl Py rfl 1 rfl rfl 0 rfl rfl rfl rfl zD zD λ l2 l0 t f=>?_;simp only[au,ay] at f;replace b:=Z f;clear f)
    obtain⟨S,a7,a4,j5,-,-,-,f⟩:=nL b.U 1 rfl zD
    cases j5
    simp only[au,ay] at f
    have j3:=((((((((f).tail.fs [2]).tail.fs [3]).ar 5 rfl).ar 5 rfl).ar 5 rfl).ar 4 rfl).ar 5 rfl)
    have j4:=j3.dj (Y.ho (ad none 0 0) fj.f) (ct _ _ _ _) rfl
    exact⟨.inr ⟨_,_,a4,rfl,Z (j4.fs [6,6,6,6,4,6,6])⟩,by decide⟩
   ·go_wp2_with(first|refine Kl b ?_|go_at_call 82;(refine(K.U _ _ _ (b.U.get (i:=3) rfl)).mono ?_);rintro e a1 ⟨k4,k5,rfl,H,G⟩;replace b:=Z (b.U.db G H);clear G H)
    have f:=b.U
    have b7:=(f.fs [7,7,7,7,7,7,7])
    clear b
    have b:=Z b7
    clear f b7
    go_loopw [66] (λ o wr=>∃(B:Nat) (s:ST) (b3:ab),B<=p.length/\o=O (B:Int)/\ai (gr C (p.drop B) s=e5)/\ai (s.bL C.room)/\ai (af a0 wr m (Y.row u 139 (AZ u S a7 z I E (ad (some ⟨a6,0,none⟩) 1 Q) C)::Y.row S 133 (AY C.key s b3 a4)::Y.ho b3 s.f::Y.jr z k F J::Y.rt I a8 a5 (ad none 0 0) C.rc none::Y.mp E []::Y.dk k T D::Y.ow 9 1 (ad k4 p.length k5) p.length (aV p)::rest))) (λ o _=>p.length-(intOf o).toNat)
    case atStart=>exact⟨0,fj,_,bh _,rfl,f0,M,b⟩
    case round=>
     clear b
     obtain⟨B,s,b3,g0,rfl,c2,c3,b⟩:=hrel
     by_cases b2:B<p.length
     focus
      obtain⟨bb,o,i9,hx⟩:=Xd (b.U.get (i:=7) rfl) (by have:=f3.U;unfold maxLen;omega) b2
      subst i9
      have P:=c2.U
      rw[gE b2] at P
      obtain⟨rec,a3⟩:∃r,p[B]=r:=⟨_,rfl⟩
      rw[a3] at P hx
      have f7:=Z hx;have f4:=Z b2
      have d1:decide (B<p.length)=true:=aS b2
      have d2:decide ((B:Int)<(p.length:Int))=true:=aS W
      have l5:p.length<=1000000:=by have:=f3.U;omega
      have d3:(0:Int)<=(B:Int):=by omega
      have d4:(B:Int)<(p.length:Int):=by omega
      clear hx b2 a3 c2 f0 M X a2 y K
      cases hd:dm rec
      ·rename_i e
       rw[Fp hd] at P
       subst P
       have e7:ai (∀c,bQ c->CB 83 #[ae rec] c (aJ #[aG #[O 0,O 0,U 0,U 0,U 0,U 0,U 0,ae ⟨#[]⟩,ae ⟨#[]⟩,U 0,U 0,ae ⟨#[]⟩,ae ⟨#[]⟩,U 0,U 0,ae ⟨#[]⟩,ae ⟨#[]⟩,ad none 0 0,ad none 0 0,ad none 0 0],O (e:Int)])):=Z (λ c q=>(ui rec c q.a q.aT).mono (by
        rintro r K M
        unfold pK at M
        rw[hd] at M
        exact⟨M.1.1,M.2⟩))
       have y:e≠0:=wC hd
       have X:((e:Int)==0)=false:=by rw[cc];omega
       have a2:((e:Int) !=0)=true:=by rw[nu];omega
       have g5:=Z y
       clear hd y
       go_upto_region 15 with(first|refine KS b λ t b=>?_|refine KA b _ 13 ei λ i6 t j1 b=>?_|refine tc rfl 9 rfl rfl (bz _ _) f7.U V ?_|go_at_call 83;refine KC b (e7.U _ (c4.U.at b.U)) λ a1 b=>?_)
       refine RG b 11 [0,1] λ f1 b l=>?_
       refine VV [0] l ?_
       refine W2 1 76 (v:=aF true) rfl rfl (Or.inl ⟨by kernel_rfl,λ c f8=>by(go_simp;done)⟩) l ?_
       refine VV [2,1003,1004,1005,1006,1007,1008,1009,1010] l ?_
       clear l
       refine WT ?_
       go_wp2_with fail
       refine iI rfl rfl rfl rfl ?_
       exact A1 (((((((((b.U).tail).tail).tail).tail).tail).tail).tail.fs [1]).tail)
      focus
       rename_i y
       obtain⟨d8,d9,g1⟩:=ny hd
       have e7:ai (∀c,bQ c->Calls prog 83 #[ae rec] c λ r K=>∃b4 b5 c0 c1 b8 b9,r=ao (aJ #[y.val (ad b4 y.b.e.length b5) (ad c0 y.e.length c1) (ad b8 y.aL.length b9),O 0])/\af c K [] [Y.ow 9 1 (ad b4 y.b.e.length b5) y.b.e.length (aV y.b.e),Y.ow 9 1 (ad c0 y.e.length c1) y.e.length (aV y.e),Y.ow 240 4 (ad b8 y.aL.length b9) y.aL.length (cy y.aL)]):=Z (λ c q=>(xp rec c q.a q.aT).mono (by
        rintro r K M
        unfold lI at M
        rw[hd] at M
        obtain⟨⟨a9,b1,b0,b6,-,a2⟩,c5⟩:=M
        obtain⟨b4,b5,e1,-⟩:=cF (show K.ownsRow 0 9 1 a9 _ _ from a2.get (i:=0) rfl)
        obtain⟨c0,c1,e2,-⟩:=cF (show K.ownsRow 0 9 1 b1 _ _ from a2.get (i:=1) rfl)
        obtain⟨b8,b9,e3,-⟩:=cF (show K.ownsRow 0 240 4 b0 _ _ from a2.get (i:=2) rfl)
        subst e1 e2 e3
        exact⟨b4,b5,c0,c1,b8,b9,b6,a2⟩))
       by_cases a3:y.log=0
       focus
        have d0:= @A2 C rec (p.drop (B+1)) s y hd a3
        have c7:= @Fo C rec (p.drop (B+1)) s y hd a3
        have M:=Bh c3.U d8
        have f6:=Z (λ(c:aa) (a9 b1 b0:ab) (b6:(Y.ow 9 1 a9 y.b.e.length (aV y.b.e)).P c) (a2:(Y.ow 9 1 b1 y.e.length (aV y.e)).P c) (c5:(Y.ow 240 4 b0 y.aL.length (cy y.aL)).P c)=>d9.rd b6 a2 c5)
        have e6:ai (∀c a9 b1 b0,bQ c->(Y.aQ (⟨u,S,a7,z,I,a8,a5,E,k,ad (some ⟨a6,0,none⟩) 1 Q⟩:NA) (⟨b3,F,ad none 0 0,a4⟩:NV) (bn C s J D)).P c->y.Rd c a9 b1 b0->Calls prog 84 #[pV u,y.val a9 b1 b0] c (tb c (bS C s y))):=Z (λ c a9 b1 b0 N q X=>e8.U c (⟨u,S,a7,z,I,a8,a5,E,k,ad (some ⟨a6,0,none⟩) 1 Q⟩:NA) (⟨b3,F,ad none 0 0,a4⟩:NV) s N c3.U q y d8 d9 a3 X)
        have X:∀c e K,tb c (bS C s y) e K->∃A N,e=ao (aJ #[(bS C s y).1.val (.slice A (bS C s y).1.f.length N),O ((bS C s y).2:Int)])/\(counts (bS C s y).2=true->oe c.heap.size K (.slice A (bS C s y).1.f.length N) (bS C s y).1.f)/\BW c K:=λ c e K h=>h
        have e9:=Z X
        have f2:=Z (λ B c=>FP B c)
        clear X e8 hd d8 d9 g1 c3
        generalize bS C s y=g2 at*
        obtain⟨s2,X⟩:=g2
        simp only at e6 e9 d0 c7 M
        have g4:=Z M
        clear M
        generalize y.b.e.length=i4 at*
        generalize y.e.length=k6 at*
        generalize y.aL.length=k2 at*
        generalize aV y.b.e=k7 at*
        generalize aV y.e=k9 at*
        generalize cy y.aL=k8 at*
        obtain⟨j6,j9,id,M,N,⟨b6,a2,c5,i8⟩,⟨⟨g6,g7,g8,g9⟩,⟨i0,i1,i2,i3⟩,i5⟩,k3,k1⟩:=y
        simp only at a3
        subst a3
        cases A:counts X
        focus
         have R:=(c7 A).symm.trans P
         subst R
         clear d0 c7 P
        rotate_left
        focus
         have g3:=Z ((d0 A).symm.trans P)
         have j0:=Z A
         clear d0 c7 P
        rotate_left
       rotate_left 2
       focus
        rw[Ft hd a3] at P
        subst P
        have d5:decide ((1:Int)<=(y.log:Int))=true:=aS W
        have d6:decide (0<y.log)=true:=aS W
        have d7:decide (1<=y.log)=true:=aS W
        have g5:=Z a3
        clear e8 hd d8 d9 g1 c3 a3
        generalize y.b.e.length=i4 at*
        generalize y.e.length=k6 at*
        generalize y.aL.length=k2 at*
        generalize aV y.b.e=k7 at*
        generalize aV y.e=k9 at*
        generalize cy y.aL=k8 at*
        obtain⟨j6,j9,id,M,N,⟨b6,a2,c5,i8⟩,⟨⟨g6,g7,g8,g9⟩,⟨i0,i1,i2,i3⟩,i5⟩,k3,k1⟩:=y
        simp only at d5 d6 d7
       rotate_left
      rotate_left 3
     rotate_left 3
     ·obtain rfl:B=p.length:=by omega
      have R:=c2.U
      rw[zk] at R
      have d1:decide (p.length<p.length)=false:=bu (vA _)
      have o:some s=e5:=R
      subst o
      clear b2 R c2 f0
      go_wp2_with fail
      refine iI rfl rfl rfl rfl ?_
      have r:=A0 (D:=D) b.U
      exact Nq (a:=(⟨u,S,a7,z,I,a8,a5,E,k,ad (some ⟨a6,0,none⟩) 1 Q⟩:NA)) (x:=(⟨b3,F,ad none 0 0,a4⟩:NV)) (n:=bn C s J D) (r.fs [2,1000,1,1])
     all_goals
      go_upto_region 15 with(first|refine KS b λ t b=>?_|refine KA b _ 13 ei λ i6 t j1 b=>?_|refine tc rfl 9 rfl rfl (bz _ _) f7.U V ?_|go_at_call 83;(refine(e7.U _ (c4.U.at b.U)).mono ?_);rintro e1 a1 ⟨b4,b5,c0,c1,b8,b9,rfl,b7⟩;have f:=b.U.plus b7;simp only[gD,fV] at f;replace b:=Z f;clear f;clear b7)
      refine RG b 11 [0,4] λ f1 b l=>?_
      refine VV [0] l ?_
      refine W2 1 76 (v:=aF false) rfl rfl (Or.inl ⟨by kernel_rfl,λ c f8=>by(go_simp;done)⟩) l ?_
     ·refine VV [2,3,2004,5,6,7,2008,9,10] l ?_
      clear l
      refine WT ?_
      go_wp2_with(first|refine KT b 20 ?_|refine KS b λ t b=>?_|refine KA b _ 15 gT λ o t r b=>?_|go_at_call 84;(refine(e6.U _ _ _ _ (c4.U.at b.U) ((A0 (((((((((((((b.U).tail).tail).tail).tail.fs [7]).ar 7 rfl).ar 7 rfl).ar 7 rfl).ar 7 rfl).ar 7 rfl).ar 7 rfl).ar 7 rfl))).get (i:=0) rfl) (f6.U _ _ _ _ (b.U.get (i:=1) rfl) (b.U.get (i:=2) rfl) (b.U.get (i:=3) rfl))).mono ?_);intro e1 a1 a;obtain⟨y,K,rfl,H,G⟩:=e9.U _ _ _ a;clear a H;replace b:=Z (b.U.below G);clear G|go_at_call 85;refine KQ (f2.U _ _) ?_;rw[A])
      refine iI rfl rfl rfl rfl ?_
      exact A1 (((((((((((((b.U).tail).tail).tail).tail).tail).tail).tail).tail).tail).tail).tail.fs [1]).tail)
     ·refine VV [2,3,2004,5,6,7,2008,9,10] l ?_
      clear l
      refine WT ?_
      go_upto_region 20 with(first|refine KT b 20 ?_|refine KS b λ t b=>?_|refine KA b _ 15 gT λ o t r b=>?_|go_at_call 84;(refine(e6.U _ _ _ _ (c4.U.at b.U) ((A0 (((((((((((((b.U).tail).tail).tail).tail.fs [7]).ar 7 rfl).ar 7 rfl).ar 7 rfl).ar 7 rfl).ar 7 rfl).ar 7 rfl).ar 7 rfl))).get (i:=0) rfl) (f6.U _ _ _ _ (b.U.get (i:=1) rfl) (b.U.get (i:=2) rfl) (b.U.get (i:=3) rfl))).mono ?_);intro e1 a1 a;obtain⟨y,K,rfl,H,G⟩:=e9.U _ _ _ a;clear a;replace b:=Z (b.U.db G (H j0.U));clear G H|go_at_call 85;refine KQ (f2.U _ _) ?_;rw[A])
      refine RG b 9 [6,2,0] λ f1 b l=>?_
      refine VV [0,1,2,2003,4,2005] l ?_
      refine WR 6 7 l ?_
      refine VV [7,8] l ?_
      clear l
      refine WT ?_
      go_wp2_with(refine KS b λ t b=>?_)
      exact⟨⟨B+1,s2,_,by have:=f4.U;omega,by go_num,g3,g4,Z (((((((((((((((b.U).tail.fs [1]).tail.fs [1]).tail.fs [1]).tail.fs [1]).tail.fs [3]).tail.fs [7]).ar 7 rfl).ar 7 rfl).ar 7 rfl).ar 7 rfl).ar 5 rfl).ar 7 rfl).ar 7 rfl))⟩,by have:=f4.U;simp[intOf];omega⟩
     ·refine VV [2,3,2004,5,6,7,2008,9] l ?_
      refine W2 10 85 (v:=aF true) rfl rfl (Or.inl ⟨by kernel_rfl,λ c f8=>by(go_simp;done)⟩) l ?_
      clear l
      refine WT ?_
      go_wp2_with fail
      refine iI rfl rfl rfl rfl ?_
      exact A1 ((((((((((((b.U).tail).tail).tail).tail).tail).tail).tail).tail).tail).tail.fs [1]).tail)
