import Derived.Test.YtncpbkoinennoaaGreatDoorMAW
set_option linter.all false
set_option maxRecDepth 100000
set_option maxHeartbeats 0
namespace Go.Proofs.YtncpbkoinennoaaGreatDoor
open Go.RowKit Proofs.Tryz
attribute [local irreducible] wpList Calls
variable{t:TypeId}
section
section
variable{l:List Oper}{Q:Exit->Act->aa->Prop}{S:aa->Prop}{n f:Nat}{B B':List Bool}{M M':List ab}{d:List Deferred}{w w0:aa}{m:List Nat}{aj Li:List Y}{o oj oi:Oper}{fn:FuncId}{vs:List ab}{c:Call}{i:Nat}{k:Tmp}{L:Array Bool}{a:Act}
def T1(i:Nat)(h:One prog l Q S n f L a w i oi)(g:Region.ready .any l.toArray L=[i]:=by decide+kernel)(b:i<n:=by decide)(e:l.toArray[i]?=some oi:=by exact rfl):ay prog l Q S n (f+1) L a w:=ay.mE g b e h
def T2(i j:Nat)(h:One prog l Q S n f L a w i oi)(k:One prog l Q S n f L a w j oj)(q:Region.ready .any l.toArray L=[i,j]:=by decide+kernel)(b:i<n:=by decide)(g:j<n:=by decide)(p:l.toArray[i]?=some oi:=by exact rfl)(e:l.toArray[j]?=some oj:=by exact rfl):ay prog l Q S n (f+1) L a w:=ay.two q b g p e h k
def um{p:ab->Prop}(j:ai (ae w0 w m aj))(g:ba Li w)(x:ie fn)(u:Calls prog fn vs.toArray w λ e q=>(∃v,e=ao v/\p v)/\BW w q)(h:∀v b,p v->ai (ae w0 b m aj)->ba Li b->ay prog l Q (ba Li) n f B'.toArray ⟨(M.set k v).toArray,d⟩ b)
 (A:Region.wanted o (yielded l.toArray M.toArray)=true:=by kernel_rfl) (hd:o.dst=some k:=by exact rfl) (t:o.op= .call c:=by exact rfl) (y:c.callee= .value (.func fn):=by exact rfl) (z:c.args.toList.mapM (fk ⟨M.toArray,d⟩)=some vs:=by exact rfl)
 (s:B.set i true=B':=by first|(simp only[av,ax];exact rfl)|(simp only[ff,hq,av,ax];exact rfl)|exact rfl):One prog l Q (ba Li) n f B.toArray ⟨M.toArray,d⟩ w i o:=
 One.eL A k hd t fn y x vs z (u.mono λ e b ⟨⟨v,q,r⟩,e⟩=>⟨v,q,g.st e,by subst s;simpa only[aS] using h v b r (Z (j.U.below e)) (g.st e)⟩)
def lQ{v:ab}(j:ai (ae w0 w m aj))(g:ba Li w)(u:ie fn)(t:Calls prog fn vs.toArray w λ e p=>e=ao v/\BW w p)(h:∀b,ai (ae w0 b m aj)->ba Li b->ay prog l Q (ba Li) n f B'.toArray ⟨M'.toArray,d⟩ b)
 (z:Region.wanted o (yielded l.toArray M.toArray)=true:=by kernel_rfl) (hd:o.dst=some k:=by exact rfl) (s:o.op= .call c:=by exact rfl) (x:c.callee= .value (.func fn):=by exact rfl) (y:c.args.toList.mapM (fk ⟨M.toArray,d⟩)=some vs:=by exact rfl)
 (q:B.set i true=B':=by first|(simp only[av,ax];exact rfl)|(simp only[ff,hq,av,ax];exact rfl)|exact rfl) (r:M.set k v=M':=by first|(simp only[av,ax,bH,ck,dJ,dr];exact rfl)|exact rfl):One prog l Q (ba Li) n f B.toArray ⟨M.toArray,d⟩ w i o:=
 One.eL z k hd s fn x u vs y (t.mono λ e b ⟨p,e⟩=>⟨v,p,g.st e,by subst q;subst r;simpa only[aS] using h b (Z (j.U.below e)) (g.st e)⟩)
def Nv{b:List ab}(j:ai (ae w0 w m aj))(p:ba Li w)(s:eY t b)(h:∀g e,w0.heap.size<=g->ai (ae w0 e m (Y.row g t b::aj))->ba Li e->ay prog l Q (ba Li) n f B'.toArray ⟨(M.set k (pV g)).toArray,d⟩ e)
 (u:Region.wanted o (yielded l.toArray M.toArray)=true:=by kernel_rfl) (hd:o.dst=some k:=by exact rfl) (r:o.op= .alloc t:=by exact rfl)
 (q:B.set i true=B':=by first|(simp only[av,ax];exact rfl)|(simp only[ff,hq,av,ax];exact rfl)|exact rfl):One prog l Q (ba Li) n f B.toArray ⟨M.toArray,d⟩ w i o:=by
 intro v g
 rw[au u]
 unfold Oper.wp execOp
 simp only[r,cO,s w,dd,dN]
 have e:=p.st (bJ w (.cells b.toArray t))
 refine g _ _ e (λ _=> ?_)
 rw[hd]
 subst q
 simp only[Act.put,aS]
 exact h _ _ j.U.size (Z (j.U.alloc b t)) e
end
end
variable{D:BD}{h:HD}{n:Nat}
def sQ(h:HD):List UInt8:=bU h.size++(bU h.time++(h.aE.data.toList++h.a.data.toList))
def uN(b:BD):List UInt8:=sQ b.a++(sQ b.b++(bU b.e.length++(b.e.map λ s=>s.data.toList).flatten))
def Fv{x:WS}(a:x.e=0)(n:Nat):x.num n=⟨x.b++bU n,0⟩:=by
 unfold WS.num WS.put;grind
def M4{x:WS}(a:x.e=0){s:af}(b:s.size=n):x.raw s (n:Int)=⟨x.b++s.data.toList,0⟩:=by
 unfold WS.raw WS.put;grind
def M5{x:WS}(a:x.e=0){s:af}(b:s.size=32):x.raw s 32=⟨x.b++s.data.toList,0⟩:=M4 a b
def ab8{x:WS}(a:x.e=0){s:af}(b:s.size=64):x.raw s 64=⟨x.b++s.data.toList,0⟩:=M4 a b
def M3{x:WS}(a:x.e=0)(b:h.aE.size=32)(c:h.a.size=64):x.head h=⟨x.b++sQ h,0⟩:=by
 unfold WS.head sQ;rw[Fv a,Fv rfl,M5 rfl b,ab8 rfl c];simp
def M1:∀(L:List af) {x:WS},x.e=0->(∀s∈L,s.size=32)->x.fQ L=⟨x.b++(L.map λ s=>s.data.toList).flatten,0⟩
 |[],x,a,_=>by
  obtain⟨b,e⟩:=x
  simp only at a;subst a
  simp[WS.fQ]
 |s::L,x,a,h=>by
  have e1:x.fQ (s::L)=(x.raw s 32).fQ L:=rfl
  rw[e1,M5 a (h s mZ),M1 L rfl (λ t b=>h t (mQ b))]
  simp
def vZ(h:D.right=true):D.a.right=true/\D.b.right=true/\D.e.length<=48/\dj D.e=false:=by
 unfold BD.right at h;grind
def mx(a:h.right=true):1<=h.size/\h.size<=1099511627776/\h.time<=1099511627776/\h.aE.size=32/\h.a.size=64:=by
 unfold HD.right at a;grind
def ab7{x:WS}(i:x.e=0)(h:D.right=true):x.lb D=⟨x.b++uN D,0⟩:=by
 obtain⟨e,f,j,g⟩:=vZ h;obtain⟨-,-,-,a,b⟩:=mx e;obtain⟨-,-,-,c,d⟩:=mx f;unfold WS.lb uN;rw[M3 i a b,M3 rfl c d,Fv rfl,M1 _ rfl (Bw g)];simp
def Q8(h:D.right=true):D.enc=⟨(uN D).toArray⟩:=by
 unfold BD.enc;rw[au h,ab7 rfl h];rfl
def DZ{y:RD}{s:af}{rest:List UInt8}(a:y.e=0)(c:s.size=n)(b:y.s.data.toList=s.data.toList++rest):y.cA (n:Int)=s/\y.bu (n:Int)=⟨⟨rest.toArray⟩,0⟩:=by
 have h:=EX a b;simp_all
def Ld{y:RD}{rest:List UInt8}(b:h.Ok)(f:h.aE.size=32)(e:h.a.size=64)(d:y.e=0)(a:y.s.data.toList=sQ h++rest):y.jO=h/\y.jP=⟨⟨rest.toArray⟩,0⟩:=by
 unfold sQ at a;simp only[gK] at a;obtain⟨g,x1⟩:=yJ b.size d a;obtain⟨i,x2⟩:=yJ (y:=y.bW) b.time (by rw[x1]) (by rw[x1]);obtain⟨j,x3⟩:=DZ (y:=y.bW.bW) (s:=h.aE) (n:=32) (by rw[x2]) f (by rw[x2]);obtain⟨k,x4⟩:=DZ (y:=y.bW.bW.bu 32) (s:=h.a) (n:=64) (by grind) e (by rw[show(32:Int)=((32:Nat):Int) from rfl,x3]);have uZ:(32:Int)=((32:Nat):Int):=rfl;have c:(64:Int)=((64:Nat):Int):=rfl;constructor
 ·unfold RD.jO;rw[g,i,c,k,uZ,j]
 ·unfold RD.jP;omega
def Le:∀(L:List af) {y:RD} {rest:List UInt8},(∀s∈L,s.size=32)->y.e=0->y.s.data.toList=(L.map λ s=>s.data.toList).flatten++rest->y.fF L.length=L/\y.gi L.length=⟨⟨rest.toArray⟩,0⟩
 |[],y,rest,_,a,b=>by
  obtain⟨s,e⟩:=y
  simp only at a b;subst a
  refine⟨rfl,?_⟩
  show RD.mk s 0=_
  congr 1
  exact qE (by grind)
 |s::L,y,rest,h,a,b=>by
  simp only[bZ,AD,gK] at b
  obtain⟨d,x1⟩:=DZ (n:=32) a (h s mZ) b
  have uZ:(32:Int)=((32:Nat):Int):=rfl
  obtain⟨e,x2⟩:=Le L (y:=y.bu 32) (rest:=rest) (λ t c=>h t (mQ c)) (by grind) (by grind)
  simp only[gq,RD.fF,RD.gi]
  grind
def X5{y:RD}{rest:List UInt8}(d:D.Ok)(h:D.right=true)(o:y.e=0)(a:y.s.data.toList=uN D++rest):y.gQ=D/\y.mm=⟨⟨rest.toArray⟩,0⟩:=by
 obtain⟨k,l,s,m⟩:=vZ h;obtain⟨-,-,-,f,g⟩:=mx k;obtain⟨-,-,-,i,j⟩:=mx l;unfold uN at a;simp only[gK] at a;obtain⟨p,x1⟩:=Ld d.a f g o a;obtain⟨q,x2⟩:=Ld (y:=y.jP) d.b i j (by rw[x1]) (by rw[x1]);obtain⟨e,x3⟩:=yJ (y:=y.iA) (n:=D.e.length) W (by unfold RD.iA;rw[x2]) (by unfold RD.iA;rw[x2]);have b:y.qK=y.iA.bW:=by unfold RD.qK;rw[e,ar W]
 obtain⟨r,x4⟩:=Le D.e (y:=y.qK) (rest:=rest) (Bw m) (by rw[b,x3]) (by rw[b,x3]);have c:min y.iA.cx 48=D.e.length:=by rw[e];omega
 constructor
 ·unfold RD.gQ;rw[c,r,p,q]
 ·unfold RD.mm;rw[c,x4]
def Hj(a:D.Ok)(h:D.right=true):gd D.enc= .ok D:=by
 obtain⟨v,x⟩:=X5 (y:=⟨D.enc,0⟩) (rest:=[]) a h rfl (by rw[Q8 h];simp);unfold gd;rw[x,v,au (show RD.ea _=0 by rfl),au h]
def yU(b:BD):MG:={fx with c:=4,b:=b}
def proof_bare(b:BD):(yU b).bare=yU b:=by
 rfl
def proof_right(h:D.bX=true):(yU D).right=true:=by
 have a:gh (gD 4)=[108,98]:=by decide
 unfold MG.right;rw[proof_bare];show(jf 4&&(decide (yU D=yU D)&&(gh (gD 4)).all _))=true;rw[a];simp only[decide_true,List.all_cons,List.all_nil,Af,gW];have b:jf 4=true:=by decide
 have c:(yU D).part 108=true:=by unfold MG.part;rfl
 have d:(yU D).part 98=D.bX:=by unfold MG.part;rfl
 grind
section
open TreeM
def HD.check(a:af)(h:HD):Bool:=h.right&&hZ a h.text h.a
def kq(k:KY)(size a:Nat)(aE:af):Option HD:=
 if(⟨size,a,aE,k.sign (HD.text ⟨size,a,aE,⟨#[]⟩⟩)⟩:HD).right=true then some ⟨size,a,aE,k.sign (HD.text ⟨size,a,aE,⟨#[]⟩⟩)⟩ else none
def gz(a b:HD)(c:List af):Option BD:=
 if(⟨a,b,[]⟩:BD).bX=true then some ⟨a,b,[]⟩ else if(⟨b,a,[]⟩:BD).bX=true then some ⟨b,a,[]⟩
 else if(⟨a,b,c⟩:BD).bX=true then some ⟨a,b,c⟩ else if(⟨b,a,c⟩:BD).bX=true then some ⟨b,a,c⟩ else none
def qI(a s:af):Bool:=match gd s with| .error _=>false| .ok b=>b.bX&&(b.a.check a&&b.b.check a)
structure ST where
 bz:Bool
 az:HD
 f:List HD
 aR:af
def kG:ST:=⟨false,fw,[],⟨#[]⟩⟩
def lH(h:HD):List HD->Option (Option BD)
 |[]=>none
 |x::l=>if x.size=h.size then(if x.aE=h.aE then some none else match gz x h [] with|some b=>some (some b)|none=>lH h l) else lH h l
def DH(h:HD):List HD->Nat
 |[]=>0
 |x::l=>if 0<x.ahead h then 0 else DH h l+1
def ST.take(s:ST)(a:af)(h:HD)(c:Nat):ST×Nat:=
 if s.aR=⟨#[]⟩ then
  if h.check a=true then
   if s.bz=true then
    match lH h (s.az::s.f) with
    |some none=>(s,2)
    |some (some b)=>({s with aR:=b.enc},5)
    |none=>if c<=s.f.length then(s,6) else({s with f:=s.f.take (DH h s.f)++h::s.f.drop (DH h s.f)},3)
   else({s with bz:=true,az:=h},1)
  else(s,7)
 else(s,9)
def ST.iE(s:ST):Option (Nat×Nat):=
 if s.aR=⟨#[]⟩/\s.bz=true then match s.f with|[]=>none|x::_=>some (min x.size s.az.size,max x.size s.az.size) else none
def vk(f m n:Nat):List HD->Option Nat
 |[]=>none
 |x::l=>if min x.size f=m/\max x.size f=n then some 0 else(vk f m n l).map (·+1)
def ST.link(s:ST)(m n:Nat)(a:List af):ST×Nat:=
 if s.aR=⟨#[]⟩ then
  if s.bz=true then
   match vk s.az.size m n s.f with
   |none=>(s,8)
   |some i=>
    let x:=s.f.getD i fw
    let d:=if x.size<s.az.size then x else s.az
    let c:=if x.size<s.az.size then s.az else x
    if vt m n a=0/\CL m n a=c.aE then
     if CK m n a=d.aE then({s with az:=c,f:=s.f.eraseIdx i},4)
     else match gz d c a with
      |none=>(s,7)
      |some b=>({s with aR:=b.enc},5)
    else(s,7)
  else(s,8)
 else(s,9)
def ST.lay(s:ST)(b a:af):ST×Nat:=
 if s.aR=⟨#[]⟩ then(if qI b a=true then({s with aR:=a},5) else(s,7)) else(s,9)
end
variable{d:DK}{g:Nat}
def QY:cW 144 169 2 16:=cW.mk' underlying144 (z:= .agg #[O 0,O 0]) V rfl zD
def DK.free(d:DK):Nat:=d.room-d.f0.size-d.f1.size
def DK.file(d:DK)(f:Nat):af:=if f=0 then d.f0 else d.f1
def DK.jk(d:DK)(f:Nat)(s:af):DK:=if f=0 then{d with f0:=s} else{d with f1:=s}
def DK.dH(d:DK)(s:af):Nat:=if d.free<s.size then 8 else 0
def DK.put(d:DK)(f:Nat)(s:af):DK:=if d.free<s.size then d else{d.jk f (d.file f++s) with a:=d.a++[(f,s.size)]}
def M6(L M:List (Nat×Nat)):jY (L++M)=jY L++jY M:=by simp[jY]
def Qf{w:aa}{q:ab}(h:(Y.dk g q d).P w)(hd:d.Ok)(f:Nat)(B:f<2)(s:af)(K:d.a.length<=1000000):Calls prog 300 #[pV g,O (f:Int),ad s] w λ r c=>
 r=ao (O (d.dH s:Int))/\∃b,bk (Y.dk g q d) w c (Y.dk g b (d.put f s)):=by
 have k:=(ae.self h).kE
 have a:=Z k
 obtain⟨pA,G,F,-⟩:=da (show w.ownsRow 0 169 2 q d.a.length (jY d.a) from a.U.get (i:=1) rfl)
 subst F
 have t:=λ b (h:(Y.row g 146 (d.cells (ag pA d.a.length G))).P b)=>Qb h hd
 have D:d.dH s=if d.free<s.size then 8 else 0:=rfl
 have E:d.put f s=if d.free<s.size then d else{d.jk f (d.file f++s) with a:=d.a++[(f,s.size)]}:=rfl
 have C:d.free=d.room-d.f0.size-d.f1.size:=rfl
 rw[<-C] at t
 have I:=hd.fit
 have M:=hd.room
 generalize d.free=A at*
 have u:=λ b=>Hg f b
 rw[aT B] at u
 have o:=Z t;have m:=Z D;have n:=Z E;have p:=Z u
 by_cases r:A<s.size
 ·rw[au r] at m n
  rw[m.U,n.U]
  go_enter func300,ntmps300
  go_wp2_with(first|go_at_call 221;refine KQ (p.U _) ?_|go_at_call 316;refine KC a (o.U _ (a.U.in mZ)) λ c a=>?_)
  go_ret
  exact⟨rfl,_,a.U.eX.iL⟩
 focus
  rw[ar r] at m n
  have H:s.size<=16777216:=by omega
  have J:d.f0.size+s.size<=9223372036854775807:=by omega
  have N:d.f1.size+s.size<=9223372036854775807:=by omega
  obtain⟨f0,f1,L,y⟩:=d
  simp only at*
  rcases f with _|_|f
  focus
   have l:ai (∀b,Calls prog 221 #[O 0] b λ e c=>e=ao (aK true)/\b=c):=Z (λ b=>p.U b)
   show Calls prog 300 #[pV g,O 0,ad s] w _
   go_enter func300,ntmps300
   go_upto_region 5 with(first|go_at_call 221;refine KQ (l.U _) ?_|go_at_call 316;refine KC a (o.U _ (a.U.in mZ)) λ c a=>?_)
   refine RG a 11 [0] λ z a j=>?_
   refine VV [0,1,2,3,4,2005,6] j ?_
   refine W2 7 24 (v:=ad (f0++s)) rfl rfl (Or.inl ⟨by kernel_rfl,λ b x=>by go_simp⟩) j ?_
  rotate_left
  focus
   have l:ai (∀b,Calls prog 221 #[O 1] b λ e c=>e=ao (aK true)/\b=c):=Z (λ b=>p.U b)
   show Calls prog 300 #[pV g,O 1,ad s] w _
   go_enter func300,ntmps300
   go_upto_region 5 with(first|go_at_call 221;refine KQ (l.U _) ?_|go_at_call 316;refine KC a (o.U _ (a.U.in mZ)) λ c a=>?_)
   refine RG a 11 [0] λ z a j=>?_
   refine VV [0,1,2,3,4,2005,6] j ?_
   refine W2 7 24 (v:=ad (f1++s)) rfl rfl (Or.inl ⟨by kernel_rfl,λ b x=>by go_simp⟩) j ?_
  rotate_left
  ·omega
 rotate_left 2
 all_goals
  refine VV [8,9,10] j ?_
  refine WT ?_
  go_wp2_with(first|refine Kl a ?_|refine KS a λ z a=>?_|(with_reducible show cn);(refine Mk a.U rfl 37 rfl (some 1) 169 [_,O (s.size:Int)] (by go_simp;(exact⟨rfl,rfl⟩)) ?_;intro H z J k;replace a:=Z k;simp only[bc])|refine Ap a.U rfl QY rfl 2 rfl rfl 0 rfl rfl rfl rfl (by unfold maxLen;omega) W ?_;intro l e z k;simp only[av,ax] at k;replace a:=Z k)
  go_ret
  refine⟨by rw[m.U];rfl,ag (some ⟨l,0,none⟩) (L.length+1) e,?_⟩
  rw[n.U]
  have x:=a.U.tail.eX.iL
 ·show bk _ w _ (Y.star (Y.row g 146 [ad (f0++s),ad f1,ag (some ⟨l,0,none⟩) (L.length+1) e,O (y:Int)]) (Y.ow 169 2 (ag (some ⟨l,0,none⟩) (L.length+1) e) (L++[(0,s.size)]).length (jY (L++[(0,s.size)]))))
  have e1:(L++[((0:Nat),s.size)]).length=L.length+1:=by simp
  rw[e1,M6]
  exact x
 ·show bk _ w _ (Y.star (Y.row g 146 [ad f0,ad (f1++s),ag (some ⟨l,0,none⟩) (L.length+1) e,O (y:Int)]) (Y.ow 169 2 (ag (some ⟨l,0,none⟩) (L.length+1) e) (L++[(1,s.size)]).length (jY (L++[(1,s.size)]))))
  have e1:(L++[((1:Nat),s.size)]).length=L.length+1:=by simp
  rw[e1,M6]
  exact x
def DK.ds(d:DK):DA.DS:=⟨d.f0,d.f1,d.a,d.room⟩
def DK.of(d:DA.DS):DK:=⟨d.f0,d.f1,d.a,d.room⟩
def DK.bR(d:DK):Prop:=d.ds.ok
def DK.bR.ok(h:d.bR):d.Ok:=⟨h.fits,h.room⟩
def M7(L:List (Nat×Nat)):jY L=DA.re L:=by
 rfl
def Ca{w:aa}{a:ab}(h:(Y.dk g a d).P w):DA.eQ w 0 g a d.ds:=⟨h.1,bf _,by have b:w.ownsRow 0 169 2 a d.a.length (jY d.a):=h.2.1;rw[M7] at b;exact b⟩
def TU{w f:aa}{e b:ab}{c:DK}(h:(Y.dk g e d).P w)(i:DA.eQ f 0 g b c.ds)(m:aW w.heap.size [g] w f)(n:b.ownBlock=e.ownBlock\/b.ownBlock=none):bk (Y.dk g e d) w f (Y.dk g b c):=by
 have j:∀k∈b.ownBlock.toList,k∈e.ownBlock.toList:=by grind
 refine⟨m.mono (aQ _) (λ k _ a=>oB _ a),⟨i.a,?_,λ k a l=>h.2.2 k a (j k l)⟩,λ k a=> .inl ?_⟩
 ·show f.ownsRow 0 169 2 b c.a.length (jY c.a);rw[M7];exact i.own
 ·rcases eB.1 a with a|a
  ·exact oB _ a
  ·exact rT _ (j k a)
def DK.MN(d:DK):Nat:=if 0<jQ d.a then 7 else 0
def DK.cd(d:DK):DK:=if 0<jQ d.a then d else{d with f0:=d.f1,f1:=d.f0}
def DK.tG(d:DK)(f n:Nat):Nat:=if(d.file f).size<n then 1 else if 0<jQ d.a then 7 else 0
def DK.trim(d:DK)(f n:Nat):DK:=if(d.file f).size<n then d else if 0<jQ d.a then d else d.jk f ((d.file f).extract 0 n)
def DK.gB(d:DK)(a:Int):DK:=DK.of (DA.kD d.ds d.a (DA.stays d.a a)).sync
def Hi{w:aa}{j:ab}(h:(Y.dk g j d).P w)(hd:d.bR)(f:Nat)(i:f<2)(n:Nat):Calls prog 161 #[pV g,O (f:Int),O (n:Int)] w λ r k=>r=ao (O (d.tG f n:Int))/\bk (Y.dk g j d) w k (Y.dk g j (d.trim f n)):=by
 have o:d.ds.file f=d.file f:=rfl;unfold DK.tG DK.trim;by_cases c:(d.file f).size<n
 ·rw[au c,au c];refine KQ (DA.aaK (Ca h) hd f i n (.inr (by grind))) ?_;exact⟨rfl,bk.stay h (bp _ _)⟩
 ·rw[ar c,ar c];by_cases b:0<jQ d.a
  ·rw[au b,au b];refine(DA.aaN (Ca h) hd f i n (by grind) b).mono ?_;rintro e k ⟨rfl,l⟩;exact⟨rfl,bk.stay h l⟩
  ·rw[ar b,ar b];refine(DA.aaO (Ca h) hd f i n (by grind) (Nat.eq_zero_of_not_pos b)).mono ?_;rintro e k ⟨rfl,p,m⟩;refine⟨rfl,TU h ?_ m (.inl rfl)⟩;have e:(d.jk f ((d.file f).extract 0 n)).ds=d.ds.trim f n:=by
    unfold DK.jk DA.DS.trim DK.file;by_cases a:f=0
    ·rw[au a,au a,au a];rfl
    ·rw[ar a,ar a,ar a];rfl
   grind
def xF(s:af)(h:s.size<18446744073709551616):(eT s).size<=10+s.size:=by
 rw[eT,gX];have:=zM h;have e:(⟨(bU s.size).toArray⟩:af).size=(bU s.size).length:=by rfl
 omega
def xK(s:af):af:=strOfNums (rA (CrcM.on 0 s.data.toList))
def P0(s:af):(xK s).size=4:=rfl
def bF(s:af):af:=if s.size=0\/4096<s.size then⟨#[]⟩ else eT s++xK s
def Sq{s:af}(h:s.size=0\/4096<s.size):bF s=⟨#[]⟩:=by rw[bF,au h]
def Ss{s:af}(a:¬s.size=0)(h1:¬4096<s.size):bF s=eT s++xK s:=by rw[bF,ar W]
def Q1:(⟨#[]⟩:af).size=0:=rfl
def Iz(s:af):(bF s).size<=4110/\((bF s).size=0↔(s.size=0\/4096<s.size))/\((bF s).size=0\/s.size+5<=(bF s).size/\(bF s).size<=s.size+14):=by
 by_cases h:s.size=0\/4096<s.size
 ·rw[Sq h,Q1];omega
 ·rw[Ss W W,gX,P0];have a:=xF s W;have b:s.size+1<=(eT s).size:=by
   rw[eT,gX];have:=abN s.size;have e:(⟨(bU s.size).toArray⟩:af).size=(bU s.size).length:=oD ..;omega
  omega
def gP(t:af):af:=(⟨t,0⟩:RD).oU 4096
def kA(t:af):Prop:=¬(bF (gP t)).size=0/\(bF (gP t)).size<=t.size/\t.extract 0 (bF (gP t)).size=bF (gP t)
instance(t:af):Decidable (kA t):=inferInstanceAs (Decidable (¬(bF (gP t)).size=0/\(bF (gP t)).size<=t.size/\t.extract 0 (bF (gP t)).size=bF (gP t)))
def fE(t:af):af:=if kA t then gP t else⟨#[]⟩
def Is{t:af}(h:kA t):fE t=gP t:=by rw[fE,au h]
def Ir{t:af}(h:¬kA t):fE t=⟨#[]⟩:=by rw[fE,ar h]
def Sr{s:af}(h:¬(bF s).size=0):¬s.size=0:=λ a=>h ((Iz s).2.1.2 (.inl a))
def R8{t:af}(h:¬(fE t).size=0):kA t/\0<(bF (fE t)).size/\(bF (fE t)).size<=t.size:=by
 by_cases a:kA t
 ·rw[Is a] at h⊢;exact⟨a,by have:=a.1;omega,a.2.1⟩
 ·rw[Ir a] at h;exact absurd rfl h
def R9{t:af}:(fE t).size=0↔¬kA t:=by
 constructor
 ·intro h a;rw[Is a] at h;exact Sr a.1 h
 ·intro h;rw[Ir h];rfl
def tv(s:af):Nat->List af->Nat->List af×Nat
 |0,l,a=>(l,a)
 |n+1,l,a=>if(fE (s.extract a s.size)).size=0 then(l,a) else tv s n (l++[fE (s.extract a s.size)]) (a+(bF (fE (s.extract a s.size))).size)
def Lh{s:af}{l:List af}(n:Nat)(h:(fE (s.extract g s.size)).size=0):tv s (n+1) l g=(l,g):=au h
def Yc{s:af}{l:List af}(n:Nat)(h:¬(fE (s.extract g s.size)).size=0):
 tv s (n+1) l g=tv s n (l++[fE (s.extract g s.size)]) (g+(bF (fE (s.extract g s.size))).size):=ar h
def Sa{s:af}(h:¬(fE (s.extract g s.size)).size=0):0<(bF (fE (s.extract g s.size))).size/\g+(bF (fE (s.extract g s.size))).size<=s.size/\g<s.size:=by
 obtain⟨_,b,a⟩:=R8 h;rw[ib] at a;omega
def pG(s:af)(l:List af)(a:Nat):List af×Nat:=tv s (s.size-a+1) l a
def Yb{s:af}{l:List af}(h:(fE (s.extract g s.size)).size=0):pG s l g=(l,g):=Lh _ h
def ep:List af->af
 |[]=>⟨#[]⟩
 |s::l=>bF s++ep l
def eb(l:List af):Prop:=∀s∈l,¬(bF s).size=0
instance(l:List af):Decidable (eb l):=inferInstanceAs (Decidable (∀s∈l,¬(bF s).size=0))
section
open TreeM
structure JN where
 l:List af
 sure:Nat
 cut:Bool
def DK.sync(d:DK):DK:={d with a:=[]}
def nL(d:DK):List af×Nat:=pG d.f0 [] 0
def gg(d:DK):JN:=⟨(nL d).1,(nL d).1.length,false⟩
def iD(d:DK):DK:=((d.sync.trim 0 (nL d).2).trim 1 0)
def du(j:JN)(d:DK)(s:af):Nat:=if j.cut=true then 7 else if(bF s).size=0 then 1 else d.dH (bF s)
def km(j:JN)(d:DK)(s:af):JN:=if du j d s=0 then⟨j.l++[s],j.l.length+1,j.cut⟩ else j
def kn(j:JN)(d:DK)(s:af):DK:=if du j d s=0 then(d.put 0 (bF s)).sync else d
def lv(j:JN)(d:DK)(l:List af)(n:Nat):Nat:=
 if j.cut=true\/j.sure<j.l.length then 7 else if¬eb l then 1 else if n=0 then 7 else if¬d.dH (ep l)=0 then d.dH (ep l) else if n<4 then 7 else 0
def ko(j:JN)(d:DK)(l:List af)(n:Nat):JN:=
 if j.cut=true\/j.sure<j.l.length then j else if¬eb l then j else if n=0 then⟨j.l,j.sure,true⟩ else if¬d.dH (ep l)=0 then j else if n<4 then⟨j.l,j.sure,true⟩ else⟨l,l.length,j.cut⟩
def kp(j:JN)(d:DK)(l:List af)(n:Nat):DK:=
 if j.cut=true\/j.sure<j.l.length then d else if¬eb l then d else if n=0 then d else if¬d.dH (ep l)=0 then d else
 if n=1 then d.put 1 (ep l) else if n=2 then(d.put 1 (ep l)).sync else if n=3 then(d.put 1 (ep l)).sync.cd else((d.put 1 (ep l)).sync.cd).trim 1 0
structure CF where
 key:af
 cj:Nat
 room:Nat
 every:Nat
 a:Nat
 rc:RC
structure RQ where
 id:Nat
 m:MG
 k:Nat
 dZ:Nat
structure ND where
 c:CF
 st:ST
 l:Nat
 next:Nat
 g:Option RQ
 j:JN
 d:DK
 id:Nat
 bX:Nat
 tell:Nat
 cd:Nat
def counts(x:Nat):Bool:=decide (x=1)||(decide (x=3)||(decide (x=4)||decide (x=5)))
def ct(c:CF)(s:ST)(m:MG):ST×Nat:=
 if m.c=3 then s.take c.key m.h c.room else if m.c=8 then s.link m.m m.n m.e else if m.c=4 then s.lay c.key m.b.enc else(s,0)
def gw(c:CF):List af->ST->Option ST
 |[],s=>some s
 |r::l,s=>match dV r with
  | .error _=>none
  | .ok m=>if m.log=0 then(if counts (ct c s m).2=true then gw c l (ct c s m).1 else none) else none
def oW(c:CF)(d:DK):Option ND:=(gw c (gg d.sync).l kG).map λ s=>⟨c,s,0,0,none,gg d.sync,iD d,1,0,0,0⟩
abbrev SD:=Int×af
def ND.dD(n:ND)(m:MG):Nat:=if counts (ct n.c n.st m).2=true then(if du n.j n.d m.enc=0 then(ct n.c n.st m).2 else 6) else(ct n.c n.st m).2
def ND.cg(n:ND)(m:MG):ND:=
 if counts (ct n.c n.st m).2=true then(if du n.j n.d m.enc=0 then{n with j:=km n.j n.d m.enc,d:=kn n.j n.d m.enc,st:=(ct n.c n.st m).1} else n) else n
def ND.iK(n:ND):ND:={n with bX:=bo n.bX 1}
def ND.aP(n:ND):List MK:=if n.st.bz=true\/¬n.st.aR=⟨#[]⟩ then [⟨0,n.st.az.size,n.st.az.aE,decide (¬n.st.aR=⟨#[]⟩)⟩] else []
def dU(s:af):BD:=match gd s with| .error _=>pT| .ok b=>b
def ND.proof(n:ND):MG:=yU (dU n.st.aR)
def Me(n:Nat):MG:={fx with c:=10,n:=n}
def ND.cz(n:ND)(a b:Nat):ND:=
 match n.g with
 |none=>n
 |some r=>if r.dZ<=a then(if n.c.rc.i<=r.k then{n with g:=none,l:=bo n.l 1} else{n with g:=some {r with k:=r.k+1,dZ:=bo a (lL n.c.rc r.k b)}}) else n
def ND.hJ(n:ND)(a b:Nat):List SD:=
 match n.g with
 |none=>[]
 |some r=>if r.dZ<=a then(if n.c.rc.i<=r.k then [(-2,(Me (bo n.l 1)).enc)] else [(-1,r.m.enc)]) else []
def ki(id:Nat):MG:={fx with c:=5,id:=id}
def uO(id a b:Nat):MG:={fx with c:=6,id:=id,m:=a,n:=b}
def ND.mi(n:ND)(a:Nat):Option MG:=
 if n.g.isSome=true\/¬n.st.aR=⟨#[]⟩ then none else
 match n.st.iE with
 |some p=>some (uO n.id p.1 p.2)
 |none=>if n.next<=a then some (ki n.id) else none
def ND.eS(n:ND)(a b:Nat):ND:=
 match n.mi a with
 |none=>n
 |some m=>{n with next:=if m.c=5 then bo a n.c.every else n.next,g:=some ⟨n.id,m,1,bo a (lL n.c.rc 0 b)⟩,id:=n.id+1}
def ND.kh(n:ND)(a:Nat):List SD:=match n.mi a with|none=>[]|some m=>[(-1,m.enc)]
def sE(L:List MK):MG:={fx with c:=1,aP:=L}
def sq(L:List MK):MG:={fx with c:=2,aP:=L}
def pb(h:HD):MG:={fx with c:=3,h:=h}
def Pg:MG:={fx with c:=9}
def ND.kC(n:ND)(a b:Nat):ND:=
 let c:=(n.cz a b).eS a b
 if n.c.cj=0\/a<n.tell then c else{c with cd:=(n.cd+1)%n.c.cj,tell:=bo a n.c.a}
def ND.kB(n:ND)(a b:Nat):List SD:=
 n.hJ a b++((n.cz a b).kh a++(if n.c.cj=0\/a<n.tell then [] else [((n.cd:Int),(sE n.aP).enc)]))
def fG:List MK->MK
 |[]=>⟨0,0,⟨#[]⟩,false⟩
 |k::l=>if k.log=0 then k else fG l
def behind(s:ST)(k:MK):Bool:=
 if s.aR=⟨#[]⟩ then k.aR||(decide (s.az.size<k.size)||(decide (0<k.size)&&(decide (k.size=s.az.size)&& !decide (k.aE=s.az.aE)))) else false
def qA(s:ST)(k:MK):Bool:=
 decide (k.size<s.az.size)||((decide (s.az.size=k.size)&& !decide (s.az.aE=k.aE))||s.f.any λ h=>decide (h.size=k.size)&&decide (h.aE=k.aE))
def ND.uW(n:ND)(a:Int)(m:MG):List SD:=
 let k:=fG m.aP
 (if¬n.st.aR=⟨#[]⟩ then(if k.aR=true then [] else [(a,n.proof.enc)]) else if k.aR=false/\n.st.bz=true/\qA n.st k=true then [(a,(pb n.st.az).enc)] else [])
 ++(if m.c=1/\behind n.st k=true then [(a,(sq n.aP).enc)] else [])
def ND.pf(n:ND)(m:MG):ND:=if n.dD m=7 then(n.cg m).iK else n.cg m
def ND.pe(n:ND)(a:Int)(m:MG):List SD:=
 if n.dD m=6 then [(a,Pg.enc)] else if n.dD m=5\/n.dD m=9 then [(a,(n.cg m).proof.enc)] else []
def ND.ts(n:ND)(m:MG):ND:=if n.dD m=7 then(n.cg m).iK else n.cg m
def rz(n:ND)(a:Int)(s:af):Option MG:=
 match dV s with
 | .error _=>none
 | .ok m=>if 0<=a/\a<n.c.cj/\m.log=0/\(m.c=1\/m.c=2\/m.c=3\/m.c=4\/m.c=9) then some m else none
def ND.lD(n:ND)(a:Int)(s:af):ND:=
 match rz n a s with
 |none=>n.iK
 |some m=>if m.c=3 then n.pf m else if m.c=4 then n.ts m else n
def ND.hQ(n:ND)(a:Int)(s:af):List SD:=
 match rz n a s with
 |none=>[]
 |some m=>if m.c=3 then n.pe a m else if m.c=1\/m.c=2 then n.uW a m else []
def answers(n:ND)(m:MG):Bool:=
 match n.g with
 |none=>false
 |some r=>decide (m.log=0)&&(decide (m.id=r.m.id)&&((decide (r.m.c=5)&&decide (m.c=7))||(decide (r.m.c=6)&&(decide (m.c=8)&&(decide (r.m.m=m.m)&&decide (r.m.n=m.n))))))
def kept(m:MG):MG:={m with c:=if m.c=7 then 3 else m.c,id:=0}
def ND.ly(n:ND)(s:af):ND:=
 match dV s with
 | .error _=>n.iK
 | .ok m=>if answers n m=true then(let a:ND:={n with g:=none};if a.dD (kept m)=7 then(a.cg (kept m)).iK else a.cg (kept m)) else n.iK
def ND.jU(n:ND):List af:=
 (if n.st.bz=true then [(pb n.st.az).enc] else [])++((n.st.f.map λ h=>(pb h).enc)++(if n.st.aR=⟨#[]⟩ then [] else [n.proof.enc]))
def ND.D3(n:ND)(k:Nat):ND:={n with j:=ko n.j n.d n.jU k,d:=kp n.j n.d n.jU k}
def mB(k:KY)(a:List af)(b:Nat):HD:=if a.length=0 then fw else(kq k a.length b (aE a)).getD fw
def Gy(k:KY)(a:List af)(c:Nat)(m:MG):MG:=
 if m.c=5 then{fx with c:=7,log:=m.log,id:=m.id,h:=mB k a c}
 else if a.length<m.n then fx else{m with c:=8,e:=O4 (m.m:Int) (a.take m.n)}
def jF(k:KY)(b:List af)(a:Nat)(s:af):af:=
 match dV s with
 | .error _=>⟨#[]⟩
 | .ok m=>if m.c=5\/m.c=6 then(Gy k b a m).enc else⟨#[]⟩
structure PL where
 n:ND
 a:List af
structure PK where
 src:Int
 dst:Int
 s:af
structure ME where
 k:KY
 c:CF
 l:List PL
 b:List PK
 now:Nat
structure AC where
 c:Int
 a:Int
 b:Int
 n:Nat
 s:af
def ME.put(m:ME)(p:PK):ME:=if 64<=m.b.length then m else{m with b:=m.b++[p]}
def ME.dH(m:ME):Nat:=if 64<=m.b.length then 8 else 0
def ME.fJ(i:Nat)(m:ME)(x:SD):ME:=if(i:Int)<=x.1 then m.put ⟨i,x.1+1,x.2⟩ else if x.1< -1 then m else m.put ⟨i,x.1,x.2⟩
def ME.send(m:ME)(i:Nat)(l:List SD):ME:=l.foldl (ME.fJ i) m
def ME.fU(m:ME)(i:Nat)(n:ND):ME:=match m.l[i]? with|none=>m|some p=>{m with l:=m.l.set i {p with n:=n}}
def ME.bz(m:ME)(i:Int):Bool:=decide (0<=i)&&decide (i<m.l.length)
def ME.tick(m:ME)(i:Nat)(a b:Nat):ME:=
 match m.l[i]? with
 |none=>m
 |some p=>(({m with now:=a}:ME).fU i (p.n.kC a b)).send i (p.n.kB a b)
def ME.peer(m:ME)(i:Nat)(a:Int)(s:af):ME:=match m.l[i]? with|none=>m|some p=>(m.fU i (p.n.lD a s)).send i (p.n.hQ a s)
def ME.log(m:ME)(i:Nat)(s:af):ME:=match m.l[i]? with|none=>m|some p=>m.fU i (p.n.ly s)
def ME.fi(m:ME)(p:PK):ME:=
 if p.dst= -1 then(match m.l[p.src.toNat]? with|none=>m|some q=>if jF m.k q.a m.now p.s=⟨#[]⟩ then m else m.put ⟨-1,p.src,jF m.k q.a m.now p.s⟩)
 else if p.src= -1 then m.log p.dst.toNat p.s
 else m.peer p.dst.toNat (if p.dst<p.src then p.src-1 else p.src) p.s
def ME.rk(m:ME)(a:Int):Nat:=if m.b.length=0 then 5 else if a=3 then m.dH else 0
def ME.bS(m:ME)(b a:Int):ME:=
 match m.b[(a.toNat%m.b.length)]? with
 |none=>m
 |some p=>if b=3 then m.put p else
  let m1:ME:={m with b:=m.b.eraseIdx (a.toNat%m.b.length)}
  if b=4 then m1.put p else if b=1 then m1.fi p else m1
def fP(s:af):af:=s.extract 0 (min s.size 40)
def ME.po(m:ME)(i:Int)(j:Nat):Bool:=if m.bz i=true then decide (i=j) else true
def ME.pn(m:ME)(i:Int):Bool:=(List.range m.l.length).any λ j=>m.po i j&&decide (12<=(m.l.map λ p=>p.a.length).getD j 0)
def ME.leaf(m:ME)(i:Int)(s:af):ME:=
 if m.pn i=true then m else{m with l:=m.l.mapIdx λ j p=>if m.po i j=true then{p with a:=p.a++[fP s]} else p}
def ME.gB(m:ME)(i:Nat)(a:Nat):ME:=
 match m.l[i]? with
 |none=>m
 |some p=>m.fU i (match oW m.c (p.n.d.gB a) with|some n=>n|none=>{p.n with d:=iD (p.n.d.gB a)})
def ME.renew(m:ME)(i k:Nat):ME:=match m.l[i]? with|none=>m|some p=>m.fU i (p.n.D3 k)
def ME.feed(m:ME)(i:Nat)(b:Int)(s:af):ME:=if b<(m.l.length:Int)-1 then m.peer i b s else m.log i s
def AC.right(a:AC):Bool:=decide (0<=a.c)&&(decide (a.c<9)&&(decide (0<=a.a)&&(decide (a.a<=255)&&(decide (0<=a.b)&&(decide (a.b<=255)&&(decide (a.n<=4294967296)&&decide (a.s.size<=4096)))))))
def ME.act(m:ME)(a:AC):ME:=
 if a.right=true then
  if a.c=0 then(if m.bz a.a=true then m.tick a.a.toNat ((m.now+(1+a.n%8))%18446744073709551616) a.n else m)
  else if a.c=5 then m.leaf a.a a.s
  else if a.c=6 then(if m.bz a.a=true then m.gB a.a.toNat a.n else m)
  else if a.c=7 then(if m.bz a.a=true then m.renew a.a.toNat (a.n%6) else m)
  else if a.c=8 then(if m.bz a.a=true then m.feed a.a.toNat a.b a.s else m)
  else m.bS a.c a.a
 else m
def ME.eN:Nat->ME->ME
 |0,m=>m
 |f+1,m=>if m.b.length=0 then m else ME.eN f (m.bS 1 0)
def ME.jn:List Nat->ME->ME
 |[],m=>m
 |i::l,m=>ME.jn l (m.tick i (bo m.now m.c.a) 0)
def ME.round(m:ME):ME:=ME.eN 200 (ME.jn (List.range m.l.length) m)
def mD(c:CF)(a:Nat):ND:=⟨c,kG,0,0,none,⟨[],0,false⟩,⟨⟨#[]⟩,⟨#[]⟩,[],a⟩,1,0,0,0⟩
def iF(a:af)(c:CF):ME:=⟨bC a,c,[⟨mD c 100000,[]⟩,⟨mD c 100000,[]⟩],[],0⟩
def Kt:RC:=⟨2,8,0,3,2⟩
def jj(a:af):CF:=⟨a,1,4,1,3,Kt⟩
end
section
open PT
def Sb{w:aa}(I:cq w)(f m d:af)(a4:d.size=64)(a3:f.size+m.size<=900000):CB 51 #[aG #[ad f,ad m,ad d]] w (aK (nI f m d)):=by
 have b:=Z (ae.start w []);have hd:=λ l=>Kj f l;unfold kK at hd;have p:nI f m d=match cD f with|none=>false|some a=>decide (hK (ga (fR dO (d.extract 32 64)) (fR (tb a) (gE (d.extract 0 32) f m)))=d.extract 0 32):=rfl
 have h32:(d.extract 0 32).size=32:=by rw[ib];omega
 have L:=λ(l:aa) (j:BW w l)=>JI (I.below j) (d.extract 0 32) f m W;cases t:cD f with
 |none=>
  rw[t] at hd p;have c:nI f m d=false:=p;rw[c];have HD:=Z hd
  go_enter func51,ntmps51
  go_upto_region 1 with(refine KB b 106 1 _ λ F h J b=>?_)
  go_wp2_with(first|refine Kl b ?_|refine KA b _ 3 FH λ G h K b=>?_|refine A5 b.U 0 rfl rfl 92 65 rfl rfl n rfl o ot V r λ h g=>?_;simp only[av] at g;replace b:=Z g|go_at_call 101;(refine(HD.U _).mono ?_);rintro e X ⟨⟨T,rfl,k⟩,j⟩;obtain⟨n,rfl,o,r⟩:=k.row;have s:=Z k;replace b:=Z (b.U.below j))
  go_ret
  exact⟨rfl,b.U.aq⟩
 |some q=>
  rw[t] at hd p;have HD:=Z hd;have y:=Z p;have z:=Z L
  go_enter func51,ntmps51
  go_upto_region 1 with(refine KB b 106 1 _ λ F h J b=>?_)
  go_upto_region 4 with(first|refine Kl b ?_|refine KA b _ 3 FH λ G h K b=>?_|refine A5 b.U 0 rfl rfl 92 65 rfl rfl n rfl o ot V r λ h g=>?_;simp only[av] at g;replace b:=Z g|go_at_call 101;(refine(HD.U _).mono ?_);rintro e X ⟨⟨T,rfl,k⟩,j⟩;obtain⟨n,rfl,o,r⟩:=k.row;have s:=Z k;replace b:=Z (b.U.below j))
  refine RG b 7 [1] λ a0 b c=>?_;refine VV [0,2001] c ?_;refine W2 2 18 (v:=ad (d.extract 0 32)) rfl rfl (Or.inl ⟨by kernel_rfl,λ l H=>by go_simp⟩) c ?_;refine VV [3,2004] c ?_;refine W2 5 21 (v:=ad (d.extract 32 64)) rfl rfl (Or.inl ⟨by kernel_rfl,λ l H=>by go_simp;(done)⟩) c ?_;refine VV [6] c ?_;refine WT ?_
  go_wp2
  refine RG b 14 [1,0] λ a0 b c=>?_;refine VV [1] c ?_;refine W2 3 25 (v:=aG n) rfl rfl (YA V 1 rfl 92 65 rfl rfl V o) c ?_;refine VV [5,6,2007,8,2009] c ?_;repeat' first
   |refine T2 0 13 ?_ ?_|refine T2 2 13 ?_ ?_|refine T2 4 13 ?_ ?_|refine T2 10 13 ?_ ?_|refine T2 11 13 ?_ ?_|refine T2 12 13 ?_ ?_
   |refine T1 2 ?_|refine T1 4 ?_|refine T1 10 ?_|refine T1 11 ?_|refine T1 12 ?_|refine T1 13 ?_|refine T1 0 ?_
   |refine um b c (en 35) (DF _) λ a5 i N b c=>?_;have A:=Z N
   |refine um b c (en 36) (yQ A.U _ _) λ a7 i Q b c=>?_;have C:=Z Q
   |refine um b c (en 119) (Xa s.U _) λ a8 i R b c=>?_;have D:=Z R.p
   |refine lQ b c (en 44) (z.U _ b.U.aq) λ i b c=>?_
   |refine um b c (en 36) (yQ D.U _ _) λ a6 i P b c=>?_;have B:=Z P
   |refine um b c (en 103) (DE C.U B.U _) λ a9 i x b c=>?_;obtain⟨S,rfl,u,M⟩:=x.p.row;have E:=Z x.p
   |refine Nv b c FH λ a1 h a2 b c=>?_
  all_goals
   refine WT ?_
   go_wp2_with(first|(refine A5 b.U 0 rfl rfl 92 65 rfl rfl S rfl u ot V M λ h g=>?_;simp only[av] at g;replace b:=Z g)|(refine Nk b.U 0 rfl rfl 92 65 rfl rfl V u ?_)|(go_at_call 37;refine KC b (DG E.U _) λ i b=>?_))
   go_ret
   exact⟨by rw[y.U,<-rE];rfl,b.U.aq⟩
end
section
open PT
def TA(f g h:ab)(w:aa):(Instr.index 107 (aG #[f,g,h]) (O 0)).run prog w= .ok f w:=by kernel_rfl
def TB(f g h:ab)(w:aa):(Instr.index 107 (aG #[f,g,h]) (O 1)).run prog w= .ok g w:=by kernel_rfl
def TC(f g h:ab)(w:aa):(Instr.index 107 (aG #[f,g,h]) (O 2)).run prog w= .ok h w:=by kernel_rfl
def Fh{w:aa}(A:cq w)(d m b:af)(B:d.size+m.size<=900000):CB 15 #[ad d,ad m,ad b] w (aK (hZ d m b)):=by
 have a:=Z (ae.start w []);have v:=Z A
 go_enter func15,ntmps15
 go_upto_region 2 with(first|refine KS a λ D a=>?_|refine KA a _ 7 acb λ E D F a=>?_)
 go_wp2_with(refine KT a 3 ?_)
 go_loopw [21] (λ c wr=>∃k:Nat,k<=3/\c=O (k:Int)/\ae w wr [] []/\(0<k->b.size=64)/\(1<k->hY (b.extract 32 64)=true)/\(2<k->nI d m b=true)) (λ c _=>3-(intOf c).toNat)
 case atStart=>exact⟨0,by omega,rfl,a.U.tail,by omega,by omega,by omega⟩
 case round=>
  obtain⟨k,G,rfl,C,r,t,x⟩:=hrel;have a:=Z C;have j:hZ d m b=(decide (b.size=64)&&(hY (b.extract 32 64)&&nI d m b)):=rfl;rcases k with _|_|_|_|k
  ·have y:=λ f g h e=>TA f g h e;by_cases l:b.size=64
   ·have c:=λ e=>Jm d m b e;rw[aT l] at c;have i:=Z c;have p:=Z l
    go_wp2_with(go_at_call 49;refine KC a (i.U _) λ q a=>?_)
    exact⟨⟨1,by omega,rfl,a.U,λ _=>(by first|exact p.U|trivial),by omega,by omega⟩,by simp[intOf]⟩
   ·have c:=λ e=>Jm d m b e;rw[bm l] at c j;have i:=Z c;have n:ai (hZ d m b=false):=Z (by rw[j];simp)
    go_wp2_with(go_at_call 49;refine KC a (i.U _) λ q a=>?_)
    go_ret
    exact⟨by rw[n.U];rfl,a.U.aq⟩
  ·have l:=r W;have y:=λ f g h e=>TB f g h e;have c:=λ(e:aa) (u:BW w e)=>wm (v.U.below u) d m b l;have p:=Z l;rw[aT l] at j;cases o:hY (b.extract 32 64) with
   |true=>
    rw[o] at c;have i:=Z c;have s:=Z o
    go_wp2_with(go_at_call 50;refine KC a (i.U _ a.U.aq) λ q a=>?_)
    exact⟨⟨2,by omega,rfl,a.U,λ _=>(by first|exact p.U|trivial),λ _=>(by first|exact s.U|trivial),by omega⟩,by simp[intOf]⟩
   |false=>
    rw[o] at c j;have i:=Z c;have n:ai (hZ d m b=false):=Z (by rw[j];simp)
    go_wp2_with(go_at_call 50;refine KC a (i.U _ a.U.aq) λ q a=>?_)
    go_ret
    exact⟨by rw[n.U];rfl,a.U.aq⟩
  ·have l:=r W;have z:=t W;have y:=λ f g h e=>TC f g h e;have c:=λ(e:aa) (u:BW w e)=>Sb (v.U.below u) d m b l B;have p:=Z l;have s:=Z z;rw[aT l,z] at j;cases o:nI d m b with
   |true=>
    rw[o] at c;have i:=Z c;have e:=Z o
    go_wp2_with(go_at_call 51;refine KC a (i.U _ a.U.aq) λ q a=>?_)
    exact⟨⟨3,by omega,rfl,a.U,λ _=>(by first|exact p.U|trivial),λ _=>(by first|exact s.U|trivial),λ _=>(by first|exact e.U|trivial)⟩,by simp[intOf]⟩
   |false=>
    rw[o] at c j;have i:=Z c;have n:ai (hZ d m b=false):=Z (by rw[j];simp)
    go_wp2_with(go_at_call 51;refine KC a (i.U _ a.U.aq) λ q a=>?_)
    go_ret
    exact⟨by rw[n.U];rfl,a.U.aq⟩
  ·rw[r W,t W,x W] at j;have n:ai (hZ d m b=true):=Z j;clear r t x j
   go_wp2
   go_ret
   exact⟨by rw[n.U];rfl,a.U.aq⟩
  ·omega
end
def HD.MD(h:HD):h.text.size=19+h.aE.size:=by
 unfold HD.text;simp only[gX];have:∀n,(fp n).size=8:=λ n=>rfl;rw[this,this];show 3+8+8+h.aE.size=_;omega
def vp{w:aa}(j:cq w)(c:af)(h:HD)(r:c.size<=800000):CB 143 #[ad c,h.val] w (aK (h.check c)):=by
 have a:=Z (ae.start w []);have e:h.check c=(h.right&&hZ c h.text h.a):=rfl;have f:=λ b=>vq h b;cases d:h.right
 focus
  rw[d] at f e;have k:=Z f;have g:ai (h.check c=false):=Z (by rw[e];rfl);clear f e d j
 rotate_left;focus
  rw[d] at f e;have q:h.aE.size=32:=(mx d).2.2.2.1;have l:h.Ok:=⟨by have:=(mx d).2.1;omega,by have:=(mx d).2.2.1;omega⟩;have m:=λ b=>IQ h l W b;have n:=λ(b:aa) (o:BW w b)=>Fh (j.below o) c h.text h.a (by rw[HD.MD];omega);have k:=Z f;have p:=Z m;have o:=Z n;have g:ai (h.check c=hZ c h.text h.a):=Z (by rw[e];simp);generalize hZ c h.text h.a=b at*;generalize h.text=s at*;clear f e d m j n q l
 rotate_left;all_goals
  go_enter func143,ntmps143
  go_upto_region 1 with((refine KB a 59 3 (h.cells) λ e l f a=>?_))
  refine RG a 10 [0] λ m a b=>?_;refine WR 0 4 b ?_;refine KW a b 1 (en 153) (k.U _) λ d a b=>?_
 ·refine VV [2,1003,1004,1005,1006,1007,1008,9] b ?_;refine WT ?_
  go_wp2
  go_ret
  exact⟨by rw[g.U];rfl,a.U.aq⟩
 ·refine VV [2,3] b ?_;refine WR 4 4 b ?_;refine VV [6,2007] b ?_;refine ay.xJ (i:=5) V zD rfl V 10 rfl rfl 213 rfl (en 213) _ rfl ?_;refine KC a (p.U _) λ d a=>?_;refine⟨_,rfl,bI a [0],?_⟩;simp only[aS,av,ax];refine ay.xJ (i:=8) V zD rfl V 13 rfl rfl 15 rfl (en 15) _ rfl ?_;refine KC a (o.U _ a.U.aq) λ d a=>?_;refine⟨_,rfl,bI a [0],?_⟩;simp only[aS,av,ax];have b:=bI a [0];refine VV [9] b ?_;refine WT ?_
  go_wp2
  go_ret
  exact⟨by rw[g.U];rfl,a.U.aq⟩
def SP{w:aa}(r:cq w)(k:KY)(s:k.Ok)(size b:Nat)(v:size<18446744073709551616)(y:b<18446744073709551616)(aE:af)(F:aE.size=32):Calls prog 297 #[aG #[ad k.a,ad k.pre,ad k.pub],U (size:Int),U (b:Int),ad aE] w λ e a=>
 (match kq k size b aE with|some h=>e=ao (aM #[h.val,O 0])|none=>e=ao (aM #[fw.val,O 1]))/\BW w a:=by
 have a:=Z (ae.start w [])
 have x:=λ c=>IQ ⟨size,b,aE,⟨#[]⟩⟩ ⟨v,y⟩ (by show aE.size<=_;omega) c
 have G:(HD.text ⟨size,b,aE,⟨#[]⟩⟩).size=51:=by rw[HD.MD];show 19+aE.size=51;omega
 have e:kq k size b aE=if(⟨size,b,aE,k.sign (HD.text ⟨size,b,aE,⟨#[]⟩⟩)⟩:HD).right=true then some ⟨size,b,aE,k.sign (HD.text ⟨size,b,aE,⟨#[]⟩⟩)⟩ else none:=rfl
 generalize HD.text ⟨size,b,aE,⟨#[]⟩⟩=m at*
 have u:=λ(c:aa) (d:BW w c)=>L5 (r.below d) k s m W
 generalize k.sign m=f at*
 have h:=λ c=>vq ⟨size,b,aE,f⟩ c
 have q:=Z x;have o:=Z u
 obtain⟨i,j,l⟩:=k
 simp only at*
 cases t:(⟨size,b,aE,f⟩:HD).right
 all_goals
  rw[t] at h e
  first|have g:kq ⟨i,j,l⟩ size b aE=none:=e|have g:kq ⟨i,j,l⟩ size b aE=some ⟨size,b,aE,f⟩:=e
  rw[g]
  have p:=Z h
  go_enter func297,ntmps297
  go_upto_region 2 with(first|refine KS a λ d a=>?_|refine KA a _ 8 oo λ B d E a=>?_|refine KA a _ 10 oo λ z d C a=>?_|refine KB a 23 4 _ λ A d D a=>?_)
  refine RG a 4 [2,0] λ H a c=>?_
  refine WR 0 3 c ?_
  refine WR 1 4 c ?_
  refine KW a c 2 (en 213) (q.U _) λ n a c=>?_
  refine KW a c 3 (en 7) (o.U _ a.U.aq) λ n a c=>?_
  refine WT ?_
  go_wp2_with(first|refine KT a 4 ?_|refine KS a λ d a=>?_|go_at_call 153;refine KC a (p.U _) λ n a=>?_)
  refine fb a.U 1 rfl 59 4 rfl rfl rfl V rfl rfl ?_
  exact⟨rfl,a.U.aq⟩
def A7(s:ST)(a:af)(h:HD):Prop:=s.aR=⟨#[]⟩/\h.check a=true/\(s.bz=true->s.az.size=h.size/\(s.az.aE=h.aE\/(gz s.az h []).isSome=true))
instance(s:ST)(a:af)(h:HD):Decidable (A7 s a h):=by unfold A7;infer_instance
def mY(n:ND)(y:MG):Prop:=(y.c=3/\A7 n.st n.c.key y.h/\du n.j n.d y.enc=0)\/(y.c=4/\¬n.st.aR=⟨#[]⟩)
instance(n:ND)(y:MG):Decidable (mY n y):=by unfold mY;infer_instance
def ur(n:ND)(y:MG):Prop:=y.log=0/\(dU n.st.aR).a.size=(dU n.st.aR).b.size/\(y.c=1\/y.c=2\/mY n y)
instance(n:ND)(y:MG):Decidable (ur n y):=by unfold ur;infer_instance
def ug(n:ND)(y:MG):Prop:=answers n y=true/\y.c=7/\mY n (kept y)
instance(n:ND)(y:MG):Decidable (ug n y):=by unfold ug;infer_instance
def tP(p q:PL)(x:PK)(y:MG):Prop:=(x.dst= -1/\y.c=5)\/(x.src= -1/\x.dst=0/\ug p.n y)\/(x.src= -1/\x.dst=1/\ug q.n y)\/(x.src=1/\x.dst=0/\ur p.n y)\/(x.src=0/\x.dst=1/\ur q.n y)
instance(p q:PL)(x:PK)(y:MG):Decidable (tP p q x y):=by unfold tP;infer_instance
def dG(m:ME):Bool:=match m.l,m.b with
 |[p,q],x::_=>(match dV x.s with| .ok y=>decide (y.b.a.size=y.b.b.size/\tP p q x y)| .error _=>false)
 |_,_=>false
def W8{k:KY}{c:CF}{p q:PL}{x:PK}{l:List PK}(h:dG ⟨k,c,[p,q],x::l,g⟩=true):∃y,dV x.s= .ok y/\y.b.a.size=y.b.b.size/\tP p q x y:=by
 unfold dG at h;dsimp only at h;split at h
 ·rename_i y a;exact⟨y,a,iH h⟩
 ·cases h
def wL(a s:af):Prop:=∃b,gd s= .ok b/\b.bX=true/\b.a.size=b.b.size/\b.a.check a=true/\b.b.check a=true
inductive oH:ME->Prop
 |nil {m:ME}:m.b.length=0->oH m
 |step {m:ME}:dG m=true->oH (m.bS 1 0)->oH m
abbrev sf(n:ND)(a:Nat):Prop:=n.g.isNone=true/\n.st.f.length=0/\¬a<n.tell/\(n.st.aR=⟨#[]⟩->n.next<=a)
def MF(m:ME)(i:Nat):Bool:=(m.l[i]?).any λ p=>decide (sf p.n (bo m.now m.c.a))
def qq(m:ME):Prop:=MF m 0=true/\MF (m.tick 0 (bo m.now m.c.a) 0) 1=true/\oH ((m.tick 0 (bo m.now m.c.a) 0).tick 1 (bo (m.tick 0 (bo m.now m.c.a) 0).now (m.tick 0 (bo m.now m.c.a) 0).c.a) 0)
variable{H:HD}{F:List HD}{i k:Nat}{S:ST}
section
open TreeM
def ws_byte{x:WS}(a:x.e=0)(n:Nat)(b:n<=255):x.byte (n:Int)=⟨x.b++(mn (n:Int)).data.toList,0⟩:=by
 unfold WS.byte WS.put;grind
def proof_enc(h:D.bX=true)(b:D.right=true):(yU D).enc=⟨((4:UInt8)::0::uN D).toArray⟩:=by
 have a:gh (gD 4)=[108,98]:=by decide
 unfold MG.enc;rw[au (proof_right h)];show((gh (gD 4)).foldl (yU D).lE ((⟨[],0⟩:WS).byte ((4:Nat):Int))).text=_;rw[a,ws_byte rfl 4 zD];show(((⟨[]++(mn ((4:Nat):Int)).data.toList,0⟩:WS).byte ((0:Nat):Int)).lb D).text=_;rw[ws_byte rfl 0 zD,ab7 rfl b];rfl
def proof_dec(f:D.Ok)(h:D.bX=true)(c:D.right=true):dV (yU D).enc= .ok (yU D):=by
 have e:gh (gD 4)=[108,98]:=by decide
 rw[proof_enc h c];obtain⟨L,b⟩:∃L,uN D=L:=⟨_,rfl⟩;rw[b];have e1:(⟨⟨((4:UInt8)::0::L).toArray⟩,0⟩:RD).ei=4:=rfl;have e2:(⟨⟨((4:UInt8)::0::L).toArray⟩,0⟩:RD).bu 1=⟨⟨((0:UInt8)::L).toArray⟩,0⟩:=
  (DZ (y:=⟨⟨((4:UInt8)::0::L).toArray⟩,0⟩) (s:=⟨#[4]⟩) (n:=1) rfl rfl rfl).2
 have e3:(⟨⟨((0:UInt8)::L).toArray⟩,0⟩:RD).ei=0:=rfl;have e4:(⟨⟨((0:UInt8)::L).toArray⟩,0⟩:RD).bu 1=⟨⟨L.toArray⟩,0⟩:=
  (DZ (y:=⟨⟨((0:UInt8)::L).toArray⟩,0⟩) (s:=⟨#[0]⟩) (n:=1) rfl rfl rfl).2
 obtain⟨v,x⟩:=X5 (y:=⟨⟨L.toArray⟩,0⟩) (rest:=[]) f c rfl (by rw[b];simp);have d:iW 4 ⟨⟨((0:UInt8)::L).toArray⟩,0⟩=(yU D,⟨⟨[].toArray⟩,0⟩):=by
  unfold iW;rw[e];show qO (qO ({fx with c:=4},⟨⟨((0:UInt8)::L).toArray⟩,0⟩) 108) 98=_;have s1:qO ({fx with c:=4},⟨⟨((0:UInt8)::L).toArray⟩,0⟩) 108=({fx with c:=4},⟨⟨L.toArray⟩,0⟩):=by
   show(MG.qV {fx with c:=4} 108 _,RD.Cy 108 _)=_;unfold MG.qV RD.Cy;rw[au rfl,au rfl,e3,e4];rfl
  rw[s1];show(MG.qV {fx with c:=4} 98 _,RD.Cy 98 _)=_;unfold MG.qV RD.Cy;simp only[Nat.reduceEqDiff,↓reduceIte];rw[v,x];rfl
 unfold dV;rw[e1,e2,d,ar (by intro a;have:=congrArg (λ s:af=>s.data.size) a;simp at this),ar zD,au zR,au (proof_right h)]
def Wi(h:D.bX=true):D.right=true:=by
 unfold BD.bX at h;grind
def CC(d:h.right=true):h.Ok:=by
 obtain⟨a,b,c,-,-⟩:=mx d;exact⟨by omega,by omega⟩
def BC(h:D.right=true):D.Ok:=by
 obtain⟨a,b,c,d⟩:=vZ h;exact⟨CC a,CC b,by omega⟩
def Nj(a s:af):Prop:=s=⟨#[]⟩\/∃b:BD,s=b.enc/\b.bX=true/\b.a.check a=true/\b.b.check a=true
def Ri(h:¬D.right=true):D.enc=⟨#[]⟩:=by
 unfold BD.enc;grind
def Uz{a:af}(h:qI a D.enc=true):D.bX=true/\D.a.check a=true/\D.b.check a=true:=by
 by_cases b:D.right=true
 ·unfold qI at h;rw[Hj (BC b) b] at h;grind
 ·rw[Ri b] at h;have e:qI a ⟨#[]⟩=false:=rfl;grind
structure ST.Good(pub:af)(s:ST):Prop where
 az:s.bz=true->s.az.check pub=true
 f:∀h∈s.f,h.check pub=true
 aR:Nj pub s.aR
 none:s.bz=false->s.f=[]
def ack(b:af):kG.Good b:=⟨(λ h=>by cases h),(λ h a=>by cases a),.inl rfl,λ _=>rfl⟩
def G0{a:af}{c:List af}(hx:H.check a=true)(d:h.check a=true)(b:gz H h c=some D):D.bX=true/\D.a.check a=true/\D.b.check a=true:=by
 unfold gz at b;grind
def EC{d:af}{h:HD}(e:h.check d=true):∀(L:List HD) {b:BD},(∀x∈L,x.check d=true)->lH h L=some (some b)->b.bX=true/\b.a.check d=true/\b.b.check d=true
 |[],b,c,a=>by cases a
 |x::L,b,c,a=>by
  unfold lH at a
  split at a
  ·split at a
   ·cases a
   ·split at a
    ·rename_i i g
     cases a
     exact G0 (c x zS) e g
    ·exact EC e L (λ y f=>c y (by simp[f])) a
  ·exact EC e L (λ y f=>c y (by simp[f])) a
def aav{d:af}(a:S.Good d)(h:HD)(i:Nat):(S.take d h i).1.Good d:=by
 unfold ST.take;split
 ·rename_i j;split
  ·rename_i c;split
   ·rename_i e;split
    ·exact a
    ·rename_i b g;have:=EC c (S.az::S.f) (λ x hx=>by
      rcases bO.1 hx with rfl|hx
      ·exact a.az e
      ·exact a.f x hx) g
     exact⟨a.az,a.f,.inr ⟨b,rfl,this⟩,a.none⟩
    ·split
     ·exact a
     ·refine⟨a.az,λ x hx=> ?_,a.aR,λ f=>absurd e (by grind)⟩;rcases eB.1 hx with hx|hx
      ·exact a.f x (oC hx)
      ·rcases bO.1 hx with rfl|hx
       ·exact c
       ·exact a.f x (uc hx)
   ·exact⟨λ _=>c,a.f,a.aR,(λ f=>by cases f)⟩
  grind
 grind
def II(h:vk k g n F=some i):F.getD i fw∈F:=by
 induction F generalizing i with
 |nil=>cases h
 |cons x l b=>
  unfold vk at h;split at h
  ·grind
  ·cases a:vk k g n l with
   |none=>grind
   |some j=>
    grind
def UZ{c:af}(a:S.Good c)(m n:Nat)(j:List af):(S.link m n j).1.Good c:=by
 unfold ST.link;split
 ·split
  ·rename_i d;split
   ·exact a
   ·rename_i i g;have hx:=a.f _ (II g);have k:=a.az d;have h:(if(S.f.getD i fw).size<S.az.size then S.f.getD i fw else S.az).check c=true:=by split<;>assumption
    have e:(if(S.f.getD i fw).size<S.az.size then S.az else S.f.getD i fw).check c=true:=by split<;>assumption
    dsimp only;generalize(if(S.f.getD i fw).size<S.az.size then S.f.getD i fw else S.az)=p at*;generalize(if(S.f.getD i fw).size<S.az.size then S.az else S.f.getD i fw)=l at*;split
    ·split
     ·exact⟨λ _=>e,λ x hx=>a.f x (AH hx),a.aR,λ o=>absurd d (by grind)⟩
     ·split
      ·exact a
      ·rename_i b f;exact⟨a.az,a.f,.inr ⟨b,rfl,G0 h e f⟩,a.none⟩
    grind
  grind
 grind
def Uw{c:af}(a:S.Good c)(b:BD):(S.lay c b.enc).1.Good c:=by
 unfold ST.lay;split
 ·split
  ·rename_i d;exact⟨a.az,a.f,.inr ⟨b,rfl,Uz d⟩,a.none⟩
  grind
 grind
def Hu{c:CF}(a:S.Good c.key)(m:MG):(ct c S m).1.Good c.key:=by
 unfold ct;split
 ·exact aav a _ _
 ·split
  ·exact UZ a _ _ _
  ·split
   ·exact Uw a _
   grind
def GY{c:CF}:∀(L:List af) {s a:ST},s.Good c.key->gw c L s=some a->a.Good c.key
 |[],s,a,b,h=>by cases h;exact b
 |r::L,s,a,b,h=>by
  unfold gw at h
  split at h
  ·cases h
  ·split at h
   ·split at h
    ·exact GY L (Hu b _) h
    ·cases h
   ·cases h
end
