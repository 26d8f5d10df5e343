import Derived.Test.YtncpbkoinennoaaGreatDoorMBF
set_option linter.all false
set_option maxRecDepth 100000
set_option maxHeartbeats 0
namespace Go.Proofs.YtncpbkoinennoaaGreatDoor
open Go.RowKit Proofs.Tryz
attribute [local irreducible] wpList Calls
variable{m:List Nat}{G:MG}{T:NA}{N:ND}
def Nr(d:aa)(m:List Nat)(rest:List Y)(a:NA)(n:ND)(e:Ending)(c:aa):Prop:=
 ∃f b,e=ao (ag none 0 0)/\ae d c m (Y.bd a f n::Y.dk a.a b n.d::rest)
def U3{s:af}(h:dV s= .ok G)(h1:answers N G=true):
 N.ly s=if({N with g:=none}:ND).dD (kept G)=7 then(({N with g:=none}:ND).cg (kept G)).iK else({N with g:=none}:ND).cg (kept G):=by
 unfold ND.ly;rw[h];dsimp only;rw[au h1]
def Oo(d:N.Ok)(h:answers N G=true):∃r,N.g=some r/\G.log=0/\(G.c=7\/G.c=8):=by
 cases b:N.g with
 |none=>rw[GD b] at h;cases h
 |some r=>
  refine⟨r,rfl,?_⟩;by_cases a:G.log=0
  ·refine⟨a,?_⟩;rcases(d.g r b).m with c|⟨p,q,-,-,c⟩
   ·rw[GA b c a] at h;simp only[dL,ej] at h;exact .inl h.2
   ·rw[GB b c a] at h;simp only[dL,ej] at h;exact .inr h.2.1
  ·rw[GC a] at h;cases h
def Jk{p w:aa}{rest:List Y}{x:NV}{a5:ab}(H:TM m p)(h:ae p w m (Y.bd T x N::Y.dk T.a a5 N.d::rest))(b:N.Ok)(s:af)(b5:∃y,dV s= .ok y/\y.b.a.size=y.b.b.size/\ug N y):
 Calls prog 149 #[pV T.g,O 0,ad s] w (Nr p m rest T (N.ly s)):=by
 have t:=Z h
 have a:=Z (ae.start w [])
 have k:=H.at h
 have a8:(Y.bd T x N).P w:=h.get (i:=0) rfl
 obtain⟨y,hd,F,f,E,G⟩:=b5
 obtain⟨e,j,a9⟩:=sC hd
 have b3:ai (∀d,BW w d->Calls prog 83 #[ad s] d λ r o=>∃q u A B v z,r=ao (aM #[y.val (ag q y.b.e.length u) (ag A y.e.length B) (ag v y.aP.length z),O 0])/\ae d o [] [Y.ow 9 1 (ag q y.b.e.length u) y.b.e.length (bh y.b.e),Y.ow 9 1 (ag A y.e.length B) y.e.length (bh y.e),Y.ow 240 4 (ag v y.aP.length z) y.aP.length (cR y.aP)]/\BW d o):=Z (λ d n=>(Dd s d (k.below n).a (k.below n).bz ⟨y,hd,F⟩).mono (by
  rintro r o K
  unfold tS at K
  rw[hd] at K
  obtain⟨⟨P,R,Q,C,-,l⟩,D⟩:=K
  obtain⟨q,u,e1,-⟩:=da (show o.ownsRow 0 9 1 P _ _ from l.get (i:=0) rfl)
  obtain⟨A,B,e2,-⟩:=da (show o.ownsRow 0 9 1 R _ _ from l.get (i:=1) rfl)
  obtain⟨v,z,e3,-⟩:=da (show o.ownsRow 0 240 4 Q _ _ from l.get (i:=2) rfl)
  subst e1 e2 e3
  exact⟨q,u,A,B,v,z,C,l,D⟩))
 have X:=Z (λ(d:aa) (L:ae p d m (Y.bd T x N::Y.dk T.a a5 N.d::rest)) S (n:BW d S)=>Om ((Y.bd T x N).lift (L.get (i:=0) rfl) n) b y)
 have M:=U3 hd f
 rw[f] at X
 obtain⟨r,a3,J,-⟩:=Oo b f
 have a2:({N with g:=none}:ND).Ok:={b with g:=(λ r h=>by cases h)}
 have a1:(kept y).Ok:=⟨dS _,e.m,e.n,e.h,e.b,e.aP,e.len⟩
 have I:(kept y).Small:=⟨j.b,j.p,j.m⟩
 have b4:=Z (λ(d:aa) (a0:List Y) (a6:NV) (a4:ab) (L:ae p d m (Y.bd T a6 ({N with g:=none}:ND)::Y.dk T.a a4 N.d::a0)) (P R Q:ab) (C:(Y.ow 9 1 P y.b.e.length (bh y.b.e)).P d) (l:(Y.ow 9 1 R y.e.length (bh y.e)).P d) (D:(Y.ow 240 4 Q y.aP.length (cR y.aP)).P d)=>CX H L a2 (kept y) a1 I J G F (I.rd C l D))
 have L:¬({N with g:=none}:ND).dD (kept y)=7:=by
  have:=Ja (n:={N with g:=none}) (y:=kept y) (au E) G
  omega
 rw[M,ar L]
 have f7:((({N with g:=none}:ND).dD (kept y):Int)==7)=false:=by rw[dP];omega
 have a0:kept y=⟨3,y.log,0,y.m,y.n,y.h,y.b,y.e,y.aP⟩:=by unfold kept;rw[au E]
 generalize kept y=a4 at*
 generalize a7:({N with g:=none}:ND).dD a4=KX at*
 generalize a6:({N with g:=none}:ND).cg a4=b9 at*
 clear H h k hd a8 a9 f M a2 a1 I a7 a6 e j G L F
 have b2:=Z (λ(d:aa) (f:ab) (id k dZ:Nat) (e:(Y.rt T.c T.d T.e f N.c.rc (some (id,k,dZ))).P d)=>XN e)
 obtain⟨c,f,I,next,g,j,d,a2,a6,b0,b1⟩:=N
 simp only at a3
 subst a3
 obtain⟨F,a9,a8,a7⟩:=r
 generalize y.b.e.length=bn at*
 generalize y.e.length=d8 at*
 generalize y.aP.length=d6 at*
 generalize bh y.b.e=d9 at*
 generalize bh y.e=e4 at*
 generalize cR y.aP=e0 at*
 obtain⟨d3,d4,id,M,c0,⟨C,l,D,d1⟩,⟨⟨c1,c2,c3,c4⟩,⟨c5,c6,c7,c8⟩,c9⟩,d7,d5⟩:=y
 simp only at J E a0
 subst J a0 E
 go_enter func149,ntmps149
 go_upto_region 5 with(first|refine KT a 20 ?_|refine KS a λ G a=>?_|refine KA a _ 7 kF λ d0 G d2 a=>?_|go_at_call 83;(refine(b3.U _ a.U.aq).mono ?_);rintro e L ⟨q,u,A,B,v,z,rfl,b,n⟩;replace a:=Z b;clear b;clear n|go_at_call 217;refine KC a (X.U _ t.U _ a.U.aq _ _ _ _ _ _ _ _ _) λ L a=>?_)
 have b:=ta ((t.U.plus a.U).ft [4])
 clear a t
 have a:ai (ae p _ m (Y.row T.g 139 (ND.cells (⟨c,f,I,next,some ⟨F,a9,a8,a7⟩,j,d,a2,a6,b0,b1⟩:ND) T)::Y.row T.b 133 (ad c.key::Value.bool f.bz::Value.int .u64 (f.az.size:Int)::Value.int .u64 (f.az.time:Int)::ad f.az.aE::ad f.az.a::x.pv::ad f.aR::Value.int .u64 (I:Int)::Value.int .u64 (next:Int)::Value.int .i64 (F:Int)::x.ys)::Y.ho x.pv f.f::Y.jr T.f T.a x.a j::Y.rt T.c T.d T.e x.hv c.rc (some (F,a8,a7))::Y.mp T.rg [((F:Int),a9.val (ag none 0 0) (ag none 0 0) (ag none 0 0))]::_)):=Z b
 clear b
 go_upto_region 6 with(refine Kl a ?_)
 refine RG a 8 [0,1] λ S a t=>?_
 refine VV [0,1,2,2003,4,5,6,2007] t ?_
 clear t
 refine WT ?_
 go_upto_region 7 with((go_at_call 218;(refine(b2.U _ _ _ _ _ (a.U.get (i:=4) rfl)).mono ?_);rintro e L ⟨rfl,b6,a1⟩;have b:=a.U.at 4 rfl a1;simp only[av,ax] at b;replace a:=Z b;clear b;clear a1))
 refine RG a 8 [0,1] λ S a t=>?_
 refine VV [0,1,2,2003,4,5,6,2007] t ?_
 clear t
 refine WT ?_
 go_upto_region 9 with(first|refine KS a λ G a=>?_|refine Md a.U 5 rfl rfl (t:=137) (k:=3) (e:=81) V V rfl rfl rfl λ G b=>?_;simp only[av,ax] at b;((rw[JG] at b));replace a:=Z b;clear b)
 replace a:=Z ((nP T ⟨x.pv,x.a,b6,x.ys⟩ (⟨c,f,I,next,none,j,d,a2,a6,b0,b1⟩:ND) a.U).fs [5,1])
 go_wp2_with(first|refine Kl a ?_|refine KT a 20 ?_|refine KS a λ G a=>?_|go_at_call 219;(refine(b4.U _ _ _ _ a.U _ _ _ (a.U.get (i:=3) rfl) (a.U.get (i:=4) rfl) (a.U.get (i:=5) rfl)).mono ?_);rintro e L ⟨rfl,b8,b7,b⟩;replace a:=Z b;clear b)
 go_ret
 exact⟨b8,b7,rfl,(a.U.ft [5,1000,4,1000,3,1000,2,1000])⟩
variable{g:Nat}{A:Option Addr}
abbrev CF.cells(c:CF)(a:ab):List ab:=[a,O (c.cj:Int),O (c.room:Int),U (c.every:Int),U (c.a:Int),U (c.rc.base:Int),U (c.rc.j:Int),U (c.rc.span:Int),O (c.rc.i:Int),O (c.rc.room:Int)]
abbrev CF.val(c:CF)(a:ab):ab:=aG #[a,O (c.cj:Int),O (c.room:Int),U (c.every:Int),U (c.a:Int),U (c.rc.base:Int),U (c.rc.j:Int),U (c.rc.span:Int),O (c.rc.i:Int),O (c.rc.room:Int)]
def G6(n:Nat)(h1:1<=n)(h2:n<=1099511627776)(w:aa):Calls prog 158 #[U (n:Int)] w λ r a=>r=ao (aK true)/\w=a:=by
 have f1:decide (1<=n)=true:=aT h1;have f2:decide ((1:Int)<=(n:Int))=true:=aT W;have f3:decide (0<n)=true:=aT h1;have f4:decide (n<=1099511627776)=true:=aT h2;have f5:decide ((n:Int)<=1099511627776)=true:=aT W
 go_enter func158,ntmps158
 go_wp2
 go_ret
 exact⟨rfl,rfl⟩
def Po{w:aa}(c:CF)(a:c.bR)(i:bq w (ag A 1 g) [c.key]):CB 79 #[c.val (ag A 1 g)] w (aK true):=by
 have d:=Z (ae.start w []);have j:dj [c.key]=false:=by
  unfold dj gm;simp[a.key]
 have k:ai (∀b,BW w b->Calls prog 154 #[ag A 1 g,.func (.func 157) #[] #[]] b λ e h=>e=ao (aK false)/\b=h):=Z (λ b f=>by have:=PM (i.below f rfl);rw[j] at this;exact this);have l:=Z (λ b=>G6 c.every a.i a.d b);have m:=Z (λ b=>G6 c.a a.g a.b b);have f:=a.cj;have b:=a.e;have h:=a.a;have f1:decide (c.cj<=63)=true:=aT f;have f2:decide ((c.cj:Int)<=63)=true:=aT W;have f3:decide ((0:Int)<=(c.cj:Int))=true:=aT W;have f4:decide (1<=c.room)=true:=aT b;have f5:decide ((1:Int)<=(c.room:Int))=true:=aT W;have f6:decide (0<c.room)=true:=aT b;have f7:decide (c.room<=16)=true:=aT h;have f8:decide ((c.room:Int)<=16)=true:=aT W;clear a i j f b h
 go_enter func79,ntmps79
 go_wp2_with(first|refine Kl d ?_|refine KB d 73 1 (c.cells _) λ b j f d=>?_|go_at_call 154;refine KQ (k.U _ d.U.aq) ?_|(go_at_call 158;(first|(refine(l.U _).mono ?_)|(refine(m.U _).mono ?_));rintro e h ⟨rfl,rfl⟩))
 go_ret
 exact⟨by first|rfl|simp_all,d.U.aq⟩
def Rp:ie 298:=ln func298 V V
def Ro:ie 297:=ln func297 V V
abbrev KY.agg(k:KY):ab:=aG #[ad k.a,ad k.pre,ad k.pub]
def UW{w:aa}(d:cq w)(s:af)(f:s.size=32):CB 63 #[ad s] w (aM #[(bC s).agg,O 0]):=by
 have a:=Z (ae.start w []);have c:=Z (λ g (e:BW w g)=>EG (d.below e) s f);generalize bC s=k at*
 go_enter func63,ntmps63
 go_wp2_with(first|(refine KR a 0 23 3 ?_)|(first|(refine K7 a 0 23 3 λ b a=>?_)|(refine K7 a 1 121 3 λ b a=>?_))|(first|(refine KA a 121 2 Nb λ h b j a=>?_)|(refine KA a 23 4 zW λ i b l a=>?_))|(go_at_call 5;refine KC a (c.U _ a.U.aq) λ m a=>?_))
 refine fb a.U 1 rfl 121 3 rfl rfl rfl V rfl rfl ?_;exact⟨rfl,a.U.aq⟩
def Ji(k:KY)(w:aa):CB 77 #[k.agg] w (ad k.pub):=by
 have a:=Z (ae.start w []);have b:=Z (λ c=>DO k c)
 go_enter func77,ntmps77
 go_wp2_with(first|(refine KR a 0 23 3 ?_)|(refine KB a 121 1 ([ad k.a,ad k.pre,ad k.pub]) λ d g e a=>?_)|(go_at_call 16;refine KC a (b.U _) λ f a=>?_))
 go_ret
 exact⟨rfl,a.U.aq⟩
def UU{w:aa}(t:cq w)(k:KY)(D:k.Ok){v:ab}{L:List af}(h:bq w v L)(F:∀s∈L,s.size<=80000000)(E:L.length<1000000)(b:Nat)(G:b<18446744073709551616):
 Calls prog 270 #[k.agg,v,U (b:Int)] w λ r l=>∃e:Int,r=ao (aM #[(mB k L b).val,O e])/\BW w l:=by
 have a:=Z (ae.start w [])
 have x:=Z (λ d (f:BW w d)=>YI (t.below f).a (h.below f rfl) F E)
 have q:ai (∀d,BW w d->Calls prog 297 #[k.agg,U (L.length:Int),U (b:Int),ad (TreeM.aE L)] d λ r l=>∃e:Int,r=ao (aM #[((kq k L.length b (TreeM.aE L)).getD fw).val,O e])/\BW d l):=Z (λ d f=>(SP (t.below f) k D L.length b W G (TreeM.aE L) (TreeM.Ed L)).mono (by
  rintro r l ⟨j,s⟩
  cases u:kq k L.length b (TreeM.aE L) with|some z=>rw[u] at j;exact⟨0,j,s⟩|none=>rw[u] at j;exact⟨1,j,s⟩))
 obtain⟨A,M,rfl⟩:=h.form
 have Q:IntKind.wrap .u64 (L.length:Int)=(L.length:Int):=by rw[tV]<;>omega
 by_cases o:L.length=0
 ·have e:mB k L b=fw:=by unfold mB;rw[au o]
  rw[e]
  rw[o] at q⊢
  go_enter func270,ntmps270
  go_wp2_with(first|(refine K7 a 0 59 4 λ g a=>?_)|(refine KA a 59 6 oo λ y g C a=>?_)|(refine KB a 121 3 ([ad k.a,ad k.pre,ad k.pub]) λ m g B a=>?_))
  refine fb a.U 0 rfl 59 4 rfl rfl rfl V rfl rfl ?_
  exact⟨_,rfl,a.U.aq⟩
 ·have e:mB k L b=(kq k L.length b (TreeM.aE L)).getD fw:=by unfold mB;rw[ar o]
  rw[e]
  have f1:((L.length:Int)==0)=false:=by rw[dP];omega
  generalize(kq k L.length b (TreeM.aE L)).getD fw=H at*
  generalize TreeM.aE L=R at*
  generalize L.length=n at*
  go_enter func270,ntmps270
  go_upto_region 3 with(first|(refine KA a 59 6 oo λ y g C a=>?_)|(refine KB a 121 3 ([ad k.a,ad k.pre,ad k.pub]) λ m g B a=>?_))
  refine ae.region a.U (n:=11) (S:=ba [Y.row m 121 [ad k.a,ad k.pre,ad k.pub]]) V V (λ K I=>(aX (I.in (by exact mQ mZ)) bg)) (λ K p c=> ?_)
  replace a:=Z p
  refine V2 0 12 c ?_
  refine W2 1 13 rfl rfl (Yr V 0 rfl 23 3 rfl rfl V _ rfl rfl) c ?_
  refine V2 2 14 c ?_
  refine V2 3 15 c ?_
  refine W2 4 16 (v:=U (n:Int)) rfl rfl (Or.inl ⟨by kernel_rfl,λ d P=>by(go_simp;done)⟩) c ?_
  refine V2 5 17 c ?_
  refine V2 6 18 c ?_
  refine ay.eL (i:=7) V zD rfl rfl 19 rfl rfl 298 rfl Rp _ rfl ?_
  refine KC a (x.U _ a.U.aq) λ J a=>?_
  refine⟨_,rfl,(aX (a.U.in (by exact mQ mZ)) bg),?_⟩
  simp only[aS,av,ax]
  refine ay.eL (i:=8) V zD rfl rfl 20 rfl rfl 297 rfl Ro _ rfl ?_
  refine(q.U _ a.U.aq).mono ?_
  rintro e J ⟨N,rfl,f⟩
  have p:=a.U.below f;replace a:=Z p
  refine⟨_,rfl,(aX (a.U.in (by exact mQ mZ)) bg),?_⟩
  simp only[aS,av,ax]
  have c:ba [Y.row m 121 [ad k.a,ad k.pre,ad k.pub]] _:=(aX (a.U.in (by exact mQ mZ)) bg)
  refine V2 9 21 c ?_
  refine V2 10 22 c ?_
  refine ay.tail V ?_
  simp only[ck,bH]
  go_wp2_with((refine K7 a 0 59 4 λ g a=>?_))
  refine fb a.U 0 rfl 59 4 rfl rfl rfl V rfl rfl ?_
  exact⟨_,rfl,a.U.aq⟩
variable{k n:Nat}
def qC(k:KY)(L:List af)(a:Nat)(y:MG):MG:={fx with c:=7,log:=y.log,id:=y.id,h:=mB k L a}
def Ol{w:aa}(o:cq w)(b:KY)(p:b.Ok){v:ab}{L:List af}(h:bq w v L)(t:∀s∈L,s.size<=80000000)(q:L.length<1000000)(c:Nat)(u:c<18446744073709551616)(y:MG)(l B x:Option Addr)(bn m D C z s:Nat)
 (r4:(Y.row g 121 [ad b.a,ad b.pre,ad b.pub]).P w) (r5:(Y.row n 64 [v]).P w) (r6:(Y.row k 46 [U (c:Int)]).P w):
  Calls prog 269 #[y.val (ag l bn m) (ag B D C) (ag x z s),pV g,pV n,pV k] w λ r a=>
   r=ao ((qC b L c y).val (ag none 0 0) (ag none 0 0) (ag none 0 0))/\BW w a:=by
 have a:=Z (ae.start w [])
 have f:=Z (aX r4 (aX r5 (aX r6 bg)))
 have j:=Z (λ e (d:BW w e)=>UU (o.below d) b p (h.below d rfl) t q c u)
 unfold qC
 generalize mB b L c=H at*
 obtain⟨A,R,rfl⟩:=h.form
 generalize L.length=a8 at*
 obtain⟨a5,a6,id,M,N,⟨T,X,a0,a1⟩,⟨⟨r,E,F,G⟩,⟨I,J,K,P⟩,Q⟩,a9,a7⟩:=y
 go_enter func269,ntmps269
 go_wp2_with(first|refine KT a 3 ?_|refine KI (a.U.bT f.U) 3 ?_|refine Kl a ?_|refine KH (a.U.bT f.U) ?_|refine KT a 4 ?_|refine KI (a.U.bT f.U) 4 ?_|refine KS a λ i a=>?_|refine KA a _ 5 kF λ n i a3 a=>?_|refine KA a _ 6 oo λ k i a4 a=>?_|refine KB a 81 4 _ λ g i a2 a=>?_|go_at_call 270;(refine(j.U _ a.U.aq).mono ?_);rintro e b0 ⟨S,rfl,d⟩;replace a:=Z (a.U.below d))
 refine ha a.U 1 rfl 81 20 rfl rfl V rfl rfl ?_
 exact⟨rfl,a.U.aq⟩
variable{h:HD}
def Vl{k:KY}{size:Nat}{r:af}(a:kq k size g r=some h):h.right=true:=by
 unfold kq at a;split at a
 ·rename_i b;injection a with a;rw[<-a];exact b
 ·cases a
def U1(k:KY)(L:List af)(a:Nat):(mB k L a).Ok:=by
 unfold mB;split
 ·exact oq
 ·cases b:kq k L.length a (TreeM.aE L) with
  |none=>exact oq
  |some h=>exact CC (Vl b)
def Gz{w:aa}(p:cq w)(k:KY)(I:k.Ok){v:ab}{L:List af}(h:bq w v L)(Q:∀s∈L,s.size<=80000000)(J:L.length<1000000)(c:Nat)(R:c<18446744073709551616)(s:af)(a2:∃y,dV s= .ok y/\y.b.a.size=y.b.b.size/\y.c=5):
 CB 214 #[k.agg,v,U (c:Int),ad s] w (ad (jF k L c s)):=by
 have a:=Z (ae.start w [])
 obtain⟨y,hd,n,u⟩:=a2
 obtain⟨K,N,M⟩:=sC hd
 have a0:ai (∀b,BW w b->Calls prog 83 #[ad s] b λ r q=>∃f g m o j l,r=ao (aM #[y.val (ag f y.b.e.length g) (ag m y.e.length o) (ag j y.aP.length l),O 0])/\ae b q [] [Y.ow 9 1 (ag f y.b.e.length g) y.b.e.length (bh y.b.e),Y.ow 9 1 (ag m y.e.length o) y.e.length (bh y.e),Y.ow 240 4 (ag j y.aP.length l) y.aP.length (cR y.aP)]/\BW b q):=Z (λ b d=>(Dd s b (p.below d).a (p.below d).bz ⟨y,hd,n⟩).mono (by
  rintro r q C
  unfold tS at C
  rw[hd] at C
  obtain⟨⟨a3,a5,a4,G,-,t⟩,H⟩:=C
  obtain⟨f,g,e1,-⟩:=da (show q.ownsRow 0 9 1 a3 _ _ from t.get (i:=0) rfl)
  obtain⟨m,o,e2,-⟩:=da (show q.ownsRow 0 9 1 a5 _ _ from t.get (i:=1) rfl)
  obtain⟨j,l,e3,-⟩:=da (show q.ownsRow 0 240 4 a4 _ _ from t.get (i:=2) rfl)
  subst e1 e2 e3
  exact⟨f,g,m,o,j,l,G,t,H⟩))
 obtain⟨A,a1,rfl⟩:=h.form
 have e:jF k L c s=(qC k L c y).enc:=by
  unfold jF;rw[hd];dsimp only;rw[au (.inl u)];unfold Gy;rw[au u];rfl
 rw[e]
 have X:=Z (λ b (d:BW w b) (f m j:Option Addr) (bn g T o S l:Nat) (x z B:Nat) (D:(Y.row x 121 [ad k.a,ad k.pre,ad k.pub]).P b) (E:(Y.row z 64 [ag A L.length a1]).P b) (F:(Y.row B 46 [U (c:Int)]).P b)=>Ol (p.below d) k I (h.below d rfl) Q J c R y f m j bn g T o S l D E F)
 have D:(qC k L c y).Ok:=(tn (y:=qC k L c y) K.id (dS _) (dS _) (U1 k L c) rfl rfl rfl).1
 have F:=Z (λ b (d:BW w b)=>De (qC k L c y) D (ag none 0 0) (ag none 0 0) (ag none 0 0) b (p.below d).a (p.below d).bz (Dl _ rfl rfl rfl b) rfl)
 generalize qC k L c y=a6 at*
 generalize a6.enc=E at*
 clear p I h Q J R hd e K N M D n
 generalize L.length=n at*
 generalize y.b.e.length=bn at*
 generalize y.e.length=T at*
 generalize y.aP.length=S at*
 generalize bh y.b.e=c8 at*
 generalize bh y.e=d0 at*
 generalize cR y.aP=c9 at*
 obtain⟨c3,c4,id,M,N,⟨G,t,H,b7⟩,⟨⟨a7,a8,a9,b0⟩,⟨b1,b2,b3,b4⟩,b5⟩,c7,c6⟩:=y
 simp only at u
 subst u
 go_enter func214,ntmps214
 go_wp2_with(first|refine Kl a ?_|refine KT a 20 ?_|refine KS a λ b a=>?_|refine KA a _ 10 kF λ b6 b b8 a=>?_|refine KB a 121 4 _ λ x b b9 a=>?_|refine KB a 64 5 _ λ z b c0 a=>?_|refine KB a 46 6 _ λ B b c1 a=>?_|(with_reducible show yf);(refine w9 a.U rfl 14 rfl 335 rfl λ c5 b c2 K=>?_;replace a:=Z K;clear K)|refine KM a λ b a=>?_|(with_reducible show IC);(refine Lk a.U 4 rfl rfl Jy rfl rfl rfl (v:=aM #[(.func (.func 269) #[] #[pV x,pV z,pV B]),aK true]) (rfl) ?_)|go_at_call 83;(refine(a0.U _ a.U.aq).mono ?_);rintro e D ⟨f,g,m,o,j,l,rfl,P,d⟩;replace a:=Z (a.U.plus P);clear d P|go_at_call 30;refine KC a (F.U _ a.U.aq _ _ _ HRD.U) λ D a=>?_|go_at_call 269;refine KC a (X.U _ a.U.aq _ _ _ _ _ _ _ _ _ _ _ _ (a.U.get (i:=7) rfl) (a.U.get (i:=6) rfl) (a.U.get (i:=5) rfl)) λ D a=>?_|go_at_call 30;refine KC a (F.U _ a.U.aq) λ D a=>?_)
 go_ret
 exact⟨rfl,a.U.aq⟩
def Mq(L:List af)(s:af):bh L++[ad s]=bh (L++[s]):=by rw[zz];rfl
variable{d:DK}{E:JN}{S:ST}
structure ST.bR(r:Nat)(s:ST):Prop where
 az:s.az.Ok
 f:∀h∈s.f,h.Ok
 len:s.f.length<=r
def Ng(r:Nat):kG.bR r:=⟨⟨dS _,dS _⟩,(λ h a=>by cases a),bf _⟩
def aau{c:af}(a:S.bR g)(b:h.Ok):(S.take c h g).1.bR g:=by
 unfold ST.take;split
 ·split
  ·split
   ·split
    ·exact a
    ·exact⟨a.az,a.f,a.len⟩
    ·split
     ·exact a
     ·rename_i d;refine⟨a.az,λ x hx=> ?_,?_⟩
      ·rcases eB.1 hx with hx|hx
       ·exact a.f x (oC hx)
       ·rcases bO.1 hx with rfl|hx
        ·exact b
        ·exact a.f x (uc hx)
      grind
   ·exact⟨b,a.f,a.len⟩
  grind
 grind
def UY(a:S.bR g)(m n:Nat)(d:List af):(S.link m n d).1.bR g:=by
 unfold ST.link;split
 ·split
  ·split
   ·exact a
   ·rename_i i h;have hx:(S.f.getD i fw).Ok:=a.f _ (II h);have k:∀e c:HD,c.Ok->ST.bR g (if vt m n d=0/\CL m n d=c.aE then(if CK m n d=e.aE then({S with az:=c,f:=S.f.eraseIdx i},4) else match gz e c d with|none=>(S,7)|some b=>({S with aR:=b.enc},5)) else(S,7):ST×Nat).1:=by
     intro e c f;split
     ·split
      ·refine⟨f,λ y j=>a.f y (AH j),?_⟩;show(S.f.eraseIdx i).length<=g;have:=a.len;grind
      ·split
       ·exact a
       ·exact⟨a.az,a.f,a.len⟩
     ·exact a
    refine k _ _ ?_;split
    ·exact a.az
    grind
  grind
 grind
def Uy(a:S.bR g)(c b:af):(S.lay c b).1.bR g:=by
 unfold ST.lay;split
 ·split
  ·exact⟨a.az,a.f,a.len⟩
  grind
 grind
def Ht{c:CF}(a:S.bR c.room)(b:G.Ok):(ct c S G).1.bR c.room:=by
 unfold ct;split
 ·exact aau a b.h
 ·split
  ·exact UY a _ _ _
  ·split
   ·exact Uy a _ _
   grind
def DK.Still.aaJ(h:d.Still)(n:Nat):(d.trim 0 n).Still:=by
 have a:¬0<jQ d.a:=by rw[h.none];simp[jQ]
 unfold DK.trim;rw[ar a];split
 ·exact h
 ·refine⟨?_,h.room,h.none⟩;have:=h.fit;simp[DK.jk,DK.file,ib];omega
def Ds(h:d.Ok):(iD d).Still:=((show d.sync.Still from⟨h.fit,h.room,rfl⟩).aaJ _).trim.1
abbrev bn(c:CF)(s:ST)(J:JN)(D:DK):ND:=⟨c,s,0,0,none,J,D,1,0,0,0⟩
def OV{c:CF}{D:DK}(b:c.bR)(a:S.bR c.room)(d:E.l.length<=100000)(hd:D.Still):(bn c S E D).Ok:=
 ⟨b,a.az,by have:=a.len;have:=b.a;grind,a.f,dS _,dS _,dS _,dS _,bf _,aQ _,(show(1:Nat)<=1000000 by decide),(λ r h=>by cases h),d,hd.ok,by show D.a.length<=1000;rw[hd.none];simp⟩
def OZ{c:CF}{r:af}{l:List af}(h:dV r= .error g):gw c (r::l) S=none:=by unfold gw;rw[h]
def O0{c:CF}{r:af}{l:List af}(h:dV r= .ok G)(h1:¬G.log=0):gw c (r::l) S=none:=by
 rw[gw,h];grind
def OY{c:CF}{r:af}{l:List af}(h:dV r= .ok G)(h1:G.log=0)(h2:counts (ct c S G).2=false):gw c (r::l) S=none:=by
 rw[gw,h];grind
def O2{c:CF}{r:af}{l:List af}(h:dV r= .ok G)(h1:G.log=0)(h2:counts (ct c S G).2=true):gw c (r::l) S=gw c l (ct c S G).1:=by
 rw[gw,h];grind
def GX{c:CF}:∀(L:List af) {s a:ST},s.bR c.room->gw c L s=some a->a.bR c.room
 |[],s,a,d,h=>by cases h;exact d
 |r::L,s,a,d,h=>by
  cases hd:dV r with
  |error e=>rw[OZ hd] at h;cases h
  |ok y=>
   by_cases b:y.log=0
   ·cases f:counts (ct c s y).2 with
    |true=>rw[O2 hd b f] at h;exact GX L (Ht d (sC hd).1) h
    |false=>rw[OY hd b f] at h;cases h
   ·rw[O0 hd b] at h;cases h
def aef{draw:Nat}(h:g<N.tell):N.kC g draw=(N.cz g draw).eS g draw/\N.kB g draw=N.hJ g draw++(N.cz g draw).kh g:=by
 unfold ND.kC ND.kB;grind
def Hc(h:d.bR)(a:Int):(d.gB a).Still:=by
 have g:=DA.Fb d.ds 0 zD d.a (DA.stays d.a a) (λ p b=>h.two p b) h.l0;have i:=DA.Fb d.ds 1 zD d.a (DA.stays d.a a) (λ p b=>h.two p b) h.l1;have f:=(DA.Fa d.ds d.a (DA.stays d.a a)).2;have c:=h.fits;have e:=h.room;have e0:(d.gB a).f0=(DA.kD d.ds d.a (DA.stays d.a a)).file 0:=rfl;have e1:(d.gB a).f1=(DA.kD d.ds d.a (DA.stays d.a a)).file 1:=rfl;have e2:(d.gB a).room=d.room:=f;have x0:d.ds.file 0=d.ds.f0:=rfl;have x1:d.ds.file 1=d.ds.f1:=rfl;rw[x0] at g;rw[x1] at i;have b:d.ds.room=d.room:=rfl;rw[b] at c e;refine⟨?_,?_,rfl⟩
 ·grind
 omega
def Hb(d:DK)(a:Int):(d.gB a).room=d.room:=(DA.Fa d.ds d.a (DA.stays d.a a)).2
def KG(d:DK)(f:Nat)(s:af):(d.put f s).room=d.room:=by
 unfold DK.put;split
 ·rfl
 ·unfold DK.jk;grind
def EZ(d:DK)(f n:Nat):(d.trim f n).room=d.room:=by
 unfold DK.trim;split
 ·rfl
 ·split
  ·rfl
  ·unfold DK.jk;grind
def J5(d:DK):(iD d).room=d.room:=by
 unfold iD;rw[EZ,EZ];rfl
def Lj(s:af):∀(n:Nat) (l:List af) (a:Nat),5*l.length<=a->a<=s.size->5*(tv s n l a).1.length<=s.size
 |0,l,a,b,c=>by show 5*l.length<=_;omega
 |n+1,l,a,b,c=>by
  by_cases h:(fE (s.extract a s.size)).size=0
  ·rw[Lh n h];grind
  ·rw[Yc n h]
   obtain⟨d,q2,q3⟩:=Sa h
   have q4:=(Iz (fE (s.extract a s.size))).2.2
   refine Lj s n _ _ ?_ q2
   grind
def CQ(d:DK):5*(gg d).l.length<=d.f0.size:=by
 unfold gg;dsimp only;unfold nL pG;exact Lj d.f0 _ [] 0 zS (bf _)
structure ND.aI(c:CF)(K:Nat)(n:ND):Prop where
 ok:n.Ok
 e:n.c=c
 cd:n.cd=0
 id:n.id<=K+1
 q:n.j.l.length<=20000+K
 still:n.j.cut=true\/n.d.Still
 f:n.d.bR
 d:n.d.room=100000
 h:n.st.bR c.room
 lu:n.st.Good c.key
def ND.aI.mono{c:CF}{K L:Nat}(h:N.aI c K)(a:K<=L):N.aI c L:={h with id:=by have:=h.id;omega,q:=by have:=h.q;omega}
def ND.aI.cj{c:CF}{K:Nat}{n:ND}(h:n.aI c K)(a:c.cj=1):n.c.cj=1:=by rw[h.e];exact a
def ND.aI.iK{c:CF}{K:Nat}{n:ND}(h:n.aI c K):n.iK.aI c K:={h with ok:={h.ok with bX:=kz _ _}}
def ND.aI.tick{c:CF}{K:Nat}(h:N.aI c K)(k:K<=50000)(i:c.cj=1)(b a:Nat):(N.kC b a).aI c (K+1):=by
 have Z:=h.id;have f:=Hw h.ok b a;obtain⟨s1,s2,s3,s4,s5,s6,s7,s8⟩:=Cc N b a;have g:=Ow f W b a;obtain⟨j,q2,q3,q4,q5,q6,q7,l⟩:=Bz (N.cz b a) b a;have d:((N.cz b a).eS b a).aI c (K+1):=by
  have e:=h.q;refine⟨g,j.trans (s1.trans h.e),q4.trans (s4.trans h.cd),by omega,?_,?_,?_,?_,?_,?_⟩
  ·grind
  ·rw[q5,s5,q6,s6];exact h.still
  ·rw[q6,s6];exact h.f
  ·rw[q6,s6];exact h.d
  ·rw[q2,s2];exact h.h
  ·rw[q2,s2];exact h.lu
 by_cases e:b<N.tell
 ·rw[(aef (draw:=a) e).1];exact d
 ·rw[(MI (draw:=a) (h.cj i) h.cd e).1];exact{d with ok:={d.ok with tell:=kz _ _,cd:=bf _},cd:=rfl}
def U6{s:af}(h:du E d s=0)(a:E.cut=true\/d.Still):d.Still:=by
 rcases a with b|c
 ·unfold du at h;grind
 grind
def N5{s:af}(b:E.cut=true\/d.Still)(a:du E d s=0):(kn E d s).Still:=by
 unfold kn;rw[au a];exact((U6 a b).put 0 zD (bF s)).2.2
def wu(h:d.Still):d.a.length<=1000:=by rw[h.none];simp
def ND.aI.cg{c:CF}{K:Nat}{n:ND}(h:n.aI c K)(l:K<=50000){m:MG}(j:m.Ok):(n.cg m).aI c (K+1):=by
 have f:n.aI c (K+1):=h.mono (fN _);unfold ND.cg;split
 ·split
  ·rename_i _ e;have a:=N5 h.still e;have b:(ct n.c n.st m).1.bR c.room:=by rw[h.e];exact Ht h.h j
   have i:(ct n.c n.st m).1.Good c.key:=by rw[h.e];exact Hu h.lu m
   have o:=h.q;have g:=h.ok.c.a;rw[h.e] at g;have p:(km n.j n.d m.enc).l.length=n.j.l.length+1:=by unfold km;rw[au e];show(n.j.l++[m.enc]).length=_;rw[bV];rfl
   have hcut:(km n.j n.d m.enc).cut=n.j.cut:=by unfold km;split<;>rfl
   refine⟨{h.ok with az:=b.az,o:=?_,f:=b.f,q:=?_,d:=a.ok,dl:=wu a},h.e,h.cd,f.id,?_,.inr a,a.eb,?_,b,i⟩
   ·have:=b.len;grind
   ·grind
   ·grind
   ·show(kn n.j n.d m.enc).room=100000;unfold kn;rw[au e];exact(KG _ _ _).trans h.d
  grind
 grind
def ND.aI.peer{c:CF}{K:Nat}(h:N.aI c K)(f:K<=50000)(d:Int)(s:af):(N.lD d s).aI c (K+1):=by
 have e:N.aI c (K+1):=h.mono (fN _);unfold ND.lD;split
 ·exact e.iK
 ·rename_i m a;have g:m.Ok:=by
   unfold rz at a;split at a
   ·cases a
   ·rename_i i hd;split at a
    ·cases a;exact(sC hd).1
    grind
  have b:=h.cg f g;split
  ·unfold ND.pf;split
   ·exact b.iK
   grind
  ·split
   ·unfold ND.ts;split
    ·exact b.iK
    grind
   grind
def Us(h:G.Ok):(kept G).Ok:={h with id:=dS _}
def ND.aI.log{c:CF}{K:Nat}(h:N.aI c K)(d:K<=50000)(s:af):(N.ly s).aI c (K+1):=by
 have a:N.aI c (K+1):=h.mono (fN _);unfold ND.ly;split
 ·exact a.iK
 ·rename_i m hd;split
  ·have b:ND.aI c K {N with g:=none}:={h with ok:={h.ok with g:=λ r f=>by cases f}};have e:=b.cg d (Us (sC hd).1);dsimp only;split
   ·exact e.iK
   grind
  ·exact a.iK
def abl(d:DK):d.cd.room=d.room:=by unfold DK.cd;grind
def Hs(d:DK)(b:af)(k:Nat)(g:k<=4):(jM d b k).room=d.room:=by
 have a:(jM d b 1).room=d.room:=KG d 1 b;have c:(jM d b 2).room=d.room:=a;have e:(jM d b 3).room=d.room:=(abl (jM d b 2)).trans c;have f:(jM d b 4).room=d.room:=(EZ (jM d b 3) 1 0).trans e;rcases k with _|_|_|_|_|k
 ·rfl
 ·exact a
 ·exact c
 ·exact e
 ·exact f
 ·omega
def Hr(h:d.Still)(b:af)(k:Nat)(a:k<=4):(jM d b k).bR/\(jM d b k).a.length<=1000/\(k=4->(jM d b k).Still):=by
 have p:=h.put 1 zD b;have t:=p.2.2.cd;have m:=t.1.trim;rcases k with _|_|_|_|_|k
 ·exact⟨h.eb,wu h,λ h=>absurd h zD⟩
 ·exact⟨p.1,by have:=p.2.1;show(d.put 1 b).a.length<=_;omega,λ h=>absurd h zD⟩
 ·exact⟨p.2.2.eb,bf _,λ h=>absurd h zD⟩
 ·exact⟨t.1.eb,wu t.1,λ h=>absurd h zD⟩
 ·exact⟨m.1.eb,wu m.1,λ _=>m.1⟩
 ·omega
def Yd{n:ND}(h:n.st.f.length<=g):n.jU.length<=g+2:=by
 unfold ND.jU;grind
def ND.aI.jd{c:CF}{K:Nat}(h:N.aI c K)(b:K<=g)(f:g<=60000)(h1:E.l.length<=20000+g)(h2:E.cut=true\/d.Still)(h3:d.bR)(h4:d.a.length<=1000)(h5:d.room=100000):ND.aI c g {N with j:=E,d:=d}:=by
 have a:=h.mono b;exact{a with ok:={a.ok with q:=(by grind),d:=h3.ok,dl:=h4},q:=h1,still:=h2,f:=h3,d:=h5}
def ND.aI.renew{c:CF}{K:Nat}(h:N.aI c K)(m:K<=50000)(k:Nat):(N.D3 k).aI c (K+1):=by
 have n:=h.q;unfold ND.D3;by_cases b:N.j.cut=true\/N.j.sure<N.j.l.length
 ·obtain⟨-,e1,e2⟩:=Yi (d:=N.d) (l:=N.jU) (n:=k) b;rw[e1,e2];exact h.jd (fN _) W W h.still h.f h.ok.dl h.d
 ·have j:N.d.Still:=h.still.resolve_left (λ f=>b (.inl f));by_cases e:eb N.jU
  ·by_cases a:k=0\/N.d.dH (ep N.jU)=0
   ·by_cases i:k<4
    ·obtain⟨-,e1,e2⟩:=Yh b e a i;rw[e1,e2];obtain⟨g,q2,-⟩:=Hr j (ep N.jU) k W;exact h.jd (fN _) W (by grind) (.inl rfl) g q2 ((Hs _ _ _ W).trans h.d)
    ·have h00:N.d.dH (ep N.jU)=0:=by
      rcases a with a|a
      ·omega
      ·exact a
     obtain⟨-,e1,e2⟩:=Yj b e h00 i;rw[e1,e2];obtain⟨g,q2,q3⟩:=Hr j (ep N.jU) 4 W;have o:=Yd (n:=N) h.h.len;have f:=h.ok.c.a;rw[h.e] at f;exact h.jd (fN _) W (by grind) (.inr (q3 rfl)) g q2 ((Hs _ _ _ W).trans h.d)
   ·obtain⟨-,e1,e2⟩:=Yf b e (λ h=>a (.inl h)) (λ h=>a (.inr h));have e3:zy 0 N.d (ep N.jU)=N.d:=by
     have g:¬N.d.dH (ep N.jU)=0:=λ h=>a (.inr h);show N.d.put 1 (ep N.jU)=N.d;unfold DK.dH at g;unfold DK.put;split at g
     ·grind
     ·omega
    rw[e1,e2,e3];exact h.jd (fN _) W W h.still h.f h.ok.dl h.d
  ·obtain⟨-,e1,e2⟩:=Yg (d:=N.d) (n:=k) b e;rw[e1,e2];exact h.jd (fN _) W W h.still h.f h.ok.dl h.d
def ND.aI.GV{c:CF}(f:c.bR)(hd:d.Ok)(k:d.room=100000)(h:oW c d=some N):N.aI c 0:=by
 unfold oW at h;have b:=Ds hd;have i:=CQ d.sync;have m:=hd.fit;have e1:d.sync.f0=d.f0:=rfl;rw[e1] at i;have j:(gg d.sync).l.length<=20000:=by omega
 have l:=(J5 d).trans k;generalize gg d.sync=J at*;generalize iD d=D at*;cases a:gw c J.l kG with
 |none=>grind
 |some s=>
  rw[a] at h;cases h
  have e:=GX _ (Ng c.room) a;have g:=GY _ (ack c.key) a;exact⟨OV f e W b,rfl,rfl,aQ _,j,.inr b,b.eb,l,e,g⟩
def ND.aI.Zu{c:CF}{K:Nat}(h:N.aI c K){D:DK}(a:D.Still)(b:D.room=100000):ND.aI c K {N with d:=D}:=
 {h with ok:={h.ok with d:=a.ok,dl:=wu a},still:= .inr a,f:=a.eb,d:=b}
def ND.aI.PZ{c:CF}{K:Nat}{n:ND}(h:n.aI c K)(a:Int){b:ND}(d:oW c (n.d.gB a)=some b):b.aI c K:=by
 have g:=Hc h.f a;have f:(n.d.gB a).room=100000:=(Hb _ _).trans h.d;have e:c.bR:=by have:=h.ok.c;rw[h.e] at this;exact this
 exact(ND.aI.GV e g.ok f d).mono (bf _)
def ND.aI.PY{c:CF}{K:Nat}{n:ND}(h:n.aI c K)(a:Int):ND.aI c K {n with d:=iD (n.d.gB a)}:=by
 have g:=Hc h.f a;have e:(n.d.gB a).room=100000:=(Hb _ _).trans h.d;generalize n.d.gB a=D at*;have b:=Ds g.ok;have f:=(J5 D).trans e;generalize iD D=D2 at*;exact h.Zu b f
abbrev ME.cells(m:ME)(c:af)(a b:ab):List ab:=[ad c,O 2,O (m.c.room:Int),U (m.c.every:Int),U (m.c.a:Int),U (m.c.rc.base:Int),U (m.c.rc.j:Int),U (m.c.rc.span:Int),O (m.c.rc.i:Int),O (m.c.rc.room:Int),
 ad m.k.a,ad m.k.pre,ad m.k.pub,a,b,U (m.now:Int)]
def bG(L:List PK):List ab:=(L.map λ p=>[Value.int .i64 p.src,Value.int .i64 p.dst,ad p.s]).flatten
def W4(L:List PK)(p:PK):bG L++[Value.int .i64 p.src,Value.int .i64 p.dst,ad p.s]=bG (L++[p]):=by simp[bG]
def Y.mc(g:Nat)(c:af)(b a:ab)(m:ME):Y:=Y.star (Y.row g 126 (m.cells c b a)) (Y.ow 210 3 a m.b.length (bG m.b))
abbrev PK.val(p:PK):ab:=aG #[O p.src,O p.dst,ad p.s]
def C5{w:aa}{q:af}{o u:ab}{m:ME}(h:(Y.mc g q o u m).P w)(A:m.b.length<=64)(p:PK):
 Calls prog 146 #[pV g,p.val] w λ r b=>r=ao (O (m.dH:Int))/\∃a,bk (Y.mc g q o u m) w b (Y.mc g q o a (m.put p)):=by
 have d:=(ae.self h).kE
 generalize H:(Y.mc g q o u m).bs=N at*
 obtain⟨C,D,J,-⟩:=da (show w.ownsRow 0 210 3 u m.b.length (bG m.b) from d.get (i:=1) rfl)
 subst J
 have b:=Z d
 have x:=Z H
 obtain⟨k,c,l,a,f⟩:=m
 obtain⟨src,e,s⟩:=p
 simp only at A b x
 by_cases h64:64<=a.length
 ·have e1:(⟨k,c,l,a,f⟩:ME).dH=8:=au h64
  have e2:(⟨k,c,l,a,f⟩:ME).put ⟨src,e,s⟩=⟨k,c,l,a,f⟩:=au h64
  rw[e1,e2]
  have d1:decide (64<=a.length)=true:=aT h64
  have d2:decide ((64:Int)<=(a.length:Int))=true:=aT W
  go_enter func146,ntmps146
  go_wp2_with(first|refine Kl b ?_|refine KB b 210 3 _ λ y v G b=>?_)
  go_ret
  have d:=b.U.tail
  rw[<-x.U] at d
  exact⟨rfl,_,d.oe⟩
 ·have e1:(⟨k,c,l,a,f⟩:ME).dH=0:=ar h64
  have e2:(⟨k,c,l,a,f⟩:ME).put ⟨src,e,s⟩=⟨k,c,l,a++[⟨src,e,s⟩],f⟩:=ar h64
  rw[e1,e2]
  have d1:decide (64<=a.length)=false:=bm h64
  have d2:decide ((64:Int)<=(a.length:Int))=false:=bm W
  have F:=Z (W4 a ⟨src,e,s⟩)
  have E:ai ((a++[(⟨src,e,s⟩:PK)]).length=a.length+1):=Z zS
  have z:=Z A
  go_enter func146,ntmps146
  go_upto_region 3 with(first|refine Kl b ?_|refine KB b 210 3 _ λ y v G b=>?_)
  refine ae.region b.U (n:=10) (S:=ba [Y.row g 126 (ME.cells ⟨k,c,l,a,f⟩ q o (ag C a.length D)),Y.row y 210 [O src,O e,ad s]]) V V (λ K B=>(aX (B.in (by exact mQ mZ)) (aX (B.in mZ) bg))) (λ K d j=> ?_)
  replace b:=Z d
  refine V2 0 11 j ?_
  refine V2 1 12 j ?_
  refine V2 2 13 j ?_
  refine V2 3 14 j ?_
  refine L2 4 15 0 118 j ?_
  refine W2 5 16 rfl rfl (Yr V 1 rfl 210 3 rfl rfl V _ rfl rfl) j ?_
  refine ay.make b.U (i:=6) V zD rfl rfl 17 rfl (some 1) 210 [O src,O e,ad s] ?S4 ?rr6
  case S4=>(go_simp;(rfl))
  intro L v M d
  replace b:=Z d
  refine⟨(aX (b.U.in (by exact mQ (mQ mZ))) (aX (b.U.in (by exact mQ mZ)) bg)),?_⟩
  simp only[bc]
  simp only[aS,av,ax]
  refine ay.app b.U (i:=7) V zD rfl rfl 18 rfl vb rfl 3 rfl rfl 0 rfl rfl rfl rfl (by unfold maxLen;have:=z.U;omega) (by have:=z.U;omega) (λ t r v d=> ?_)
  simp only[av,ax] at d
  replace b:=Z d
  refine⟨(aX (b.U.in (by exact mQ (mQ mZ))) (aX (b.U.in (by exact mQ mZ)) bg)),?_⟩
  have j:ba [Y.row g 126 (ME.cells ⟨k,c,l,a,f⟩ q o (ag C a.length D)),Y.row y 210 [O src,O e,ad s]] _:=(aX (b.U.in (by exact mQ (mQ mZ))) (aX (b.U.in (by exact mQ mZ)) bg))
  refine V2 8 19 j ?_
  refine V2 9 20 j ?_
  refine ay.tail V ?_
  simp only[ck,bH]
  go_wp2_with(refine KS b λ v b=>?_)
  go_ret
  have d:=b.U.tail.tail
  rw[<-x.U] at d
  refine⟨rfl,ag (some ⟨t,0,none⟩) (a.length+1) r,?_⟩
  have I:=d.oe
  have e3:Y.mc g q o (ag (some ⟨t,0,none⟩) (a.length+1) r) ⟨k,c,l,a++[⟨src,e,s⟩],f⟩=Y.star (Y.row g 126 (ME.cells ⟨k,c,l,a,f⟩ q o (ag (some ⟨t,0,none⟩) (a.length+1) r))) (Y.ow 210 3 (ag (some ⟨t,0,none⟩) (a.length+1) r) (a.length+1) (bG a++[Value.int .i64 src,Value.int .i64 e,ad s])):=by
   unfold Y.mc
   dsimp only
   rw[E.U,<-F.U]
  rw[e3]
  exact I
def Jr{w:aa}{l:af}{j:ab}{m:ME}(h:(Y.row g 126 (m.cells l (ag (some ⟨n,0,none⟩) 2 k) j)).P w)(i:Int):CB 72 #[pV g,O i] w (aK (decide (0<=i)&&decide (i<2))):=by
 have a:=Z (ae.start w []);have c:=Z (aX h bg);clear h;obtain⟨d,e⟩:∃b,decide (0<=i)=b:=⟨_,rfl⟩;obtain⟨o,f⟩:∃b,decide (i<2)=b:=⟨_,rfl⟩;rw[e,f];cases d
 all_goals
  go_enter func72,ntmps72
  go_wp2_with(refine KH (a.U.bT c.U) ?_)
  go_ret
  exact⟨by simp,a.U.aq⟩
variable{p:List Nat}
def IZ(n:Int)(w:aa):Calls prog 145 #[O n] w λ r b=>r=ao (aK (decide (0<=n)&&decide (n<=255)))/\w=b:=by
 obtain⟨a,c⟩:∃b,decide (0<=n)=b:=⟨_,rfl⟩;obtain⟨e,d⟩:∃b,decide (n<=255)=b:=⟨_,rfl⟩;rw[c,d];cases a
 all_goals
  go_enter func145,ntmps145
  go_wp2
  go_ret
  exact⟨by simp,rfl⟩
abbrev AC.val(a:AC):ab:=aG #[O a.c,O a.a,O a.b,U (a.n:Int),ad a.s]
def N1(x:AC)(w:aa):CB 65 #[x.val] w (aK x.right):=by
 have a:=Z (ae.start w []);have k:=Z (λ b=>IZ x.a b);have n:=Z (λ b=>IZ x.b b);obtain⟨g,d,f,h,i⟩:=x;simp only at k n;have b:(⟨g,d,f,h,i⟩:AC).right=(decide (0<=g)&&(decide (g<9)&&((decide (0<=d)&&decide (d<=255))&&((decide (0<=f)&&decide (f<=255))&&(decide (h<=4294967296)&&decide (i.size<=4096)))))):=by
  unfold AC.right;simp only[Bool.and_assoc]
 rw[b];clear b;have f5:decide ((h:Int)<=4294967296)=decide (h<=4294967296):=by rw[bw];simp;omega
 have f6:decide ((i.size:Int)<=4096)=decide (i.size<=4096):=by rw[bw];simp;omega
 obtain⟨R,b⟩:∃R,(decide (0<=g)&&(decide (g<9)&&((decide (0<=d)&&decide (d<=255))&&((decide (0<=f)&&decide (f<=255))&&(decide (h<=4294967296)&&decide (i.size<=4096))))))=R:=⟨_,rfl⟩;rw[b];generalize(decide (0<=d)&&decide (d<=255))=t3 at*;generalize(decide (0<=f)&&decide (f<=255))=t4 at*;generalize j:decide (0<=g)=t1 at*;generalize p:decide (g<9)=t2 at*;generalize q:decide (h<=4294967296)=t5 at*;generalize r:decide (i.size<=4096)=t6 at*;have c:=Z b.symm;clear b;cases t1 with
 |true=>
  cases t2 with
  |true=>
   cases t3 with
   |true=>
    cases t4;rotate_left
    cases t5
    all_goals
     have b:=c.U;simp only[sB,↓reduceIte,reduceCtorEq,eG] at b;subst b;clear c
     go_enter Be,Bm
     go_wp2_with(first|refine Kl a ?_|refine KB a 55 1 _ λ j m l a=>?_|(go_at_call 145;(first|(refine(k.U _).mono ?_)|(refine(n.U _).mono ?_));rintro e o ⟨rfl,rfl⟩))
     go_ret
     exact⟨by rfl,a.U.aq⟩
   |false=>
    have b:=c.U;simp only[sB,↓reduceIte,reduceCtorEq,eG] at b;subst b;clear c
    go_enter Be,Bm
    go_wp2_with(first|refine Kl a ?_|refine KB a 55 1 _ λ j m l a=>?_|go_at_call 145;((refine(k.U _).mono ?_));rintro e o ⟨rfl,rfl⟩)
    go_ret
    exact⟨by rfl,a.U.aq⟩
  |false=>
   have b:=c.U;simp only[sB,↓reduceIte,reduceCtorEq,eG] at b;subst b;clear c
   go_enter Be,Bm
   go_wp2_with(first|refine Kl a ?_|refine KB a 55 1 _ λ j m l a=>?_)
   go_ret
   exact⟨by rfl,a.U.aq⟩
 |false=>
  have b:=c.U;simp only[sB,↓reduceIte,reduceCtorEq,eG] at b;subst b;clear c
  go_enter Be,Bm
  go_wp2_with(first|refine Kl a ?_|refine KB a 55 1 _ λ j m l a=>?_)
  go_ret
  exact⟨by rfl,a.U.aq⟩
def Zl(i:Nat)(m:ME)(x:SD)(h:m.b.length<=64):(ME.fJ i m x).b.length<=64:=by
 have a:∀p,(m.put p).b.length<=64:=λ p=>by
  unfold ME.put;split
  ·exact h
  ·show(m.b++[p]).length<=64;rw[bV];simp;omega
 unfold ME.fJ;split
 ·exact a _
 ·split
  ·exact h
  ·exact a _
def LU(i:Nat):∀(L:List SD) (m:ME),m.b.length<=64->(L.foldl (ME.fJ i) m).b.length<=64
 |[],m,h=>h
 |x::L,m,h=>LU i L _ (Zl i m x h)
def ZG{w:aa}{c:Nat}{L:List SD}(h:(Y.so (ag A n c) L).P w)(i:L.length<=1000)(d:g<L.length):∃b o,A=some ⟨b,o,none⟩/\w.rangeAt b (o+g*2) [O (L[g]).1,ad (L[g]).2]:=by
 have f:bN 2 w (ag A n c) (L.map λ p=>[Value.int .i64 p.1,ad p.2]):=tf (e:=272) (λ x hx=>by
  obtain⟨p,-,rfl⟩:=eH.1 hx;rfl) (by rw[cC];exact h) (by rw[cC];unfold maxLen;omega)
 obtain⟨b,o,a,hx⟩:=f.at (j:=g) (by rw[cC];exact d);rw[ua] at hx;exact⟨b,o,a,hx⟩
def C6{t w:aa}{rest:List Y}{q:af}{n y v:ab}{m:ME}{L:List SD}(h:ae t w p (Y.mc g q n y m::Y.so v L::rest))(i:Nat)(R:i<2)(H:m.b.length<=64)(P:L.length<=10)(hx:∀x∈L,-10<=x.1/\x.1<=10):
 Calls prog 140 #[pV g,O (i:Int),v] w λ r a=>r=ao (aM #[])/\∃b,ae t a p (Y.mc g q n b (m.send i L)::Y.so v L::rest):=by
 have a:=Z h
 obtain⟨A,c,J,-⟩:=da (show w.ownsRow 0 272 2 v L.length (fu L) from h.get (i:=1) rfl)
 subst J
 have F:=Z hx
 have C:=Z (λ(j:aa) (nq:ab) (b:ME) (f:PK) (d:(Y.mc g q n nq b).P j) (e:b.b.length<=64)=>C5 d e f)
 have B:=Z H
 go_enter func140,ntmps140
 go_wp2
 go_loopw [11] (λ b wr=>∃(j:Nat) (nq:ab),j<=L.length/\b=O (j:Int)/\ai (ae t wr p (Y.mc g q n nq ((L.take j).foldl (ME.fJ i) m)::Y.so (ag A L.length c) L::rest))) (λ b _=>L.length-(intOf b).toNat)
 case atStart=>exact⟨0,y,bf _,rfl,a⟩
 case round=>
  obtain⟨j,nq,S,rfl,a⟩:=hrel
  by_cases l:j<L.length
  ·obtain⟨bb,o,G,hx⟩:=ZG (a.U.get (i:=1) rfl) W l
   subst G
   have u:(L.take (j+1)).foldl (ME.fJ i) m=ME.fJ i ((L.take j).foldl (ME.fJ i) m) L[j]:=by rw[eC l,tZ];rfl
   have k:=F.U _ (eR l)
   have I:=LU i (L.take j) m B.U
   obtain⟨⟨b,s⟩,K⟩:∃z,L[j]=z:=⟨_,rfl⟩
   rw[K] at hx u k
   simp only at hx k
   generalize(L.take j).foldl (ME.fJ i) m=m1 at*
   have E:=Z hx;have x:=Z u;have r:=Z l;have z:=Z I
   have d1:decide (j<L.length)=true:=aT l
   have d2:decide ((j:Int)<(L.length:Int))=true:=aT W
   have d3:(0:Int)<=(j:Int):=by omega
   have d4:(j:Int)<(L.length:Int):=by omega
   have d:ME.fJ i m1 (b,s)=if(i:Int)<=b then m1.put ⟨i,b+1,s⟩ else if b< -1 then m1 else m1.put ⟨i,b,s⟩:=rfl
   have M:=Z k
   by_cases e:(i:Int)<=b
   focus
    rw[au e] at d
    have e1:decide ((i:Int)<=b)=true:=aT e
    have f:IntKind.wrap .i64 (b+1)=b+1:=by rw[hh]<;>omega
   rotate_left
   focus
    rw[ar e] at d
    have e1:decide ((i:Int)<=b)=false:=bm e
    by_cases f:b< -1
    focus
     rw[au f] at d
     have e2:decide (b< -1)=true:=aT f
    rotate_left
    focus
     rw[ar f] at d
     have e2:decide (b< -1)=false:=bm f
   all_goals
    have D:=Z d
    first|clear e d k|clear e f d k
    go_wp2_with(first|(with_reducible show wpList _ _ _ (⟨_,.load 272 (.tmp 13),_,_,_,_⟩::_) _ _);refine hj rfl 272 2 rfl rfl E.U rfl V ?_|refine Kl a ?_|refine KS a λ k a=>?_|refine KA a _ 7 Nf λ N k Q a=>?_|go_at_call 146;(refine(C.U _ _ _ ⟨i,_,s⟩ (a.U.get (i:=1) rfl) z.U).mono ?_);rintro e X ⟨rfl,T,f⟩;have d:=a.U.at 1 rfl f;simp only[av,ax] at d;replace a:=Z d)
    have d:=a.U.tail
    rw[<-D.U,<-x.U] at d
    exact⟨⟨j+1,_,by have:=r.U;omega,by go_num,Z d⟩,by have:=r.U;simp[intOf];omega⟩
  ·obtain rfl:j=L.length:=by omega
   have d1:decide (L.length<L.length)=false:=bm (Nat.lt_irrefl _)
   rw[AM] at a
   go_wp2
   go_end0
   exact⟨rfl,nq,a.U⟩
variable{M:ME}
def PI{w:aa}{t:af}{p s:ab}{m:ME}(h:(Y.row g 126 (m.cells t p s)).P w)(f:m.c.cj=1)(e:m.c.key=m.k.pub):Calls prog 64 #[pV g] w λ r a=>∃q,r=ao (m.c.val (ag (some ⟨q,0,none⟩) 1 1))/\ae w a [] [Y.row q 9 [ad m.c.key]]:=by
 have a:=Z (ae.start w []);have c:=Z (aX h bg);have d:=Z (λ k=>Ji m.k k);obtain⟨⟨B,C,D⟩,⟨o,G,I,q,x,H⟩,l,E,F⟩:=m;simp only at f e d;subst f e
 go_enter func64,ntmps64
 go_upto_region 1 with(refine KA a _ 2 acg λ r j z a=>?_)
 refine ma a c 33 [] λ K a b=>?_;refine VV [0,1,2] b ?_;refine WR 3 3 b ?_;refine VV [6,7,8,9,2010] b ?_;refine W2 11 14 (v:=O 1) rfl rfl (Or.inl ⟨by kernel_rfl,λ k y=>by(go_simp;rfl)⟩) b ?_;refine VV [12,13,14,15,2016,17,18,19,20,2021,22,23,24,25,2026,27,28,29,30] b ?_;refine WR 31 5 b ?_;refine KV 4 (en 77) 7 ?_;refine KC a (d.U _) λ J a=>?_;refine⟨_,rfl,a.U.bT c.U,?_⟩;simp only[aS,av,ax];refine ay.make a.U (i:=5) V zD rfl rfl 8 rfl (some 1) 9 [ad o] ?CE ?_;case CE=>(go_simp;(rfl))
 intro u j A n;replace a:=Z n;refine⟨a.U.bT c.U,?_⟩;simp only[bc];simp only[aS,av,ax];have b:=tN a c [];refine VV [32] b ?_;refine WT ?_
 go_wp2_with(refine KS a λ j a=>?_)
 refine ha a.U 1 rfl 73 10 rfl rfl V rfl rfl ?_;exact⟨_,rfl,(a.U.ft [1,1000])⟩
def Vh{w:aa}{f:af}{d e:ab}(h:(Y.row g 126 (M.cells f d e)).P w):CB 27 #[pV g] w (ad M.k.pub):=by
 have a:=Z (ae.start w []);have b:=Z (aX h bg);have c:=Z (λ i=>Ji M.k i)
 go_enter func27,ntmps27
 go_wp2_with(first|refine KI (a.U.bT b.U) 3 ?_|go_at_call 77;refine KC a (c.U _) λ j a=>?_)
 go_ret
 exact⟨rfl,a.U.aq⟩
