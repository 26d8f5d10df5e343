import Derived.Test.YtncpbkoinennoaaGreatDoorMAS
set_option linter.all false
set_option maxRecDepth 100000
set_option maxHeartbeats 0
namespace Go.Proofs.YtncpbkoinennoaaGreatDoor
open Go.RowKit Proofs.Tryz
attribute [local irreducible] wpList Calls
variable{a:Act}{g n:Nat}
section
open Go.Shelf TreeM
attribute [local go_sem] EC
def NU{w:aa}{v:ab}(h:w.cell? ⟨g,n,none⟩=some v):g<w.heap.size:=by
 rcases jk g w.heap.size with a|a
 ·exact a
 ·simp[World.cell?,yP a] at h
def Xj{P q:List ag}(a:P.reverse=q)(c:P.length=n+1)(i:Nat)(b:i<=n)(h:n-i<P.length):q.getD i ⟨#[]⟩=P[n-i]:=by
 subst a;rw[eY,En W,show P.length-1-i=n-i by omega,ba h];rfl
def Lh{P:Program}{c:Code}{Q:Exit->Act->aa->Prop}{w:aa}(h:c.wp P (λ e a w=>e= .normal/\Q .normal a w) a w):c.wp P Q a w:=wp_mono h (λ e a w ⟨b,d⟩=>b▸d)
def N6{w:aa}(j:cp w){v:ab}{P:List ag}(h:bg w v P)(m n:Nat)(b:iz m n=false):
 CB 212 #[U (m:Int),U (n:Int),v] w (aJ #[ae ⟨#[]⟩,ae ⟨#[]⟩,O 1]):=by
 obtain⟨A,i,rfl⟩:=h.any rfl
 obtain⟨N,a⟩:∃N,P.length=N:=⟨_,rfl⟩
 rw[a]
 have h82:=λ d=>tJ m n d
 rw[b] at h82
 have c:=bJ w (.cells #[ad A N i] 64)
 have f:=Z h82;have g:=Z c
 clear h82 c h j a b
 go_enter func212,ntmps212
 go_wp2_with fail
 refine(f.U _).mono ?_
 rintro e d ⟨rfl,a⟩
 replace a:=a.symm;subst a
 go_wp2
 go_ret3
 exact⟨rfl,g.U⟩
def N7{w:aa}(y:cp w){v:ab}{P:List ag}(h:bg w v P)(m n:Nat)(r:iz m n=true)(p:mL P (kr m n)=false):
 CB 212 #[U (m:Int),U (n:Int),v] w (aJ #[ae ⟨#[]⟩,ae ⟨#[]⟩,O 11]):=by
 obtain⟨A,d,rfl⟩:=h.any rfl
 obtain⟨N,l⟩:∃N,P.length=N:=⟨_,rfl⟩
 rw[l]
 obtain⟨K,c⟩:∃K,kr m n=K:=⟨_,rfl⟩
 rw[c] at p
 have h82:=tJ m n (w.alloc (.cells #[ad A N d] 64))
 rw[r] at h82
 have b:=bJ w (.cells #[ad A N d] 64)
 have k:ah (w.alloc (.cells #[ad A N d] 64)) w.heap.size 64 #[ad A N d]:=ah.new _ _ _
 have g:=k.cell 0
 simp only[sG] at g
 rw[l] at h
 have j:=h.below b rfl
 obtain⟨f,z⟩:∃f,w.alloc (.cells #[ad A N d] 64)=f:=⟨_,rfl⟩
 rw[z] at h82 b k g j
 have h56:∀a,BW f a->CB 264 #[U (m:Int),U (n:Int)] a (O (K:Int)):=λ a q=>by rw[<-c];exact FC m n
 have h83:∀a,BW f a->Calls prog 263 #[ad A N d,O (K:Int)] a λ e s=>e=ao (aF false)/\s=a:=λ a q=>by
  have:=FW (j.below q rfl) K
  rw[p] at this
  exact this
 have t:=Z h82;have s:=Z h56;have u:=Z h83;have q:=Z b
 clear h82 h56 h83 b k h j y l c r p
 go_enter func212,ntmps212
 go_wp2_with fail
 refine t.U.mono ?_
 rintro e a ⟨rfl,j⟩
 replace j:=j.symm;subst j
 go_wp2_with fail
 refine iE (n:=5) (S:=λ a=>BW f a) V V (gp (bz _ _) 1) (λ b=> ?_)
 refine az.take (i:=0) (oi:=_) (v:=?va1) rfl zD V V (λ _ _ _ h=>h) (Or.inl ⟨by kernel_rfl,?Sn⟩) zA ?ra1
 case Sn=>(intro a x;have B:=fb x rfl g;go_simp;try(with_reducible rfl))
 try simp only[Act.put,aH]
 refine VW [1,2] zA ?_
 refine az.one (i:=3) (o:=?oa4) V zD ?RL ?acn
 case RL=>(simp only[sG];exact rfl)
 intro K c
 go_simp
 refine(s.U _ b).mono ?_
 rintro e y3 ⟨rfl,l⟩
 have k:BW f y3:=eH b (cP l (dA b))
 clear l b
 go_simp
 refine c.out _ _ k (λ b=> ?_)
 clear k
 clear c K
 try simp only[aH]
 refine az.one (i:=4) (o:=?oa5) V zD ?RM ?aco
 case RM=>(simp only[sG];exact rfl)
 intro K c
 go_simp
 refine(u.U _ b).mono ?_
 rintro e l ⟨rfl,k⟩
 replace k:=k.symm;subst k
 go_simp
 refine c.out _ _ b (λ b=> ?_)
 clear c K
 try simp only[aH]
 refine az.tail V ?_
 have c:=Z (q.U.trans (cP b q.U.size));clear b
 simp only[bU,bC]
 go_wp2
 go_ret3
 exact⟨rfl,c.U⟩
def N8{w:aa}(e7:cp w){v:ab}{P:List ag}(h:bg w v P)(m n:Nat)(c1:iz m n=true)(c6:mL P (kr m n)=true):
 CB 212 #[U (m:Int),U (n:Int),v] w (aJ #[ae (imp (steps m n) P.reverse).1,ae (imp (steps m n) P.reverse).2,O 0]):=by
 obtain⟨m1,m2,m3⟩:=H3 c1
 obtain⟨k,B⟩:=aaC c6
 have o:1<=P.length:=by rw[k,Kt c1];omega
 have h79:=λ r=>Ba (w:=r) m n m1 m2 m3
 have d:=k
 rw[Kt c1] at d
 have i:=sO 40 m n W m1
 obtain⟨t,u,F,rfl,i9⟩:=h.slice rfl o
 obtain⟨N,a⟩:∃N,P.length=N:=⟨_,rfl⟩
 rw[a]
 obtain⟨K,c⟩:∃K,kr m n=K:=⟨_,rfl⟩
 rw[c] at c6
 have h82:=tJ m n (w.alloc (.cells #[ad (some ⟨t,u,none⟩) N F] 64))
 rw[c1] at h82
 have f:=bJ w (.cells #[ad (some ⟨t,u,none⟩) N F] 64)
 have g:ah (w.alloc (.cells #[ad (some ⟨t,u,none⟩) N F] 64)) w.heap.size 64 #[ad (some ⟨t,u,none⟩) N F]:=ah.new _ _ _
 have I:=g.cell 0
 simp only[sG] at I
 rw[a] at h
 have a9:=h.below f rfl
 obtain⟨b4,C⟩:∃b4,w.alloc (.cells #[ad (some ⟨t,u,none⟩) N F] 64)=b4:=⟨_,rfl⟩
 rw[C] at h82 f g I a9
 have h56:∀r,BW b4 r->CB 264 #[U (m:Int),U (n:Int)] r (O (K:Int)):=λ r a5=>by rw[<-c];exact FC m n
 have h83:∀r,BW b4 r->Calls prog 263 #[ad (some ⟨t,u,none⟩) N F,O (K:Int)] r λ e c4=>e=ao (aF true)/\c4=r:=λ r a5=>by
  have:=FW (a9.below a5 rfl) K
  rw[c6] at this
  exact this
 have z:=Z h82;have x:=Z h56;have A:=Z h83;have j:=Z f
 obtain⟨y,i5⟩:∃y,steps m n=y:=⟨_,rfl⟩
 rw[i5] at d i h79⊢
 obtain⟨q,a5⟩:∃q,P.reverse=q:=⟨_,rfl⟩
 rw[a5]
 have d9:=Z a5;clear a5
 obtain⟨p0,b⟩:∃p0,P[0]?=some p0:=⟨P[0],ba _⟩
 have L:b4.cell? ⟨t,u,none⟩=some (ae p0):=by
  obtain⟨c7,c2,a0,-,X⟩:=a9
  injection a0 with M c5 f0
  obtain⟨c0,b7,l,-,hx⟩:=X 0 W
  rw[<-M] at l;injection l with l;injection l with e1 e2 _;subst e1 e2
  rw[hJ] at hx;rw[hx]
  rw[ba W] at b
  rw[hK b]
 have J:=Z (And.intro d (And.intro i (And.intro B a)));have d8:=Z b;have b5:=Z h79;have s:=Z a9;have g3:=Z e7
 have i7:(0:Int)<(N:Int):=by omega
 have i8:N<=41:=by omega
 have e6:0<N:=by omega
 clear h82 h56 h83 f g h a9 e7 a c c1 c6 k B b d i h79 m1 m2 m3 o
 refine(wo (n:=3)).1 ?_
 refine callsIn_of_wp_marks func212 rfl trivial ?_ rfl
 simp only[ntmps212,ji,fU,oo,Nat.reduceAdd,Nat.reduceSub,Ed,Ee,Et,El,fV,gD]
 gi_wp2_with fail
 refine⟨trivial,((wo (n:=2)).2 z.U).mono ?_⟩
 rintro e r ⟨rfl,d3⟩
 replace d3:=d3.symm;subst d3
 gi_wp2_with fail
 refine wpIn_wide.2 (Lh ?_)
 refine iE (n:=5) (S:=λ r=>BW b4 r) V V (gp (bz _ _) 1) (λ a=> ?_)
 refine az.take (i:=0) (oi:=_) (v:=?vb1) rfl zD V V (λ _ _ _ h=>nomatch h.1) (Or.inl ⟨by kernel_rfl,?So⟩) zA ?rb1
 case So=>(intro r B;have b8:=fb B rfl I;go_simp;try(with_reducible rfl))
 try simp only[Act.put,aH]
 refine az.take (i:=1) (oi:=_) (v:=?vb2) rfl zD V V (λ _ _ _ h=>nomatch h.1) (Or.inl ⟨by kernel_rfl,?Sp⟩) zA ?rb2
 case Sp=>(intro r B;go_simp;try(with_reducible rfl))
 try simp only[Act.put]
 refine az.take (i:=2) (oi:=_) (v:=?vb3) rfl zD V V (λ _ _ _ h=>nomatch h.1) (Or.inl ⟨by kernel_rfl,?Sq⟩) zA ?rb3
 case Sq=>(intro r B;go_simp;try(with_reducible rfl))
 try simp only[Act.put]
 refine az.one (i:=3) (o:=?ob4) V zD ?RN ?acp
 case RN=>(simp only[sG];exact rfl)
 intro K c
 go_simp
 refine(x.U _ a).mono ?_
 rintro e y3 ⟨rfl,D⟩
 have b:BW b4 y3:=eH a (cP D (dA a))
 clear D a
 go_simp
 refine c.out _ _ b (λ a=> ?_)
 clear b
 clear c K
 try simp only[Act.put,aH,au,ay]
 refine az.one (i:=4) (o:=?ob5) V zD ?RO ?acq
 case RO=>(simp only[sG];exact rfl)
 intro K c
 go_simp
 refine(A.U _ a).mono ?_
 rintro e j6 ⟨rfl,d4⟩
 replace d4:=d4.symm;subst d4
 go_simp
 refine c.out _ _ a (λ a=> ?_)
 clear c K
 try simp only[Act.put,aH,au,ay]
 refine WT ?_
 go_wp2
 gi_wp2_with fail
 obtain⟨b2,d⟩:∃g,w.heap.size=g:=⟨_,rfl⟩
 have b:=j.U.trans (a.mono j.U.size)
 have I:=fb a rfl I
 have L:=fb a rfl L
 have T:=Z b;have g5:=Z b.size
 have R:=Z (s.U.below a rfl)
 clear b a z x A C j s
 rw[d] at I⊢
 clear d
 have H:=Z (And.intro I L)
 refine wpIn_wide.2 (wp_mono (Q:=λ e a6 c4=>e= .normal/\∃E A:Nat,a6={tmps:=#[U (m:Int),U (n:Int),ad (some ⟨t,u,none⟩) N F,undef,undef,pV b2,ae ⟨#[]⟩,ae ⟨#[]⟩,O 0,pV E,pV A,undef,undef,undef,aF false,U (m:Int),U (n:Int),aF true,aF false,aF false,ad (some ⟨t,u,none⟩) N F,U (m:Int),U (n:Int),O (K:Int),aF true,aF false,ad (some ⟨t,u,none⟩) N F,.pointer (some ⟨t,u,none⟩),ae p0,ad (some ⟨t,u,none⟩) N F,.pointer (some ⟨t,u,none⟩),ae p0,undef,undef,undef,undef,undef,undef,undef,undef,undef,undef,undef,undef,undef,undef,undef,undef,undef,undef,undef,undef,undef,undef,undef,undef,undef,undef,undef],defers:=[]}/\Boxed c4 E 9 (ae p0)/\Boxed c4 A 9 (ae p0)/\E≠A/\y3.heap.size<=E/\y3.heap.size<=A/\BW y3 c4) ?_ ?_)
 ·refine iE (n:=9) (S:=λ r=>BW y3 r) V V (gp (bz _ _) 1) (λ a=> ?_)
  clear I L
  generalize y3.drew=x0 at*
  refine az.take (i:=0) (oi:=_) (v:=?vc1) rfl zD V V (λ _ _ _ h=>nomatch h.1) (Or.inl ⟨by kernel_rfl,?Sr⟩) zA ?rc1
  case Sr=>(intro r B;have b8:=fb B rfl H.U.1;go_simp;try(with_reducible rfl))
  try simp only[Act.put,aH]
  refine az.take (i:=1) (oi:=_) (v:=?vc2) rfl zD V V (λ _ _ _ h=>nomatch h.1) (Or.inl ⟨by kernel_rfl,?Ss⟩) zA ?rc2
  case Ss=>(intro r B;go_simp;try(with_reducible rfl))
  try simp only[Act.put]
  refine az.take (i:=2) (oi:=_) (v:=?vc3) rfl zD V V (λ _ _ _ h=>nomatch h.1) (Or.inl ⟨by kernel_rfl,?Su⟩) zA ?rc3
  case Su=>(intro r B;have b8:=fb B rfl H.U.2;go_simp;try(with_reducible rfl))
  try simp only[Act.put]
  refine az.take (i:=3) (oi:=_) (v:=?vc4) rfl zD V V (λ _ _ _ h=>nomatch h.1) (Or.inl ⟨by kernel_rfl,?Sv⟩) zA ?rc4
  case Sv=>(intro r B;have b8:=fb B rfl H.U.1;go_simp;try(with_reducible rfl))
  try simp only[Act.put]
  refine az.take (i:=4) (oi:=_) (v:=?vc5) rfl zD V V (λ _ _ _ h=>nomatch h.1) (Or.inl ⟨by kernel_rfl,?Sw⟩) zA ?rc5
  case Sw=>(intro r B;go_simp;try(with_reducible rfl))
  try simp only[Act.put]
  refine az.take (i:=5) (oi:=_) (v:=?vc6) rfl zD V V (λ _ _ _ h=>nomatch h.1) (Or.inl ⟨by kernel_rfl,?Sx⟩) zA ?rc6
  case Sx=>(intro r B;have b8:=fb B rfl H.U.2;go_simp;try(with_reducible rfl))
  try simp only[Act.put]
  refine az.many (rs:=[6,7]) V zS zS ?_
  refine gB.cons (i:=6) (o:=?oc7) ?RT ?Rp ?acP
  case RT=>(simp only[sG];exact rfl)
  case Rp=>
   intro K c
   go_simp
   have j:BW y3 (x0.alloc (.cells #[ae ⟨#[]⟩] 9)):=a.alloc a.size _
   have s:=Boxed.new x0 9 (ae ⟨#[]⟩)
   have G:=a.size
   refine c.out _ _ j (λ a=> ?_)
   clear j
   skip
   generalize x0.alloc (.cells #[ae ⟨#[]⟩] 9)=x1 at*
   generalize x0.heap.size=b at*
   have x:=Z (And.intro s G);clear s G
   clear c K
   try simp only[Act.put,aH,au,ay]
   refine az.one (i:=7) (o:=?oc8) V zD ?RU ?acu
   case RU=>(simp only[sG];exact rfl)
   intro K c
   go_simp
   have j:BW y3 (x1.alloc (.cells #[ae ⟨#[]⟩] 9)):=a.alloc a.size _
   have s:=Boxed.new x1 9 (ae ⟨#[]⟩)
   have G:=a.size
   have z:=x.U.1.alloc (.cells #[ae ⟨#[]⟩] 9)
   have b3:=x.U.1.lt
   refine c.out _ _ j (λ a=> ?_)
   clear j
   skip
   generalize x1.alloc (.cells #[ae ⟨#[]⟩] 9)=x2 at*
   generalize x1.heap.size=f at*
   have d:=Z (And.intro z (And.intro s (And.intro b3 (And.intro x.U.2 G))));clear s G z b3 x
   clear c K
   try simp only[Act.put,aH,au,ay]
   refine az.one (i:=8) (o:=?oc9) V zD ?RV ?acv
   case RV=>(simp only[sG];exact rfl)
   intro K c
   have a7:=d.U.1.cell;have f9:=d.U.1.frozen
   go_simp
   have j:BW y3 (x2.setCell ⟨b,0,none⟩ (ae p0)):=a.setCell (p:=⟨b,0,none⟩) d.U.2.2.2.1 _
   refine c.out _ _ j (λ a=> ?_)
   clear j a7 f9
   clear c K
   try simp only[Act.put,aH,au,ay]
   refine az.tail V ?_
   have k:b≠f:=by have:=d.U.2.2.1;omega
   have b6:=(d.U.2.1.other (dY k) (ae p0)).cell;have f10:=(d.U.2.1.other (dY k) (ae p0)).frozen
   have C:Boxed ((x2.setCell ⟨b,0,none⟩ (ae p0)).setCell ⟨f,0,none⟩ (ae p0)) b 9 (ae p0)/\Boxed ((x2.setCell ⟨b,0,none⟩ (ae p0)).setCell ⟨f,0,none⟩ (ae p0)) f 9 (ae p0)/\b≠f/\y3.heap.size<=b/\y3.heap.size<=f/\BW y3 ((x2.setCell ⟨b,0,none⟩ (ae p0)).setCell ⟨f,0,none⟩ (ae p0)):=⟨(d.U.1.set _).other k _,(d.U.2.1.other (dY k) _).set _,k,d.U.2.2.2.1,d.U.2.2.2.2,a.setCell (p:=⟨f,0,none⟩) d.U.2.2.2.2 _⟩
   have a1:=Z C;clear C a k
   simp only[bU,bC]
   go_wp2
   exact⟨b,f,⟨rfl,rfl⟩,a1.U⟩
  refine gB.cons (i:=7) (o:=?acX) ?RP ?Ro ?acO
  case RP=>(simp only[sG];exact rfl)
  case Ro=>
   intro K c
   go_simp
   have j:BW y3 (x0.alloc (.cells #[ae ⟨#[]⟩] 9)):=a.alloc a.size _
   have s:=Boxed.new x0 9 (ae ⟨#[]⟩)
   have G:=a.size
   refine c.out _ _ j (λ a=> ?_)
   clear j
   skip
   generalize x0.alloc (.cells #[ae ⟨#[]⟩] 9)=x1 at*
   generalize x0.heap.size=b at*
   have x:=Z (And.intro s G);clear s G
   clear c K
   try simp only[Act.put,aH,au,ay]
   refine az.one (i:=6) (o:=?acY) V zD ?RR ?acr
   case RR=>(simp only[sG];exact rfl)
   intro K c
   go_simp
   have j:BW y3 (x1.alloc (.cells #[ae ⟨#[]⟩] 9)):=a.alloc a.size _
   have s:=Boxed.new x1 9 (ae ⟨#[]⟩)
   have G:=a.size
   have z:=x.U.1.alloc (.cells #[ae ⟨#[]⟩] 9)
   have b3:=x.U.1.lt
   refine c.out _ _ j (λ a=> ?_)
   clear j
   skip
   generalize x1.alloc (.cells #[ae ⟨#[]⟩] 9)=x2 at*
   generalize x1.heap.size=f at*
   have d:=Z (And.intro z (And.intro s (And.intro b3 (And.intro x.U.2 G))));clear s G z b3 x
   clear c K
   try simp only[Act.put,aH,au,ay]
   refine az.one (i:=8) (o:=?acZ) V zD ?RS ?acs
   case RS=>(simp only[sG];exact rfl)
   intro K c
   have a7:=d.U.2.1.cell;have f9:=d.U.2.1.frozen
   go_simp
   have j:BW y3 (x2.setCell ⟨f,0,none⟩ (ae p0)):=a.setCell (p:=⟨f,0,none⟩) d.U.2.2.2.2 _
   refine c.out _ _ j (λ a=> ?_)
   clear j a7 f9
   clear c K
   try simp only[Act.put,aH,au,ay]
   refine az.tail V ?_
   have k:f≠b:=by have:=d.U.2.2.1;omega
   have b6:=(d.U.1.other (dY k) (ae p0)).cell;have f10:=(d.U.1.other (dY k) (ae p0)).frozen
   have C:Boxed ((x2.setCell ⟨f,0,none⟩ (ae p0)).setCell ⟨b,0,none⟩ (ae p0)) f 9 (ae p0)/\Boxed ((x2.setCell ⟨f,0,none⟩ (ae p0)).setCell ⟨b,0,none⟩ (ae p0)) b 9 (ae p0)/\f≠b/\y3.heap.size<=f/\y3.heap.size<=b/\BW y3 ((x2.setCell ⟨f,0,none⟩ (ae p0)).setCell ⟨b,0,none⟩ (ae p0)):=⟨(d.U.2.1.set _).other k _,(d.U.1.other (dY k) _).set _,k,d.U.2.2.2.2,d.U.2.2.2.1,a.setCell (p:=⟨b,0,none⟩) d.U.2.2.2.1 _⟩
   have a1:=Z C;clear C a k
   simp only[bU,bC]
   go_wp2
   exact⟨f,b,⟨rfl,rfl⟩,a1.U⟩
  exact gB.nil
 ·rintro e a6 d5 ⟨rfl,E,A,rfl,C,z,k,j,h10,b⟩
  have x:=T.U.trans (b.mono T.U.size)
  have I:=fb b rfl H.U.1
  have a3:=Z (R.U.below b rfl)
  have s:t<y3.heap.size:=by
   obtain⟨c7,c2,a0,-,X⟩:=R.U
   injection a0 with M c5 f0
   have f5:=J.U.1
   obtain⟨c0,b7,l,c3,-⟩:=X 0 W
   rw[<-M] at l;injection l with l;injection l with e1 e2 _;subst e1
   exact c3.1
  have f:=Z (And.intro s (And.intro j (And.intro h10 (And.intro k (And.intro (NU H.U.1) b.size)))))
  clear L a R j h10 s
  have a2:=Z C;have a1:=Z z;have s:=Z x;have c8:=Z I
  clear C z x I b T H k
  gi_wp2_with fail
  refine⟨trivial,((wo (n:=2)).2 (b5.U _)).mono ?_⟩
  rintro e b9 ⟨⟨j4,rfl,H⟩,j⟩
  have f8:y.length<=maxLen:=by have:=J.U.2.1;unfold maxLen;omega
  have d2:=H.read f8
  obtain⟨R,a8,rfl,-,c9⟩:=id d2
  have T:∀i,i<y.length->∃b o,R=some ⟨b,o,none⟩/\d5.heap.size<=b:=λ i L=>by
   rcases H.2 with⟨k,a9⟩|⟨g,c2,x,k,a4,-⟩
   ·injection k with _ c5;omega
   ·injection k with M _ _;exact⟨g,0,M,a4⟩
  have e5:=Z c9;have d7:=Z T
  have x:=Z (s.U.trans (j.mono s.U.size))
  have b1:=Z ((j.block _ a2.U.lt).trans a2.U);have b0:=Z ((j.block _ a1.U.lt).trans a1.U)
  have d6:=Z (fb j rfl c8.U)
  have d1:=Z (a3.U.below j rfl)
  have e0:=Z j.size
  have h910:E<d5.heap.size/\A<d5.heap.size:=⟨a2.U.lt,a1.U.lt⟩
  have k:=Z h910
  clear H d2 c9 T j s a2 a1 c8 a3 b5 h910
  gi_wp2_with fail
  refine⟨trivial,(M1 Fence.wide 2 trivial rfl _ _ _ _).mono ?_⟩
  rintro e j5 ⟨rfl,d2⟩
  replace d2:=d2.symm;subst d2
  have e9:=Boxed.new b9 326 (ad R y.length a8)
  have j:=bJ b9 (.cells #[ad R y.length a8] 326)
  obtain⟨H,s⟩:∃H,b9.heap.size=H:=⟨_,rfl⟩
  have j2:(b9.alloc (.cells #[ad R y.length a8] 326)).heap.size=H+1:=by rw[rJ,s]
  have e8:=x.U.trans (j.mono x.U.size)
  have C:Boxed _ _ _ _:=(j.block _ (Boxed.lt b1.U)).trans b1.U
  have z:Boxed _ _ _ _:=(j.block _ (Boxed.lt b0.U)).trans b0.U
  have I:=fb j rfl d6.U
  have a9:=d1.U.below j rfl
  have g9:rk (H+1) E A (b9.alloc (.cells #[ad R y.length a8] 326)) R y:=λ i L=>by
   obtain⟨b,o,e1,e2,e3,e4⟩:=e5.U i L
   obtain⟨c0,b7,f1,f2⟩:=d7.U i L
   rw[e1] at f1;injection f1 with f1;injection f1 with f3 f4 _;subst f3 f4
   refine⟨b,o,e1,⟨by omega,?_,?_⟩,fb j rfl e3,fb j rfl e4⟩
   ·have:=k.U.1;omega
   ·have:=k.U.2;omega
  rw[s] at e9⊢
  generalize b9.alloc (.cells #[ad R y.length a8] 326)=T at*
  have b5:ai (E<H/\A<H/\t<H/\b2<H):=Z (by have:=k.U;have:=f.U.1;have:=f.U.2.2.2.2.1;have:=f.U.2.2.2.2.2;have:=e0.U;omega)
  have a3:ai (t≠E/\t≠A/\b2≠E/\b2≠A/\E≠A):=Z (by have:=f.U.1;have:=f.U.2.1;have:=f.U.2.2.1;have:=f.U.2.2.2.2.1;have:=f.U.2.2.2.1;omega)
  have c9:ai (w.heap.size<=E/\w.heap.size<=A):=Z (by have:=f.U.2.1;have:=f.U.2.2.1;have:=g5.U;omega)
  have c8:=Z e8
  clear j x b1 b0 d6 d1 e5 d7 s e0 f e8 k
  have a5:=d9.U
  have i4:q.length=y.length+1:=by rw[<-a5,List.length_reverse];exact J.U.1
  have i3:q[y.length]?=some p0:=by
   rw[<-a5,En (by have:=J.U.1;omega)]
   rw[show P.length-1-y.length=0 by have:=J.U.1;omega]
   exact d8.U
  have f6:∀k (h:k<y.length),(λ x:gW=>x.1<N) (k,y[k]):=λ k h=>by
   have:=J.U.1;have:=J.U.2.2.2;show k<N;omega
  have i0:∀i,i<N->∃x,q.getD i ⟨#[]⟩=x/\x.size=32/\T.cell? ⟨t,u+(y.length-i),none⟩=some (ae x):=λ i L=>by
   have f:=J.U.1
   have j:=J.U.2.2.2
   obtain⟨c7,c2,a0,-,X⟩:=a9
   injection a0 with M c5 f0
   obtain⟨c0,b7,l,-,hx⟩:=X (y.length-i) W
   rw[<-M] at l;injection l with l;injection l with e1 e2 _;subst e1 e2
   refine⟨P[y.length-i]'W,?_,J.U.2.2.1 _ (cY _),hx⟩
   exact Xj d9.U f i W _
  have h32:p0.size=32:=by
   have:=d8.U
   exact J.U.2.2.1 p0 (dB this)
  have c0:N=y.length+1:=by have:=J.U.1;have:=J.U.2.2.2;omega
  have g4:=Z i0
  have g7:OwnFrom T.heap.size (λ(M:List (ih (λ x:gW=>x.1<N))) f=>Boxed f E 9 (ae (foldI q (p0,p0) M).1)/\Boxed f A 9 (ae (foldI q (p0,p0) M).2)/\KX (H+1) E A T f/\BW w f/\T.heap.size<=f.heap.size):=λ s X c7 c5 j a4 l=>
   ⟨j.1.kept a4 (λ e=>by have:=(l _ e.symm).1;have:=b5.U;omega),j.2.1.kept a4 (λ e=>by have:=(l _ e.symm).1;have:=b5.U;omega),
    λ k a0 c2 c3=>(a4.block k (by have:=j.2.2.2.2;omega) (λ e=>by have:=(l _ e.symm).1;omega)).trans (j.2.2.1 k a0 c2 c3),
    j.2.2.2.1.grown a4 j.2.2.2.1.size (λ k e=>by have:=(l k e).1;have:=c8.U.size;omega),iM j.2.2.2.2 a4.size⟩
  have g6:∀(x:ih (λ x:gW=>x.1<N)) a6,OwnFrom T.heap.size (λ(_:Unit) f=>∃a0,a6=({tmps:=#[U (m:Int),U (n:Int),ad (some ⟨t,u,none⟩) N F,undef,undef,pV b2,ae ⟨#[]⟩,ae ⟨#[]⟩,O 0,pV E,pV A,O (x.1.1:Int),pV a0,undef,aF false,U (m:Int),U (n:Int),aF true,aF false,aF false,ad (some ⟨t,u,none⟩) N F,U (m:Int),U (n:Int),O (K:Int),aF true,aF false,ad (some ⟨t,u,none⟩) N F,.pointer (some ⟨t,u,none⟩),ae p0,ad (some ⟨t,u,none⟩) N F,.pointer (some ⟨t,u,none⟩),ae p0,U (m:Int),U (n:Int),ad R y.length a8,.func (.func 292) #[] #[pV H],O (x.1.1:Int),aG #[aF x.1.2.1,U (x.1.2.2:Int)],undef,undef,undef,undef,undef,undef,undef,undef,undef,undef,undef,undef,undef,undef,undef,undef,undef,undef,undef,undef,undef],defers:=[]}:Act)/\ah f a0 328 #[aF x.1.2.1,U (x.1.2.2:Int)]):=λ x a6 s X c7 c5 j a4 l=>by
   obtain⟨a0,e1,e2⟩:=j
   exact⟨a0,e1,(a4.block a0 e2.lt (λ e=>by
    obtain⟨-,c5,s,c3⟩:=l _ e.symm
    have c2:X.heap[a0]?=some _:=e2
    rw[c2] at s;injection s with s;subst s;cases c3)).trans e2⟩
  have g8:=bz T.heap.size T
  have d6:=Z c0;clear c0
  gi_wp2_with fail
  refine wpIn_rangeFunc_ownH rfl zD (gf:=292) (lb:=#[pV H]) rfl trivial (enters_of func292 V rfl)
   (M0 (p:=λ x:gW=>x.1<N) Fence.wide 2 trivial rfl zD H (H+1) E A a8 W (by have:=b5.U;omega) (by have:=b5.U;omega) R y f8 f6 ⟨(0,(true,0)),e6⟩ T W e9.cell g9) (λ h k=>KX.trans h k) (λ f l c5 b7 f5 _ _ _=>KX.put f l b7 W) g8 (λ _=>rfl)
   (λ M f=>Boxed f E 9 (ae (foldI q (p0,p0) M).1)/\Boxed f A 9 (ae (foldI q (p0,p0) M).2)/\KX (H+1) E A T f/\BW w f/\T.heap.size<=f.heap.size)
   (λ _ _ _=>False) g7 (λ _ _ _ _ _ j _ _=>j) ⟨C,z,KX.refl _ _ _ _,c8.U,aW _⟩
   (λ x a6 f=>∃a0,a6=({tmps:=#[U (m:Int),U (n:Int),ad (some ⟨t,u,none⟩) N F,undef,undef,pV b2,ae ⟨#[]⟩,ae ⟨#[]⟩,O 0,pV E,pV A,O (x.1.1:Int),pV a0,undef,aF false,U (m:Int),U (n:Int),aF true,aF false,aF false,ad (some ⟨t,u,none⟩) N F,U (m:Int),U (n:Int),O (K:Int),aF true,aF false,ad (some ⟨t,u,none⟩) N F,.pointer (some ⟨t,u,none⟩),ae p0,ad (some ⟨t,u,none⟩) N F,.pointer (some ⟨t,u,none⟩),ae p0,U (m:Int),U (n:Int),ad R y.length a8,.func (.func 292) #[] #[pV H],O (x.1.1:Int),aG #[aF x.1.2.1,U (x.1.2.2:Int)],undef,undef,undef,undef,undef,undef,undef,undef,undef,undef,undef,undef,undef,undef,undef,undef,undef,undef,undef,undef,undef],defers:=[]}:Act)/\ah f a0 328 #[aF x.1.2.1,U (x.1.2.2:Int)]) g6 ?assign ?body ?done ?stop
  case assign=>
   intro l M x f K L c
   gi_wp2
   refine c _ _ (((KeepsOthers.below (bJ f _))).from _) (KX.qI (bJ f _) (by have:=L.2.2.2.2;omega)) ⟨L.1.alloc _,L.2.1.alloc _,L.2.2.1.trans (KX.qI (bJ f _) (by have:=L.2.2.2.2;omega)),L.2.2.2.1.trans ((bJ f _).mono L.2.2.2.1.size),by rw[rJ];have:=L.2.2.2.2;omega⟩ ⟨_,rfl,ah.new _ _ _⟩
  case body=>
   rintro l M x a6 f f5 i2 ⟨C,z,b7,e5,G⟩ ⟨a0,rfl,e0⟩ b3
   have I:f.cell? ⟨b2,0,none⟩=_:=(b7.cell (o:=0) (by have:=b5.U;omega) a3.U.2.2.1 a3.U.2.2.2.1).trans I
   obtain⟨⟨k,g2,i6⟩,c7⟩:=x
   replace c7:k<N:=c7
   obtain⟨h,e8,i1,d1⟩:=g4.U k c7
   have d1:f.cell? ⟨t,u+(y.length-k),none⟩=_:=(b7.cell (by have:=b5.U;omega) a3.U.1 a3.U.2.1).trans d1
   have d0:=e0.cell 0
   simp only[sG] at d0
   have c2:=GZ q (p0,p0) M ⟨(k,g2,i6),c7⟩
   have c3:=G0 q M (p0,p0) ⟨h32,h32⟩
   obtain⟨⟨g0,j3⟩,f7⟩:∃g1,foldI q (p0,p0) M=g1:=⟨_,rfl⟩
   rw[f7] at C z c2 c3
   dsimp only at C z c3
   have a7:=C.cell;have b6:=z.cell
   obtain⟨j,f0⟩:∃j,y.length-k=j:=⟨_,rfl⟩
   rw[f0] at d1
   have j0:(0:Int)<=(j:Int):=by omega
   have j1:(j:Int)<(N:Int):=by have:=d6.U;omega
   have e1:IntKind.i64.wrap ((N:Int)-1)=(N:Int)-1:=bd _ W
   have e2:IntKind.i64.wrap ((N:Int)-1-(k:Int))=(j:Int):=by rw[show(N:Int)-1-(k:Int)=(j:Int) by have:=d6.U;omega];exact bd _ W
   simp only[nB] at c2
   rw[e8] at c2
   have c5:=Z c2;have X:=Z (And.intro c3.1 (And.intro c3.2 i1));have c0:=Z e5;have d7:=Z b7;have a2:=Z C;have a1:=Z z;have s:=Z (And.intro f5 G)
   clear c2 c3 e5 b7 C z i2 b3 f7 e8 f5 G e0 f0
   have c2:=g3.U.below c0.U
   have b3:=Z c2;clear c2
   dsimp only
   cases g2 with
   |true=>
    gi_wp2_with fail
    refine⟨trivial,(CallsIn.inRound l ((wo (n:=0)).2 (xu b3.U _ _ (by have:=X.U.2.1;omega) (by have:=X.U.2.2;omega)))).mono ?_⟩
    rintro e c2 ⟨rfl,D⟩
    have C:Boxed _ _ _ _:=(D.block _ (Boxed.lt a2.U)).trans a2.U
    have z:Boxed _ _ _ _:=(D.block _ (Boxed.lt a1.U)).trans a1.U
    have b6:=z.cell;have f10:=z.frozen
    have d:=Z D;have b1:=Z C;have b0:=Z z
    clear D C z a7 d0
    gi_wp2
    refine⟨((KeepsOthers.below d.U).trans (Ek c2 _ _)).from _,(KX.qI d.U (by have:=s.U.2;omega)).trans (KX.yg c2 _),?_,?_,(d7.U.trans (KX.qI d.U (by have:=s.U.2;omega))).trans (KX.yg c2 _),(c0.U.trans (d.U.mono c0.U.size)).setCell (p:=⟨A,0,none⟩) c9.U.2 _,by rw[ET];have:=s.U.2;have:=d.U.size;omega⟩
    ·rw[c5.U];exact b1.U.other a3.U.2.2.2.2 _
    ·rw[c5.U];exact b0.U.set _
   |false=>
    gi_wp2_with fail
    refine aaK (n:=6) (S:=λ r=>BW f r) (λ _ _ h=>h) V V V (gp (bz _ _) 1) (λ a=> ?_)
    refine VW [0] zA ?_
    refine az.take (i:=1) (oi:=_) (v:=?vd2) rfl zD V V (λ _ _ _ h=>h) (Or.inl ⟨by kernel_rfl,?Sy⟩) zA ?Jo
    case Sy=>(intro r B;have b8:=fb B rfl a7;go_simp;try(with_reducible rfl))
    try simp only[Act.put,aH]
    refine VW [3] zA ?_
    refine az.take (i:=4) (oi:=_) (v:=?vd4) rfl zD V V (λ _ _ _ h=>h) (Or.inl ⟨by kernel_rfl,?Sz⟩) zA ?rd4
    case Sz=>(intro r B;have b8:=fb B rfl b6;go_simp;try(with_reducible rfl))
    try simp only[Act.put,aH]
    refine az.one (i:=2) (o:=?od5) V zD ?RW ?acw
    case RW=>(simp only[sG];exact rfl)
    intro K c
    go_simp
    refine(xu (b3.U.below a) _ _ (by have:=X.U.2.2;omega) (by have:=X.U.1;omega)).mono ?_
    rintro e z2 ⟨rfl,D⟩
    have c2:BW f z2:=eH a (cP D (dA a))
    clear D a
    go_simp
    refine c.out _ _ c2 (λ a=> ?_)
    clear c2
    clear c K
    try simp only[aH]
    refine az.one (i:=5) (o:=?od6) V zD ?RX ?acx
    case RX=>(simp only[sG];exact rfl)
    intro K c
    go_simp
    refine(xu (b3.U.below a) _ _ (by have:=X.U.2.2;omega) (by have:=X.U.2.1;omega)).mono ?_
    rintro e z5 ⟨rfl,D⟩
    have c2:BW f z5:=eH a (cP D (dA a))
    clear D a
    go_simp
    refine c.out _ _ c2 (λ a=> ?_)
    clear c2
    clear c K
    try simp only[aH]
    refine az.tail V ?_
    have d:=Z a;clear a
    have C:Boxed _ _ _ _:=(d.U.block _ (Boxed.lt a2.U)).trans a2.U
    have z:Boxed _ _ _ _:=(d.U.block _ (Boxed.lt a1.U)).trans a1.U
    have k9:=C.cell;have f9:=C.frozen
    have lp:=(z.other (dY a3.U.2.2.2.2) (ae (jA h g0))).cell;have f10:=(z.other (dY a3.U.2.2.2.2) (ae (jA h g0))).frozen
    have b1:=Z C;have b0:=Z z
    clear C z a7 b6
    simp only[bU,bC]
    go_wp2
    refine⟨(((KeepsOthers.below d.U).trans (Ek z5 _ _)).trans (Ek _ _ _)).from _,((KX.qI d.U (by have:=s.U.2;omega)).trans (KX.Kb z5 _)).trans (KX.yg _ _),?_,?_,((d7.U.trans (KX.qI d.U (by have:=s.U.2;omega))).trans (KX.Kb z5 _)).trans (KX.yg _ _),((c0.U.trans (d.U.mono c0.U.size)).setCell (p:=⟨E,0,none⟩) c9.U.1 _).setCell (p:=⟨A,0,none⟩) c9.U.2 _,by rw[ET,ET];have:=s.U.2;have:=d.U.size;omega⟩
    ·rw[c5.U];exact(b1.U.set _).other a3.U.2.2.2.2 _
    ·rw[c5.U];exact(b0.U.other (dY a3.U.2.2.2.2) _).set _
  case done=>
   rintro D s f l rfl ⟨C,z,b7,j,G⟩ c
   rw[QI y f6 ⟨(0,(true,0)),e6⟩ q i4 p0 i3] at C z
   have a7:f.drew.cell? ⟨E,0,none⟩=_:=C.cell;have b6:f.drew.cell? ⟨A,0,none⟩=_:=z.cell
   have k:=Z (And.intro j G);have d:=Z c
   clear C z b7 j G c
   gi_wp2_with fail
   refine wpIn_wide.2 (Lh ?_)
   refine iE (n:=3) (S:=λ r=>r=f.drew) V V rfl (λ a=> ?_)
   refine az.take (i:=0) (oi:=_) (v:=?vf1) rfl zD V V (λ _ _ _ h=>nomatch h.1) (Or.inl ⟨by kernel_rfl,?SA⟩) zA ?rf1
   case SA=>(intro r B;subst B;go_simp;try(with_reducible rfl))
   try simp only[Act.put,aH]
   refine az.take (i:=1) (oi:=_) (v:=?vf2) rfl zD V V (λ _ _ _ h=>nomatch h.1) (Or.inl ⟨by kernel_rfl,?SB⟩) zA ?rf2
   case SB=>(intro r B;subst B;go_simp;try(with_reducible rfl))
   try simp only[Act.put]
   refine az.take (i:=2) (oi:=_) (v:=?vf3) rfl zD V V (λ _ _ _ h=>nomatch h.1) (Or.inl ⟨by kernel_rfl,?SE⟩) zA ?rf3
   case SE=>(intro r B;go_simp;try(with_reducible rfl))
   try simp only[Act.put]
   refine az.tail V ?_
   clear a
   simp only[bU,bC]
   go_wp2
   gi_wp2
   refine⟨by simp,.inl ⟨_,_,rfl,run_takeDeferred d.U,?_⟩⟩
   exact⟨_,results_tmp3 rfl _ _ _,rfl,(Below.drew k.U.1).trans (belowK_b (w:=w) (aW _) f.drew D _ _ (by have:=c8.U.size;omega) d.U rfl rfl)⟩
  case stop=>
   rintro D c M f _ _ h _
   exact h.elim
def FB{w:aa}(c:cp w){v:ab}{P:List ag}(h:bg w v P)(m n:Nat):
 CB 212 #[U (m:Int),U (n:Int),v] w (aJ #[ae (iu m n P),ae (hQ m n P),O (fF m n P)]):=by
 cases a:iz m n with
 |false=>
  obtain⟨e1,e2,e3⟩:=SP (P:=P) a
  rw[e1,e2,e3];exact N6 c h m n a
 |true=>
  cases b:mL P (kr m n) with
  |false=>
   obtain⟨e1,e2,e3⟩:=SQ a b
   rw[e1,e2,e3];exact N7 c h m n a b
  |true=>
   obtain⟨e1,e2,e3⟩:=SR a b
   rw[e1,e2,e3];exact N8 c h m n a b
end
variable{r:Int}{i k:Nat}
def nr{α:Type}(L M:List α)(i:Nat)(j:Int):Prop:=M.length=L.length/\(i:Int)+j+1=(L.length:Int)/\∀q:Nat,q<L.length->M[q]?=if(q<i\/j<(q:Int)) then L[L.length-1-q]? else L[q]?
def nr.start{α:Type}(L:List α)(j:Int)(h:j+1=(L.length:Int)):nr L L 0 j:=
 ⟨rfl,by omega,λ q a=>by rw[aj W]⟩
def nr.step{α:Type}{L M:List α}(h:nr L M i (g:Int))(x y:α)(o:i<g)(k:g<L.length)(hx:M[i]?=some x)(n:M[g]?=some y):nr L ((M.set i y).set g x) (i+1) ((g:Int)-1):=by
 obtain⟨l,p,a⟩:=h;refine⟨by simp[l],by omega,λ q m=> ?_⟩;have f:=a i W;have j:=a g k;rw[aj W,hx] at f;rw[aj W,n] at j;by_cases b:q=g
 ·subst b;rw[om (by simp;omega),ax W,f];congr 1;omega
 ·rw[iK (λ e=>b e.symm)];by_cases c:q=i
  ·subst c;rw[om W,ax W,j];congr 1;omega
  ·rw[iK (λ e=>c e.symm),a q m];by_cases d:q<i\/(g:Int)<(q:Int)
   ·rw[ax d,ax W]
   ·rw[aj d,aj W]
def nr.end_{α:Type}{L M:List α}(h:nr L M i r)(e: -1<=r+1)(d:¬(i:Int)<r):M=L.reverse:=by
 obtain⟨f,g,c⟩:=h;refine zl (λ q=> ?_);by_cases b:q<L.length
 ·rw[c q b,En b];by_cases a:q<i\/(r:Int)<(q:Int)
  ·rw[ax a]
  ·rw[aj a];congr 1;omega
 ·rw[List.getElem?_eq_none W,List.getElem?_eq_none (by simp;omega)]
def Ky(M:List ag)(i:Nat)(y:ag):aV (M.set i y)=(aV M).set i (ae y):=by simp[aV,mW]
def Kg(a:Array ab)(n i:Nat)(u:ab)(b:i<n):(a.setIfInBounds i u).toList.take n=(a.toList.take n).set i u:=by
 rw[LF,zu]
def Ow{wr:aa}{L M:List ag}(A:bP k wr (ad (some ⟨g,0,none⟩) n i) M)(G:L.length=n)(H:M.length=L.length)(a j:Nat)(x y:ag)(hx:M[a]?=some x)(B:M[j]?=some y)(I:a<j)(u:a<n)(v:j<n):
 (wr.cell? ⟨g,a,none⟩=some (ae x))/\(wr.cell? ⟨g,j,none⟩=some (ae y))/\(wr.frozen? ⟨g,a,none⟩=false)/\(wr.frozen? ⟨g,j,none⟩=false)/\
 ((wr.setCell ⟨g,a,none⟩ (ae y)).cell? ⟨g,j,none⟩=some (ae y))/\((wr.setCell ⟨g,a,none⟩ (ae y)).frozen? ⟨g,j,none⟩=false)/\
 bP k ((wr.setCell ⟨g,a,none⟩ (ae y)).setCell ⟨g,j,none⟩ (ae x)) (ad (some ⟨g,0,none⟩) n i) ((M.set a y).set j x):=by
 rcases A.2 with⟨h,F⟩|⟨E,D,d,h,s,t,J,w,o,f⟩
 ·cases h
 ·injection h with b C p
  injection b with b;injection b with b _ _
  subst b p
  have c:ah wr g 9 d:=t
  rw[rD] at f o
  have l:∀q z,q<n->M[q]?=some z->d[q]?=some (ae z):=λ q z r m=>by
   have e:(d.toList.take M.length)[q]?=some (ae z):=by rw[f];simp[aV,m]
   rw[List.getElem?_take_of_lt W] at e
   simpa using e
  have r:=l a x u hx
  have m:=l j y v B
  have e:=c.cN a (ae y)
  have q:=e.cN j (ae x)
  refine⟨(c.cell _).trans r,(c.cell _).trans m,c.frozen _,c.frozen _,?_,e.frozen _,?_⟩
  ·rw[e.cell,Array.getElem?_setIfInBounds_ne W];exact m
  ·refine⟨by rw[Kx,rD],.inr ⟨g,i,_,by rw[show((M.set a y).set j x).length=n by simp;omega],s,q,by simp;omega,w,by rw[Array.size_setIfInBounds,Array.size_setIfInBounds,rD];exact o,?_⟩⟩
   rw[rD,show((M.set a y).set j x).length=M.length by simp,Kg _ _ _ _ W,Kg _ _ _ _ W,f,Ky,Ky]
def Ov{w:aa}{v:ab}{L:List ag}(h:bP g w v L)(D:L.length<=maxLen):
 Calls prog 299 #[v] w λ e a=>(∃u,e=ao u)/\bP g a v L.reverse/\Below g w a:=by
 have J:∃A b,v=ad A L.length b/\(1<=L.length->∃a,A=some ⟨a,0,none⟩/\g<=a):=by
  rcases h.2 with⟨d,e⟩|⟨a,b,j,d,f,k,c,_⟩
  ·exact⟨none,0,by rw[d,e],λ i=>absurd i W⟩
  ·exact⟨some ⟨a,0,none⟩,b,d,λ _=>⟨a,rfl,f⟩⟩
 obtain⟨A,b,rfl,d⟩:=J
 have I:L.length<=9223372036854775807:=D
 have s:=Z d;have r:=Z h
 obtain⟨n,c⟩:∃n,L.length=n:=⟨_,rfl⟩
 rw[c] at s r I⊢
 have l:=Z c
 have e1:IntKind.i64.wrap ((n:Int)-1)=(n:Int)-1:=bd _ W
 clear h D d c
 go_enter func299,ntmps299
 go_wp2
 go_loopw [2,3] (λ c d wr=>∃(i:Nat) (j:Int) (M:List ag),c=O (i:Int)/\d=O j/\(i:Int)+j+1=(n:Int)/\-1<=j/\nr L M i j/\bP g wr (ad A n b) M/\Below g w wr) (λ c d _=>(intOf d+1-intOf c).toNat)
 case atStart=>exact⟨0,(n:Int)-1,L,rfl,rfl,by omega,by omega,nr.start L _ (by have:=l.U;omega),r.U,bz _ _⟩
 case round=>
  obtain⟨i,q,M,rfl,rfl,a1,X,d,k,f⟩:=hrel
  by_cases a0:(i:Int)<q
  ·obtain⟨j,rfl⟩:∃j:Nat,q=(j:Int):=⟨q.toNat,by omega⟩
   have C:i<j:=by omega
   have u:=d.1
   have t:=l.U
   obtain⟨a,rfl,B⟩:=s.U W
   obtain⟨x,hx⟩:∃x,M[i]?=some x:=⟨_,ba W⟩
   obtain⟨y,e⟩:∃y,M[j]?=some y:=⟨_,ba W⟩
   have F:=d.step x y C W hx e
   obtain⟨P,H,Q,R,c,T,E⟩:=Ow k t u i j x y hx e C W W
   have z:Below g w ((wr.setCell ⟨a,i,none⟩ (ae y)).setCell ⟨a,j,none⟩ (ae x)):=by
    have:=f
    exact(this.setCell (p:=⟨a,i,none⟩) B _).setCell (p:=⟨a,j,none⟩) B _
   have G:=Z c;have m:=Z (And.intro F (And.intro E z))
   have a2:(0:Int)<=(i:Int):=by omega
   have a3:(i:Int)<(n:Int):=by omega
   have a4:(0:Int)<=(j:Int):=by omega
   have a5:(j:Int)<(n:Int):=by omega
   have e2:IntKind.i64.wrap ((j:Int)-1)=(j:Int)-1:=bd _ W
   have N:=c
   clear F E z k f d u hx e t c
   go_wp2
   refine iE (n:=14) (S:=(λ t=>t.cell? ⟨a,j,none⟩=some (ae y))) V V (by exact H) (λ e=> ?_)
   ·
    refine VW [0,1,2,3,4,5,6] zA ?_
    refine az.take (i:=7) (oi:=_) (v:=?vr8) rfl zD V V (λ _ _ _ h=>h) (Or.inl ⟨by kernel_rfl,?SJ⟩) zA ?_
    case SJ=>(intro t u;go_simp;try(with_reducible rfl))
    try simp only[Act.put,aH]
    refine VW [8,9,10] zA ?_
    refine az.one (i:=11) (o:=?ac0) V zD ?RZ ?acz
    case RZ=>(simp only[sG];exact rfl)
    intro K c
    go_simp
    refine c.out _ _ e (λ e=> ?_)
    clear c K
    try simp only[aH]
    refine VW [12] zA ?_
    refine az.one (i:=13) (o:=?ac1) V zD ?R0 ?acA
    case R0=>(simp only[sG];exact rfl)
    intro K c
    go_simp
    refine c.out _ _ (by exact G.U) (λ e=> ?_)
    clear c K
    try simp only[aH]
    refine az.tail V ?_
    clear e
    simp only[bU,bC]
    go_wp2
    go_roundw
    case rel=>exact⟨i+1,(j:Int)-1,(M.set i y).set j x,by go_num,rfl,by omega,by omega,m.U.1,m.U.2.1,m.U.2.2.drew⟩
    case measure=>simp[intOf];omega
  ·have e:=d.end_ (by have:=l.U;omega) W
   have c:ai (bP g wr (ad A n b) L.reverse/\Below g w wr):=Z ⟨by rw[<-e];exact k,f⟩
   clear e d k f
   go_wp2
   go_end0
   exact⟨⟨_,rfl⟩,c.U.1,c.U.2⟩
variable{t:TypeId}
def bP.below{w a:aa}{v:ab}{L:List ag}(h:bP g w v L)(b:BW w a):bP g a v L:=xG h b
def bP.ne{w:aa}{v:ab}{L:List ag}{a:Array ab}(h:bP n w v L)(f:ah w g t a)(j:t≠9):some g≠v.ownBlock:=by
 rcases h.2 with⟨rfl,_⟩|⟨d,k,b,rfl,l,i,_⟩
 ·simp[Value.ownBlock]
 ·intro e;have c:g=d:=by simpa[Value.ownBlock] using e
  subst c;exact f.Ih (show ah w g 9 b from i) j rfl
section
open TreeM
def nb(d:List (Bool×Nat))(n:Nat):Prop:=∃m,1<=m/\m<=n/\d=steps m n
def nb.cons{b:Bool}{d:List (Bool×Nat)}(h:nb ((b,k)::d) n):1<=k/\k<n/\(b=true->nb d k)/\(b=false->nb d (n-k)):=by
 obtain⟨m,f,j,e⟩:=h;by_cases i:m<n
 ·have a:=nX (n:=n) W;have c:=pr (n:=n) W;by_cases g:m<=split n
  ·rw[De f i g] at e;injection e with e1 e2;injection e1 with e3 e4;subst e3 e4 e2;exact⟨c,a,λ _=>⟨m,f,g,rfl⟩,(λ h=>by cases h)⟩
  ·rw[Df i W] at e;injection e with e1 e2;injection e1 with e3 e4;subst e3 e4 e2;exact⟨c,a,(λ h=>by cases h),λ _=>⟨m-split n,by omega,by omega,rfl⟩⟩
 ·rw[yn W] at e;cases e
def ef.grown{w f:aa}{v u:ab}{e:List (Bool×Nat)}{L:List ag}(h:ef g w u e)(m:bP n w v L)(k:w.grownBy f v.ownBlock):ef g f u e:=by
 refine⟨h.1,?_⟩;rcases h.2 with j|⟨a,i,b,rfl,l,d,r⟩
 ·exact .inl j
 ·have c:ah w a 328 b:=d;exact .inr ⟨a,i,b,rfl,l,(k.block a c.lt (m.ne c zD)).trans d,r⟩
end
section
open TreeM
def NT{w:aa}(g5:cp w){v:ab}{L:List ag}(h:bg w v L)(A:∀s∈L,s.size<=80000000)(g6:L.length<1000000)(m:Nat)(c8:1<=m/\m<=L.length):
 Calls prog 272 #[O (m:Int),v] w λ e a=>(∃u,e=ao (aJ #[u,O 0])/\bP w.heap.size a u (we m L))/\BW w a:=by
 obtain⟨d,a⟩:∃d,steps m L.length=d:=⟨_,rfl⟩
 obtain⟨R,c⟩:∃R,ql d L=R:=⟨_,rfl⟩
 have k:we m L=R.reverse:=by unfold we;rw[a,c]
 rw[k]
 have j1:d.length<=64:=by rw[<-a];have:=sO 40 m L.length W W;omega
 have j:nb d L.length:=⟨m,c8.1,c8.2,a.symm⟩
 have g:=Ba (w:=w) m L.length c8.1 c8.2 W
 rw[a] at g
 have f2:=Z g5;have b:=Z (And.intro h (And.intro A (And.intro j c)));have f:=Z g
 obtain⟨i0,i3,rfl,l,-⟩:=id h
 obtain⟨g4,g0,g1,g2,g3⟩:=ki DL
 obtain⟨f0,i⟩:∃n,L.length=n:=⟨_,rfl⟩
 rw[i] at g6 c8 b f⊢
 have e5:=Z i
 have e1:IntKind.u64.wrap (m:Int)=(m:Int):=by show(m:Int)%18446744073709551616=_;omega
 have e2:IntKind.u64.wrap (f0:Int)=(f0:Int):=by show(f0:Int)%18446744073709551616=_;omega
 have k2:((m:Int)<1)=False:=lh W
 have k3:((f0:Int)<(m:Int))=False:=lh W
 clear g5 h A a c k j g l i
 go_enter zZ,ntmps272
 go_wp2_with fail
 refine f.U.mono ?_
 rintro e k8 ⟨⟨k7,rfl,a⟩,c⟩
 obtain⟨i1,i4,rfl,-,-⟩:=id (a.read (by unfold maxLen;omega))
 have g:=Z (And.intro a c)
 clear a c f
 obtain⟨b0,a⟩:∃n,d.length=n:=⟨_,rfl⟩
 rw[a] at j1 g⊢
 have f5:=Z a;clear a
 go_wp2
 go_loopw [1,6,24] (λ k v j wr=>∃(i:Nat) (o a:List ag) (Al:Option Addr) (f:Nat),j=O (i:Int)/\k=ad Al a.length f/\o.length=i/\i<=b0/\bg w (ad Al a.length f) a/\(∀s∈a,s.size<=80000000)/\a.length<1000000/\nb (d.drop i) a.length/\o++ql (d.drop i) a=R/\bP w.heap.size wr v o/\ef w.heap.size wr (ad i1 b0 i4) d/\BW w wr) (λ _ _ j _=>b0-(intOf j).toNat)
 case atStart=>exact⟨0,[],L,i0,i3,rfl,by rw[e5.U],rfl,bh _,by rw[e5.U];exact b.U.1,b.U.2.1,by rw[e5.U];exact g6,by rw[e5.U];exact b.U.2.2.1,b.U.2.2.2,bP.nil _ _,g.U.1,g.U.2⟩
 case round=>
  obtain⟨i,o,a,Al,f,rfl,rfl,I,j9,H,a0,g7,c3,a4,a8,a9,M⟩:=hrel
  clear b g
  by_cases i9:i<b0
  ·have j3:(i:Int)<(b0:Int):=by omega
   have g8:i<d.length:=by rw[f5.U];exact i9
   obtain⟨b,k,e9⟩:∃b k,d[i]=(b,k):=⟨_,_,rfl⟩
   have c2:d.drop i=(b,k)::d.drop (i+1):=by rw[gE g8,e9]
   obtain⟨k0,i6,f9,f8⟩:=nb.cons (c2▸c3)
   have j2:=a9.read (by have:=f5.U;unfold maxLen;omega)
   obtain⟨j5,j8,j0,-,g⟩:=j2
   injection j0 with d9 g9 e0
   subst d9 e0
   obtain⟨j6,k4,rfl,-,e6,e7⟩:=g i g8
   clear g g9
   rw[e9] at e6 e7
   dsimp only at e6 e7
   have i8:=H
   obtain⟨j4,j7,i7,-,g⟩:=i8
   injection i7 with d9 _ e0
   subst d9 e0
   obtain⟨bl,B,rfl,⟨-,i5⟩,-⟩:=g 0 W
   clear g
   have k1:(0:Int)<=(i:Int):=by omega
   obtain⟨i2,e8⟩:∃n,a.length=n:=⟨_,rfl⟩
   obtain⟨f6,f7⟩:∃n,i2-k=n:=⟨_,rfl⟩
   have k5:(0:Int)<=(k:Int):=by omega
   have d9:(k:Int)<=(a.length:Int):=by omega
   have g9:(k:Int)<=(f:Int):=by omega
   have e0:k<=a.length:=by omega
   have k6:¬f=k:=by omega
   rw[e8] at d9 e0 i6 g7 i5⊢
   skip
   cases b
   ·have c1:nb (d.drop (i+1)) f6:=by rw[<-f7,<-e8];exact f8 rfl
    have f3:=Z c1;clear c1
    have c0:(o++[aE (a.take k)])++ql (d.drop (i+1)) (a.drop k)=R:=by rw[<-a4,c2,di];rfl
    have b2:=Z c0;clear c0
    have J:∀z,BW w z->CB 298 #[(ad (some ⟨bl,B,none⟩) k f)] z (ae (aE (a.take k))):=λ z T=>xV (f2.U.below T) ((H.take k W).below T rfl) (λ s A=>a0 s (oq A)) (by rw[ee];omega)
    have d6:∀s∈a.drop k,s.size<=80000000:=λ s A=>a0 s (pT A)
    have G:(a.drop k).length=f6:=by rw[hG];omega
    have c6:bg w (.slice (some ⟨bl,B+k,none⟩) (a.drop k).length (f-k)) (a.drop k):=by rw[G,<-f7,<-e8];exact H.drop k W
    have c7:(Value.slice (some ⟨bl,B+k,none⟩) f6 (f-k))= .slice (some ⟨bl,B+k,none⟩) (a.drop k).length (f-k):=by rw[G]
    skip
    have K:=Z J;have E:=Z (And.intro c6 (And.intro d6 G));have f4:=Z c7;clear J c6 d6 G c7
    obtain⟨r,X⟩:∃r,aE (a.take k)=r:=⟨_,rfl⟩
    rw[X] at K b2;clear X
    have F:=ah.new wr 328 #[aF false,U (k:Int)]
    have c:=bJ wr (.cells #[aF false,U (k:Int)] 328)
    have a6:=bP.below a8 c
    have a7:=ef.below a9 c
    have a5:=M.trans (c.mono M.size)
    obtain⟨b8,c4⟩:∃g,wr.heap.size=g:=⟨_,rfl⟩
    obtain⟨e4,d8⟩:∃e4,wr.alloc (.cells #[aF false,U (k:Int)] 328)=e4:=⟨_,rfl⟩
    rw[d8] at F a6 a7 a5;rw[c4] at F
    have t:=Z F;have b4:=Z a6;have b6:=Z a7;have D:=Z a5
    clear F c a6 a7 a5 a8 a9 M a4 f9 f8 c3 c2 H a0 e9
    go_upto_region 7 with fail
    clear d8 c4 e6 e7
    have d0:=t.U.cell 0;have d1:=t.U.cell 1
    simp only[sG] at d0 d1
    go_wp2_with fail
    refine(K.U _ D.U).mono ?_
    rintro e n ⟨rfl,j⟩
    have a2:ah n b8 328 _:=(j.block _ t.U.lt).trans t.U
    have q:=bP.below b4.U j;have d3:=ef.below b6.U j;have x:=D.U.trans (j.mono D.U.size)
    have c9:=q.ne a2 zD
    have b9:=a2.alloc (.cells #[ae r] 9)
    have c:=bJ n (.cells #[ae r] 9)
    have y:(n.alloc (.cells #[ae r] 9)).ownsRow w.heap.size 9 1 u6 i (aV o):=by have:=bP.below q c;unfold bP at this;rwa[I] at this
    have d4:=ef.below d3 c;have N:=x.trans (c.mono x.size);have d2:=bP.below q c
    have b1:=Z b9;have b7:=Z d4;have l:=Z N;have b3:=Z c9;have b5:=Z d2
    clear a2 q d3 x c9 c d4 N b9 d2 t b4 b6 D j d0 d1
    go_wp2_with(at_builtin;refine yE rfl _ _ 64 rfl w.heap.size 9 g4 (.string ⟨#[]⟩) 16 lU g0 g1 g2 g3 rfl _ _ _ rfl y n.heap.size 1 rfl #[.string r] _ _ (lo _ _) rfl zD (by intro u a1;simp at a1;rcases a1 with rfl;rfl) (by unfold maxLen;omega) W l.U.size ?_)
    intro e3 C Q p d7
    have a3:ah C b8 328 _:=b1.U.grown p b3.U
    have P:BW w C:=l.U.grown p l.U.size (λ k c5=>(y.lt k c5).1)
    have d5:=ef.grown b7.U b5.U p
    have S:bP w.heap.size C e3 (o++[r]):=by unfold bP;rw[pw,bA,I];exact Q
    have d0:=a3.cell 0;have d1:=a3.cell 1
    simp only[sG] at d0 d1
    have f1:=Z (And.intro S (And.intro d5 P))
    clear a3 P d5 S Q p d7 y b1 b7 l b3 b5
    go_wp2
    go_roundw
    case rel=>exact⟨i+1,o++[r],a.drop k,some ⟨bl,B+k,none⟩,f-k,by go_num,f4.U,by rw[bA,I];rfl,by omega,E.U.1,E.U.2.1,by rw[E.U.2.2];omega,by rw[E.U.2.2];exact f3.U,b2.U,f1.U⟩
    case measure=>simp[intOf];omega
   ·have c1:nb (d.drop (i+1)) k:=f9 rfl
    have f3:=Z c1;clear c1
    have c0:(o++[aE (a.drop k)])++ql (d.drop (i+1)) (a.take k)=R:=by rw[<-a4,c2,di];rfl
    have b2:=Z c0;clear c0
    have J:∀z,BW w z->CB 298 #[(ad (some ⟨bl,B+k,none⟩) (a.length-k) (f-k))] z (ae (aE (a.drop k))):=λ z T=>xV (f2.U.below T) ((H.drop k W).below T rfl) (λ s A=>a0 s (pT A)) (by rw[hG];omega)
    have d6:∀s∈a.take k,s.size<=80000000:=λ s A=>a0 s (oq A)
    have G:(a.take k).length=k:=by rw[ee];omega
    have c6:bg w (.slice (some ⟨bl,B,none⟩) (a.take k).length (f)) (a.take k):=by rw[G];exact H.take k W
    have c7:(Value.slice (some ⟨bl,B,none⟩) k (f))= .slice (some ⟨bl,B,none⟩) (a.take k).length (f):=by rw[G]
    rw[e8,f7] at J
    have K:=Z J;have E:=Z (And.intro c6 (And.intro d6 G));have f4:=Z c7;clear J c6 d6 G c7
    obtain⟨r,X⟩:∃r,aE (a.drop k)=r:=⟨_,rfl⟩
    rw[X] at K b2;clear X
    have F:=ah.new wr 328 #[aF true,U (k:Int)]
    have c:=bJ wr (.cells #[aF true,U (k:Int)] 328)
    have a6:=bP.below a8 c
    have a7:=ef.below a9 c
    have a5:=M.trans (c.mono M.size)
    obtain⟨b8,c4⟩:∃g,wr.heap.size=g:=⟨_,rfl⟩
    obtain⟨e4,d8⟩:∃e4,wr.alloc (.cells #[aF true,U (k:Int)] 328)=e4:=⟨_,rfl⟩
    rw[d8] at F a6 a7 a5;rw[c4] at F
    have t:=Z F;have b4:=Z a6;have b6:=Z a7;have D:=Z a5
    clear F c a6 a7 a5 a8 a9 M a4 f9 f8 c3 c2 H a0 e9
    go_upto_region 7 with fail
    clear d8 c4 e6 e7
    have d0:=t.U.cell 0;have d1:=t.U.cell 1
    simp only[sG] at d0 d1
    go_wp2_with fail
    refine(K.U _ D.U).mono ?_
    rintro e n ⟨rfl,j⟩
    have a2:ah n b8 328 _:=(j.block _ t.U.lt).trans t.U
    have q:=bP.below b4.U j;have d3:=ef.below b6.U j;have x:=D.U.trans (j.mono D.U.size)
    have c9:=q.ne a2 zD
    have b9:=a2.alloc (.cells #[ae r] 9)
    have c:=bJ n (.cells #[ae r] 9)
    have y:(n.alloc (.cells #[ae r] 9)).ownsRow w.heap.size 9 1 u6 i (aV o):=by have:=bP.below q c;unfold bP at this;rwa[I] at this
    have d4:=ef.below d3 c;have N:=x.trans (c.mono x.size);have d2:=bP.below q c
    have b1:=Z b9;have b7:=Z d4;have l:=Z N;have b3:=Z c9;have b5:=Z d2
    clear a2 q d3 x c9 c d4 N b9 d2 t b4 b6 D j d0 d1
    go_wp2_with(at_builtin;refine yE rfl _ _ 64 rfl w.heap.size 9 g4 (.string ⟨#[]⟩) 16 lU g0 g1 g2 g3 rfl _ _ _ rfl y n.heap.size 1 rfl #[.string r] _ _ (lo _ _) rfl zD (by intro u a1;simp at a1;rcases a1 with rfl;rfl) (by unfold maxLen;omega) W l.U.size ?_)
    intro e3 C Q p d7
    have a3:ah C b8 328 _:=b1.U.grown p b3.U
    have P:BW w C:=l.U.grown p l.U.size (λ k c5=>(y.lt k c5).1)
    have d5:=ef.grown b7.U b5.U p
    have S:bP w.heap.size C e3 (o++[r]):=by unfold bP;rw[pw,bA,I];exact Q
    have d0:=a3.cell 0;have d1:=a3.cell 1
    simp only[sG] at d0 d1
    have f1:=Z (And.intro S (And.intro d5 P))
    clear a3 P d5 S Q p d7 y b1 b7 l b3 b5
    go_wp2
    go_roundw
    case rel=>exact⟨i+1,o++[r],a.take k,some ⟨bl,B,none⟩,f,by go_num,f4.U,by rw[bA,I];rfl,by omega,E.U.1,E.U.2.1,by rw[E.U.2.2];omega,by rw[E.U.2.2];exact f3.U,b2.U,f1.U⟩
    case measure=>simp[intOf];omega
  ·obtain rfl:i=b0:=by omega
   have j3:¬(i:Int)<(i:Int):=by omega
   have D:d.drop i=[]:=jQ (by have:=f5.U;omega)
   rw[D] at c3 a4
   have J:∀z,BW w z->CB 298 #[ad Al a.length f] z (ae (aE a)):=λ z T=>xV (f2.U.below T) (H.below T rfl) a0 g7
   have K:=Z J;have t:=Z a8;have g:=Z M
   have s:ai (o++[aE a]=R):=Z a4
   obtain⟨r,X⟩:∃r,aE a=r:=⟨_,rfl⟩
   rw[X] at K s;clear X
   clear J a8 M c3 a4 H a0 a9 D
   go_wp2_with fail
   refine(K.U _ g.U).mono ?_
   rintro e n ⟨rfl,j⟩
   have q:=bP.below t.U j;have x:=g.U.trans (j.mono g.U.size)
   have c:=bJ n (.cells #[ae r] 9)
   have y:(n.alloc (.cells #[ae r] 9)).ownsRow w.heap.size 9 1 u6 i (aV o):=by have:=bP.below q c;unfold bP at this;rwa[I] at this
   have N:=x.trans (c.mono x.size)
   have l:=Z N
   clear q x c N j t g
   go_wp2_with(at_builtin;refine yE rfl _ _ 64 rfl w.heap.size 9 g4 (.string ⟨#[]⟩) 16 lU g0 g1 g2 g3 rfl _ _ _ rfl y n.heap.size 1 rfl #[.string r] _ _ (lo _ _) rfl zD (by intro u a1;simp at a1;rcases a1 with rfl;rfl) (by unfold maxLen;omega) W l.U.size ?_)
   intro e3 C Q p d7
   have P:BW w C:=l.U.grown p l.U.size (λ k c5=>(y.lt k c5).1)
   have S:bP w.heap.size C e3 R:=by rw[<-s.U];unfold bP;rw[pw,bA,I];exact Q
   have c:R.length<=maxLen:=by rw[<-s.U,bA,I];simp;unfold maxLen;omega
   have x:=Z S;have t:=Z P;have q:=Z c
   clear P S Q p d7 y l c
   go_wp2_with fail
   refine(Ov x.U q.U).mono ?_
   rintro e y ⟨⟨p,rfl⟩,l,g⟩
   have j:=t.U.trans g
   have c:=Z (And.intro l j)
   clear l g j
   go_wp2
   go_ret2
   exact⟨⟨_,rfl,c.U.1⟩,c.U.2⟩
end
section
open TreeM
def NK{w:aa}(f:cp w){v:ab}{L:List ag}(h:bg w v L)(d:∀s∈L,s.size<=80000000)(c:L.length<1000000)(m:Int):
 Calls prog 272 #[O m,v] w λ e a=>(∃u,e=ao (aJ #[u,O (Fu m L.length)])/\bP w.heap.size a u (rP m L))/\BW w a:=by
 obtain⟨n,b⟩:∃n,L.length=n:=⟨_,rfl⟩
 unfold Fu rP
 rw[b] at⊢
 cases a:tG m n with
 |false=>
  obtain⟨A,g,rfl⟩:=h.any b
  rw[aj zD,aj zD]
  unfold tG at a
  rw[b] at c
  clear h d b
  by_cases b:m<1
  ·have e:(m<1)=True:=rZ b
   clear a b
   go_enter zZ,ntmps272
   go_wp2
   go_ret2
   exact⟨⟨_,rfl,bP.nil _ _⟩,bz _ _⟩
  ·have e:(m<1)=False:=lh b
   have i:((n:Int)<m)=True:=rZ (by simp at a;omega)
   clear a b
   go_enter zZ,ntmps272
   go_wp2
   go_ret2
   exact⟨⟨_,rfl,bP.nil _ _⟩,bz _ _⟩
 |true=>
  rw[ax rfl,ax rfl]
  have b:1<=m/\m<=(n:Int):=by unfold tG at a;simpa using a
  obtain⟨j,rfl⟩:∃j:Nat,m=(j:Int):=⟨m.toNat,by omega⟩
  rw[mS]
  exact NT f h d c j ⟨by omega,by omega⟩
end
