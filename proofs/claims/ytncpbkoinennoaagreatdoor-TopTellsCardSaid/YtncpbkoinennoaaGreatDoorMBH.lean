import Derived.Test.YtncpbkoinennoaaGreatDoorMBG
set_option linter.all false
set_option maxRecDepth 100000
set_option maxHeartbeats 0
namespace Go.Proofs.YtncpbkoinennoaaGreatDoor
open Go.RowKit Proofs.Tryz
attribute [local irreducible] wpList Calls
variable{T:NA}{N:ND}
def Vn{w:aa}{x:NV}(h:(Y.aQ T x N).P w):(Y.mp T.rg (nQ N.g)).P w:=h.1 _ (.tail _ (.tail _ (.tail _ (.tail _ (.tail _ (.head _))))))
def E5{n:ND}{y:MG}(h:n.g=none):answers n y=false:=by unfold answers;rw[h]
def E4{n:ND}{y:MG}(h:¬y.log=0):answers n y=false:=by
 unfold answers;split
 ·rfl
 ·rw[bu h];rfl
def E2{n:ND}{y:MG}{r:RQ}(h:n.g=some r)(b:r.m=jW r.id)(a:y.log=0):answers n y=(decide (y.id=r.id)&&decide (y.c=7)):=by
 unfold answers;rw[h];dsimp only;rw[b,aS a];show(true&&(decide (y.id=r.id)&&((decide (5=5)&&decide (y.c=7))||(decide (5=6)&&_))))=_;simp
def E3{n:ND}{y:MG}{r:RQ}{p q:Nat}(h:n.g=some r)(b:r.m=jX r.id p q)(a:y.log=0):answers n y=(decide (y.id=r.id)&&(decide (y.c=8)&&(decide (p=y.m)&&decide (q=y.n)))):=by
 unfold answers;rw[h];dsimp only;rw[b,aS a];show(true&&(decide (y.id=r.id)&&((decide (6=5)&&_)||(decide (6=6)&&(decide (y.c=8)&&(decide (p=y.m)&&decide (q=y.n)))))))=_;simp
def MD{w:aa}{x:NV}(h:(Y.aQ T x N).P w)(v:N.Ok)(y:MG)(B G D:Option Addr)(bn C I H F E:Nat):
 CB 217 #[pV T.g,O 0,y.val (ad B bn C) (ad G I H) (ad D F E)] w (aF (answers N y)):=by
 have a:=Z (af.start w [])
 have l:=jz h;have m:=oY h;have u:=Vn h
 have A:=v.g
 have z:= @E5 N y
 have s:= @E4 N y
 have aT:= @E2 N y
 have o:= @E3 N y
 generalize answers N y=R at*
 clear h v
 obtain⟨c,b,a9,next,b3,j,d,b7,b9,c4,c5⟩:=N
 obtain⟨f,a8,id,M,n,⟨a2,a3,a4,a5⟩,⟨⟨K,L,P,Q⟩,⟨S,X,a0,a1⟩,b4⟩,c0,b8⟩:=y
 simp only at A z s aT o
 by_cases a7:a8=0
 ·subst a7
  cases b3
  ·have k:=z rfl
   subst k
   have g:=Z (aP l (aP (show(Y.row T.b 133 (ae c.key::Value.bool b.aT::Value.int .u64 (b.ar.size:Int)::Value.int .u64 (b.ar.time:Int)::ae b.ar.aE::ae b.ar.a::x.pv::ae b.aM::Value.int .u64 (a9:Int)::Value.int .u64 (next:Int)::Value.int .i64 0::x.c)).P w from m) bf))
   clear A z s aT o l m u
   show Calls prog 217 #[pV T.g,O 0,aG #[O (f:Int),O 0,U (id:Int),U (M:Int),U (n:Int),U (a2:Int),U (a3:Int),ae a4,ae a5,U (K:Int),U (L:Int),ae P,ae Q,U (S:Int),U (X:Int),ae a0,ae a1,ad B bn C,ad G I H,ad D F E]] w _
   go_enter func217,ntmps217
   go_wp2_with(first|refine KH (a.U.bH g.U) ?_|refine Kl a ?_|refine KB a 81 5 _ λ b1 J b2 a=>?_)
   go_ret
   exact⟨rfl,a.U.ak⟩
  ·rename_i r
   have a6:=A r rfl
   have b0:=a6.s
   obtain⟨e,c3,c2,c1⟩:=r
   rcases a6.m with t|⟨p,q,-,-,t⟩
   focus have k:=aT rfl t rfl
   rotate_left
   focus have k:=o rfl t rfl
   all_goals
    simp only at t k b0
    subst t
    first
     |have g:=Z (aP l (aP (show(Y.row T.b 133 (ae c.key::Value.bool b.aT::Value.int .u64 (b.ar.size:Int)::Value.int .u64 (b.ar.time:Int)::ae b.ar.aE::ae b.ar.a::x.pv::ae b.aM::Value.int .u64 (a9:Int)::Value.int .u64 (next:Int)::Value.int .i64 (e:Int)::x.c)).P w from m) (aP (show(Y.mp T.rg [((e:Int),aG #[O 6,O 0,U (e:Int),U (p:Int),U (q:Int),U 0,U 0,ae ⟨#[]⟩,ae ⟨#[]⟩,U 0,U 0,ae ⟨#[]⟩,ae ⟨#[]⟩,U 0,U 0,ae ⟨#[]⟩,ae ⟨#[]⟩,ad none 0 0,ad none 0 0,ad none 0 0])]).P w from u) bf)))
     |have g:=Z (aP l (aP (show(Y.row T.b 133 (ae c.key::Value.bool b.aT::Value.int .u64 (b.ar.size:Int)::Value.int .u64 (b.ar.time:Int)::ae b.ar.aE::ae b.ar.a::x.pv::ae b.aM::Value.int .u64 (a9:Int)::Value.int .u64 (next:Int)::Value.int .i64 (e:Int)::x.c)).P w from m) (aP (show(Y.mp T.rg [((e:Int),aG #[O 5,O 0,U (e:Int),U 0,U 0,U 0,U 0,ae ⟨#[]⟩,ae ⟨#[]⟩,U 0,U 0,ae ⟨#[]⟩,ae ⟨#[]⟩,U 0,U 0,ae ⟨#[]⟩,ae ⟨#[]⟩,ad none 0 0,ad none 0 0,ad none 0 0])]).P w from u) bf)))
    have d1:((e:Int)==0)=false:=by rw[cc];omega
    have f1:=js id e
    first
     |have f2:((f:Int)==8)=decide (f=8):=by rw[bI];simp;omega
      have f3:=js p M
      have f4:=js q n
     |have f2:((f:Int)==7)=decide (f=7):=by rw[bI];simp;omega
    generalize decide (id=e)=t1 at*
    first
     |generalize decide (f=8)=t2 at*
      generalize decide (p=M)=t3 at*
      generalize decide (q=n)=t4 at*
     |generalize decide (f=7)=t2 at*
    clear A z s aT o l m u a6 b0
    have b0:=Z k
    clear k
    show Calls prog 217 #[pV T.g,O 0,aG #[O (f:Int),O 0,U (id:Int),U (M:Int),U (n:Int),U (a2:Int),U (a3:Int),ae a4,ae a5,U (K:Int),U (L:Int),ae P,ae Q,U (S:Int),U (X:Int),ae a0,ae a1,ad B bn C,ad G I H,ad D F E]] w _
    go_enter func217,ntmps217
    go_upto_region 3 with(first|refine KH (a.U.bH g.U) ?_|refine Kl a ?_|refine KB a 81 5 _ λ b1 J b2 a=>?_)
    refine kJ a g 14 [] λ c6 a a6=>?_
    refine VV [0,1,2,2003,4,5,6,2007,8,9,10,2011] a6 ?_
    refine W2 12 50 rfl rfl (YL V 2 rfl qz rfl rfl rfl (qD _ _ _)) a6 ?_
    clear a6
    refine az.iW (i:=13) V zD rfl ?_
    refine One.alloc a.U V 81 7 rfl rfl _ ei ?_
    intro b5 J b6 v
    replace a:=Z v;clear v
    refine⟨a.U.bH g.U,?_⟩
    try simp only[aH,au,ay]
    refine WT ?_
    first
     |cases t2;rotate_left
      cases t3;rotate_left
      cases t4
     |cases t2
    all_goals
     cases t1
     all_goals
      have a6:=b0.U
      simp only[sB,↓reduceIte,reduceCtorEq,fy] at a6
      subst a6
      clear b0
      go_wp2_with(first|refine Kl a ?_|refine KS a λ J a=>?_)
      go_ret
      exact⟨by simp,a.U.ak⟩
 ·have k:=s a7
  subst k
  have g:=Z (aP l bf)
  have d2:((a8:Int) !=0)=true:=by rw[nu];omega
  clear A z s aT o l m u a7
  show Calls prog 217 #[pV T.g,O 0,aG #[O (f:Int),O (a8:Int),U (id:Int),U (M:Int),U (n:Int),U (a2:Int),U (a3:Int),ae a4,ae a5,U (K:Int),U (L:Int),ae P,ae Q,U (S:Int),U (X:Int),ae a0,ae a1,ad B bn C,ad G I H,ad D F E]] w _
  go_enter func217,ntmps217
  go_wp2_with(first|refine KH (a.U.bH g.U) ?_|refine Kl a ?_|refine KB a 81 5 _ λ b1 J b2 a=>?_)
  go_ret
  exact⟨rfl,a.U.ak⟩
variable{m:List Nat}{G:MG}{g:Nat}
def LM(d:aa)(m:List Nat)(rest:List Y)(a:NA)(n:ND)(e:Ending)(c:aa):Prop:=
 ∃f b,e=ao (ad none 0 0)/\af d c m (Y.aQ a f n::Y.dk a.a b n.d::rest)
def Uz{s:ag}(h:dm s= .error g):N.gw s=N.dV:=by unfold ND.gw;rw[h]
def UA{s:ag}(h:dm s= .ok G)(h1:answers N G=false):N.gw s=N.dV:=by
 unfold ND.gw;rw[h];dsimp only;rw[aj (by rw[h1];decide)]
def UB{s:ag}(h:dm s= .ok G)(h1:answers N G=true):
 N.gw s=if({N with g:=none}:ND).dI (kept G)=7 then(({N with g:=none}:ND).bZ (kept G)).dV else({N with g:=none}:ND).bZ (kept G):=by
 unfold ND.gw;rw[h];dsimp only;rw[ax h1]
def MF(d:N.Ok)(h:answers N G=true):∃r,N.g=some r/\G.log=0/\(G.c=7\/G.c=8):=by
 cases b:N.g with
 |none=>rw[E5 b] at h;cases h
 |some r=>
  refine⟨r,rfl,?_⟩;by_cases a:G.log=0
  ·refine⟨a,?_⟩;rcases(d.g r b).m with c|⟨p,q,-,-,c⟩
   ·rw[E2 b c a] at h;simp only[cQ,dx] at h;exact .inl h.2
   ·rw[E3 b c a] at h;simp only[cQ,dx] at h;exact .inr h.2.1
  ·rw[E4 a] at h;cases h
def xh{G w:aa}{rest:List Y}{x:NV}{Q:ab}(J:TM m G)(h:af G w m (Y.aQ T x N::Y.dk T.a Q N.d::rest))(b:N.Ok)(s:ag):
 Calls prog 149 #[pV T.g,O 0,ae s] w (LM G m rest T (N.gw s)):=by
 have q:=Z h
 have R:=Z (λ(c:aa) (o:(Y.row T.g 139 (N.cells T)).P c)=>uQ o b.bq)
 have a:=Z (af.start w [])
 have k:=J.at h
 have a1:(Y.aQ T x N).P w:=h.get (i:=0) rfl
 cases hd:dm s
 ·rename_i e
  rw[Uz hd]
  have P:ai (∀c,BW w c->CB 83 #[ae s] c (aJ #[aG #[O 0,O 0,U 0,U 0,U 0,U 0,U 0,ae ⟨#[]⟩,ae ⟨#[]⟩,U 0,U 0,ae ⟨#[]⟩,ae ⟨#[]⟩,U 0,U 0,ae ⟨#[]⟩,ae ⟨#[]⟩,ad none 0 0,ad none 0 0,ad none 0 0],O (e:Int)])):=Z (λ c g=>(ui s c (k.below g).a (k.below g).aT).mono (by
   rintro r z d
   unfold pK at d
   rw[hd] at d
   exact⟨d.1.1,d.2⟩))
  have f:e≠0:=wC hd
  have j:((e:Int) !=0)=true:=by rw[nu];omega
  clear J h b k hd a1 f
  go_enter func149,ntmps149
  go_wp2_with(first|refine KS a λ u a=>?_|refine KA a _ 7 ei λ a7 u a9 a=>?_|go_at_call 83;refine KC a (P.U _ a.U.ak) λ p a=>?_|go_at_call 87;(refine(R.U _ ((fo ((q.U.plus a.U).ft [1])).get (i:=0) rfl)).mono ?_);rintro e p ⟨rfl,l⟩;replace a:=Z (eR T x N.dV ((fo ((q.U.plus a.U).ft [1])).at 0 rfl l));clear l)
  go_ret
  exact⟨x,Q,rfl,(a.U.ft [1,1000])⟩
 focus
  rename_i y
  obtain⟨j,K,b4⟩:=ny hd
  have P:ai (∀c,BW w c->Calls prog 83 #[ae s] c λ r z=>∃A B E F C D,r=ao (aJ #[y.val (ad A y.b.e.length B) (ad E y.e.length F) (ad C y.aL.length D),O 0])/\af c z [] [Y.ow 9 1 (ad A y.b.e.length B) y.b.e.length (aV y.b.e),Y.ow 9 1 (ad E y.e.length F) y.e.length (aV y.e),Y.ow 240 4 (ad C y.aL.length D) y.aL.length (cy y.aL)]/\BW c z):=Z (λ c g=>(xp s c (k.below g).a (k.below g).aT).mono (by
   rintro r z d
   unfold lI at d
   rw[hd] at d
   obtain⟨⟨a2,a4,a3,H,-,t⟩,I⟩:=d
   obtain⟨A,B,e1,-⟩:=cF (show z.ownsRow 0 9 1 a2 _ _ from t.get (i:=0) rfl)
   obtain⟨E,F,e2,-⟩:=cF (show z.ownsRow 0 9 1 a4 _ _ from t.get (i:=1) rfl)
   obtain⟨C,D,e3,-⟩:=cF (show z.ownsRow 0 240 4 a3 _ _ from t.get (i:=2) rfl)
   subst e1 e2 e3
   exact⟨A,B,E,F,C,D,H,t,I⟩))
  have L:=Z (λ(c:aa) (n:af G c m (Y.aQ T x N::Y.dk T.a Q N.d::rest)) a5 (g:BW c a5)=>MD ((Y.aQ T x N).lift (n.get (i:=0) rfl) g) b y)
  cases d:answers N y
  ·rw[UA hd d]
   rw[d] at L
   clear J h b k hd a1 j K b4 d
   generalize y.b.e.length=bn at*
   generalize y.e.length=d7 at*
   generalize y.aL.length=d5 at*
   generalize aV y.b.e=d8 at*
   generalize aV y.e=e0 at*
   generalize cy y.aL=d9 at*
   obtain⟨d2,d3,id,M,c0,⟨H,t,I,d0⟩,⟨⟨c1,c2,c3,c4⟩,⟨c5,c6,c7,c8⟩,c9⟩,d6,d4⟩:=y
   go_enter func149,ntmps149
   go_wp2_with(first|refine KT a 20 ?_|refine KS a λ u a=>?_|refine KA a _ 7 ei λ a7 u a9 a=>?_|go_at_call 83;(refine(P.U _ a.U.ak).mono ?_);rintro e p ⟨A,B,E,F,C,D,rfl,b,g⟩;replace a:=Z b;clear b;clear g|go_at_call 217;refine KC a (L.U _ q.U _ a.U.ak _ _ _ _ _ _ _ _ _) λ p a=>?_|go_at_call 87;(refine(R.U _ ((fo ((q.U.plus a.U).ft [4])).get (i:=0) rfl)).mono ?_);rintro e p ⟨rfl,l⟩;replace a:=Z (eR T x N.dV ((fo ((q.U.plus a.U).ft [4])).at 0 rfl l));clear l)
   go_ret
   exact⟨x,Q,rfl,(a.U.ft [4,1000,3,1000,2,1000,1,1000])⟩
  focus
   have a8:=UB hd d
   rw[d] at L
   obtain⟨r,b3,a0,f⟩:=MF b d
   have b1:({N with g:=none}:ND).Ok:={b with g:=(λ r h=>by cases h)}
   have b0:(kept y).Ok:=⟨ck _,j.m,j.n,j.h,j.b,j.aL,j.len⟩
   have X:(kept y).Small:=⟨K.b,K.p,K.m⟩
   have b8:=Z (λ(c:aa) (S:List Y) (b2:NV) (a6:ab) (n:af G c m (Y.aQ T b2 ({N with g:=none}:ND)::Y.dk T.a a6 N.d::S)) (a2 a4 a3:ab) (H:(Y.ow 9 1 a2 y.b.e.length (aV y.b.e)).P c) (t:(Y.ow 9 1 a4 y.e.length (aV y.e)).P c) (I:(Y.ow 240 4 a3 y.aL.length (cy y.aL)).P c)=>Cb J n b1 (kept y) b0 X a0 (X.rd H t I))
   have b2:(({N with g:=none}:ND).bZ (kept y)).bq<18446744073709551616:=by rw[Cc];exact b.bq
   have a6:=Z (λ(c:aa) (o:(Y.row T.g 139 ((({N with g:=none}:ND).bZ (kept y)).cells T)).P c)=>uQ o b2)
   rw[a8]
   have S:kept y=⟨if y.c=7 then 3 else y.c,y.log,0,y.m,y.n,y.h,y.b,y.e,y.aL⟩:=rfl
   obtain⟨b5,n⟩:∃b5,(if y.c=7 then 3 else y.c)=b5:=⟨_,rfl⟩
   rw[n] at S
   generalize kept y=b6 at*
   generalize d1:({N with g:=none}:ND).dI b6=KX at*
   generalize b7:({N with g:=none}:ND).bZ b6=b9 at*
   clear J h k hd a1 b4 d a8 b1 b0 X b2 d1 b7 R j K
   have b7:=Z (λ(c:aa) (d:ab) (id k bt:Nat) (o:(Y.rt T.c T.d T.e d N.c.rc (some (id,k,bt))).P c)=>WG o)
   obtain⟨c,o,R,next,v,j,d,X,a1,b2,b4⟩:=N
   simp only at b3
   subst b3
   obtain⟨K,b1,b0,a8⟩:=r
   generalize y.b.e.length=bn at*
   generalize y.e.length=d7 at*
   generalize y.aL.length=d5 at*
   generalize aV y.b.e=d8 at*
   generalize aV y.e=e0 at*
   generalize cy y.aL=d9 at*
   obtain⟨d2,d3,id,M,c0,⟨H,t,I,d0⟩,⟨⟨c1,c2,c3,c4⟩,⟨c5,c6,c7,c8⟩,c9⟩,d6,d4⟩:=y
   simp only at a0 f S n
   subst a0 S
   by_cases k7:KX=7
   focus
    rw[ax k7]
    have f7:((KX:Int)==7)=true:=by rw[fB];omega
    clear k7
    rcases f with f|f
    focus
     rw[ax f] at n
     subst f n
    rotate_left
    focus
     rw[aj W] at n
     subst n f
   rotate_left 2
   focus
    rw[aj k7]
    have f7:((KX:Int)==7)=false:=by rw[cc];omega
    clear k7 a6
    rcases f with f|f
    focus
     rw[ax f] at n
     subst f n
    rotate_left
    focus
     rw[aj W] at n
     subst n f
 all_goals
  go_enter func149,ntmps149
  go_upto_region 5 with(first|refine KT a 20 ?_|refine KS a λ u a=>?_|refine KA a _ 7 ei λ a7 u a9 a=>?_|go_at_call 83;(refine(P.U _ a.U.ak).mono ?_);rintro e p ⟨A,B,E,F,C,D,rfl,b,g⟩;replace a:=Z b;clear b;clear g|go_at_call 217;refine KC a (L.U _ q.U _ a.U.ak _ _ _ _ _ _ _ _ _) λ p a=>?_)
  have b:=fo ((q.U.plus a.U).ft [4])
  clear a q
  have a:ai (af G _ m (Y.row T.g 139 (ND.cells (⟨c,o,R,next,some ⟨K,b1,b0,a8⟩,j,d,X,a1,b2,b4⟩:ND) T)::Y.row T.b 133 (ae c.key::Value.bool o.aT::Value.int .u64 (o.ar.size:Int)::Value.int .u64 (o.ar.time:Int)::ae o.ar.aE::ae o.ar.a::x.pv::ae o.aM::Value.int .u64 (R:Int)::Value.int .u64 (next:Int)::Value.int .i64 (K:Int)::x.c)::Y.ho x.pv o.f::Y.jr T.f T.a x.a j::Y.rt T.c T.d T.e x.b c.rc (some (K,b0,a8))::Y.mp T.rg [((K:Int),b1.val (ad none 0 0) (ad none 0 0) (ad none 0 0))]::_)):=Z b
  clear b
  go_upto_region 6 with(refine Kl a ?_)
  refine RG a 8 [0,1] λ a5 a f=>?_
  refine VV [0,1,2,2003,4,5,6,2007] f ?_
  clear f
  refine WT ?_
  go_upto_region 7 with((go_at_call 218;(refine(b7.U _ _ _ _ _ (a.U.get (i:=4) rfl)).mono ?_);rintro e p ⟨rfl,n,l⟩;have b:=a.U.at 4 rfl l;simp only[au,ay] at b;replace a:=Z b;clear b;clear l))
  refine RG a 8 [0,1] λ a5 a f=>?_
  refine VV [0,1,2,2003,4,5,6,2007] f ?_
  clear f
  refine WT ?_
  go_upto_region 9 with(first|refine KS a λ u a=>?_|refine Md a.U 5 rfl rfl (t:=137) (k:=3) (e:=81) V V rfl rfl rfl λ u b=>?_;simp only[au,ay] at b;((rw[xn] at b));replace a:=Z b;clear b)
  replace a:=Z ((eR T ⟨x.pv,x.a,n,x.c⟩ (⟨c,o,R,next,none,j,d,X,a1,b2,b4⟩:ND) a.U).fs [5,1])
  go_wp2_with(first|refine Kl a ?_|refine KT a 20 ?_|refine KS a λ u a=>?_|go_at_call 219;(refine(b8.U _ _ _ _ a.U _ _ _ (a.U.get (i:=3) rfl) (a.U.get (i:=4) rfl) (a.U.get (i:=5) rfl)).mono ?_);rintro e p ⟨rfl,f,q,b⟩;replace a:=Z b;clear b|go_at_call 87;(refine(a6.U _ ((fo a.U).get (i:=0) rfl)).mono ?_);rintro e p ⟨rfl,l⟩;replace a:=Z (eR T f b9.dV ((fo a.U).at 0 rfl l));clear l)
  go_ret
  exact⟨f,q,rfl,(a.U.ft [5,1000,4,1000,3,1000,2,1000])⟩
variable{A:Option Addr}
abbrev CF.cells(c:CF)(a:ab):List ab:=[a,O (c.bG:Int),O (c.room:Int),U (c.every:Int),U (c.a:Int),U (c.rc.base:Int),U (c.rc.j:Int),U (c.rc.span:Int),O (c.rc.i:Int),O (c.rc.room:Int)]
abbrev CF.val(c:CF)(a:ab):ab:=aG #[a,O (c.bG:Int),O (c.room:Int),U (c.every:Int),U (c.a:Int),U (c.rc.base:Int),U (c.rc.j:Int),U (c.rc.span:Int),O (c.rc.i:Int),O (c.rc.room:Int)]
def FG(n:Nat)(h1:1<=n)(h2:n<=1099511627776)(w:aa):Calls prog 158 #[U (n:Int)] w λ r a=>r=ao (aF true)/\w=a:=by
 have f1:decide (1<=n)=true:=aS h1;have f2:decide ((1:Int)<=(n:Int))=true:=aS W;have f3:decide (0<n)=true:=aS h1;have f4:decide (n<=1099511627776)=true:=aS h2;have f5:decide ((n:Int)<=1099511627776)=true:=aS W
 go_enter func158,ntmps158
 go_wp2
 go_ret
 exact⟨rfl,rfl⟩
def NL{w:aa}(c:CF)(a:c.bL)(i:bg w (ad A 1 g) [c.key]):CB 79 #[c.val (ad A 1 g)] w (aF true):=by
 have d:=Z (af.start w []);have j:cu [c.key]=false:=by
  unfold cu eE;simp[a.key]
 have k:ai (∀b,BW w b->Calls prog 154 #[ad A 1 g,.func (.func 157) #[] #[]] b λ e h=>e=ao (aF false)/\b=h):=Z (λ b f=>by have:=Of (i.below f rfl);rw[j] at this;exact this);have l:=Z (λ b=>FG c.every a.i a.d b);have m:=Z (λ b=>FG c.a a.g a.b b);have f:=a.bG;have b:=a.e;have h:=a.a;have f1:decide (c.bG<=63)=true:=aS f;have f2:decide ((c.bG:Int)<=63)=true:=aS W;have f3:decide ((0:Int)<=(c.bG:Int))=true:=aS W;have f4:decide (1<=c.room)=true:=aS b;have f5:decide ((1:Int)<=(c.room:Int))=true:=aS W;have f6:decide (0<c.room)=true:=aS b;have f7:decide (c.room<=16)=true:=aS h;have f8:decide ((c.room:Int)<=16)=true:=aS W;clear a i j f b h
 go_enter func79,ntmps79
 go_wp2_with(first|refine Kl d ?_|refine KB d 73 1 (c.cells _) λ b j f d=>?_|go_at_call 154;refine KQ (k.U _ d.U.ak) ?_|(go_at_call 158;(first|(refine(l.U _).mono ?_)|(refine(m.U _).mono ?_));rintro e h ⟨rfl,rfl⟩))
 go_ret
 exact⟨by first|rfl|simp_all,d.U.ak⟩
def ack:fR 77:=hO func77 V V
def PX:fR 298:=hO func298 V V
def PV:fR 297:=hO func297 V V
abbrev KY.agg(k:KY):ab:=aG #[ae k.a,ae k.pre,ae k.pub]
def Up{w:aa}(d:bQ w)(s:ag)(f:s.size=32):CB 63 #[ae s] w (aJ #[(fp s).agg,O 0]):=by
 have a:=Z (af.start w []);have c:=Z (λ g (e:BW w g)=>X9 (d.below e) s f);generalize fp s=k at*
 go_enter func63,ntmps63
 go_wp2_with(first|(refine KR a 0 23 3 ?_)|(first|(refine K7 a 0 23 3 λ b a=>?_)|(refine K7 a 1 121 3 λ b a=>?_))|(first|(refine KA a 121 2 Lu λ h b j a=>?_)|(refine KA a 23 4 Lx λ i b l a=>?_))|(go_at_call 5;refine KC a (c.U _ a.U.ak) λ m a=>?_))
 refine cz a.U 1 rfl 121 3 rfl rfl rfl V rfl rfl ?_;exact⟨rfl,a.U.ak⟩
def HH(k:KY)(w:aa):CB 77 #[k.agg] w (ae k.pub):=by
 have a:=Z (af.start w []);have b:=Z (λ c=>Wu k c)
 go_enter func77,ntmps77
 go_wp2_with(first|(refine KR a 0 23 3 ?_)|(refine KB a 121 1 ([ae k.a,ae k.pre,ae k.pub]) λ d g e a=>?_)|(go_at_call 16;refine KC a (b.U _) λ f a=>?_))
 go_ret
 exact⟨rfl,a.U.ak⟩
def Uo{w:aa}(t:bQ w)(k:KY)(D:k.Ok){v:ab}{L:List ag}(h:bg w v L)(F:∀s∈L,s.size<=80000000)(E:L.length<1000000)(b:Nat)(G:b<18446744073709551616):
 Calls prog 270 #[k.agg,v,U (b:Int)] w λ r l=>∃e:Int,r=ao (aJ #[(mq k L b).val,O e])/\BW w l:=by
 have a:=Z (af.start w [])
 have x:=Z (λ d (f:BW w d)=>xV (t.below f).a (h.below f rfl) F E)
 have q:ai (∀d,BW w d->Calls prog 297 #[k.agg,U (L.length:Int),U (b:Int),ae (TreeM.aE L)] d λ r l=>∃e:Int,r=ao (aJ #[((kj k L.length b (TreeM.aE L)).getD ec).val,O e])/\BW d l):=Z (λ d f=>(Rb (t.below f) k D L.length b W G (TreeM.aE L) (TreeM.CX L)).mono (by
  rintro r l ⟨j,s⟩
  cases u:kj k L.length b (TreeM.aE L) with|some z=>rw[u] at j;exact⟨0,j,s⟩|none=>rw[u] at j;exact⟨1,j,s⟩))
 obtain⟨A,M,rfl⟩:=h.form
 have Q:IntKind.wrap .u64 (L.length:Int)=(L.length:Int):=by rw[kB]<;>omega
 by_cases o:L.length=0
 ·have e:mq k L b=ec:=by unfold mq;rw[ax o]
  rw[e]
  rw[o] at q⊢
  go_enter func270,ntmps270
  go_wp2_with(first|(refine K7 a 0 59 4 λ g a=>?_)|(refine KA a 59 6 hy λ y g C a=>?_)|(refine KB a 121 3 ([ae k.a,ae k.pre,ae k.pub]) λ m g B a=>?_))
  refine cz a.U 0 rfl 59 4 rfl rfl rfl V rfl rfl ?_
  exact⟨_,rfl,a.U.ak⟩
 ·have e:mq k L b=(kj k L.length b (TreeM.aE L)).getD ec:=by unfold mq;rw[aj o]
  rw[e]
  have f1:((L.length:Int)==0)=false:=by rw[cc];omega
  generalize(kj k L.length b (TreeM.aE L)).getD ec=H at*
  generalize TreeM.aE L=R at*
  generalize L.length=n at*
  go_enter func270,ntmps270
  go_upto_region 3 with(first|(refine KA a 59 6 hy λ y g C a=>?_)|(refine KB a 121 3 ([ae k.a,ae k.pre,ae k.pub]) λ m g B a=>?_))
  refine af.region a.U (n:=11) (S:=bc [Y.row m 121 [ae k.a,ae k.pre,ae k.pub]]) V V (λ K I=>(aP (I.in (by exact mQ mZ)) bf)) (λ K p c=> ?_)
  replace a:=Z p
  refine V2 0 12 c ?_
  refine W2 1 13 rfl rfl (Yr V 0 rfl 23 3 rfl rfl V _ rfl rfl) c ?_
  refine V2 2 14 c ?_
  refine V2 3 15 c ?_
  refine W2 4 16 (v:=U (n:Int)) rfl rfl (Or.inl ⟨by kernel_rfl,λ d P=>by(go_simp;done)⟩) c ?_
  refine V2 5 17 c ?_
  refine V2 6 18 c ?_
  refine az.eM (i:=7) V zD rfl rfl 19 rfl rfl 298 rfl PX _ rfl ?_
  refine KC a (x.U _ a.U.ak) λ J a=>?_
  refine⟨_,rfl,(aP (a.U.in (by exact mQ mZ)) bf),?_⟩
  simp only[aH,au,ay]
  refine az.eM (i:=8) V zD rfl rfl 20 rfl rfl 297 rfl PV _ rfl ?_
  refine(q.U _ a.U.ak).mono ?_
  rintro e J ⟨N,rfl,f⟩
  have p:=a.U.below f;replace a:=Z p
  refine⟨_,rfl,(aP (a.U.in (by exact mQ mZ)) bf),?_⟩
  simp only[aH,au,ay]
  have c:bc [Y.row m 121 [ae k.a,ae k.pre,ae k.pub]] _:=(aP (a.U.in (by exact mQ mZ)) bf)
  refine V2 9 21 c ?_
  refine V2 10 22 c ?_
  refine az.tail V ?_
  simp only[bU,bC]
  go_wp2_with((refine K7 a 0 59 4 λ g a=>?_))
  refine cz a.U 0 rfl 59 4 rfl rfl rfl V rfl rfl ?_
  exact⟨_,rfl,a.U.ak⟩
variable{k n:Nat}
def PR:fR 272:=hO zZ V V
def qj(k:KY)(L:List ag)(a:Nat)(y:MG):MG:={dL with c:=7,log:=y.log,id:=y.id,h:=mq k L a}
def Mz{w:aa}(o:bQ w)(b:KY)(p:b.Ok){v:ab}{L:List ag}(h:bg w v L)(t:∀s∈L,s.size<=80000000)(q:L.length<1000000)(c:Nat)(u:c<18446744073709551616)(y:MG)(l B x:Option Addr)(bn m D C z s:Nat)
 (r4:(Y.row g 121 [ae b.a,ae b.pre,ae b.pub]).P w) (r5:(Y.row n 64 [v]).P w) (r6:(Y.row k 46 [U (c:Int)]).P w):
  Calls prog 269 #[y.val (ad l bn m) (ad B D C) (ad x z s),pV g,pV n,pV k] w λ r a=>
   r=ao ((qj b L c y).val (ad none 0 0) (ad none 0 0) (ad none 0 0))/\BW w a:=by
 have a:=Z (af.start w [])
 have f:=Z (aP r4 (aP r5 (aP r6 bf)))
 have j:=Z (λ e (d:BW w e)=>Uo (o.below d) b p (h.below d rfl) t q c u)
 unfold qj
 generalize mq b L c=H at*
 obtain⟨A,R,rfl⟩:=h.form
 generalize L.length=a8 at*
 obtain⟨a5,a6,id,M,N,⟨T,X,a0,a1⟩,⟨⟨r,E,F,G⟩,⟨I,J,K,P⟩,Q⟩,a9,a7⟩:=y
 go_enter func269,ntmps269
 go_wp2_with(first|refine KT a 3 ?_|refine KI (a.U.bH f.U) 3 ?_|refine Kl a ?_|refine KH (a.U.bH f.U) ?_|refine KT a 4 ?_|refine KI (a.U.bH f.U) 4 ?_|refine KS a λ i a=>?_|refine KA a _ 5 ei λ n i a3 a=>?_|refine KA a _ 6 hy λ k i a4 a=>?_|refine KB a 81 4 _ λ g i a2 a=>?_|go_at_call 270;(refine(j.U _ a.U.ak).mono ?_);rintro e b0 ⟨S,rfl,d⟩;replace a:=Z (a.U.below d))
 refine iH a.U 1 rfl 81 20 rfl rfl V rfl rfl ?_
 exact⟨rfl,a.U.ak⟩
variable{I:List Y}{X:Operand}{t:TypeId}
def Y.two(g j n:Nat)(v1 v2:ab):Y:=
 ⟨[g],λ w=>w.cell? ⟨g,j,none⟩=some v1/\w.cell? ⟨g,n,none⟩=some v2,(λ w c h b=>by
  have e:=h g zS
  have p:∀o,c.cell? ⟨g,o,none⟩=w.cell? ⟨g,o,none⟩:=λ o=>by simp only[World.cell?,e]
  grind),(λ _ _=>by simp),(λ w b k c=>by
  have:k=g:=by simpa using c
  subst this
  refine vB λ h=> ?_
  have d:w.heap[k]?=none:=by grind
  have:=b.1
  simp[World.cell?,d] at this)⟩
def Y.yt{w wr:aa}{m:List Nat}{aq:List Y}(h:af w wr m aq)(i:Nat){b:List ab}(d:aq[i]?=some (Y.row g t b)){v1 v2:ab}(h1:b[n]?=some v1)(h2:b[k]?=some v2):(Y.two g n k v1 v2).P wr:=by
 have c:=h.row d;exact⟨by rw[c.cell];grind,by rw[c.cell];grind⟩
def YT{ops:Array Oper}{b:Oper}{a:Act}(t:Region.wanted b (yielded ops a.tmps)=true)(i:Nat){v1 v2:ab}(u:I[i]?=some (Y.two g n k v1 v2))(c:TypeId)(r:b.op= .load c X)(p:jF c=true)(o:Nat)(v:ab)(hx:a.eval X= .pointer (some ⟨g,o,none⟩))
 (s:(o=n/\v=v1)\/(o=k/\v=v2)):YieldsIf prog ops (bc I) b v a:=
 .inl ⟨t,λ w x=>by
  obtain⟨d,h,j⟩:=sy p
  have e:(Y.two g n k v1 v2).P w:=by grind
  have q:w.cell? ⟨g,o,none⟩=some v:=by
   rcases s with⟨rfl,rfl⟩|⟨rfl,rfl⟩
   ·exact e.1
   ·exact e.2
  unfold execOp
  simp only[r,hx,Instr.loadAt,Instr.sureAddr,cL,dw,cZ,sK w _ c v d q h j]⟩
section
variable{w0 w:aa}{m:List Nat}{aq:List Y}{Q:Exit->Act->aa->Prop}{S:aa->Prop}{l:List Oper}{i f:Nat}{o:Oper}{listed:Array Bool}{a:Act}
def bX.qY(h:af w0 w m aq)(F:Region.ready .any l.toArray listed=[i])(D:l.toArray[i]?=some o)(C:o.guard=none)(hd:o.dst=none)(d:Nat){c:List ab}(p:aq[d]?=some (Y.row g t c))(b:TypeId){q:Tmp}(E:o.op= .store b X (.tmp q))(hx:a.eval X= .pointer (some ⟨g,k,none⟩))
 {v:ab} (I:a.tmps.toList[q]?=some v) (x:iB b 1=true) (h1:v.oneCell'=true) (M:decide (k<c.length)=true)
 (A:∀e,af w0 e m (aq.set d (Y.row g t (c.set k v)))->S e/\bX prog l Q S f (listed.setIfInBounds i true) a e):bX prog l Q S (f+1) listed a w:=by
 refine bX.one F D (λ L z=> ?_)
 have H:Region.wanted o (yielded l.toArray a.tmps)=true:=by unfold Region.wanted;rw[C]
 rw[ax H]
 have y:=h.row p
 have N:k<c.length:=by grind
 have B:v.cells=#[v]:=by cases v<;>simp_all[Value.oneCell',Value.cells]
 have s:=y.mH (o:=k) (n:=1) (by grind)
 have r:=xY (P:=prog) g k [v] 0 w (λ j e=>by simpa using(s j W).1) (λ j e=>by simpa using(s j W).2) (λ u G=>by
  grind)
 simp only[hJ] at r
 have j:(prog.info? b).map (·.size)=some 1:=sL x
 have J:a.eval (.tmp q)=v:=tR I
 have u:(storeVar b ⟨g,k,none⟩ v).run prog w= .ok () (w.setCells g k [v]):=by
  cases e:prog.info? b with
  |none=>grind
  |some K=>
   have G:K.size=1:=by simpa[e] using j
   simp[storeVar,sizeOf,typeInfo,e,G,B,r]
 unfold Oper.wp execOp
 simp only[E,hx,J,Instr.storeAt,Instr.sureAddr,cL,dw,cZ,u]
 obtain⟨e,G⟩:=A _ (h.cells d p k [v])
 refine z _ _ e (λ _=> ?_)
 rw[hd]
 exact G
end
def IM{w:aa}{size:Nat}{v:ab}{c:List ab}(h:w.ownsRow g t size v n c):n<=maxLen:=by
 rcases h.2 with⟨-,b⟩|⟨j,d,e,-,-,-,b,k,-⟩
 ·omega
 omega
def lY(L:List ag)(y:MG):MG:=if L.length<y.n then dL else{y with c:=8,e:=rP (y.m:Int) (L.take y.n)}
def MB{w:aa}(c0:bQ w){v:ab}{L:List ag}(h:bg w v L)(c3:∀s∈L,s.size<=80000000)(d7:L.length<1000000)(y:MG)(d8:1<=y.m)(d9:y.m<=y.n)(e0:y.n<=1099511627776){b2 b4 b3:ab}(t:y.Rd w b2 b4 b3)
 (r5:(Y.row g 64 [v]).P w):
  Calls prog 271 #[y.val b2 b4 b3,pV g] w λ r e=>
   ∃b c d,r=ao ((lY L y).val b c d)/\(lY L y).Rd e b c d/\BW w e:=by
 have c:=Z (af.start w [])
 have r:=Z (aP r5 bf)
 have d0:=Z t
 obtain⟨K,R,rfl⟩:=t.b.form
 obtain⟨b5,b6,rfl⟩:=t.p.form
 obtain⟨a4,a5,rfl⟩:=t.m.iQ
 by_cases b0:L.length<y.n
 ·have e:lY L y=dL:=ax b0
  rw[e]
  obtain⟨A,k,rfl⟩:=h.form
  have c4:IntKind.wrap .u64 (L.length:Int)=(L.length:Int):=by rw[kB]<;>omega
  have d1:decide (L.length<y.n)=true:=by grind
  have d2:decide ((L.length:Int)<(y.n:Int))=true:=by grind
  generalize y.b.e.length=bn at*
  generalize y.e.length=a6 at*
  generalize y.aL.length=B at*
  generalize L.length=n at*
  obtain⟨a2,a3,id,M,N,⟨T,X,a0,a1⟩,⟨⟨C,D,E,F⟩,⟨G,H,I,J⟩,b7⟩,c7,c6⟩:=y
  simp only at d1 d2
  go_enter func271,ntmps271
  go_wp2_with(first|(first|(refine KL c 1 46 ?_)|(refine il (c.U.bH r.U) 0 rfl rfl 64 rfl rfl zR rfl ?_))|(refine K7 c 0 81 20 λ q c=>?_)|(refine KA c 81 3 ei λ b8 q c2 c=>?_)|(refine KB c 81 2 ([O (a2:Int),O (a3:Int),U (id:Int),U (M:Int),U (N:Int),U (T:Int),U (X:Int),ae a0,ae a1,U (C:Int),U (D:Int),ae E,ae F,U (G:Int),U (H:Int),ae I,ae J,ad K bn R,ad b5 a6 b6,ad a4 B a5]) λ x q c1 c=>?_))
  refine iH c.U 0 rfl 81 20 rfl rfl zR rfl rfl ?_
  exact⟨_,_,_,rfl,LC 0 _,c.U.ak⟩
 ·have e:lY L y={y with c:=8,e:=rP (y.m:Int) (L.take y.n)}:=aj b0
  rw[e]
  obtain⟨b,o,k,rfl,d6⟩:=h.slice rfl W
  have b9:=h.take y.n W
  have a7:=Z (λ j (z:BW w j)=>NK (c0.below z).a (b9.below z rfl) (λ s d=>c3 s (oq d)) (by grind) (y.m:Int))
  have a8:=Z t.b
  have a9:=Z t.m
  have c4:IntKind.wrap .u64 (L.length:Int)=(L.length:Int):=by rw[kB]<;>omega
  have c5:IntKind.wrap .i64 (y.m:Int)=(y.m:Int):=by rw[fS]<;>omega
  have d1:decide (L.length<y.n)=false:=by grind
  have d2:decide ((L.length:Int)<(y.n:Int))=false:=by grind
  have d3:(0:Int)<=(y.n:Int):=by omega
  have d4:(y.n:Int)<=(k:Int):=by omega
  have d5:y.n<=k:=by omega
  generalize rP (y.m:Int) (L.take y.n)=P at*
  generalize y.b.e.length=bn at*
  generalize y.e.length=a6 at*
  generalize y.aL.length=B at*
  generalize L.length=n at*
  obtain⟨a2,a3,id,M,N,⟨T,X,a0,a1⟩,⟨⟨C,D,E,F⟩,⟨G,H,I,J⟩,b7⟩,c7,c6⟩:=y
  simp only at d1 d2 d3 d4 d5 c5 a7 a8 a9
  go_enter func271,ntmps271
  go_upto_region 3 with(first|(first|(refine KL c 1 46 ?_)|(refine il (c.U.bH r.U) 0 rfl rfl 64 rfl rfl zR rfl ?_))|(refine KA c 81 3 ei λ b8 q c2 c=>?_)|(refine KB c 81 2 ([O (a2:Int),O (a3:Int),U (id:Int),U (M:Int),U (N:Int),U (T:Int),U (X:Int),ae a0,ae a1,U (C:Int),U (D:Int),ae E,ae F,U (G:Int),U (H:Int),ae I,ae J,ad K bn R,ad b5 a6 b6,ad a4 B a5]) λ x q c1 c=>?_))
  refine af.Jz c.U (S:=bc [Y.two x 3 4 (U (M:Int)) (U (N:Int)),Y.row g 64 [ad (some ⟨b,o,none⟩) n k]]) V V (λ e3 s=> ?_)
  replace c:=Z s
  have d:bc [Y.two x 3 4 (U (M:Int)) (U (N:Int)),Y.row g 64 [ad (some ⟨b,o,none⟩) n k]] _:=(aP (Y.yt c.U 1 rfl rfl rfl) (c.U.bH r.U))
  refine bX.dt (i:=0) (oi:=_) (v:=?vr0) 12 rfl rfl V V (λ _ _ _ h=>h) (Or.inl ⟨by kernel_rfl,?Sh⟩) d ?rr0
  case Sh=>(intro j p;go_simp;try(with_reducible rfl))
  simp only[aH,au,ay]
  refine bX.dt (i:=1) (oi:=_) (v:=U (M:Int)) 13 rfl rfl V V (λ _ _ _ h=>h) (YT V 0 rfl 46 rfl V 3 _ rfl (.inl ⟨rfl,rfl⟩)) d ?_
  simp only[aH,au,ay]
  refine bX.dt (i:=2) (oi:=_) (v:=O (M:Int)) 14 rfl rfl V V (λ _ _ _ h=>h) (Or.inl ⟨by kernel_rfl,λ j p=>by(go_simp;done)⟩) d ?_
  simp only[aH,au,ay]
  refine bX.dt (i:=3) (oi:=_) (v:=_) 15 rfl rfl V V (λ _ _ _ h=>h) (Y1 V 1 rfl 64 rfl rfl V rfl) d ?_
  simp only[aH,au,ay]
  refine bX.dt (i:=4) (oi:=_) (v:=?vr4) 16 rfl rfl V V (λ _ _ _ h=>h) (Or.inl ⟨by kernel_rfl,?Sk⟩) d ?Xv
  case Sk=>(intro j p;go_simp;try(with_reducible rfl))
  simp only[aH,au,ay]
  refine bX.dt (i:=5) (oi:=_) (v:=U (N:Int)) 17 rfl rfl V V (λ _ _ _ h=>h) (YT V 0 rfl 46 rfl V 4 _ rfl (.inr ⟨rfl,rfl⟩)) d ?_
  simp only[aH,au,ay]
  refine bX.dt (i:=6) (oi:=_) (v:=ad (some ⟨b,o,none⟩) N k) 18 rfl rfl V V (λ _ _ _ h=>h) (Or.inl ⟨by kernel_rfl,λ j p=>by(go_simp;done)⟩) d ?_
  simp only[aH,au,ay]
  refine bX.eM (i:=7) V rfl rfl 19 rfl rfl 272 rfl PR _ rfl ?_
  refine(a7.U _ c.U.ak).mono ?_
  rintro e e2 ⟨⟨u,rfl,b1⟩,z⟩
  obtain⟨c8,c9,rfl,-⟩:=cF b1
  have s:=c.U.db z b1
  replace c:=Z s
  refine⟨_,rfl,(aP (Y.yt c.U 2 rfl rfl rfl) (c.U.bH r.U)),?_⟩
  simp only[aH,au,ay]
  have d:bc [Y.two x 3 4 (U (M:Int)) (U (N:Int)),Y.row g 64 [ad (some ⟨b,o,none⟩) n k]] _:=(aP (Y.yt c.U 2 rfl rfl rfl) (c.U.bH r.U))
  refine bX.dt (i:=8) (oi:=_) (v:=?vr8) 11 rfl rfl V V (λ _ _ _ h=>h) (Or.inl ⟨by kernel_rfl,?Sl⟩) d ?rr8
  case Sl=>(intro j p;go_simp;try(with_reducible rfl))
  simp only[aH,au,ay]
  refine bX.dt (i:=9) (oi:=_) (v:=?vr9) 20 rfl rfl V V (λ _ _ _ h=>h) (Or.inl ⟨by kernel_rfl,?Sm⟩) d ?rr9
  case Sm=>(intro j p;go_simp;try(with_reducible rfl))
  simp only[aH,au,ay]
  refine bX.dt (i:=10) (oi:=_) (v:=?adw) 21 rfl rfl V V (λ _ _ _ h=>h) (Or.inl ⟨by kernel_rfl,?Si⟩) d ?ado
  case Si=>(intro j p;go_simp;try(with_reducible rfl))
  simp only[aH,au,ay]
  refine bX.dt (i:=11) (oi:=_) (v:=?adx) 22 rfl rfl V V (λ _ _ _ h=>h) (Or.inl ⟨by kernel_rfl,?Sj⟩) d ?adp
  case Sj=>(intro j p;go_simp;try(with_reducible rfl))
  simp only[aH,au,ay]
  refine bX.qY c.U (i:=12) V rfl rfl rfl 2 rfl 64 rfl rfl rfl V rfl rfl ?_
  intro q s
  simp only[eF,au,ay,bC,bU,dc,cO] at s
  replace c:=Z s
  refine⟨(aP (Y.yt c.U 2 rfl rfl rfl) (c.U.bH r.U)),?_⟩
  refine bX.done V ?_
  go_wp2_with(first|(refine KR c 2 81 20 ?_)|(first|(refine Kc c 2 3 λ q c=>?_)|(refine K7 c 1 81 20 λ q c=>?_)))
  refine iH c.U 1 rfl 81 20 rfl rfl V rfl rfl ?_
  exact⟨ad K bn R,ad c8 P.length c9,ad a4 B a5,rfl,⟨a8.U.below c.U.ak rfl,hn (c.U.get (i:=0) rfl) (IM (c.U.get (i:=0) rfl)),a9.U.below c.U.ak⟩,c.U.ak⟩
variable{h:HD}
def UU{k:KY}{size:Nat}{r:ag}(a:kj k size g r=some h):h.right=true:=by
 unfold kj at a;split at a
 ·rename_i b;injection a with a;rw[<-a];exact b
 ·cases a
def Uy(k:KY)(L:List ag)(a:Nat):(mq k L a).Ok:=by
 unfold mq;split
 ·exact jN
 ·cases b:kj k L.length a (TreeM.aE L) with
  |none=>exact jN
  |some h=>exact BS (UU b)
def Xk(h:G.right=true)(b:G.c=6):1<=G.m/\G.m<=G.n/\G.n<=1099511627776:=by
 unfold MG.right at h;rw[b,show eC (eQ 6)=[108,105,109,110] by decide] at h;simp only[cQ,te] at h;have a:=h.2.2.2.2.1;unfold MG.part at a;simp only[Nat.reduceEqDiff,↓reduceIte,cQ,dx] at a;exact a
def MC(a b:ab)(h5:¬k=5)(h6:¬k=6):gJ .nilFunc (hX (hX [] 5 a) 6 b) (k:Int)= .nilFunc/\(cV (hX (hX [] 5 a) 6 b) (k:Int)).isSome=false:=by
 have e:hX (hX [] 5 a) 6 b=[(5,a),(6,b)]:=rfl;have e2:cV [((5:Int),a),(6,b)] (k:Int)=none:=by
  unfold cV cV cV;rw[aj (show¬(k:Int)=5 by omega),aj (show¬(k:Int)=6 by omega)];rfl
 rw[e];unfold gJ;rw[e2];exact⟨rfl,rfl⟩
def E1{w:aa}(f:bQ w)(k:KY)(H:k.Ok){v:ab}{L:List ag}(h:bg w v L)(F:∀s∈L,s.size<=80000000)(D:L.length<1000000)(d:Nat)(K:d<18446744073709551616)(s:ag):
 CB 214 #[k.agg,v,U (d:Int),ae s] w (ae (gm k L d s)):=by
 have a:=Z (af.start w [])
 cases hd:dm s
 ·rename_i e
  have j:gm k L d s=⟨#[]⟩:=by unfold gm;rw[hd]
  rw[j]
  have a1:ai (∀b,BW w b->CB 83 #[ae s] b (aJ #[aG #[O 0,O 0,U 0,U 0,U 0,U 0,U 0,ae ⟨#[]⟩,ae ⟨#[]⟩,U 0,U 0,ae ⟨#[]⟩,ae ⟨#[]⟩,U 0,U 0,ae ⟨#[]⟩,ae ⟨#[]⟩,ad none 0 0,ad none 0 0,ad none 0 0],O (e:Int)])):=Z (λ b c=>(ui s b (f.below c).a (f.below c).aT).mono (by
   rintro r B m
   unfold pK at m
   rw[hd] at m
   exact⟨m.1.1,m.2⟩))
  have g:e≠0:=wC hd
  have l:((e:Int) !=0)=true:=by rw[nu];omega
  obtain⟨A,a3,rfl⟩:=h.form
  clear f H h F D K hd j g
  generalize L.length=n at*
  go_enter func214,ntmps214
  go_wp2_with(first|refine Kl a ?_|refine KS a λ g a=>?_|refine KA a _ 10 ei λ b1 g b2 a=>?_|refine KB a 121 4 _ λ T g b3 a=>?_|refine KB a 64 5 _ λ q g b4 a=>?_|refine KB a 46 6 _ λ X g b5 a=>?_|(with_reducible show jw);(refine jj a.U rfl 14 rfl 335 rfl λ b7 g b6 I=>?_;replace a:=Z I;clear I)|refine KM a λ g a=>?_|(with_reducible show iq);(refine Lk a.U 1 rfl rfl ug rfl rfl rfl (v:=aJ #[.nilFunc,aF false]) (rfl) ?_)|go_at_call 83;refine KC a (a1.U _ a.U.ak) λ S a=>?_)
  go_ret
  exact⟨rfl,a.U.ak⟩
 focus
  rename_i y
  obtain⟨l,N,M⟩:=ny hd
  have a1:ai (∀b,BW w b->Calls prog 83 #[ae s] b λ r B=>∃o p x z t u,r=ao (aJ #[y.val (ad o y.b.e.length p) (ad x y.e.length z) (ad t y.aL.length u),O 0])/\af b B [] [Y.ow 9 1 (ad o y.b.e.length p) y.b.e.length (aV y.b.e),Y.ow 9 1 (ad x y.e.length z) y.e.length (aV y.e),Y.ow 240 4 (ad t y.aL.length u) y.aL.length (cy y.aL)]/\BW b B):=Z (λ b c=>(xp s b (f.below c).a (f.below c).aT).mono (by
   rintro r B m
   unfold lI at m
   rw[hd] at m
   obtain⟨⟨c1,c3,c2,a5,-,G⟩,a6⟩:=m
   obtain⟨o,p,e1,-⟩:=cF (show B.ownsRow 0 9 1 c1 _ _ from G.get (i:=0) rfl)
   obtain⟨x,z,e2,-⟩:=cF (show B.ownsRow 0 9 1 c3 _ _ from G.get (i:=1) rfl)
   obtain⟨t,u,e3,-⟩:=cF (show B.ownsRow 0 240 4 c2 _ _ from G.get (i:=2) rfl)
   subst e1 e2 e3
   exact⟨o,p,x,z,t,u,a5,G,a6⟩))
  obtain⟨A,a3,rfl⟩:=h.form
  by_cases m:y.c=5
  focus
   have j:gm k L d s=(qj k L d y).enc:=by
    unfold gm;rw[hd];dsimp only;rw[ax (.inl m)];unfold AL;rw[ax m];rfl
   rw[j]
   have a9:=Z (λ b (c:BW w b) (o x t:Option Addr) (bn p a8 z a7 u:Nat) (T q X:Nat) (C:(Y.row T 121 [ae k.a,ae k.pre,ae k.pub]).P b) (a0:(Y.row q 64 [ad A L.length a3]).P b) (E:(Y.row X 46 [U (d:Int)]).P b)=>Mz (f.below c) k H (h.below c rfl) F D d K y o x t bn p a8 z a7 u C a0 E)
   have J:(qj k L d y).Ok:=(ly (y:=qj k L d y) l.id (ck _) (ck _) (Uy k L d) rfl rfl rfl).1
   have a2:=Z (λ b (c:BW w b)=>qG (qj k L d y) J (ad none 0 0) (ad none 0 0) (ad none 0 0) b (f.below c).a (f.below c).aT (oZ _ rfl rfl rfl b))
   generalize qj k L d y=a4 at*
   generalize a4.enc=E at*
   clear f H h F D K hd j l N M J
  rotate_left
  focus
   by_cases C:y.c=6
   focus
    have j:gm k L d s=(lY L y).enc:=by
     unfold gm;rw[hd];dsimp only;rw[ax (.inr C)];unfold AL;rw[aj m];rfl
    rw[j]
    obtain⟨m1,m2,m3⟩:=Xk M C
    have b0:=Z (λ b (c:BW w b) (P R Q:ab) (b8:(Y.ow 9 1 P y.b.e.length (aV y.b.e)).P b) (b9:(Y.ow 9 1 R y.e.length (aV y.e)).P b) (c0:(Y.ow 240 4 Q y.aL.length (cy y.aL)).P b) (q:Nat) (a0:(Y.row q 64 [ad A L.length a3]).P b)=>MB (f.below c) (h.below c rfl) F D y m1 m2 m3 (N.rd b8 b9 c0) a0)
    have J:(lY L y).Ok:=by
     unfold lY
     split
     ·exact(ly (y:=dL) (ck _) (ck _) (ck _) jN rfl rfl rfl).1
     ·exact⟨l.id,l.m,l.n,l.h,l.b,l.aL,l.len⟩
    have a2:=Z (λ b (c:BW w b) (P R Q:ab) (a0:(lY L y).Rd b P R Q)=>qG (lY L y) J P R Q b (f.below c).a (f.below c).aT a0)
    generalize lY L y=a4 at*
    generalize a4.enc=E at*
    clear f H h F D K hd j l N M J m1 m2 m3
   rotate_left
   focus
    have j:gm k L d s=⟨#[]⟩:=by
     unfold gm;rw[hd];dsimp only;rw[aj W]
    rw[j]
    clear f H h F D K hd j l N M
    have b:=Z (λ j l=>MC j l m C)
    clear m C
 all_goals
  generalize L.length=n at*
  generalize y.b.e.length=bn at*
  generalize y.e.length=a8 at*
  generalize y.aL.length=a7 at*
  generalize aV y.b.e=c5 at*
  generalize aV y.e=c7 at*
  generalize cy y.aL=c6 at*
  obtain⟨c1,c2,id,M,N,⟨a5,G,a6,c0⟩,⟨⟨r,A,B,E⟩,⟨J,a3,a4,b8⟩,b9⟩,c4,c3⟩:=y
  first
   |simp only at m
    subst m
   |simp only at C
    subst C
   |skip
  go_enter func214,ntmps214
  go_wp2_with(first|refine Kl a ?_|refine KT a 20 ?_|refine KS a λ g a=>?_|refine KA a _ 10 ei λ b1 g b2 a=>?_|refine KB a 121 4 _ λ T g b3 a=>?_|refine KB a 64 5 _ λ q g b4 a=>?_|refine KB a 46 6 _ λ X g b5 a=>?_|(with_reducible show jw);(refine jj a.U rfl 14 rfl 335 rfl λ b7 g b6 I=>?_;replace a:=Z I;clear I)|refine KM a λ g a=>?_|(with_reducible show iq);(refine Lk a.U 4 rfl rfl ug rfl rfl rfl (v:=aJ #[.nilFunc,aF false]) (by rw[ax rfl,(b.U _ _).1,(b.U _ _).2]) ?_)|(with_reducible show iq);(refine Lk a.U 4 rfl rfl ug rfl rfl rfl (v:=aJ #[(.func (.func 271) #[] #[pV q]),aF true]) (rfl) ?_)|(with_reducible show iq);(refine Lk a.U 4 rfl rfl ug rfl rfl rfl (v:=aJ #[(.func (.func 269) #[] #[pV T,pV q,pV X]),aF true]) (rfl) ?_)|go_at_call 83;(refine(a1.U _ a.U.ak).mono ?_);rintro e S ⟨o,p,x,z,t,u,rfl,j,c⟩;replace a:=Z (a.U.plus j);clear c j|go_at_call 271;(refine(b0.U _ a.U.ak _ _ _ (a.U.get (i:=1) rfl) (a.U.get (i:=2) rfl) (a.U.get (i:=3) rfl) _ (a.U.get (i:=6) rfl)).mono ?_);rintro e S ⟨P,R,Q,rfl,a0,c⟩;replace a:=Z (a.U.below c);clear c;have l:=Z a0;clear a0|go_at_call 30;refine KC a (a2.U _ a.U.ak _ _ _ l.U) λ S a=>?_|go_at_call 269;refine KC a (a9.U _ a.U.ak _ _ _ _ _ _ _ _ _ _ _ _ (a.U.get (i:=7) rfl) (a.U.get (i:=6) rfl) (a.U.get (i:=5) rfl)) λ S a=>?_|go_at_call 30;refine KC a (a2.U _ a.U.ak) λ S a=>?_)
  go_ret
  exact⟨rfl,a.U.ak⟩
variable{d:DK}{E:JN}
def Tt{p w:aa}{rest:List Y}{a8 a7 v:ab}{L:List ag}(h:af p w m (Y.jr g n a8 E::Y.dk n a7 d::Y.sr v L::rest))(R:¬(E.cut=true\/E.sure<E.l.length)->d.Still)(a5:∀s∈L,s.size<=1000000)(b0:L.length<=1000000)(b2:E.l.length<=1000000)(b:Nat)(c:b<=1000000000):
 Calls prog 216 #[pV g,v,O (b:Int)] w λ r a0=>r=ao (O (iy E d L b:Int))/\∃a j,af p a0 m (Y.jr g n a (iw E d L b)::Y.dk n j (ix E d L b)::Y.sr v L::rest):=by
 have a:=Z h
 have e:bg w v L:=h.get (i:=2) rfl
 have f:=To e a5 b0
 obtain⟨y,z,rfl⟩:=e.form
 obtain⟨pA,t,b1,-⟩:=cF (show w.ownsRow 0 9 1 a8 E.l.length (aV E.l) from(af.fZ h).get (i:=1) rfl)
 subst b1
 clear h e a5
 by_cases e:E.cut=true\/E.sure<E.l.length
 ·obtain⟨e1,e2,e3⟩:=JE (d:=d) (l:=L) (n:=b) e
  rw[e1,e2,e3]
  obtain⟨F,hF⟩:∃F,(if cd L then bm L else⟨#[]⟩)=F:=⟨_,rfl⟩
  obtain⟨B,a3⟩:∃B,decide (cd L)=B:=⟨_,rfl⟩
  rw[hF,a3] at f
  have A:=Z f
  clear f e1 e2 e3 hF a3 R
  go_enter func216,ntmps216
  go_upto_region 2 with((go_at_call 273;refine KC a A.U λ J a=>?_))
  refine af.region a.U (n:=16) (S:=bc [Y.row g 227 (E.cells n (ad pA E.l.length t))]) V V (λ a1 H=>(aP (H.get (i:=0) rfl).1 bf)) (λ a1 c q=> ?_)
  cases C:E.cut
  ·have s:E.sure<E.l.length:=by
    rcases e with h|h
    ·rw[C] at h;cases h
    ·exact h
   have D:decide (E.sure<E.l.length)=true:=aS s
   clear e s
   replace a:=Z c;clear c
   refine VV [0,1,2,2003,4,5,6,7,2008,9,10,11,2012,13,14,15] q ?_
   clear q
   refine WT ?_
   go_wp2
   go_ret
   exact⟨rfl,_,_,a.U⟩
  ·clear e
   replace a:=Z c;clear c
   refine VV [0,1,2,2003,4,1005,1006,1007,1008,1009,1010,1011,1012,1013,1014,15] q ?_
   clear q
   refine WT ?_
   go_wp2
   go_ret
   exact⟨rfl,_,_,a.U⟩
 ·have hd:=R e
  clear R
  have C:E.cut=false:=by
   cases h:E.cut with
   |false=>rfl
   |true=>exact absurd (Or.inl h) e
  have D:decide (E.sure<E.l.length)=false:=bu (λ h=>e (Or.inr h))
  by_cases k:cd L
  focus
   rw[ax k,aS k] at f
   have A:=Z f
   have P:=Z e
   have M:=Z k
   obtain⟨F,hF⟩:∃F,bm L=F:=⟨_,rfl⟩
   rw[hF] at A
   have u:=Z hF
   have HD:=Z hd
   have G:∀o,(Builtin.min_ #[3,3] 3 #[O (b:Int),O 4]).run prog o= .ok (O ((min b 4:Nat):Int)) o:=λ o=>run_min_int2 o _ _ _ _ _ _ _ W
   obtain⟨K,x⟩:∃K,min b 4=K:=⟨_,rfl⟩
   rw[x] at G
   have N:ai (min b 4=K):=Z x
   have I:K<=4:=by omega
   clear f e k hF hd x
  rotate_left
  focus
   rw[aj k,bu k] at f
   have A:=Z f
   obtain⟨e1,e2,e3⟩:=JC (d:=d) (n:=b) e k
   rw[e1,e2,e3]
   clear f e1 e2 e3 e k hd
  rotate_left
  all_goals
   go_enter func216,ntmps216
   go_upto_region 2 with((go_at_call 273;refine KC a A.U λ J a=>?_))
   refine af.region a.U (n:=16) (S:=bc [Y.row g 227 (E.cells n (ad pA E.l.length t))]) V V (λ a1 H=>(aP (H.get (i:=0) rfl).1 bf)) (λ a1 c q=> ?_)
   replace a:=Z c;clear c
   refine VV [0,1,2,2003,4,5,6,7,2008,9,10,11,2012,13,14,15] q ?_
   clear q
   refine WT ?_
  ·clear C D
   go_wp2
   clear G
   go_loopw [42] (λ e wr=>∃(k:Nat) (j:ab),k<=K/\e=O (k:Int)/\ai (1<=k->d.cC F=0)/\ai (af p wr m (Y.jr g n (ad pA E.l.length t) E::Y.dk n j (ez d F k)::Y.sr (ad y L.length z) L::rest))) (λ e _=>K-(intOf e).toNat)
   case atStart=>exact⟨0,a7,bh _,rfl,Z (λ h=>absurd h zD),a⟩
   case round=>
    clear a
    obtain⟨k,j,b3,rfl,C,a⟩:=hrel
    by_cases s:k<K
    ·have D:(k:Int)<(K:Int):=by omega
     obtain⟨f1,f2,f3⟩:=O0 HD.U F k W
     have q:=λ o (h:af p o m (Y.jr g n (ad pA E.l.length t) E::Y.dk n j (ez d F k)::Y.sr (ad y L.length z) L::rest))=>Tu h f1 f2 k W F
     by_cases x:ym k (ez d F k) F=0
     ·rw[x] at q
      have Q:=Z q
      have a9:ai (1<=k+1->d.cC F=0):=Z (λ _=>by
       by_cases T:k=0
       ·subst T;exact x
       ·exact C.U W)
      have a2:=Z s
      clear s f1 f2 f3 q x C
      go_wp2_with((go_at_call 274;(refine(Q.U _ a.U).mono ?_);rintro e J ⟨rfl,I,c⟩;replace a:=Z c;clear c))
      exact⟨⟨k+1,I,by have:=a2.U;omega,by go_num,a9,a⟩,by have:=a2.U;simp[intOf];omega⟩
     ·have T:k=0:=by
       rcases Ex k with h|h
       ·exact h
       ·exact absurd (f3 h) x
      subst T
      have X:d.cC F≠0:=x
      have f:=Z (JA (n:=b) P.U M.U (by have:=N.U;omega) (by rw[u.U];exact X))
      rw[u.U] at f
      have a6:ym 0 (ez d F 0) F=d.cC F:=rfl
      rw[a6] at q
      obtain⟨G,a4⟩:∃G,d.cC F=G:=⟨_,rfl⟩
      rw[a4] at q X f
      have b4:((G:Int)==0)=false:=by rw[cc];omega
      have Q:ai (∀o,af p o m (Y.jr g n (ad pA E.l.length t) E::Y.dk n j (ez d F 0)::Y.sr (ad y L.length z) L::rest)->Calls prog 274 #[pV g,O 0,ae F] o λ r a0=>r=ao (O (G:Int))/\∃I,af p a0 m (Y.jr g n (ad pA E.l.length t) E::Y.dk n I (sM 0 (ez d F 0) F)::Y.sr (ad y L.length z) L::rest)):=Z q
      clear s f1 f2 f3 q x C X a6 a4
      go_wp2_with((go_at_call 274;(refine(Q.U _ a.U).mono ?_);rintro e J ⟨rfl,I,c⟩;replace a:=Z c;clear c))
      go_ret
      obtain⟨e1,e2,e3⟩:=f.U
      rw[e1,e2,e3]
      exact⟨rfl,_,_,a.U⟩
    ·have D:decide (k<K)=false:=by simp;omega
     have T:k=K:=by omega
     subst T
     have q:=a.U.fZ
     clear a
     have a:=Z q
     clear q s
     by_cases o:b<4
     ·have X:k=b:=by have:=N.U;omega
      subst X
      have f:=Z (JD (j:=E) (d:=d) P.U M.U (by
       rcases Ex k with h|h
       ·exact Or.inl h
       ·exact Or.inr (by rw[u.U];exact C.U h)) o)
      rw[u.U] at f
      have I:decide (k<4)=true:=aS o
      go_wp2_with(refine KS a λ s a=>?_)
      go_ret
      obtain⟨e1,e2,e3⟩:=f.U
      rw[e1,e2,e3]
      exact⟨rfl,_,_,a.U.cr⟩
     ·have Q:k=4:=by have:=N.U;omega
      subst Q
      have f:=Z (JF (j:=E) (d:=d) P.U M.U (by rw[u.U];exact C.U zD) o)
      rw[u.U] at f
      have I:decide (b<4)=false:=bu o
      clear D
      have G:=Z (λ s q r j (c:af p s m (Y.ow 9 1 (ad q L.length r) L.length (aV L)::Y.row g 227 [pV n,ad q L.length r,O (L.length:Int),aF E.cut]::Y.ow 9 1 (ad pA E.l.length t) E.l.length (aV E.l)::Y.dk n j (ez d F 4)::Y.sr (ad y L.length z) L::rest))=>(show af p s m (Y.jr g n (ad q L.length r) ⟨L,L.length,E.cut⟩::Y.dk n j (ez d F 4)::Y.sr (ad y L.length z) L::rest) from((c.ft [1]).cr.ft [1]).tail))
      cases H:((L.length:Int)==0)
      all_goals
       go_wp2_with(first|refine KS a λ s a=>?_|go_at_call 80;(refine(wu (a.U.get (i:=3) rfl) W).mono ?_);rintro e J ⟨⟨a0,rfl,x⟩,D⟩;have c:=a.U.db D x;obtain⟨q,r,rfl⟩:=bP.form x;replace a:=Z c;clear c;clear D x)
       go_ret
       obtain⟨e1,e2,e3⟩:=f.U
       rw[e1,e2,e3]
       exact⟨rfl,_,_,G.U _ _ _ _ a.U⟩
  ·go_wp2
   go_ret
   exact⟨rfl,_,_,a.U⟩
