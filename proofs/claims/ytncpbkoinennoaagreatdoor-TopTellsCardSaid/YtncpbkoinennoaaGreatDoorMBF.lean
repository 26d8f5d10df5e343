import Derived.Test.YtncpbkoinennoaaGreatDoorMBE
set_option linter.all false
set_option maxRecDepth 100000
set_option maxHeartbeats 0
namespace Go.Proofs.YtncpbkoinennoaaGreatDoor
open Go.RowKit Proofs.Tryz
attribute [local irreducible] wpList Calls
def Mt{w:aa}(s:ST){F:ab}(h:hE w F s.f)(k:MK):CB 238 #[s.val F,k.val] w (aF (qi s k)):=by
 have j:=Z (λ a (b:BW w a) g (c:(Y.row g 240 [O (k.log:Int),U (k.size:Int),ae k.aE,aF k.aM]).P a)=>Oh (h.below b) (O (k.log:Int)) (aF k.aM) k.size k.aE c);obtain⟨pA,u,rfl⟩:=h.form;clear h;have f2:decide (k.size<s.ar.size)=decide ((k.size:Int)<(s.ar.size:Int)):=by rw[bI];simp
 have f4:=js s.ar.size k.size;have f5:=qZ s.ar.aE k.aE;have z:=yo s.ar.aE k.aE;obtain⟨R,a⟩:∃R,qi s k=R:=⟨_,rfl⟩;rw[a];unfold qi at a;generalize(s.f.any λ h=>decide (h.size=k.size)&&decide (h.aE=k.aE))=L at*;generalize K:decide (k.size<s.ar.size)=G at*;generalize decide (s.ar.size=k.size)=H at*;generalize decide (s.ar.aE=k.aE)=I at*;have J:=f2.symm;clear f2;have f:=Z a.symm;clear a;have a:=Z (af.start w []);generalize s.f.length=v at*;obtain⟨y,⟨l,m,n,o⟩,M,x⟩:=s;obtain⟨q,t,r,p⟩:=k;simp only at f4 f5 z J K j;cases G with
 |true=>
  have c:=f.U;simp only[mR,vd,oc,vc,yZ,yY,ve,yX,yW,yV,↓reduceIte,reduceCtorEq,fy] at c;subst c;clear f
  go_enter zV,Aq
  go_wp2_with(first|((with_reducible show wU);first|(refine KL a 0 46 ?_)|(refine KL a 1 46 ?_)|(refine KL a 0 9 ?_)|(refine KL a 1 9 ?_)|(refine KL a 0 60 ?_)|(refine KL a 1 60 ?_))|((with_reducible show wT);first|(refine KB a 62 2 ([aF y,U (l:Int),U (m:Int),ae n,ae o,ad pA v u,ae x]) ?_;clear a;intro A g C a)|(refine KB a 240 3 ([O (q:Int),U (t:Int),ae r,aF p]) ?_;clear a;intro B g D a))|(go_at_call 283;(with_reducible refine(j.U _ a.U.ak _ (a.U.get (i:=0) rfl)).mono ?_);rintro e E ⟨rfl,b⟩;have d:=a.U.below b;replace a:=Z d;clear d;clear b))
  go_ret
  exact⟨by simp,a.U.ak⟩
 |false=>
  cases H with
  |true=>
   cases I with
   |true=>
    simp only[Bu] at z;have c:=f.U;simp only[mR,vd,oc,vc,yZ,yY,ve,yX,yW,yV,↓reduceIte,reduceCtorEq,fy] at c;subst c;clear f
    go_enter zV,Aq
    go_wp2_with(first|((with_reducible show wU);first|(refine KL a 0 46 ?_)|(refine KL a 1 46 ?_)|(refine KL a 0 9 ?_)|(refine KL a 1 9 ?_)|(refine KL a 0 60 ?_)|(refine KL a 1 60 ?_))|((with_reducible show wT);first|(refine KB a 62 2 ([aF y,U (l:Int),U (m:Int),ae n,ae o,ad pA v u,ae x]) ?_;clear a;intro A g C a)|(refine KB a 240 3 ([O (q:Int),U (t:Int),ae r,aF p]) ?_;clear a;intro B g D a))|(go_at_call 283;(with_reducible refine(j.U _ a.U.ak _ (a.U.get (i:=0) rfl)).mono ?_);rintro e E ⟨rfl,b⟩;have d:=a.U.below b;replace a:=Z d;clear d;clear b))
    go_ret
    exact⟨by simp,a.U.ak⟩
   |false=>
    simp only[fy] at z;have c:=f.U;simp only[mR,vd,oc,vc,yZ,yY,ve,yX,yW,yV,↓reduceIte,reduceCtorEq,fy] at c;subst c;clear f
    go_enter zV,Aq
    go_wp2_with(first|((with_reducible show wU);first|(refine KL a 0 46 ?_)|(refine KL a 1 46 ?_)|(refine KL a 0 9 ?_)|(refine KL a 1 9 ?_)|(refine KL a 0 60 ?_)|(refine KL a 1 60 ?_))|((with_reducible show wT);first|(refine KB a 62 2 ([aF y,U (l:Int),U (m:Int),ae n,ae o,ad pA v u,ae x]) ?_;clear a;intro A g C a)|(refine KB a 240 3 ([O (q:Int),U (t:Int),ae r,aF p]) ?_;clear a;intro B g D a))|(go_at_call 283;(with_reducible refine(j.U _ a.U.ak _ (a.U.get (i:=0) rfl)).mono ?_);rintro e E ⟨rfl,b⟩;have d:=a.U.below b;replace a:=Z d;clear d;clear b))
    go_ret
    exact⟨by simp,a.U.ak⟩
  |false=>
   have c:=f.U;simp only[mR,vd,oc,vc,yZ,yY,ve,yX,yW,yV,↓reduceIte,reduceCtorEq,fy] at c;subst c;clear f
   go_enter zV,Aq
   go_wp2_with(first|((with_reducible show wU);first|(refine KL a 0 46 ?_)|(refine KL a 1 46 ?_)|(refine KL a 0 9 ?_)|(refine KL a 1 9 ?_)|(refine KL a 0 60 ?_)|(refine KL a 1 60 ?_))|((with_reducible show wT);first|(refine KB a 62 2 ([aF y,U (l:Int),U (m:Int),ae n,ae o,ad pA v u,ae x]) ?_;clear a;intro A g C a)|(refine KB a 240 3 ([O (q:Int),U (t:Int),ae r,aF p]) ?_;clear a;intro B g D a))|(go_at_call 283;(with_reducible refine(j.U _ a.U.ak _ (a.U.get (i:=0) rfl)).mono ?_);rintro e E ⟨rfl,b⟩;have d:=a.U.below b;replace a:=Z d;clear d;clear b))
   go_ret
   exact⟨by simp,a.U.ak⟩
variable{I:List Y}{m:List Nat}{T:NA}{N:ND}
def af.plus{j w wr:aa}{i:List Y}(h:af j w m I)(h1:af w wr [] i):af j wr m (i++I):=by
 have e:=h.below h1.ak;refine⟨e.only,λ g o=> ?_,λ k f=> ?_,?_⟩
 ·rcases eJ.1 o with c|c
  ·exact h1.ok g c
  ·exact e.ok g c
 ·rw[tE] at f;rcases eJ.1 f with c|c
  ·rcases h1.own k c with d|d
   ·cases d
   ·right;have:=h.size;omega
  ·exact h.own k c
 ·rw[tE,lL];refine⟨h1.b,h.b,λ a l b n=> ?_⟩;have:=h.lt b n;rcases h1.own a l with d|d
  ·cases d
  ·omega
def tb(w:aa)(p:ST×Nat)(e:Ending)(a:aa):Prop:=
 ∃A c,e=ao (aJ #[p.1.val (ad A p.1.f.length c),O (p.2:Int)])/\(counts p.2=true->oe w.heap.size a (ad A p.1.f.length c) p.1.f)/\BW w a
def Y.lift(A:Y){w a:aa}(h:A.P w)(b:BW w a):A.P a:=A.st w a (λ k c=>b.block k (A.lt w h k c)) h
def Gd{w:aa}(r:bQ w){x:NV}(h:(Y.aQ T x N).P w)(f:N.Ok)(y:MG)(z:y.Ok)(A:y.Small)(u:y.log=0){s G F:ab}(p:y.Rd w s G F):
 Calls prog 84 #[pV T.g,y.val s G F] w (tb w (bS N.c N.st y)):=by
 have a:=Z (af.start w [])
 have d:=oO (sx h) (by have:=f.o;omega)
 have e:N.c.key.size<=800000:=by rw[f.c.key];decide
 have j:N.c.room<=1000000:=by have:=f.c.a;omega
 have o:=Z (λ b (c:BW w b)=>Zb (r.below c) N.st (d.below c) f.o N.c.key e y.h N.c.room j)
 have m:=Z (λ b (c:BW w b)=>Ur (r.below c) N.st (d.below c) f.o y.m y.n (p.p.below c rfl) (by have:=A.p;omega))
 have n:=Z (λ b (c:BW w b)=>T0 (r.below c) N.st (d.below c) (by have:=f.o;omega) N.c.key y.b.enc e)
 have q:=Z (λ b (c:BW w b)=>Bw y.b z.b s b (p.b.below c rfl))
 have g:=Z (aP (jz h) (aP (oY h) bf))
 obtain⟨pA,a9,v⟩:=d.form
 obtain⟨a0,a1,rfl⟩:=p.b.form
 obtain⟨b0,b1,rfl⟩:=p.p.form
 obtain⟨a6,a7,rfl⟩:=p.m.iQ
 obtain⟨c6,c7,c1,c8⟩:=x
 simp only at v
 subst v
 clear d e j p A z r h f
 have d:bS N.c N.st y=if y.c=3 then N.st.take N.c.key y.h N.c.room else if y.c=8 then N.st.link y.m y.n y.e else if y.c=4 then N.st.lay N.c.key y.b.enc else(N.st,0):=rfl
 generalize bS N.c N.st y=D at*
 generalize y.b.e.length=bn at*
 generalize y.e.length=b2 at*
 generalize y.aL.length=a8 at*
 generalize y.b.enc=E at*
 generalize c0:N.st.f.length=c4 at*
 obtain⟨l,c2,id,M,I,⟨a2,a3,a4,a5⟩,⟨⟨J,K,L,P⟩,⟨Q,R,S,X⟩,b3⟩,c5,c3⟩:=y
 simp only at u o m n q d
 subst u
 show Calls prog 84 #[pV T.g,aG #[O (l:Int),O 0,U (id:Int),U (M:Int),U (I:Int),U (a2:Int),U (a3:Int),ae a4,ae a5,
  U (J:Int),U (K:Int),ae L,ae P,U (Q:Int),U (R:Int),ae S,ae X,ad a0 bn a1,ad b0 b2 b1,ad a6 a8 a7]] w (tb w D)
 go_enter func84,ntmps84
 go_upto_region 1 with(first|refine KA a _ 4 gT λ b5 k b8 a=>?_|refine KB a 81 3 _ λ b4 k b7 a=>?_)
 refine kJ a g 9 [1] λ H a b=>?_
 refine VV [0,1,2,2003,4,2005,6] b ?_
 refine WR 7 11 b ?_
 clear b
 refine az.iW (i:=8) V zD rfl ?_
 refine One.alloc a.U zR 133 6 rfl rfl _ ku ?_
 intro b6 k b9 f
 replace a:=Z f;clear f
 refine⟨sW a g [2],?_⟩
 try simp only[aH,au,ay]
 refine WT ?_
 by_cases k3:l=3
 ·subst k3
  rw[ax rfl] at d
  rw[<-d] at o
  have e1:((3:Nat):Int)=3:=rfl
  simp only[e1]
  clear m n q d e1
  go_upto_region 4 with(first|refine Kl a ?_|refine KS a λ k a=>?_)
  refine kJ a g 14 [0,2] λ H a b=>?_
  refine VV [0] b ?_
  refine WR 1 7 b ?_
  refine VV [2,2003,4] b ?_
  refine WR 5 4 b ?_
  refine VV [6,7,8,9,2010] b ?_
  clear b
  refine KV 11 (en 165) 30 ?_
  refine(o.U _ a.U.ak).mono ?_
  rintro e t ⟨B,C,rfl,j,c⟩
  replace a:=Z (a.U.db c j);clear c j
  refine⟨_,rfl,sW a g [1,3],?_⟩
  simp only[aH,au,ay]
  have b:=sW a g [1,3]
  refine VV [12,13] b ?_
  clear b
  refine WT ?_
  go_wp2_with(refine KS a λ k a=>?_)
  refine cz a.U 2 rfl 62 7 rfl rfl rfl zR rfl rfl ?_
  exact⟨_,_,rfl,λ _=>pa (a.U.get (i:=0) rfl) (a.U.lu mZ),a.U.ak⟩
 ·rw[aj k3] at d
  have f3:((l:Int)==3)=false:=by rw[cc];omega
  by_cases k8:l=8
  ·subst k8
   rw[ax rfl] at d
   rw[<-d] at m
   have e1:((8:Nat):Int)=8:=rfl
   simp only[e1]
   clear o n q d e1 f3 k3
   go_wp2_with(first|refine Kl a ?_|refine KT a 7 ?_|refine KS a λ k a=>?_|go_at_call 166;(refine(m.U _ a.U.ak).mono ?_);rintro e t ⟨B,C,rfl,j,c⟩;replace a:=Z (a.U.db c j);clear c j)
   refine cz a.U 2 rfl 62 7 rfl rfl rfl zR rfl rfl ?_
   exact⟨_,_,rfl,λ _=>pa (a.U.get (i:=0) rfl) (a.U.lu mZ),a.U.ak⟩
  ·rw[aj k8] at d
   have f8:((l:Int)==8)=false:=by rw[cc];omega
   by_cases k4:l=4
   ·subst k4
    rw[ax rfl] at d
    rw[<-d] at n
    have e1:((4:Nat):Int)=4:=rfl
    simp only[e1]
    clear o m d e1 f3 f8 k3 k8
    go_upto_region 8 with(first|refine Kl a ?_|refine KS a λ k a=>?_)
    refine kJ a g 10 [0,2] λ H a b=>?_
    refine VV [0] b ?_
    refine WR 1 7 b ?_
    refine VV [2,2003,4] b ?_
    refine WR 5 9 b ?_
    refine KW a b 6 (en 168) (q.U _ a.U.ak) ?_;clear a b;intro t a b
    refine KV 7 (en 167) 55 ?_
    refine(n.U _ a.U.ak).mono ?_
    rintro e t ⟨B,C,rfl,j,c⟩
    replace a:=Z (a.U.db c j);clear c j
    refine⟨_,rfl,sW a g [1,3],?_⟩
    simp only[aH,au,ay]
    have b:=sW a g [1,3]
    refine VV [8,9] b ?_
    clear b
    refine WT ?_
    go_wp2_with(refine KS a λ k a=>?_)
    refine cz a.U 2 rfl 62 7 rfl rfl rfl zR rfl rfl ?_
    exact⟨_,_,rfl,λ _=>pa (a.U.get (i:=0) rfl) (a.U.lu mZ),a.U.ak⟩
   ·rw[aj k4] at d
    have f4:((l:Int)==4)=false:=by rw[cc];omega
    clear o m n q k3 k8 k4
    go_wp2_with(first|refine Kl a ?_|refine KT a 7 ?_|refine KS a λ k a=>?_)
    refine cz a.U 1 rfl 62 7 rfl rfl rfl zR rfl rfl ?_
    subst d
    refine⟨pA,a9,?_,(λ b=>by cases b),a.U.ak⟩
    grind
variable{d:DK}{J K:Y}
def Cs{w wr:aa}{rest:List Y}{x:NV}{a:ab}(h:af w wr m (Y.aQ T x N::Y.dk T.a a d::rest)):
 af w wr m (Y.jr T.f T.a x.a N.j::Y.dk T.a a d::Y.row T.g 139 (N.cells T)::Y.row T.b 133 (N.hq x)::Y.ho x.pv N.st.f::Y.rt T.c T.d T.e x.b N.c.rc (lA N.g)::Y.mp T.rg (nQ N.g)::rest):=
 (fo h).ft [6,4]
def Cr{w wr:aa}{rest:List Y}{L P T M D:Y}(h:af w wr m (J::D::K::L::P::T::M::rest)):af w wr m (K::L::P::J::T::M::D::rest):=
 (h.ft [6,6,2,6,6,6])
def TS{n:ND}{y:MG}(h:counts (bS n.c n.st y).2=false):n.dI y=(bS n.c n.st y).2/\n.bZ y=n:=by
 unfold ND.dI ND.bZ;rw[aj (by rw[h];decide),aj (by rw[h];decide)];exact⟨rfl,rfl⟩
def TR{n:ND}{y:MG}(h:counts (bS n.c n.st y).2=true)(a:¬df n.j n.d y.enc=0):n.dI y=6/\n.bZ y=n:=by
 unfold ND.dI ND.bZ;rw[ax h,ax h,aj a,aj a];exact⟨rfl,rfl⟩
def Hy{n:ND}{y:MG}(h:counts (bS n.c n.st y).2=true)(a:df n.j n.d y.enc=0):n.dI y=(bS n.c n.st y).2/\n.bZ y={n with j:=hS n.j n.d y.enc,d:=hU n.j n.d y.enc,st:=(bS n.c n.st y).1}:=by
 unfold ND.dI ND.bZ;rw[ax h,ax h,ax a,ax a];exact⟨rfl,rfl⟩
def Tv{j:JN}{d:DK}{s:ag}(h:¬df j d s=0):hS j d s=j/\hU j d s=d:=by
 unfold hS hU;rw[aj h,aj h];exact⟨rfl,rfl⟩
def Cb{v w:aa}{rest:List Y}{x:NV}{H:ab}(S:TM m v)(h:af v w m (Y.aQ T x N::Y.dk T.a H N.d::rest))(b:N.Ok)(y:MG)(F:y.Ok)(G:y.Small)(C:y.log=0){I L J:ab}(l:y.Rd w I L J):
 Calls prog 219 #[pV T.g,y.val I L J] w λ r n=>r=ao (O (N.dI y:Int))/\∃c t,af v n m (Y.aQ T c (N.bZ y)::Y.dk T.a t (N.bZ y).d::rest):=by
 have a:=Z (af.start w [])
 have B:=Z h
 have o:=S.at h
 have q:(Y.aQ T x N).P w:=h.get (i:=0) rfl
 have HD:=Z (λ f (d:BW w f)=>Gd (o.below d) ((Y.aQ T x N).lift q d) b y F G C (l.below d))
 have Q:=Z (λ f (d:BW w f)=>qG y F I L J f (o.below d).a (o.below d).aT (l.below d))
 have u:=Z (λ(f:aa) (e:List Y) (c:af v f m (Y.jr T.f T.a x.a N.j::Y.dk T.a H N.d::e))=>Tn c b.d (by have:=b.dl;omega) (by have:=b.q;omega) y.enc (by have:=xo F G;omega))
 have a2:=Z (aP (jz q) (aP (oY q) bf))
 have P:=Z (λ k f=>FP k f)
 have s:(bS N.c N.st y).2=(bS N.c N.st y).2:=rfl
 have p:= @TS N y
 have j:= @TR N y
 have g:= @Hy N y
 have k:= @Tv N.j N.d y.enc
 obtain⟨b2,b3,rfl⟩:=l.b.form
 obtain⟨c8,c9,rfl⟩:=l.p.form
 obtain⟨c5,c6,rfl⟩:=l.m.iQ
 have r:∀f e n,tb f (bS N.c N.st y) e n->∃A c,e=ao (aJ #[(bS N.c N.st y).1.val (.slice A (bS N.c N.st y).1.f.length c),O ((bS N.c N.st y).2:Int)])/\(counts (bS N.c N.st y).2=true->oe f.heap.size n (.slice A (bS N.c N.st y).1.f.length c) (bS N.c N.st y).1.f)/\BW f n:=λ f e n h=>h
 have A:=Z r
 clear o q S h b G l s r
 generalize c:N.dI y=K at*
 generalize f:N.bZ y=d1 at*
 clear c f
 generalize bS N.c N.st y=D at*
 generalize y.b.e.length=bn at*
 generalize y.e.length=d0 at*
 generalize y.aL.length=c7 at*
 generalize y.enc=E at*
 obtain⟨R,f⟩:∃R,hS N.j N.d E=R:=⟨_,rfl⟩
 obtain⟨D2,c⟩:∃D2,hU N.j N.d E=D2:=⟨_,rfl⟩
 obtain⟨z,n⟩:∃z,df N.j N.d E=z:=⟨_,rfl⟩
 rw[f,c,n] at u
 rw[n] at j g k
 rw[f,c] at g k
 clear f c n
 obtain⟨s,X⟩:=D
 simp only at HD A p j g
 obtain⟨⟨c4,d4,id,M,a3,⟨b6,b7,b8,b9⟩,⟨⟨a4,a5,a6,a7⟩,⟨a8,a9,b0,b1⟩,d2⟩,d6,d5⟩,c3⟩:∃c,c=y:=⟨y,rfl⟩
 subst c3
 simp only at C HD Q
 subst C
 show Calls prog 219 #[pV T.g,aG #[O (c4:Int),O 0,U (id:Int),U (M:Int),U (a3:Int),U (b6:Int),U (b7:Int),ae b8,ae b9,
  U (a4:Int),U (a5:Int),ae a6,ae a7,U (a8:Int),U (a9:Int),ae b0,ae b1,ad b2 bn b3,ad c8 d0 c9,ad c5 c7 c6]] w _
 cases f:counts X
 ·obtain⟨e1,e2⟩:=p f
  rw[e1,e2]
  clear p j g k e1 e2
  go_enter func219,ntmps219
  go_wp2_with(first|refine KT a 20 ?_|refine KS a λ o a=>?_|refine KA a _ 5 gT λ b5 o c2 a=>?_|refine KB a 81 3 _ λ b4 o c1 a=>?_|go_at_call 84;(refine(HD.U _ a.U.ak).mono ?_);intro e n r;obtain⟨a0,a1,rfl,q,d⟩:=A.U _ _ _ r;clear r;have c:=Z q;clear q;replace a:=Z (a.U.below d);clear d|go_at_call 85;(refine(P.U _ _).mono ?_);rintro e n ⟨rfl,rfl⟩;rw[f])
  go_ret
  exact⟨rfl,x,H,B.U.below a.U.ak⟩
 focus
  have c0:=Z f
  by_cases c:z=0
  focus
   subst c
   obtain⟨e1,e2⟩:=g f rfl
   rw[e1,e2]
   clear p j g k e1 e2
  rotate_left
  focus
   obtain⟨e1,e2⟩:=j f c
   obtain⟨e3,e4⟩:=k c
   rw[e1,e2]
   rw[e3,e4] at u
   have d3:((z:Int)==0)=false:=by rw[cc];omega
   clear p j g k e1 e2 e3 e4 c
  rotate_left
 rotate_left 2
 all_goals
  go_enter func219,ntmps219
  go_upto_region 4 with(first|refine KT a 20 ?_|refine KS a λ o a=>?_|refine KA a _ 5 gT λ b5 o c2 a=>?_|refine KB a 81 3 _ λ b4 o c1 a=>?_|go_at_call 84;(refine(HD.U _ a.U.ak).mono ?_);intro e n r;obtain⟨a0,a1,rfl,q,d⟩:=A.U _ _ _ r;clear r;replace a:=Z (a.U.db d (q c0.U));clear d q|go_at_call 85;(refine(P.U _ _).mono ?_);rintro e n ⟨rfl,rfl⟩;rw[f])
  refine kJ a a2 6 [2] λ j a c=>?_
  refine VV [0,1,2,2003] c ?_
  refine WR 4 20 c ?_
  refine KW a c 5 (en 30) (Q.U _ a.U.ak) ?_;clear a c;intro n a c
  refine WT ?_
 ·go_upto_region 6 with((go_at_call 276;(refine(u.U _ _ (Cs ((B.U.plus a.U).ft [4,4]))).mono ?_);rintro e n ⟨rfl,g,t,b⟩;replace a:=Z b;clear b))
  refine RG a 9 [2,9,7] λ j a c=>?_
  refine VV [0,1,2,2003,4,2005] c ?_
  refine WR 6 7 c ?_
  refine VV [7,8] c ?_
  clear c
  refine WT ?_
  go_wp2_with(refine KS a λ o a=>?_)
  go_ret
  have b:=a.U.fs [9,1000,7,1000,4,1000]
  have c:=b.ft [6,4,4,4]|>.ar 4 rfl
  exact⟨rfl,⟨ad a0 s.f.length a1,g,x.b,x.c⟩,t,eR T _ _ (Cr c)⟩
 ·go_wp2_with((go_at_call 276;(refine(u.U _ _ (Cs ((B.U.plus a.U).ft [4,4]))).mono ?_);rintro e n ⟨rfl,g,t,b⟩;replace a:=Z b;clear b))
  go_ret
  have b:=a.U.fs [9,1000,8,1000,7,1000]
  exact⟨rfl,⟨x.pv,g,x.b,x.c⟩,t,eR T _ _ (Cr b)⟩
variable{a:Act}{g n:Nat}{o:Oper}{X:Operand}
def fv(L:List SD):List ab:=(L.map λ p=>[Value.int .i64 p.1,ae p.2]).flatten
def ye(L M:List SD):fv (L++M)=fv L++fv M:=by simp[fv]
abbrev Y.so(v:ab)(L:List SD):Y:=Y.ow 272 2 v L.length (fv L)
def rW:dh 76 272 2 24:=dh.mk' underlying76 (z:= .agg #[O 0,.string ⟨#[]⟩]) V rfl zD
def jN:ec.Ok:=⟨by decide,by decide⟩
def yK:mO.Ok:=⟨⟨by decide,by decide⟩,⟨by decide,by decide⟩,by decide⟩
def ly{y:MG}(h1:y.id<18446744073709551616)(h2:y.m<18446744073709551616)(h3:y.n<18446744073709551616)(h4:y.h.Ok)(h5:y.b=mO)(h6:y.e=[])(a:y.aL=[]):y.Ok/\y.Small:=
 ⟨⟨h1,h2,h3,h4,by rw[h5];exact yK,(by grind),by grind⟩,⟨by rw[h5];decide,by grind,by grind⟩⟩
def Yu(n:Nat)(h:n<18446744073709551616):(ps n).Ok:=(ly (y:=ps n) (ck _) (ck _) h jN rfl rfl rfl).1
def RQ.Ok.parts{r:RQ}(h:r.Ok):r.m.Ok/\r.m.Small/\r.m.log=0/\r.m.e=[]/\r.m.aL=[]/\r.m.b=mO/\r.m.h=ec:=by
 have Z:r.id<18446744073709551616:=by have:=h.t;omega
 rcases h.m with e|⟨a,b,c,d,e⟩
 ·rw[e];obtain⟨p,q⟩:=ly (y:=jW r.id) Z (ck _) (ck _) jN rfl rfl rfl;exact⟨p,q,rfl,rfl,rfl,rfl,rfl⟩
 ·rw[e];obtain⟨p,q⟩:=ly (y:=jX r.id a b) Z c d jN rfl rfl rfl;exact⟨p,q,rfl,rfl,rfl,rfl,rfl⟩
def oZ(y:MG)(h1:y.e=[])(h2:y.aL=[])(h3:y.b.e=[])(w:aa):y.Rd w (ad none 0 0) (ad none 0 0) (ad none 0 0):=by
 refine⟨?_,?_,?_⟩
 ·rw[h3];exact⟨none,0,rfl,bh _,λ i a=>absurd a (jm i)⟩
 ·rw[h1];exact⟨none,0,rfl,bh _,λ i a=>absurd a (jm i)⟩
 ·rw[h2];exact bD.nil 4 w
def Ig{w wr c:aa}{rest:List Y}{L P T M b:Y}{id:Nat}(i:af w wr m (K::L::P::J::T::M::rest))(j:bj T wr c (Y.star b (Y.ow 3 1 (ad (some ⟨g,0,none⟩) 1 n) 1 [O (id:Int)]))):
 ∃a,af w c m (Y.row g 3 (O (id:Int)::a)::b::K::L::P::J::M::rest):=by
 have f:=((i.ft [4]).bN j).fZ
 obtain⟨e,k,a,e1,-,-,-,h⟩:=nL f 1 rfl zD
 have d:g=e:=by injection e1 with e1;injection e1 with e1;injection e1
 subst d
 exact⟨a,h.ft [1]⟩
def Gj(n:ND)(b a:Nat)(h:n.g=none):n.cx b a=n/\n.hh b a=[]:=by
 unfold ND.cx ND.hh;grind
def Gk(n:ND)(a b:Nat){r:RQ}(h:n.g=some r)(h1:a<r.bt):n.cx a b=n/\n.hh a b=[]:=by
 unfold ND.cx ND.hh;grind
def Gi(n:ND)(a b:Nat){r:RQ}(h:n.g=some r)(h1:r.bt<=a)(h2:n.c.rc.i<=r.k):n.cx a b={n with g:=none,l:=bw n.l 1}/\n.hh a b=[(-2,(ps (bw n.l 1)).enc)]:=by
 unfold ND.cx ND.hh;grind
def Gh(n:ND)(a b:Nat){r:RQ}(h:n.g=some r)(h1:r.bt<=a)(h2:¬n.c.rc.i<=r.k):n.cx a b={n with g:=some {r with k:=r.k+1,bt:=bw a (gR n.c.rc r.k b)}}/\n.hh a b=[(-1,r.m.enc)]:=by
 unfold ND.cx ND.hh;grind
def Qo(a:Array ab){v:ab}(b:a[1]?=some v)(w:aa):(Instr.field 81 (aG a) 1).run prog w= .ok v w:=by
 simp[Instr.field,fN underlying81,asAgg,part,isAgg,fN oB,b,Result.andThen]
def YF{ops:Array Oper}{S:aa->Prop}(e:Region.wanted o (yielded ops a.tmps)=true)(c:o.op= .field 81 X 1){b:Array ab}(hx:a.eval X=aG b){v:ab}(d:b[1]?=some v):YieldsIf prog ops S o v a:=
 .inl ⟨e,λ w _=>by
  unfold execOp
  simp only[c,hx,Qo b d w,cL,dw,cZ]⟩
def rm(d:aa)(m:List Nat)(rest:List Y)(a:NA)(p:ND×List SD)(e:Ending)(b:aa):Prop:=
 ∃A c f,e=ao (ad A p.2.length c)/\af d b m (Y.so (ad A p.2.length c) p.2::Y.aQ a f p.1::rest)
def Gf{d w:aa}{rest:List Y}{x:NV}(h:af d w m (Y.aQ T x N::rest))(n j:Nat)
 (k:∀a,(Y.rt T.c T.d T.e x.b N.c.rc (lA N.g)).P a->Calls prog 255 #[pV T.c,U (n:Int),U (j:Int)] a λ r b=>r=ao (aJ #[ad none 0 0,ad none 0 0])/\∃c,bj (Y.rt T.c T.d T.e x.b N.c.rc (lA N.g)) a b (Y.rt T.c T.d T.e c N.c.rc (lA N.g))):
 Calls prog 207 #[pV T.g,U (n:Int),U (j:Int)] w (rm d m rest T (N,[])):=by
 have a:=Z (fo h)
 have o:=Z k
 clear h k
 go_enter func207,ntmps207
 go_wp2_with(first|refine Kl a ?_|go_at_call 255;(refine(o.U _ (a.U.get (i:=4) rfl)).mono ?_);rintro e p ⟨rfl,c,l⟩;have b:=a.U.at 4 rfl l;simp only[au,ay] at b;replace a:=Z b;clear b;clear l)
 go_loopw [7,27] (λ g f wr=>g=ad none 0 0/\f=O 0/\ai (af d wr m (Y.row T.g 139 (N.cells T)::Y.row T.b 133 (N.hq x)::Y.ho x.pv N.st.f::Y.jr T.f T.a x.a N.j::Y.rt T.c T.d T.e c N.c.rc (lA N.g)::Y.mp T.rg (nQ N.g)::rest))) (λ _ _ _=>0)
 case atStart=>grind
 case round=>
  clear a
  obtain⟨rfl,rfl,a⟩:=hrel
  go_wp2
  go_loopw [7,52] (λ g f wr=>g=ad none 0 0/\f=O 0/\ai (af d wr m (Y.row T.g 139 (N.cells T)::Y.row T.b 133 (N.hq x)::Y.ho x.pv N.st.f::Y.jr T.f T.a x.a N.j::Y.rt T.c T.d T.e c N.c.rc (lA N.g)::Y.mp T.rg (nQ N.g)::rest))) (λ _ _ _=>0)
  case atStart=>grind
  case round=>
   clear a
   obtain⟨rfl,rfl,a⟩:=hrel
   go_wp2
   go_ret
   have b:=eR T ⟨x.pv,x.a,c,x.c⟩ N a.U
   exact⟨none,0,_,rfl,b.dj (Y.so (ad none 0 0) []) (ct _ _ _ _) rfl⟩
def O7{A w:aa}{rest:List Y}{x:NV}(K:TM m A)(h:af A w m (Y.aQ T x N::rest))(b:N.Ok){r:RQ}(J:N.g=some r)(z C:Nat)(M:z<18446744073709551616)(L:C<18446744073709551616)(h1:r.bt<=z)(h2:r.k<N.c.rc.i):
 Calls prog 207 #[pV T.g,U (z:Int),U (C:Int)] w (rm A m rest T ({N with g:=some {r with k:=r.k+1,bt:=bw z (gR N.c.rc r.k C)}},[(-1,r.m.enc)])):=by
 have D:=b.g r J
 obtain⟨p,F,e,q,u,B,I⟩:=D.parts
 have l:=b.c.rc
 have S:=Z K
 obtain⟨c,g,o,next,a1,j,d,id,n,s,t⟩:=N
 simp only at J h2 l⊢
 subst J
 obtain⟨f,y,k,bt⟩:=r
 simp only at h1 h2 e p F q u B⊢
 have Q:=Z (λ G (a:(Y.rt T.c T.d T.e x.b c.rc (some (f,k,bt))).P G)=>WJ a l z C M L h1 h2)
 have R:=Z (λ G (E:bQ G)=>mG E (-1) y p (oZ y q u (by rw[B];rfl) G))
 have a:=Z (fo h)
 have a5:=Z e
 have a9:IntKind.wrap .i64 (-1-(y.log:Int))= -1:=by rw[e];decide
 generalize y.enc=E at*
 generalize bw z (gR c.rc k C)=H at*
 clear h b D p F q u B I e l K h1 h2 M L
 go_enter func207,ntmps207
 go_wp2_with(first|refine Kl a ?_|go_at_call 255;(refine(Q.U _ (a.U.get (i:=4) rfl)).mono ?_);rintro e a2 ⟨p,q,F,rfl,P⟩;obtain⟨a4,b⟩:=Ig a.U P;replace a:=Z b;clear b;clear P)
 replace a:=Z (a.U.dj (Y.so (ad none 0 0) []) (ct _ _ _ _) rfl)
 go_loopw [7,27] (λ I u wr=>(I=ad none 0 0/\u=O 0/\ai (af A wr m (Y.so (ad none 0 0) []::Y.row p 3 (O (f:Int)::a4)::Y.rt T.c T.d T.e F c.rc (some (f,k+1,H))::Y.row T.g 139 (ND.cells (⟨c,g,o,next,some ⟨f,y,k,bt⟩,j,d,id,n,s,t⟩:ND) T)::Y.row T.b 133 (ND.hq (⟨c,g,o,next,some ⟨f,y,k,bt⟩,j,d,id,n,s,t⟩:ND) x)::Y.ho x.pv g.f::Y.jr T.f T.a x.a j::Y.mp T.rg [((f:Int),y.val (ad none 0 0) (ad none 0 0) (ad none 0 0))]::rest)))
  \/∃D B:Nat,I=ad (some ⟨D,0,none⟩) 1 B/\u=O 1/\ai (af A wr m (Y.so (ad (some ⟨D,0,none⟩) 1 B) [(-1,E)]::Y.rt T.c T.d T.e F c.rc (some (f,k+1,H))::Y.row T.g 139 (ND.cells (⟨c,g,o,next,some ⟨f,y,k,bt⟩,j,d,id,n,s,t⟩:ND) T)::Y.row T.b 133 (ND.hq (⟨c,g,o,next,some ⟨f,y,k,bt⟩,j,d,id,n,s,t⟩:ND) x)::Y.ho x.pv g.f::Y.jr T.f T.a x.a j::Y.mp T.rg [((f:Int),y.val (ad none 0 0) (ad none 0 0) (ad none 0 0))]::rest))) (λ _ u _=>1-(intOf u).toNat)
 case atStart=>exact .inl ⟨rfl,rfl,a⟩
 case round=>
  clear a
  obtain⟨rfl,rfl,a⟩|⟨D,B,rfl,rfl,a⟩:=hrel
  ·go_upto_region 6 with(refine Kl a ?_)
   refine RG a 17 [3,7] λ b0 a l=>?_
   refine VV [0,1,2,3,2004,5] l ?_
   refine W2 6 37 rfl rfl (YL V 1 rfl qz rfl rfl rfl (qD _ _ _)) l ?_
   refine W2 7 38 rfl rfl (YF V rfl rfl rfl) l ?_
   refine W2 8 39 (v:=O (-1)) rfl rfl (Or.inl ⟨by kernel_rfl,λ G a7=>by(go_simp;done)⟩) l ?_
   refine VV [9,10,11,2012,13] l ?_
   refine W2 14 45 rfl rfl (YL V 1 rfl qz rfl rfl rfl (qD _ _ _)) l ?_
   refine KW a l 15 (en 209) (R.U _ (S.U.at a.U)) ?_;clear a l;intro a2 a l
   refine az.make a.U (i:=16) V zD rfl rfl 47 rfl (some 1) 272 [O (-1),ae E] ?Rx ?_
   case Rx=>(go_simp;(rfl))
   intro a6 a3 a8 b
   replace a:=Z b;clear b
   refine⟨bo a [4,8],?_⟩
   simp only[bk]
   simp only[aH,au,ay]
   refine WT ?_
   go_wp2_with((refine Ap a.U rfl rW rfl 1 rfl rfl 0 rfl rfl rfl rfl zD zD λ a0 X a3 b=>?_;simp only[au,ay] at b;replace a:=Z b;clear b))
   exact⟨.inr ⟨a0,X,rfl,rfl,Z (a.U.tail.fs [1,1000])⟩,by decide⟩
  ·go_wp2
   go_loopw [7,52] (λ I u wr=>I=ad (some ⟨D,0,none⟩) 1 B/\u=O 0/\ai (af A wr m (Y.so (ad (some ⟨D,0,none⟩) 1 B) [(-1,E)]::Y.rt T.c T.d T.e F c.rc (some (f,k+1,H))::Y.row T.g 139 (ND.cells (⟨c,g,o,next,some ⟨f,y,k,bt⟩,j,d,id,n,s,t⟩:ND) T)::Y.row T.b 133 (ND.hq (⟨c,g,o,next,some ⟨f,y,k,bt⟩,j,d,id,n,s,t⟩:ND) x)::Y.ho x.pv g.f::Y.jr T.f T.a x.a j::Y.mp T.rg [((f:Int),y.val (ad none 0 0) (ad none 0 0) (ad none 0 0))]::rest))) (λ _ _ _=>0)
   case atStart=>exact⟨rfl,rfl,a⟩
   case round=>
    clear a
    obtain⟨rfl,rfl,a⟩:=hrel
    go_wp2
    go_ret
    have b:=a.U.fs [6,2,6,6,6,6]
    exact⟨_,_,⟨x.pv,x.a,F,x.c⟩,rfl,(eR T ⟨x.pv,x.a,F,x.c⟩ (⟨c,g,o,next,some ⟨f,y,k+1,H⟩,j,d,id,n,s,t⟩:ND) b).ft [1]⟩
def O8{B w:aa}{rest:List Y}{x:NV}(L:TM m B)(h:af B w m (Y.aQ T x N::rest))(b:N.Ok){r:RQ}(G:N.g=some r)(H K:Nat)(h1:r.bt<=H)(h2:N.c.rc.i<=r.k):
 Calls prog 207 #[pV T.g,U (H:Int),U (K:Int)] w (rm B m rest T ({N with g:=none,l:=bw N.l 1},[(-2,(ps (bw N.l 1)).enc)])):=by
 have q:=b.g r G
 obtain⟨C,D,e,F,I,M,P⟩:=q.parts
 have p:=b.l
 have X:=Z L
 obtain⟨c,g,o,next,a3,j,d,id,s,u,z⟩:=N
 simp only at G h2 p⊢
 subst G
 obtain⟨l,y,k,bt⟩:=r
 simp only at h1 h2 e C D F I M⊢
 have R:=Z (λ A (a:(Y.rt T.c T.d T.e x.b c.rc (some (l,k,bt))).P A)=>WK a H K h1 h2)
 have J:=Z (λ A=>nR o 1 p zD A)
 have f:=iX o 1
 obtain⟨n,t⟩:∃n,bw o 1=n:=⟨_,rfl⟩
 rw[t] at J f⊢
 have S:=Z (λ A (a:bQ A)=>mG a (-2) (ps n) (Yu n f) (oZ (ps n) rfl rfl rfl A))
 generalize(ps n).enc=E at*
 have a:=Z (fo h)
 have a5:=Z e
 have a2:(y.log:Int)=0:=by rw[e];rfl
 clear h b q C D F I M P e L h1 h2 p t f
 go_enter func207,ntmps207
 go_wp2_with(first|refine Kl a ?_|go_at_call 255;(refine(R.U _ (a.U.get (i:=4) rfl)).mono ?_);rintro e P ⟨p,q,C,rfl,M⟩;obtain⟨Q,b⟩:=Ig a.U M;replace a:=Z b;clear b;clear M)
 replace a:=Z (a.U.dj (Y.so (ad none 0 0) []) (ct _ _ _ _) rfl)
 go_loopw [7,27] (λ t f wr=>t=ad none 0 0/\f=O 0/\ai (af B wr m (Y.so (ad none 0 0) []::Y.row p 3 (O (l:Int)::Q)::Y.rt T.c T.d T.e C c.rc none::Y.row T.g 139 (ND.cells (⟨c,g,o,next,some ⟨l,y,k,bt⟩,j,d,id,s,u,z⟩:ND) T)::Y.row T.b 133 (ND.hq (⟨c,g,o,next,some ⟨l,y,k,bt⟩,j,d,id,s,u,z⟩:ND) x)::Y.ho x.pv g.f::Y.jr T.f T.a x.a j::Y.mp T.rg [((l:Int),y.val (ad none 0 0) (ad none 0 0) (ad none 0 0))]::rest))) (λ _ _ _=>0)
 case atStart=>exact⟨rfl,rfl,a⟩
 case round=>
  clear a
  obtain⟨rfl,rfl,a⟩:=hrel
  go_wp2
  go_loopw [7,52] (λ t f wr=>(t=ad none 0 0/\f=O 0/\ai (af B wr m (Y.so (ad none 0 0) []::Y.row p 3 (O (l:Int)::Q)::Y.rt T.c T.d T.e C c.rc none::Y.row T.g 139 (ND.cells (⟨c,g,o,next,some ⟨l,y,k,bt⟩,j,d,id,s,u,z⟩:ND) T)::Y.row T.b 133 (ND.hq (⟨c,g,o,next,some ⟨l,y,k,bt⟩,j,d,id,s,u,z⟩:ND) x)::Y.ho x.pv g.f::Y.jr T.f T.a x.a j::Y.mp T.rg [((l:Int),y.val (ad none 0 0) (ad none 0 0) (ad none 0 0))]::rest)))
   \/∃F D:Nat,t=ad (some ⟨F,0,none⟩) 1 D/\f=O 1/\ai (af B wr m (Y.so (ad (some ⟨F,0,none⟩) 1 D) [(-2,E)]::Y.rt T.c T.d T.e C c.rc none::Y.row T.g 139 (ND.cells (⟨c,g,n,next,none,j,d,id,s,u,z⟩:ND) T)::Y.row T.b 133 (ND.hq (⟨c,g,n,next,none,j,d,id,s,u,z⟩:ND) x)::Y.ho x.pv g.f::Y.jr T.f T.a x.a j::Y.mp T.rg []::rest))) (λ _ f _=>1-(intOf f).toNat)
  case atStart=>exact .inl ⟨rfl,rfl,a⟩
  case round=>
   clear a
   obtain⟨rfl,rfl,a⟩|⟨F,D,rfl,rfl,a⟩:=hrel
   ·go_upto_region 11 with(refine Kl a ?_)
    refine RG a 12 [3,7] λ a4 a f=>?_
    refine VV [0,1,2,2003,4,5,6,2007,8] f ?_
    refine W2 9 65 rfl rfl (YL V 1 rfl qz rfl rfl rfl (qD _ _ _)) f ?_
    refine W2 10 66 rfl rfl (YF V rfl rfl rfl) f ?_
    refine W2 11 67 (v:= .pointer (some ⟨T.b,0,none⟩)) rfl rfl (Or.inl ⟨by kernel_rfl,λ A a7=>by simp only[a2];go_simp⟩) f ?_
    clear f
    refine WT ?_
    go_upto_region 13 with(first|refine Kl a ?_|refine KS a λ I a=>?_|go_at_call 139;(refine(J.U _).mono ?_);rintro e P ⟨rfl,rfl⟩)
    refine RG a 21 [3,7,4] λ a4 a f=>?_
    refine VV [0,1,2,3,2004,5,6,7,8,9,2010,11] f ?_
    refine W2 12 91 rfl rfl (YL V 1 rfl qz rfl rfl rfl (qD _ _ _)) f ?_
    refine W2 13 92 rfl rfl (YF V rfl rfl rfl) f ?_
    refine VV [14,15,16,2017,18] f ?_
    refine KW a f 19 (en 209) (S.U _ (X.U.at a.U)) ?_;clear a f;intro P a f
    refine az.make a.U (i:=20) V zD rfl rfl 99 rfl (some 1) 272 [O (-2),ae E] ?Ru ?_
    case Ru=>(go_simp;(rfl))
    intro a6 I a8 b
    replace a:=Z b;clear b
    refine⟨bo a [4,8,5],?_⟩
    simp only[bk]
    simp only[aH,au,ay]
    refine WT ?_
    go_wp2_with(first|refine Kl a ?_|refine Ap a.U rfl rW rfl 1 rfl rfl 0 rfl rfl rfl rfl zD zD λ a1 a0 I b=>?_;simp only[au,ay] at b;replace a:=Z b;clear b|refine Md a.U 8 rfl rfl (t:=137) (k:=3) (e:=81) V V rfl rfl rfl λ I b=>?_;simp only[au,ay] at b;((rw[xn] at b));replace a:=Z b;clear b)
    exact⟨.inr ⟨a1,a0,rfl,rfl,Z (a.U.tail.fs [1,1000])⟩,by decide⟩
   ·go_wp2
    go_ret
    have b:=a.U.fs [6,2,6,6,6,6]
    exact⟨_,_,⟨x.pv,x.a,C,x.c⟩,rfl,(eR T ⟨x.pv,x.a,C,x.c⟩ (⟨c,g,n,next,none,j,d,id,s,u,z⟩:ND) b).ft [1]⟩
variable{C:CF}{h:HD}{E:JN}{i k:Nat}{t:TypeId}
def vy(w:aa)(L:List MK)(e:Ending)(a:aa):Prop:=
 ∃A c,e=ao (ad A L.length c)/\a.ownsRow w.heap.size 240 4 (ad A L.length c) L.length (cy L)/\BW w a
def U1{w:aa}{x:NV}{pd:List HD}{next:Nat}{m:Option RQ}{id:Nat}{b:ag}(f:(Y.row T.g 139 (ND.cells (⟨C,⟨false,h,pd,b⟩,g,next,m,E,d,id,n,k,i⟩:ND) T)).P w)(h1:(Y.row T.b 133 (ND.hq (⟨C,⟨false,h,pd,b⟩,g,next,m,E,d,id,n,k,i⟩:ND) x)).P w)(q:∃A a C,x.pv=ad A a C)(j:b=⟨#[]⟩):
 Calls prog 210 #[pV T.g] w (vy w []):=by
 have a:=Z ((af.start w []).dj (Y.ow 240 4 (ad none 0 0) 0 (cy [])) (ct _ _ _ _) rfl)
 have e:=Z (aP f (aP h1 bf))
 have p:=ks b
 have o:=gn b
 rw[aS j] at p o
 obtain⟨pA,v,u,l⟩:=q
 obtain⟨y,z,t,A⟩:=x
 simp only at l
 subst l
 clear f h1 j
 go_enter zQ,Am
 go_wp2_with(refine KH (a.U.bH e.U) ?_)
 go_loopw [3,11] (λ r c wr=>r=ad none 0 0/\(c=O 0\/c=O 1)/\ai (af w wr [] [Y.ow 240 4 (ad none 0 0) 0 (cy [])])) (λ _ c _=>1-(intOf c).toNat)
 case atStart=>exact⟨rfl,.inl rfl,a⟩
 case round=>
  clear a
  obtain⟨rfl,rfl|rfl,a⟩:=hrel
  ·go_wp2_with(first|refine KI (a.U.bH e.U) 11 ?_|refine Kl a ?_|refine KS a λ c a=>?_|refine KA a _ 5 ku λ r c s a=>?_)
   exact⟨⟨rfl,.inr rfl,Z a.U.tail⟩,by decide⟩
  ·go_wp2
   go_ret
   exact⟨none,0,rfl,ct _ _ _ _,a.U.ak⟩
def sC{w wr:aa}(h:af w wr [] I){size:Nat}{v:ab}{b:List ab}(a:I[0]?=some (Y.ow t size v n b)):wr.ownsRow w.heap.size t size v n b:=by
 match I,a with
 |_::_,a=>
  have c:_=Y.ow t size v n b:=hK a;subst c;exact pa (h.get (i:=0) rfl) (h.lu mZ)
def U3{w:aa}{x:NV}{r:Bool}{pd:List HD}{next:Nat}{F:Option RQ}{id:Nat}{l:ag}(s:(Y.row T.g 139 (ND.cells (⟨C,⟨r,h,pd,l⟩,g,next,F,E,d,id,n,k,i⟩:ND) T)).P w)(h1:(Y.row T.b 133 (ND.hq (⟨C,⟨r,h,pd,l⟩,g,next,F,E,d,id,n,k,i⟩:ND) x)).P w)(I:∃A a C,x.pv=ad A a C)(t:r=true\/¬l=⟨#[]⟩):
 Calls prog 210 #[pV T.g] w (vy w [⟨0,h.size,h.aE,decide (¬l=⟨#[]⟩)⟩]):=by
 have a:=Z ((af.start w []).dj (Y.ow 240 4 (ad none 0 0) 0 (cy [])) (ct _ _ _ _) rfl)
 have o:=Z (aP s (aP h1 bf))
 have H:=ks l
 have G:=gn l
 have u:decide (¬l=⟨#[]⟩)=!decide (l=⟨#[]⟩):=by simp
 rw[u]
 obtain⟨pA,L,K,D⟩:=I
 obtain⟨M,N,J,P⟩:=x
 simp only at D
 subst D
 cases r with
 |true=>
  generalize decide (l=⟨#[]⟩)=z at*
  clear s h1 t u
  cases z with
  |true=>
   go_enter zQ,Am
   go_wp2_with(refine KH (a.U.bH o.U) ?_)
   go_loopw [3,11] (λ m f wr=>(m=ad none 0 0/\f=O 0/\ai (af w wr [] [Y.ow 240 4 (ad none 0 0) 0 (cy [])]))\/(∃e c:Nat,m=ad (some ⟨e,0,none⟩) 1 c/\f=O 1/\ai (af w wr [] [Y.ow 240 4 (ad (some ⟨e,0,none⟩) 1 c) 1 (cy [⟨0,h.size,h.aE,false⟩])]))) (λ _ f _=>1-(intOf f).toNat)
   case atStart=>exact .inl ⟨rfl,rfl,a⟩
   case round=>
    clear a
    obtain⟨rfl,rfl,a⟩|⟨e,c,rfl,rfl,a⟩:=hrel
    ·go_wp2_with(first|refine KI (a.U.bH o.U) 11 ?_|refine Kl a ?_|refine KS a λ j a=>?_|refine KA a _ 5 ku λ y j B a=>?_|(with_reducible show cH);(refine Mk a.U rfl 40 rfl (some 1) 240 [_,_,_,_] (by go_simp;(exact⟨rfl,rfl⟩)) ?_;intro v j A b;replace a:=Z b;clear b;simp only[bk])|refine Ap a.U rfl tO rfl 2 rfl rfl 0 rfl rfl rfl rfl zD zD λ q p j b=>?_;simp only[au,ay] at b;replace a:=Z b;clear b)
     exact⟨.inr ⟨q,p,rfl,rfl,Z ((a.U.ft [2,1000,1000])|>λ _=>(a.U.tail.ft [1,1000])|>λ _=>(a.U.ft [2,2]|>.tail|>λ _=>by exact a.U.tail.tail))⟩,by decide⟩
    ·go_wp2
     go_ret
     exact⟨some ⟨e,0,none⟩,c,rfl,sC a.U rfl,a.U.ak⟩
  |false=>
   go_enter zQ,Am
   go_wp2_with(refine KH (a.U.bH o.U) ?_)
   go_loopw [3,11] (λ m f wr=>(m=ad none 0 0/\f=O 0/\ai (af w wr [] [Y.ow 240 4 (ad none 0 0) 0 (cy [])]))\/(∃e c:Nat,m=ad (some ⟨e,0,none⟩) 1 c/\f=O 1/\ai (af w wr [] [Y.ow 240 4 (ad (some ⟨e,0,none⟩) 1 c) 1 (cy [⟨0,h.size,h.aE,true⟩])]))) (λ _ f _=>1-(intOf f).toNat)
   case atStart=>exact .inl ⟨rfl,rfl,a⟩
   case round=>
    clear a
    obtain⟨rfl,rfl,a⟩|⟨e,c,rfl,rfl,a⟩:=hrel
    ·go_wp2_with(first|refine KI (a.U.bH o.U) 11 ?_|refine Kl a ?_|refine KS a λ j a=>?_|refine KA a _ 5 ku λ y j B a=>?_|(with_reducible show cH);(refine Mk a.U rfl 40 rfl (some 1) 240 [_,_,_,_] (by go_simp;(exact⟨rfl,rfl⟩)) ?_;intro v j A b;replace a:=Z b;clear b;simp only[bk])|refine Ap a.U rfl tO rfl 2 rfl rfl 0 rfl rfl rfl rfl zD zD λ q p j b=>?_;simp only[au,ay] at b;replace a:=Z b;clear b)
     exact⟨.inr ⟨q,p,rfl,rfl,Z ((a.U.ft [2,1000,1000])|>λ _=>(a.U.tail.ft [1,1000])|>λ _=>(a.U.ft [2,2]|>.tail|>λ _=>by exact a.U.tail.tail))⟩,by decide⟩
    ·go_wp2
     go_ret
     exact⟨some ⟨e,0,none⟩,c,rfl,sC a.U rfl,a.U.ak⟩
 |false=>
  have z:¬l=⟨#[]⟩:=t.resolve_left zD
  rw[bu z] at H G⊢
  clear s h1 t u z
  go_enter zQ,Am
  go_wp2_with(refine KH (a.U.bH o.U) ?_)
  go_loopw [3,11] (λ m f wr=>(m=ad none 0 0/\f=O 0/\ai (af w wr [] [Y.ow 240 4 (ad none 0 0) 0 (cy [])]))\/(∃e c:Nat,m=ad (some ⟨e,0,none⟩) 1 c/\f=O 1/\ai (af w wr [] [Y.ow 240 4 (ad (some ⟨e,0,none⟩) 1 c) 1 (cy [⟨0,h.size,h.aE,true⟩])]))) (λ _ f _=>1-(intOf f).toNat)
  case atStart=>exact .inl ⟨rfl,rfl,a⟩
  case round=>
   clear a
   obtain⟨rfl,rfl,a⟩|⟨e,c,rfl,rfl,a⟩:=hrel
   ·go_wp2_with(first|refine KI (a.U.bH o.U) 11 ?_|refine Kl a ?_|refine KS a λ j a=>?_|refine KA a _ 5 ku λ y j B a=>?_|(with_reducible show cH);(refine Mk a.U rfl 40 rfl (some 1) 240 [_,_,_,_] (by go_simp;(exact⟨rfl,rfl⟩)) ?_;intro v j A b;replace a:=Z b;clear b;simp only[bk])|refine Ap a.U rfl tO rfl 2 rfl rfl 0 rfl rfl rfl rfl zD zD λ q p j b=>?_;simp only[au,ay] at b;replace a:=Z b;clear b)
    exact⟨.inr ⟨q,p,rfl,rfl,Z ((a.U.ft [2,1000,1000])|>λ _=>(a.U.tail.ft [1,1000])|>λ _=>(a.U.ft [2,2]|>.tail|>λ _=>by exact a.U.tail.tail))⟩,by decide⟩
   ·go_wp2
    go_ret
    exact⟨some ⟨e,0,none⟩,c,rfl,sC a.U rfl,a.U.ak⟩
def Ib{w:aa}{x:NV}(h:(Y.aQ T x N).P w)(m:N.st.f.length<=1000):Calls prog 210 #[pV T.g] w (vy w N.aL):=by
 have a:=oO (sx h) W;obtain⟨A,l,b⟩:=a.form;have f:=jz h;have g:=oY h;have i:∃A N c,x.pv=ad A N c:=⟨A,_,l,b⟩;unfold ND.aL;clear h a m b;obtain⟨c,⟨k,o,pd,e⟩,r,next,q,j,d,id,p,s,t⟩:=N;dsimp only;split
 ·rename_i b;exact U3 f g i b
 ·rename_i b;have n:k=false:=by cases k with|true=>exact absurd (.inl rfl) b|false=>rfl
  subst n;have a:e=⟨#[]⟩:=by
   by_cases a:e=⟨#[]⟩
   ·exact a
   ·exact absurd (.inr a) b
  exact U1 f g i a
def I9(b:BD){w:aa}{a:ab}(h:bg w a b.e):(cj b).Rd w a (ad none 0 0) (ad none 0 0):=
 ⟨h,⟨none,0,rfl,bh _,λ i c=>absurd c (jm i)⟩,bD.nil 4 w⟩
def Cp{w:aa}{x:NV}(h:(Y.aQ T x N).P w):Calls prog 215 #[pV T.g,O 0] w λ r d=>∃j,r=ao (N.proof.val j (ad none 0 0) (ad none 0 0))/\N.proof.Rd d j (ad none 0 0) (ad none 0 0)/\BW w d:=by
 have a:=Z (af.start w []);have p:=Z (aP (jz h) (aP (oY h) bf));have HD:ai (∀c,Calls prog 25 #[ae N.st.aM] c λ r d=>∃pA g e,r=ao (aJ #[(gH N.st.aM).val (.slice pA (gH N.st.aM).e.length g),O e])/\bg d (.slice pA (gH N.st.aM).e.length g) (gH N.st.aM).e/\(∀k∈(Y.sr (.slice pA (gH N.st.aM).e.length g) (gH N.st.aM).e).bs,c.heap.size<=k)/\BW c d):=Z (λ c=>by
  unfold gH;cases m:eN N.st.aM with|error k=>
   refine(F2 m c).mono ?_;rintro e d ⟨rfl,-,f⟩;exact⟨none,0,_,rfl,⟨none,0,rfl,bh _,λ i l=>absurd l (jm i)⟩,(λ k n=>by simp[Y.sr,Value.ownBlock] at n),f⟩|ok b=>
   refine(Be m c).mono ?_;rintro e d ⟨j,rfl,o,s,f⟩;obtain⟨A,r,rfl⟩:=o.form;exact⟨A,r,0,rfl,o,s,f⟩)
 have l:N.proof=cj (gH N.st.aM):=rfl;have n:=λ(c:aa) (v:ab) (t:bg c v (gH N.st.aM).e)=>I9 (gH N.st.aM) t;rw[l];have q:=Z n;clear h l n;generalize gH N.st.aM=B at*;generalize B.e.length=bn at*
 go_enter func215,ntmps215
 go_wp2_with(first|refine KH (a.U.bH p.U) ?_|refine KT a 9 ?_|refine KS a λ n a=>?_|refine KA a _ 4 ei λ u n y a=>?_|refine KA a _ 5 eW λ v n z a=>?_|go_at_call 25;(refine(HD.U _).mono ?_);rintro e C ⟨pA,g,t,rfl,l,c,f⟩;replace a:=Z (a.U.join f (Y.sr (ad pA bn g) B.e) l c);clear f l c)
 simp only[uw];refine iH a.U 2 rfl 81 20 rfl rfl V rfl rfl ?_;exact⟨_,rfl,q.U _ _ (a.U.get (i:=1) rfl),a.U.ak⟩
def Fb{n:ND}{a:Nat}(b:Nat)(h:n.iN a=none):n.eL a b=n/\n.jo a=[]:=by
 unfold ND.eL ND.jo;rw[h];exact⟨rfl,rfl⟩
def Fc{n:ND}{a:Nat}(b:Nat){y:MG}(h:n.iN a=some y):n.eL a b={n with next:=if y.c=5 then bw a n.c.every else n.next,g:=some ⟨n.id,y,1,bw a (gR n.c.rc 0 b)⟩,id:=n.id+1}/\n.jo a=[(-1,y.enc)]:=by
 unfold ND.eL ND.jo;rw[h];exact⟨rfl,rfl⟩
def MN{n:ND}{a:Nat}(h:n.g.isSome=true\/¬n.st.aM=⟨#[]⟩):n.iN a=none:=by unfold ND.iN;rw[ax h]
def MM{n:ND}{a:Nat}(h1:n.g=none)(h2:n.st.aM=⟨#[]⟩){p:Nat×Nat}(h:n.st.gK=some p):n.iN a=some (jX n.id p.1 p.2):=by
 unfold ND.iN;rw[aj (by rw[h1,h2];simp),h]
def MO{n:ND}{a:Nat}(h1:n.g=none)(h2:n.st.aM=⟨#[]⟩)(h:n.st.gK=none)(h3:n.next<=a):n.iN a=some (jW n.id):=by
 unfold ND.iN;rw[aj (by rw[h1,h2];simp),h];dsimp only;rw[ax h3]
def MP{n:ND}{a:Nat}(h1:n.g=none)(h2:n.st.aM=⟨#[]⟩)(h:n.st.gK=none)(h3:¬n.next<=a):n.iN a=none:=by
 unfold ND.iN;rw[aj (by rw[h1,h2];simp),h];dsimp only;rw[aj h3]
def Ij{s:ST}(a:s.ar.Ok)(c:∀h∈s.f,h.Ok){p:Nat×Nat}(h:s.gK=some p):p.1<18446744073709551616/\p.2<18446744073709551616:=by
 unfold ST.gK at h;split at h
 ·split at h
  ·cases h
  ·rename_i y l b;cases h
   have d:=(c y (by rw[b];simp)).size;have e:=a.size;constructor
   ·show min _ _<_;omega
   ·show max _ _<_;omega
 ·cases h
def Yh{w wr:aa}{rest:List Y}{G L P T M:Y}(h:af w wr m (K::G::L::P::J::T::M::rest)):af w wr m (G::L::P::J::T::M::K::rest):=
 h.ft [6,6,6,6,6,6]
def MR{S w:aa}{rest:List Y}{x:NV}(a7:TM m S)(h:af S w m (Y.aQ T x N::rest))(f:N.Ok)(k B:Nat)(b0:k<18446744073709551616)(b5:B<18446744073709551616):
 Calls prog 208 #[pV T.g,O 0,U (k:Int),U (B:Int)] w (rm S m rest T (N.eL k B,N.jo k)):=by
 have d:N.st.f.length<=1000000:=by have:=f.o;omega
 have t:=Z (λ b (o:(Y.ho x.pv N.st.f).P b)=>Vo N.st (oO o d))
 have a:=Z (fo h)
 have b4:=Z a7
 have c3:=f.t
 have I:= @Ij N.st f.ar f.f
 have c2:=f.c.d
 have b6:=f.c.rc
 have C:= @MN N k
 have G:= @MM N k
 have H:= @MO N k
 have J:= @MP N k
 have v:= @Fb N k B
 have D:= @Fc N k B
 have a4:=f.g
 obtain⟨c0,p0,c1,e⟩:∃A N c,x.pv=ad A N c:=by
  obtain⟨A,g,e⟩:=(oO (sx (h.get (i:=0) rfl)) d).form
  exact⟨A,_,g,e⟩
 have a9:=ks N.st.aM
 have a8:=gn N.st.aM
 clear h f a7 d e
 obtain⟨c,g,F,next,b9,j,d,id,K,L,M⟩:=N
 simp only at*
 cases b9
 focus
  have e:ai (af S w m (Y.row T.g 139 (ND.cells (⟨c,g,F,next,none,j,d,id,K,L,M⟩:ND) T)::Y.row T.b 133 (ae c.key::Value.bool g.aT::Value.int .u64 (g.ar.size:Int)::Value.int .u64 (g.ar.time:Int)::ae g.ar.aE::ae g.ar.a::x.pv::ae g.aM::Value.int .u64 (F:Int)::Value.int .u64 (next:Int)::Value.int .i64 0::x.c)::Y.ho x.pv g.f::Y.jr T.f T.a x.a j::Y.rt T.c T.d T.e x.b c.rc none::Y.mp T.rg []::rest)):=Z a.U
  clear a a4
  have a:=e
  clear e
  have b7:IntKind.wrap .u64 (id:Int)=(id:Int):=by rw[kB]<;>omega
  by_cases s:g.aM=⟨#[]⟩
  focus
   rw[aS s] at a9 a8
   have a6:=Z (λ b (o:(Y.rt T.c T.d T.e x.b c.rc none).P b)=>WE o b6 id k B b0 b5)
   have c4:IntKind.wrap .i64 ((id:Int)+1)=((id+1:Nat):Int):=by rw[fS]<;>omega
   generalize a2:bw k (gR c.rc 0 B)=bt at*
   cases n:g.gK
   focus
    have z:ai (∀b,(Y.ho x.pv g.f).P b->CB 256 #[g.val x.pv] b (aJ #[U 0,U 0,aF false])):=Z (λ b o=>by have:=t.U b o;rw[n] at this;exact this)
    by_cases e:next<=k
    focus
     obtain⟨e1,e2⟩:=D (H rfl s n e)
     rw[e1,e2]
     have u:=(ly (y:=jW id) (by show id<_;omega) (ck _) (ck _) jN rfl rfl rfl).1
     have X:=Z (λ b (a5:bQ b) a0=>mG a5 a0 (jW id) u (oZ _ rfl rfl rfl b))
     have b3:=Z (λ b=>nR k c.every b0 W b)
     have r:(if(jW id).c=5 then bw k c.every else next)=bw k c.every:=rfl
     rw[r]
     generalize bw k c.every=b8 at*
     generalize(jW id).enc=E at*
     have d1:decide ((next:Int)<=(k:Int))=true:=aS W
     have d2:decide (next<=k)=true:=aS e
     clear C G H J v D e1 e2 I t n s e u r a2
    rotate_left
    ·obtain⟨e1,e2⟩:=v (J rfl s n e)
     rw[e1,e2]
     have d1:decide ((next:Int)<=(k:Int))=false:=bu W
     have d2:decide (next<=k)=false:=bu e
     clear C G H J v D e1 e2 I t n s e a2 a6
     go_enter zP,Ak
     go_wp2_with(first|refine Kl a ?_|refine KT a 7 ?_|refine KS a λ q a=>?_|refine KA a _ 10 ei λ a1 q a3 a=>?_|go_at_call 256;(refine(z.U _ (a.U.get (i:=3) rfl)).mono ?_);rintro e P ⟨rfl,l⟩;replace a:=Z (a.U.below l);clear l)
     go_ret
     exact⟨none,0,x,rfl,((eR T x (⟨c,g,F,next,none,j,d,id,K,L,M⟩:ND) a.U.tail).dj (Y.so (ad none 0 0) []) (ct _ _ _ _) rfl)⟩
   rotate_left
   focus
    rename_i p
    obtain⟨b1,b2⟩:=I n
    obtain⟨e1,e2⟩:=D (G rfl s n)
    rw[e1,e2]
    have z:ai (∀b,(Y.ho x.pv g.f).P b->CB 256 #[g.val x.pv] b (aJ #[U (p.1:Int),U (p.2:Int),aF true])):=Z (λ b o=>by have:=t.U b o;rw[n] at this;exact this)
    have u:=(ly (y:=jX id p.1 p.2) (by show id<_;omega) b1 b2 jN rfl rfl rfl).1
    have X:=Z (λ b (a5:bQ b) a0=>mG a5 a0 (jX id p.1 p.2) u (oZ _ rfl rfl rfl b))
    obtain⟨Q,R⟩:=p
    simp only at z X⊢
    generalize(jX id Q R).enc=E at*
    have r:(if(jX id Q R).c=5 then bw k c.every else next)=next:=rfl
    rw[r]
    clear C G H J v D e1 e2 I t n s b1 b2 u r a2
   rotate_left
  rotate_left 2
  ·obtain⟨e1,e2⟩:=v (C (.inr s))
   rw[e1,e2]
   rw[bu s] at a9 a8
   have z:ai (∀b,(Y.ho x.pv g.f).P b->Calls prog 256 #[g.val x.pv] b λ r y=>∃u1 u2 u3,r=ao (aJ #[U u1,U u2,aF u3])/\BW b y):=Z (λ b o=>(t.U b o).mono (by
    rintro e y ⟨u,l⟩
    cases n:g.gK with|none=>rw[n] at u;exact⟨_,_,_,u,l⟩|some p=>rw[n] at u;exact⟨_,_,_,u,l⟩))
   clear C G H J v D e1 e2 I t s
   go_enter zP,Ak
   go_wp2_with(first|refine Kl a ?_|refine KT a 7 ?_|refine KS a λ q a=>?_|refine KA a _ 10 ei λ a1 q a3 a=>?_|go_at_call 256;(refine(z.U _ (a.U.get (i:=3) rfl)).mono ?_);rintro e P ⟨u1,u2,u3,rfl,l⟩;replace a:=Z (a.U.below l);clear l)
   go_ret
   exact⟨none,0,x,rfl,((eR T x (⟨c,g,F,next,none,j,d,id,K,L,M⟩:ND) a.U.tail).dj (Y.so (ad none 0 0) []) (ct _ _ _ _) rfl)⟩
 rotate_left 2
 ·rename_i r
  obtain⟨e1,e2⟩:=v (C (.inl rfl))
  rw[e1,e2]
  have s:=(a4 r rfl).s
  have d1:decide ((0:Int)<(r.id:Int))=true:=aS W
  have d2:decide (0<r.id)=true:=aS W
  have d3:decide ((0:Int)<((uF (some r):Nat):Int))=true:=d1
  have d4:decide (0<uF (some r))=true:=d2
  clear d1 d2
  have b7:IntKind.wrap .u64 (id:Int)=(id:Int):=by rw[kB]<;>omega
  have z:ai (∀b,(Y.ho x.pv g.f).P b->Calls prog 256 #[g.val x.pv] b λ r y=>∃u1 u2 u3,r=ao (aJ #[U u1,U u2,aF u3])/\BW b y):=Z (λ b o=>(t.U b o).mono (by
   rintro e y ⟨u,l⟩
   cases n:g.gK with|none=>rw[n] at u;exact⟨_,_,_,u,l⟩|some p=>rw[n] at u;exact⟨_,_,_,u,l⟩))
  clear C G H J v D a4 e1 e2 s I t
  go_enter zP,Ak
  go_wp2_with(first|refine Kl a ?_|refine KT a 7 ?_|refine KS a λ q a=>?_|refine KA a _ 10 ei λ a1 q a3 a=>?_|go_at_call 256;(refine(z.U _ (a.U.get (i:=3) rfl)).mono ?_);rintro e P ⟨u1,u2,u3,rfl,l⟩;replace a:=Z (a.U.below l);clear l)
  go_ret
  exact⟨none,0,x,rfl,((eR T x (⟨c,g,F,next,some r,j,d,id,K,L,M⟩:ND) a.U.tail).dj (Y.so (ad none 0 0) []) (ct _ _ _ _) rfl)⟩
 all_goals
  go_enter zP,Ak
  go_upto_region 11 with(first|refine Kl a ?_|refine KT a 7 ?_|refine KS a λ q a=>?_|refine KA a _ 10 ei λ a1 q a3 a=>?_|go_at_call 256;(refine(z.U _ (a.U.get (i:=3) rfl)).mono ?_);rintro e P ⟨rfl,l⟩;replace a:=Z (a.U.below l);clear l|go_at_call 139;(refine(b3.U _).mono ?_);rintro e P ⟨rfl,rfl⟩)
  refine RG a 10 [1] λ r a n=>?_
  refine VV [0,1,2,2003,4,5,6,2007,8,9] n ?_
  clear n
  refine WT ?_
  go_upto_region 13 with((go_at_call 257;(refine(a6.U _ (a.U.get (i:=5) rfl)).mono ?_);rintro e P ⟨rfl,o,p⟩;have f:=a.U.at 5 rfl p;simp only[au,ay] at f;replace a:=Z f;clear f;clear p))
  refine RG a 19 [1,0] λ r a n=>?_
  refine VV [0,1,2,2003,4,5,6,2007,8] n ?_
  refine WR 9 20 n ?_
  refine VV [10,11,12,2013] n ?_
  clear n
  refine az.iW (i:=14) V zD rfl ?_
  refine One.me a.U V 100 rfl 6 rfl qz rfl rfl rfl ?_
  intro s q f
  simp only[au,ay] at f
  replace a:=Z f;clear f
  refine⟨bo a [1,0],?_⟩
  try simp only[aH,au,ay]
  have n:=bo a [1,0]
  refine VV [15] n ?_
  clear n
  refine az.iW (i:=16) V zD rfl ?_
  first|refine One.ms a.U V rfl 6 rfl rfl rfl rfl (v:=MG.val (jW id) (ad none 0 0) (ad none 0 0) (ad none 0 0)) rfl ?_|refine One.ms a.U V rfl 6 rfl rfl rfl rfl (v:=MG.val (jX id Q R) (ad none 0 0) (ad none 0 0) (ad none 0 0)) rfl ?_
  intro q f
  simp only[au,ay] at f
  replace a:=Z f;clear f
  refine⟨bo a [1,0],?_⟩
  try simp only[aH,au,ay]
  have n:=bo a [1,0]
  refine VV [17,18] n ?_
  clear n
  refine WT ?_
  go_wp2_with(first|refine Kl a ?_|refine KT a 20 ?_|refine KS a λ q a=>?_|(with_reducible show cH);(refine Mk a.U rfl 115 rfl (some 1) 272 [_,_] (by go_simp;(exact⟨rfl,rfl⟩)) ?_;intro n q t f;replace a:=Z f;clear f;simp only[bk])|go_at_call 209;(refine(X.U _ (b4.U.at a.U) _).mono ?_);rintro e P ⟨rfl,l⟩;replace a:=Z (a.U.below l);clear l)
  go_ret
  have f:=Yh ((ie a.U 0 rfl 1 1 2 zD zD rfl (fv [(-1,E)]) rfl).ft [1,1000])
 ·exact⟨_,_,⟨x.pv,x.a,o,x.c⟩,rfl,(eR T ⟨x.pv,x.a,o,x.c⟩ (⟨c,g,F,b8,some ⟨id,jW id,1,bt⟩,j,d,id+1,K,L,M⟩:ND) f).ft [1]⟩
 ·exact⟨_,_,⟨x.pv,x.a,o,x.c⟩,rfl,(eR T ⟨x.pv,x.a,o,x.c⟩ (⟨c,g,F,next,some ⟨id,jX id Q R,1,bt⟩,j,d,id+1,K,L,M⟩:ND) f).ft [1]⟩
