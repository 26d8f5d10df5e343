import Derived.Test.YtncpbkoinennoaaGreatDoorMBA
set_option linter.all false
set_option maxRecDepth 100000
set_option maxHeartbeats 0
namespace Go.Proofs.YtncpbkoinennoaaGreatDoor
open Go.RowKit Proofs.Tryz
attribute [local irreducible] wpList Calls
variable{D:BD}{h:HD}{F:List HD}{m:List Nat}{g i n:Nat}{A:Option Addr}{S:ST}
def OV{f w:aa}{rest:List Y}(h:af f w m (Y.ho (ad A F.length g) F::rest))(i:Nat)(d:i<F.length)(j:F.length<=1000)(Q:List HD)(c:Q=F.eraseIdx i):
 Calls prog 235 #[ad A F.length g,O (i:Int),O ((i:Int)+1)] w λ r e=>∃a b,r=ao (ad a Q.length b)/\af f e m (Y.ho (ad a Q.length b) Q::rest):=by
 have e:F.length-1=Q.length:=by rw[c,List.length_eraseIdx,ax d]
 subst c
 have:=OU h i d j
 rw[e] at this
 exact this
def Us{m:Nat}{P:List ag}(a:¬S.aM=⟨#[]⟩):S.link m n P=(S,9):=by unfold ST.link;rw[aj a]
def HI{m:Nat}{P:List ag}(a:S.aM=⟨#[]⟩)(h:S.aT=false\/kf S.ar.size m n S.f=none):S.link m n P=(S,8):=by
 unfold ST.link;rw[ax a];rcases h with h|h
 ·rw[aj (by rw[h];decide)]
 ·rw[h];split<;>rfl
def mr(s:ST)(x:HD):HD:=if x.size<s.ar.size then x else s.ar
def kh(s:ST)(x:HD):HD:=if x.size<s.ar.size then s.ar else x
def HJ{P:List ag}(b:S.aM=⟨#[]⟩)(d:S.aT=true)(c:kf S.ar.size g n S.f=some i)(hx:S.f.getD i ec=h)(a:¬(fF g n P=0/\hQ g n P=(kh S h).aE)):S.link g n P=(S,7):=by
 unfold ST.link;rw[ax b,ax d,c];simp only[];rw[hx];exact aj a
def Ux{P:List ag}(a:S.aM=⟨#[]⟩)(c:S.aT=true)(b:kf S.ar.size g n S.f=some i)(hx:S.f.getD i ec=h)(h1:fF g n P=0)(h2:hQ g n P=(kh S h).aE)(h3:iu g n P=(mr S h).aE):S.link g n P=({S with ar:=kh S h,f:=S.f.eraseIdx i},4):=by
 unfold ST.link;rw[ax a,ax c,b];simp only[];rw[hx];exact(ax ⟨h1,h2⟩).trans (ax h3)
def Uw{P:List ag}(a:S.aM=⟨#[]⟩)(c:S.aT=true)(b:kf S.ar.size g n S.f=some i)(hx:S.f.getD i ec=h)(h1:fF g n P=0)(h2:hQ g n P=(kh S h).aE)(h3:¬iu g n P=(mr S h).aE)(h4:fa (mr S h) (kh S h) P=none):S.link g n P=(S,7):=by
 unfold ST.link;rw[ax a,ax c,b];simp only[];rw[hx];refine(ax ⟨h1,h2⟩).trans ((aj h3).trans ?_);unfold mr kh at h4;rw[h4]
def Uu{P:List ag}(a:S.aM=⟨#[]⟩)(c:S.aT=true)(b:kf S.ar.size g n S.f=some i)(hx:S.f.getD i ec=h)(h1:fF g n P=0)(h2:hQ g n P=(kh S h).aE)(h3:¬iu g n P=(mr S h).aE)(h4:fa (mr S h) (kh S h) P=some D):S.link g n P=({S with aM:=D.enc},5):=by
 unfold ST.link;rw[ax a,ax c,b];simp only[];rw[hx];refine(ax ⟨h1,h2⟩).trans ((aj h3).trans ?_);unfold mr kh at h4;rw[h4]
def Ur{w:aa}(b1:bQ w)(s:ST){a7:ab}(h:hE w a7 s.f)(d1:s.f.length<=1000)(m n:Nat){v:ab}{P:List ag}(a8:bg w v P)(c4:P.length<=1000):
 Calls prog 166 #[s.val a7,U (m:Int),U (n:Int),v] w (tv w (s.link m n P)):=by
 have a:=Z (af.start w [])
 have b9:=Z b1
 have a0:=Z (λ l (d:BW w l)=>xF s (h.below d) W)
 have R:=Z (λ l (d:BW w l) D K L b c e=>S8 (h.below d) s a7 m n (w:=l) (g4:=D) (g5:=K) (g6:=L) b c e)
 have a3:=Z (λ l (d:BW w l)=>FB (b1.below d).a (a8.below d rfl) m n)
 have b8:=Z h
 have c0:=Z a8
 obtain⟨pA,b6,rfl⟩:=h.form
 obtain⟨d8,d9,rfl⟩:=a8.form
 have c3:=ks s.aM
 have c2:=gn s.aM
 clear b1 h a8
 by_cases a4:s.aM=⟨#[]⟩
 ·rw[aS a4] at c3 c2
  have N:=Z a4
  have H:=Z (GU s.ar.size m n s.f)
  clear a4
  cases b:bK (λ x=>decide (min x.size s.ar.size=m)&&decide (max x.size s.ar.size=n)) s.f with
  |none=>
   rw[b] at R H
   have q:=Z (HI (P:=P) N.U (Or.inr H.U))
   simp only[fY] at R
   clear b
   go_enter zN,Aj
   cases c:s.aT
   all_goals
    go_upto_region 6 with(first|refine Kl a ?_|refine KA a _ 8 gT λ a6 f b5 a=>?_|refine KB a 62 4 (s.cells _) λ D f b2 a=>?_|refine KB a 46 5 _ λ K f b3 a=>?_|refine KB a 46 6 _ λ L f b4 a=>?_|go_at_call 231;(refine(R.U _ a.U.ak _ _ _ (a.U.get (i:=3) rfl) (a.U.get (i:=2) rfl) (a.U.get (i:=1) rfl)).mono ?_);rintro e p ⟨rfl,d⟩;replace a:=Z (a.U.below d);clear d)
    clear c
    go_wp2_with(first|refine KT a 7 ?_|refine KS a λ f a=>?_|go_at_call 228;(refine(a0.U _ a.U.ak).mono ?_);rintro e p ⟨a1,a2,rfl,g,d⟩;replace a:=Z (a.U.db d g);clear d g)
    refine cz a.U 1 rfl 62 7 rfl rfl rfl V rfl rfl ?_
    exact iC q.U rfl a.U 0 rfl
  |some i=>
   rw[b] at R H
   have t:=BC b
   simp only[fY] at R
   cases c:s.aT with
   |false=>
    have q:=Z (HI (m:=m) (n:=n) (P:=P) N.U (Or.inl c))
    clear b
    go_enter zN,Aj
    go_upto_region 6 with(first|refine Kl a ?_|refine KA a _ 8 gT λ a6 f b5 a=>?_|refine KB a 62 4 (s.cells _) λ D f b2 a=>?_|refine KB a 46 5 _ λ K f b3 a=>?_|refine KB a 46 6 _ λ L f b4 a=>?_|go_at_call 231;(refine(R.U _ a.U.ak _ _ _ (a.U.get (i:=3) rfl) (a.U.get (i:=2) rfl) (a.U.get (i:=1) rfl)).mono ?_);rintro e p ⟨rfl,d⟩;replace a:=Z (a.U.below d);clear d)
    clear c
    go_wp2_with(first|refine KT a 7 ?_|refine KS a λ f a=>?_|go_at_call 228;(refine(a0.U _ a.U.ak).mono ?_);rintro e p ⟨a1,a2,rfl,g,d⟩;replace a:=Z (a.U.db d g);clear d g)
    refine cz a.U 1 rfl 62 7 rfl rfl rfl V rfl rfl ?_
    exact iC q.U rfl a.U 0 rfl
   |true=>
    have a5:=Z c
    obtain⟨x,hx⟩:∃x,s.f.getD i ec=x:=⟨_,rfl⟩
    have z:s.f[i]=x:=by rw[<-hx,eY,ba t];rfl
    have c8:=Z hx
    have d7:(i:Int)<(s.f.length:Int):=by omega
    have c1:=Z t
    obtain⟨bb,o,r,y⟩:=bD.km b8.U (j:=i) (by rw[hi];exact t)
    subst r
    have u:(Y.km bb (o+i*4) x.cells).P w:=by
     have:(bE s.f)[i]'(by rw[hi];exact t)=x.cells:=by rw[<-z];simp[bE]
     rw[<-this];exact y
    have X:=Z (λ l (d:BW w l)=>(Y.km bb (o+i*4) x.cells).st w l (λ k A=>d.block k ((Y.km bb (o+i*4) x.cells).lt w u k A)) u)
    clear b hx z y u t
    go_enter zN,Aj
    go_upto_region 7 with(first|refine Kl a ?_|refine KA a _ 8 gT λ a6 f b5 a=>?_|refine KB a 62 4 (s.cells _) λ D f b2 a=>?_|refine KB a 46 5 _ λ K f b3 a=>?_|refine KB a 46 6 _ λ L f b4 a=>?_|go_at_call 231;(refine(R.U _ a.U.ak _ _ _ (a.U.get (i:=3) rfl) (a.U.get (i:=2) rfl) (a.U.get (i:=1) rfl)).mono ?_);rintro e p ⟨rfl,d⟩;replace a:=Z (a.U.below d);clear d)
    clear c
    go_cut [12,13] from 37 to 43 (λ xZ ya c=>∃I J,xZ=pV I/\ya=pV J/\af w c [] [Y.row J 59 x.cells,Y.row I 59 s.ar.cells,Y.row a6 62 [aF false,U 0,U 0,ae ⟨#[]⟩,ae ⟨#[]⟩,ad none 0 0,ae ⟨#[]⟩],Y.row L 46 [U (n:Int)],Y.row K 46 [U (m:Int)],Y.row D 62 (s.cells (ad (some ⟨bb,o,none⟩) s.f.length b6))])
    case first=>
     refine af.region a.U (n:=10) (S:=bc [Y.row D 62 (s.cells (ad (some ⟨bb,o,none⟩) s.f.length b6)),Y.km bb (o+i*4) x.cells]) V V (λ b7 t=>(aP (t.in (by exact mQ (mQ (mQ mZ)))) (aP (X.U _ t.ak) bf))) (λ b7 b k=> ?_)
     replace a:=Z b;clear b
     refine VV [0] k ?_
     refine WR 1 4 k ?_
     refine VV [2,2003,4,5] k ?_
     refine W2 6 43 (v:=aG x.cells.toArray) rfl rfl (Ym V 1 rfl 59 4 rfl rfl V rfl) k ?_
     clear k
     refine az.two (i:=7) (j:=8) V zD zD rfl rfl ?_ ?_
     ·refine One.alloc a.U V 59 12 rfl rfl _ hy ?_
      intro I f u b
      replace a:=Z b;clear b
      refine⟨(aP (a.U.in (by exact mQ (mQ (mQ (mQ mZ))))) (aP (X.U _ a.U.ak) bf)),?_⟩
      simp only[aH,au,ay]
      refine az.iW (i:=8) V zD rfl ?_
      refine One.alloc a.U V 59 13 rfl rfl _ hy ?_
      intro J f y b
      replace a:=Z b;clear b
      refine⟨(aP (a.U.in (by exact mQ (mQ (mQ (mQ (mQ mZ)))))) (aP (X.U _ a.U.ak) bf)),?_⟩
      simp only[aH,au,ay]
      refine az.iW (i:=9) V zD rfl ?_
      (refine One.str a.U V rfl 1 rfl 59 4 rfl rfl _ rfl rfl V rfl rfl λ f b=>?_;simp only[eF,au,ay,bC,bU,dc,cO] at b)
      replace a:=Z b;clear b
      refine⟨(aP (a.U.in (by exact mQ (mQ (mQ (mQ (mQ mZ)))))) (aP (X.U _ a.U.ak) bf)),?_⟩
      refine WT ?_
      go_wp2_with(refine KS a λ f a=>?_)
      go_meet
      refine⟨I,J,rfl,rfl,?_⟩
      (exact a.U)
     ·refine One.alloc a.U V 59 13 rfl rfl _ hy ?_
      intro J f y b
      replace a:=Z b;clear b
      refine⟨(aP (a.U.in (by exact mQ (mQ (mQ (mQ mZ))))) (aP (X.U _ a.U.ak) bf)),?_⟩
      simp only[aH,au,ay]
      refine az.iW (i:=7) V zD rfl ?_
      refine One.alloc a.U V 59 12 rfl rfl _ hy ?_
      intro I f u b
      replace a:=Z b;clear b
      refine⟨(aP (a.U.in (by exact mQ (mQ (mQ (mQ (mQ mZ)))))) (aP (X.U _ a.U.ak) bf)),?_⟩
      simp only[aH,au,ay]
      refine az.iW (i:=9) V zD rfl ?_
      (refine One.str a.U V rfl 0 rfl 59 4 rfl rfl _ rfl rfl V rfl rfl λ f b=>?_;simp only[eF,au,ay,bC,bU,dc,cO] at b)
      replace a:=Z b;clear b
      refine⟨(aP (a.U.in (by exact mQ (mQ (mQ (mQ (mQ mZ)))))) (aP (X.U _ a.U.ak) bf)),?_⟩
      refine WT ?_
      go_wp2_with(refine KS a λ f a=>?_)
      go_meet
      refine⟨I,J,rfl,rfl,?_⟩
      (exact a.U.ft [1])
    case rest=>
     obtain⟨I,J,rfl,rfl,t⟩:=hcut
     clear a
     have a:=Z t
     clear t
     obtain⟨G,u⟩:∃G,mr s x=G:=⟨_,rfl⟩
     obtain⟨F,t⟩:∃F,kh s x=F:=⟨_,rfl⟩
     have T:=Z u;have C:=Z t
     clear u t
     go_upto_if 48 with((first|(refine KL a 0 46 ?_)|(refine KL a 1 46 ?_)))
     go_cut [] from 48 to 50 (λ c=>af w c [] [Y.row J 59 F.cells,Y.row I 59 G.cells,Y.row a6 62 [aF false,U 0,U 0,ae ⟨#[]⟩,ae ⟨#[]⟩,ad none 0 0,ae ⟨#[]⟩],Y.row L 46 [U (n:Int)],Y.row K 46 [U (m:Int)],Y.row D 62 (s.cells (ad (some ⟨bb,o,none⟩) s.f.length b6))])
     case first=>
      by_cases c:x.size<s.ar.size
      ·have hd:decide (x.size<s.ar.size)=true:=by simp;omega
       have t:decide ((x.size:Int)<(s.ar.size:Int))=true:=by simp;omega
       have e1:F=s.ar:=by rw[<-C.U];unfold kh;rw[ax c]
       have e2:G=x:=by rw[<-T.U];unfold mr;rw[ax c]
       subst e1 e2
       clear c
       (rw[hd])
       go_wp2_with(first|refine KT a 4 ?_|refine KS a λ f a=>?_)
       go_meet
       exact a.U
      ·have hd:decide (x.size<s.ar.size)=false:=by simp;omega
       have t:decide ((x.size:Int)<(s.ar.size:Int))=false:=by simp;omega
       have e1:F=x:=by rw[<-C.U];unfold kh;rw[aj c]
       have e2:G=s.ar:=by rw[<-T.U];unfold mr;rw[aj c]
       subst e1 e2
       clear c
       (rw[hd])
       go_wp2_with(fail)
       go_meet
       exact a.U
     case rest=>
      clear a
      have a:=Z hcut
      clear hcut
      obtain⟨E,z⟩:∃E,fF m n P=E:=⟨_,rfl⟩
      obtain⟨A,r⟩:∃A,iu m n P=A:=⟨_,rfl⟩
      obtain⟨B,y⟩:∃B,hQ m n P=B:=⟨_,rfl⟩
      rw[z,r,y] at a3
      have t:=c8.U
      by_cases b0:E=0
      ·subst b0
       by_cases u:B=F.aE
       ·have k2:(B.toList==F.aE.toList)=true:=by rw[u];simp
        by_cases M:A=G.aE
        ·have k3:(A.toList==G.aE.toList)=true:=by rw[M];simp
         have q:=Z (Ux N.U a5.U H.U t z (by rw[y,u,C.U]) (by rw[r,M,T.U]))
         rw[C.U] at q
         obtain⟨Q,a9⟩:∃Q,s.f.eraseIdx i=Q:=⟨_,rfl⟩
         rw[a9] at q
         have c5:=Z (λ l rest A c (h:af w l [] (Y.ho (ad A s.f.length c) s.f::rest))=>OV h i c1.U d1 Q a9.symm)
         clear u M z r y t a9
         go_upto_region 15 with(first|refine Kl a ?_|refine KT a 7 ?_|refine KS a λ f a=>?_|go_at_call 228;(refine(a0.U _ a.U.ak).mono ?_);rintro e p ⟨a1,a2,rfl,g,d⟩;replace a:=Z (a.U.db d g);clear d g|go_at_call 212;(refine(a3.U _ a.U.ak).mono ?_);rintro e p ⟨rfl,d⟩;replace a:=Z (a.U.below d);clear d)
         simp only[uw]
         refine RG a 8 [1,6] λ b7 a k=>?_
         refine WR 0 4 k ?_
         refine VV [1,2002,3,4] k ?_
         refine W2 5 80 (v:=O ((i:Int)+1)) rfl rfl (Or.inl ⟨by kernel_rfl,λ l d6=>by go_simp;rw[DP (by have:=c1.U;omega)]⟩) k ?_
         refine VV [7] k ?_
         clear k
         refine KV 6 (en 235) 81 ?_
         refine(c5.U _ _ _ _ a.U).mono ?_
         rintro e p ⟨d2,d3,rfl,b⟩
         clear a
         have a:=Z b
         clear b
         refine⟨_,rfl,bo a [1,6],?_⟩
         simp only[aH,au,ay]
         refine WT ?_
         go_wp2_with(first|refine KT a 7 ?_|refine KS a λ f a=>?_)
         refine cz a.U 3 rfl 62 7 rfl rfl rfl V rfl rfl ?_
         exact iC q.U rfl a.U 0 rfl
        ·have k3:(A.toList==G.aE.toList)=false:=by rw[cc];intro h;exact M (uT h)
         cases c:fa G F P with
         |none=>
          have q:=Z (Uw N.U a5.U H.U t z (by rw[y,u,C.U]) (by rw[r,T.U];exact M) (by rw[C.U,T.U];exact c))
          have a9:=Z (λ l (d:BW w l)=>Fx (b9.U.below d).a (c0.U.below d rfl) c4 c)
          clear u M z r y t c
          go_wp2_with(first|refine Kl a ?_|refine KT a 7 ?_|refine KT a 4 ?_|refine KS a λ f a=>?_|refine KA a _ 17 eW λ c9 f d0 a=>?_|go_at_call 228;(refine(a0.U _ a.U.ak).mono ?_);rintro e p ⟨a1,a2,rfl,g,d⟩;replace a:=Z (a.U.db d g);clear d g|go_at_call 212;(refine(a3.U _ a.U.ak).mono ?_);rintro e p ⟨rfl,d⟩;replace a:=Z (a.U.below d);clear d|go_at_call 229;(refine(a9.U _ a.U.ak).mono ?_);rintro e p ⟨rfl,d⟩;replace a:=Z (a.U.below d);clear d)
          refine cz a.U 4 rfl 62 7 rfl rfl rfl V rfl rfl ?_
          exact iC q.U rfl a.U 0 rfl
         |some b=>
          have q:=Z (Uu N.U a5.U H.U t z (by rw[y,u,C.U]) (by rw[r,T.U];exact M) (by rw[C.U,T.U];exact c))
          have a9:=Z (λ l (d:BW w l)=>Fy (b9.U.below d).a (c0.U.below d rfl) c4 c)
          have c6:=Z (λ l a7 h=>Bw b (Ix (Fv c)) a7 l h)
          have c7:=Z (λ l (d:BW w l)=>BK s (b8.U.below d) W b.enc)
          clear u M z r y t c
          go_upto_region 20 with(first|refine Kl a ?_|refine KT a 4 ?_|refine KS a λ f a=>?_|refine KA a _ 17 eW λ c9 f d0 a=>?_|go_at_call 212;(refine(a3.U _ a.U.ak).mono ?_);rintro e p ⟨rfl,d⟩;replace a:=Z (a.U.below d);clear d|go_at_call 229;(refine(a9.U _ a.U.ak).mono ?_);rintro e p ⟨⟨d4,d5,rfl,M,c⟩,d⟩;replace a:=Z (a.U.join d (Y.sr _ b.e) M c);clear d c M)
          refine RG a 6 [7,0] λ b7 a k=>?_
          refine WR 0 7 k ?_
          refine WR 1 9 k ?_
          clear k
          refine KV 2 (en 168) 98 ?_
          refine(c6.U _ _ (a.U.get (i:=1) rfl)).mono ?_
          rintro e p ⟨rfl,d⟩
          replace a:=Z (a.U.below d)
          clear d
          refine⟨_,rfl,bo a [7,0],?_⟩
          simp only[aH,au,ay]
          refine KV 3 (en 230) 99 ?_
          refine(c7.U _ a.U.ak).mono ?_
          rintro e p ⟨a1,a2,rfl,g,d⟩
          replace a:=Z (a.U.db d g)
          clear d g
          refine⟨_,rfl,bo a [8,1],?_⟩
          simp only[aH,au,ay]
          have k:=bo a [8,1]
          refine VV [4,5] k ?_
          clear k
          refine WT ?_
          go_wp2_with(refine KS a λ f a=>?_)
          refine cz a.U 5 rfl 62 7 rfl rfl rfl V rfl rfl ?_
          exact iC q.U rfl a.U 0 rfl
       ·have k2:(B.toList==F.aE.toList)=false:=by rw[cc];intro h;exact u (uT h)
        have q:=Z (HJ N.U a5.U H.U t (by rw[y,C.U];exact λ h=>u h.2))
        clear u z r y t
        go_wp2_with(first|refine Kl a ?_|refine KT a 7 ?_|refine KS a λ f a=>?_|go_at_call 228;(refine(a0.U _ a.U.ak).mono ?_);rintro e p ⟨a1,a2,rfl,g,d⟩;replace a:=Z (a.U.db d g);clear d g|go_at_call 212;(refine(a3.U _ a.U.ak).mono ?_);rintro e p ⟨rfl,d⟩;replace a:=Z (a.U.below d);clear d)
        refine cz a.U 3 rfl 62 7 rfl rfl rfl V rfl rfl ?_
        exact iC q.U rfl a.U 0 rfl
      ·have k1:(E==0)=false:=by rw[cc];exact b0
       have q:=Z (HJ (P:=P) N.U a5.U H.U t (by rw[z];exact λ h=>b0 h.1))
       clear z r y t
       go_wp2_with(first|refine Kl a ?_|refine KT a 7 ?_|refine KS a λ f a=>?_|go_at_call 228;(refine(a0.U _ a.U.ak).mono ?_);rintro e p ⟨a1,a2,rfl,g,d⟩;replace a:=Z (a.U.db d g);clear d g|go_at_call 212;(refine(a3.U _ a.U.ak).mono ?_);rintro e p ⟨rfl,d⟩;replace a:=Z (a.U.below d);clear d)
       refine cz a.U 3 rfl 62 7 rfl rfl rfl V rfl rfl ?_
       exact iC q.U rfl a.U 0 rfl
 ·rw[bu a4] at c3 c2
  have q:=Z (Us (m:=m) (n:=n) (P:=P) a4)
  clear a4
  go_enter zN,Aj
  go_wp2_with(first|refine Kl a ?_|refine KT a 7 ?_|refine KS a λ f a=>?_|refine KA a _ 8 gT λ a6 f b5 a=>?_|refine KB a 62 4 (s.cells _) λ D f b2 a=>?_|refine KB a 46 5 _ λ K f b3 a=>?_|refine KB a 46 6 _ λ L f b4 a=>?_|go_at_call 228;(refine(a0.U _ a.U.ak).mono ?_);rintro e p ⟨a1,a2,rfl,g,d⟩;replace a:=Z (a.U.db d g);clear d g)
  refine cz a.U 1 rfl 62 7 rfl rfl rfl V rfl rfl ?_
  exact iC q.U rfl a.U 0 rfl
def Ms(x:HD)(u1 u2:ab)(n:Nat)(s:ag){w:aa}(d:(Y.row g 240 [u1,U (n:Int),ae s,u2]).P w):CB 282 #[x.val,pV g] w (aF (decide (x.size=n)&&decide (x.aE=s))):=by
 have a:=Z (af.start w []);have e:=Z (aP d bf);have i:(x.aE.toList==s.toList)=decide (x.aE=s):=by
  rw[bI,fB,dx];exact⟨uT,λ h=>by rw[h]⟩
 have f:((x.size:Int)==(n:Int))=decide (x.size=n):=by rw[bI];simp;omega
 clear d;cases c:decide (x.size=n)
 all_goals
  rw[c] at f;generalize decide (x.aE=s)=b at*;clear c
  go_enter func282,ntmps282
  go_wp2_with(first|refine Kl a ?_|refine KH (a.U.bH e.U) ?_|refine KB a 59 2 (x.cells) λ h k j a=>?_)
  go_ret
  exact⟨by simp,a.U.ak⟩
def Oj{w:aa}{v:ab}(h:hE w v F)(u1 u2:ab)(n:Nat)(s:ag)(o:(Y.row g 240 [u1,U (n:Int),ae s,u2]).P w):
 CB 231 #[v,.func (.func 282) #[] #[pV g]] w (O (fY (bK (λ x=>decide (x.size=n)&&decide (x.aE=s)) F))):=by
 have:=Tb h (pV g) (pH λ x=>decide (x.size=n)&&decide (x.aE=s)) (λ q a b c d k m=>by
  obtain⟨x,hx,rfl,rfl,rfl,rfl⟩:=Cl m
  have p:=λ(e:Y) (j:e.P w)=>e.st w q (λ i l=>k.block i (e.lt w j i l)) j
  have f:=Ms x u1 u2 n s (p _ o)
  rw[<-xI (λ x=>decide (x.size=n)&&decide (x.aE=s)) x] at f
  exact f)
 rw[BB] at this
 exact this
def Oh{w:aa}{v:ab}(h:hE w v F)(u1 u2:ab)(n:Nat)(s:ag)(b:(Y.row g 240 [u1,U (n:Int),ae s,u2]).P w):
 CB 283 #[v,.func (.func 282) #[] #[pV g]] w (aF (F.any λ x=>decide (x.size=n)&&decide (x.aE=s))):=by
 have a:=Oj h u1 u2 n s b
 rw[<-GR]
 generalize fY (bK (λ x=>decide (x.size=n)&&decide (x.aE=s)) F)=I at*
 have d:=Z a
 obtain⟨A,c,rfl⟩:=h.form
 clear a h b
 go_enter func283,ntmps283
 go_wp2_with(go_at_call 231;(refine d.U.mono ?_);rintro e f ⟨rfl,a⟩)
 go_ret
 exact⟨rfl,a⟩
variable{I:List Y}
def nt(L:List (Nat×Nat)):List ab:=(L.map λ p=>[Value.int .u64 (p.1:Int),Value.int .i64 (p.2:Int)]).flatten
def Y.th(g:Nat)(a:ab)(b:Nat)(L:List (Nat×Nat)):Y:=Y.star (Y.row g 290 [a,O (b:Int)]) (Y.ow 368 2 a L.length (nt L))
def YW{c w:aa}(h:af c w m I)(a:Nat)(h1:1<=a)(h2:a<=10000):Calls prog 156 #[O (a:Int)] w λ r b=>
 ∃g,r=ao (aJ #[pV g,O 0])/\c.heap.size<=g/\af c b m (Y.th g (ad none 0 0) a []::I):=by
 have b:=Z h
 have d1:decide (a<1)=false:=by simp;omega
 have d2:decide ((a:Int)<1)=false:=by simp;omega
 have d3:decide (10000<a)=false:=by simp;omega
 have d4:decide ((10000:Int)<(a:Int))=false:=by simp;omega
 clear h h1 h2
 go_enter func156,ntmps156
 go_wp2_with(refine KB b 290 12 _ λ e f d b=>?_)
 refine iI rfl rfl rfl rfl ?_
 exact⟨_,rfl,d,(((b.U.dj (Y.ow 368 2 (ad none 0 0) 0 (nt [])) (ct _ _ _ _) rfl).ft [1]).cr)⟩
def AN(p:Nat×Nat):List ab:=[U (p.1:Int),O (p.2:Int)]
def Zq{a:ab}{L:List (Nat×Nat)}{w:aa}(h:(Y.th g a n L).P w)(b:L.length<=1000000):(Y.row g 290 [a,O (n:Int)]).P w/\bD 2 w a (L.map AN):=by
 refine⟨h.1,qL (e:=368) (λ x hx=> ?_) ?_ (by rw[cR];unfold maxLen;omega)⟩
 ·obtain⟨p,-,rfl⟩:=ep.1 hx;rfl
 ·rw[cR];exact h.2.1
def pA(q:Nat×Nat->Bool)(x:List ab):Bool:=match x with
 |[.int _ a,.int _ b]=>q (a.toNat,b.toNat)
 |_=>false
def Wb(q:Nat×Nat->Bool)(p:Nat×Nat):pA q (AN p)=q p:=by
 show q (((p.1:Nat):Int).toNat,((p.2:Nat):Int).toNat)=q p;rw[mS,mS]
def Qv(q:Nat×Nat->Bool)(L:List (Nat×Nat)):bK (pA q) (L.map AN)=bK q L:=by
 rw[wM];congr 1
def Qq(p:Nat×Nat)(id:Nat){w:aa}(c:(Y.row g 3 [O (id:Int)]).P w):CB 318 #[aG #[U (p.1:Int),O (p.2:Int)],pV g] w (aF (decide (p.2=id))):=by
 have a:=Z (af.start w []);have d:=Z (aP c bf);have e:((p.2:Int)==(id:Int))=decide (p.2=id):=by rw[bI];simp;omega
 generalize decide (p.2=id)=b at*;clear c
 go_enter func318,ntmps318
 go_wp2_with(first|refine Kl a ?_|refine KH (a.U.bH d.U) ?_|refine KB a 368 2 _ λ f i h a=>?_)
 go_ret
 exact⟨by simp[e],a.U.ak⟩
def Kz{w:aa}{x:ab}{L:List (Nat×Nat)}(h:(Y.th g x n L).P w)(t:L.length<=1000000)(id:Nat):CB 302 #[pV g,O (id:Int)] w (O (fY (bK (λ p=>decide (p.2=id)) L))):=by
 have d:=Z (af.start w []);obtain⟨k,j⟩:=Zq h t;have o:=Z (aP k bf);have q:=Z (λ e (f:BW w e) c (m:(Y.row c 3 [O (id:Int)]).P e)=>by
  have:=S6 (bD.below j f) (pV c) (pA λ p=>decide (p.2=id)) (λ wr a b r u=>by
   obtain⟨p,-,v⟩:=ep.1 u;injection v with e1 e2;injection e2 with e2;subst e1 e2;have l:=Qq p id ((Y.row c 3 [O (id:Int)]).st e wr (λ i s=>r.block i ((Y.row c 3 [O (id:Int)]).lt e m i s)) m);rw[<-Wb (λ p=>decide (p.2=id)) p] at l;exact l)
  rw[Qv] at this;exact this)
 obtain⟨A,c,a,-⟩:=bD.form j;rw[cR] at a;subst a;clear h k j
 go_enter func302,ntmps302
 go_wp2_with(first|refine Kl d ?_|refine KH (d.U.bH o.U) ?_|refine KB d 3 3 _ λ b m j d=>?_|go_at_call 317;(refine(q.U _ d.U.ak _ (d.U.get (i:=0) rfl)).mono ?_);rintro e k ⟨rfl,f⟩;replace d:=Z (d.U.below f);clear f)
 go_ret
 exact⟨rfl,d.U.ak⟩
def aaq(v:ab)(w:aa):CB 307 #[v,O 0] w (aJ #[]):=by
 have a:=Z (af.start w [])
 go_enter func307,ntmps307
 go_wp2
 go_loopw [1] (λ b wr=>b=O 0/\ai (af w wr [] [])) (λ _ _=>0)
 case atStart=>exact⟨rfl,a⟩
 case round=>
  clear a;obtain⟨rfl,a⟩:=hrel
  go_wp2
  go_end0
  exact⟨rfl,a.U.ak⟩
def PS:fR 287:=hO func287 V V
def PB:dh 288 368 2 16:=dh.mk' underlying288 (z:= .agg #[U 0,O 0]) V rfl zD
def Zp{w wr:aa}{rest:List Y}{a:ab}(L:List (Nat×Nat))(h:af w wr m (Y.row g 290 [a,O (n:Int)]::Y.ow 368 2 a L.length (nt L)::rest)):(Y.th g a n L).P wr:=h.cr.get (i:=0) rfl
def KF{w:aa}{f:ab}(h:(Y.th g f n []).P w)(s:1<=n)(id j:Nat):Calls prog 287 #[pV g,O (id:Int),U (j:Int)] w λ r b=>
 r=ao (O 0)/\∃a,bj (Y.th g f n []) w b (Y.th g a n [(j,id)]):=by
 have b:=(af.self h).fZ
 generalize d:(Y.th g f n []).bs=m at*
 have a:=Z b
 obtain⟨u,v,t,-⟩:=cF (show w.ownsRow 0 368 2 f 0 [] from b.get (i:=1) rfl)
 subst t
 have o:ai (∀c,(Y.th g (ad u 0 v) n []).P c->CB 302 #[pV g,O (id:Int)] c (O (-1))):=Z (λ c h=>Kz h zS id)
 have d1:decide ((n:Int)<=0)=false:=by simp;omega
 have d2:decide (n=0)=false:=bu W
 have p:=Z d
 clear h b s d
 go_enter func287,ntmps287
 go_upto_region 3 with((go_at_call 302;(refine(o.U _ (Zp [] a.U)).mono ?_);rintro e x ⟨rfl,d⟩;replace a:=Z (a.U.below d);clear d))
 refine RG a 10 [0] λ y a c=>?_
 refine VV [0,1,2,2003,4,5,6,7,2008,9] c ?_
 clear c
 refine WT ?_
 go_upto_region 6 with(first|refine Kl a ?_|refine KS a λ l a=>?_|(with_reducible show cH);(refine Mk a.U rfl 31 rfl (some 1) 368 [_,_] (by go_simp;(exact⟨rfl,rfl⟩)) ?_;intro z l A b;replace a:=Z b;clear b;simp only[bk])|refine Ap a.U rfl PB rfl 2 rfl rfl 0 rfl rfl rfl rfl zD zD λ r q l b=>?_;simp only[au,ay] at b;have k:=b.tail;clear b;have b:=k;clear k;replace a:=Z b;clear b)
 refine RG a 11 [0] λ y a c=>?_
 refine VV [0,1,2,2003,4,5,6,7,2008,9,10] c ?_
 clear c
 refine WT ?_
 go_wp2_with((go_at_call 307;(refine(aaq _ _).mono ?_);rintro e x ⟨rfl,d⟩;replace a:=Z (a.U.below d);clear d))
 go_ret
 have b:=a.U
 rw[<-p.U] at b
 exact⟨rfl,ad (some ⟨r,0,none⟩) 1 q,b.kt⟩
variable{k:Nat}
def YS{w:aa}{id:Nat}{d:List ab}(h:(Y.row g 368 (Value.int .u64 (k:Int)::Value.int .i64 (id:Int)::d)).P w):Calls prog 319 #[ad (some ⟨g,0,none⟩) 1 n,O 0,O 0] w λ r a=>
 r=ao (aJ #[])/\bj (Y.row g 368 (Value.int .u64 (k:Int)::Value.int .i64 (id:Int)::d)) w a (Y.row g 368 (Value.int .u64 (k:Int)::Value.int .i64 (id:Int)::d)):=by
 have a:=Z (af.self h)
 clear h
 go_enter func319,ntmps319
 go_upto_region 0 with fail
 refine RG a 15 [0] λ f a b=>?_
 refine VV [0,1,2,3,4,5,6] b ?_
 refine WR 7 2 b ?_
 refine VV [8,9,10] b ?_
 refine WR 11 2 b ?_
 refine VV [12] b ?_
 clear b
 refine az.iW (i:=13) V zD rfl ?_
 (refine One.str a.U V rfl 0 rfl 368 2 rfl rfl _ rfl rfl V rfl rfl λ e c=>?_;simp only[eF,au,ay,bC,bU,dc,cO] at c)
 replace a:=Z c;clear c
 refine⟨bo a [0],?_⟩
 try simp only[aH,au,ay]
 have b:=bo a [0]
 refine VV [14] b ?_
 clear b
 refine WT ?_
 go_wp2_with(refine KS a λ e a=>?_)
 go_end0
 exact⟨rfl,a.U.gQ⟩
def MS(a b:Nat):nt [(a,b)]=[U (a:Int),O (b:Int)]:=rfl
def Dh{w wr:aa}{rest:List Y}{id:Nat}{d:ab}(h:af w wr m (Y.th g d i [(k,id)]::rest)):
 ∃b c a,d=ad (some ⟨b,0,none⟩) 1 c/\1<=c/\c<=maxLen/\a.length+2=c*2/\af w wr m (Y.row g 290 [ad (some ⟨b,0,none⟩) 1 c,O (i:Int)]::Y.row b 368 (Value.int .u64 (k:Int)::Value.int .i64 (id:Int)::a)::rest):=by
 have f:=af.fZ h
 obtain⟨b,c,a,e1,e2,e3,e4,e⟩:=nL f 1 (v:=d) (n:=1) (xs:=nt [(k,id)]) rfl zD
 subst e1
 exact⟨b,c,a,rfl,e2,e3,by rw[MS] at e4;simpa using e4,e⟩
def Zr{w wr:aa}{rest:List Y}{a:List ab}(h:af w wr m (Y.row g 290 [ad (some ⟨n,0,none⟩) 0 k,O (i:Int)]::Y.row n 368 a::rest))(h1:k<=maxLen)(h2:a.length=k*2):
 af w wr m (Y.th g (ad (some ⟨n,0,none⟩) 0 k) i []::rest):=by
 have b:=ie h 1 rfl 0 k 2 (bh _) h1 h2 [] rfl
 exact af.cr b
def KE{w:aa}{id:Nat}{l:ab}(h:(Y.th g l k [(n,id)]).P w):Calls prog 303 #[pV g,O 0] w λ r b=>
 r=ao (aJ #[])/\∃a,bj (Y.th g l k [(n,id)]) w b (Y.th g a k []):=by
 obtain⟨b,c,u,rfl,r,e,f,a⟩:=Dh (af.self h)
 generalize j:(Y.th g (ad (some ⟨b,0,none⟩) 1 c) k [(n,id)]).bs=m at*
 have d:=Z a
 have q:=Z j;have o:=Z e;have p:=Z f
 have s:decide ((0:Int)<=(c:Int))=true:=by simp
 clear h a j e f
 go_enter func303,ntmps303
 go_wp2_with(first|refine Kl d ?_|refine KS d λ t d=>?_|go_at_call 319;(refine(YS (d.U.get (i:=1) rfl)).mono ?_);rintro e j ⟨rfl,f⟩;have a:=d.U.at 1 rfl f;simp only[au,ay] at a;replace d:=Z a;clear a;clear f)
 go_end0
 have a:=Zr d.U o.U (by simpa using p.U)
 rw[<-q.U] at a
 exact⟨rfl,ad (some ⟨b,0,none⟩) 0 c,a.gQ⟩
def YV{w:aa}{id:Nat}{c:ab}(h:(Y.th g c k [(n,id)]).P w):Calls prog 275 #[pV g,O (id:Int)] w λ r a=>
 r=ao (O 0)/\∃l,bj (Y.th g c k [(n,id)]) w a (Y.th g l k []):=by
 have b:=Kz h zS id
 have e:fY (bK (λ p:Nat×Nat=>decide (p.2=id)) [(n,id)])=0:=by simp[bK,fY]
 rw[e] at b
 have d:=Z b
 have m:=Z (λ f (h:(Y.th g c k [(n,id)]).P f)=>KE h)
 have a:=Z (af.self h)
 clear h b e
 go_enter func275,ntmps275
 go_wp2_with(first|go_at_call 302;(refine d.U.mono ?_);rintro e o ⟨rfl,f⟩;replace a:=Z (a.U.below f);clear f;clear d|go_at_call 303;(refine(m.U _ (a.U.get (i:=0) rfl)).mono ?_);rintro e o ⟨rfl,l,j⟩;have b:=a.U.at 0 rfl j;simp only[au,ay] at b;replace a:=Z b;clear b;clear j)
 go_ret
 exact⟨rfl,_,a.U.gQ⟩
def Bm:dh 193 3 1 8:=dh.mk' underlying193 (z:=O 0) V rfl zD
def YX{w:aa}{c:ab}(h:(Y.th g c n []).P w)(l:Nat):Calls prog 286 #[pV g,U (l:Int)] w λ r a=>
 r=ao (ad none 0 0)/\bj (Y.th g c n []) w a (Y.th g c n []):=by
 have b:=(af.self h).fZ
 generalize d:(Y.th g c n []).bs=m at*
 obtain⟨e,f,k,-⟩:=cF (show w.ownsRow 0 368 2 c 0 [] from b.get (i:=1) rfl)
 subst k
 have a:=Z b
 have j:=Z d
 clear h b d
 go_enter func286,ntmps286
 go_wp2
 go_loopw [5] (λ d wr=>d=ad none 0 0/\ai (af w wr m [Y.row g 290 [ad e 0 f,O (n:Int)],Y.ow 368 2 (ad e 0 f) 0 (nt [])])) (λ _ _=>0)
 case atStart=>exact⟨rfl,a⟩
 case round=>
  clear a
  obtain⟨rfl,a⟩:=hrel
  go_wp2_with(first|(first|(refine KL a 0 288 ?_)|(refine KL a 1 288 ?_)|(refine KL a 0 46 ?_)|(refine KL a 1 46 ?_)))
  go_ret
  have b:=a.U
  rw[<-j.U] at b
  exact⟨rfl,b.kt⟩
def YY{w:aa}{id:Nat}{o:ab}(h:(Y.th g o k [(n,id)]).P w)(e:Nat)(t:e<n):Calls prog 286 #[pV g,U (e:Int)] w λ r b=>
 r=ao (ad none 0 0)/\∃a,bj (Y.th g o k [(n,id)]) w b (Y.th g a k [(n,id)]):=by
 obtain⟨b,c,u,rfl,f,i,j,d⟩:=Dh (af.self h)
 generalize l:(Y.th g (ad (some ⟨b,0,none⟩) 1 c) k [(n,id)]).bs=m at*
 have a:=Z d
 have s:=Z l;have p:=Z f;have q:=Z i;have r:=Z j
 have hd:decide ((n:Int)<=(e:Int))=false:=by simp;omega
 have v:decide (n<=e)=false:=by simp;omega
 clear h d l f i j t
 go_enter func286,ntmps286
 go_wp2
 go_loopw [5] (λ f wr=>f=ad none 0 0/\ai (af w wr m [Y.row g 290 [ad (some ⟨b,0,none⟩) 1 c,O (k:Int)],Y.row b 368 (Value.int .u64 (n:Int)::Value.int .i64 (id:Int)::u)])) (λ _ _=>0)
 case atStart=>exact⟨rfl,a⟩
 case round=>
  clear a
  obtain⟨rfl,a⟩:=hrel
  go_wp2_with(first|(first|(refine KL a 0 288 ?_)|(refine KL a 1 288 ?_)|(refine KL a 0 46 ?_)|(refine KL a 1 46 ?_)))
  go_ret
  have d:=ie a.U 1 rfl 1 c 2 p.U q.U (by simpa using r.U) (nt [(n,id)]) rfl
  have f:af w _ m (Y.th g (ad (some ⟨b,0,none⟩) 1 c) k [(n,id)]::[]):=af.cr d
  rw[<-s.U] at f
  exact⟨rfl,_,f.gQ⟩
def KD{w:aa}{id:Nat}{t:ab}(h:(Y.th g t k [(n,id)]).P w)(o:Nat)(A:n<=o):Calls prog 286 #[pV g,U (o:Int)] w λ r a=>
 ∃p c s,r=ao (ad (some ⟨p,0,none⟩) 1 c)/\bj (Y.th g t k [(n,id)]) w a (Y.star (Y.th g s k []) (Y.ow 3 1 (ad (some ⟨p,0,none⟩) 1 c) 1 [O (id:Int)])):=by
 have q:=af.self h
 obtain⟨b,c,D,rfl,e,f,j,d⟩:=Dh q
 generalize l:(Y.th g (ad (some ⟨b,0,none⟩) 1 c) k [(n,id)]).bs=m at*
 have a:=Z (af.dj d (Y.ow 3 1 (ad none 0 0) 0 []) (ct _ _ _ _) rfl)
 have x:=Z l;have r:=Z e;have u:=Z f;have v:=Z j
 have hd:decide ((n:Int)<=(o:Int))=true:=by simp;omega
 have F:decide (n<=o)=true:=by simp;omega
 clear h q d l e f j A
 go_enter func286,ntmps286
 go_wp2
 go_loopw [5] (λ l wr=>(l=ad none 0 0/\ai (af w wr m [Y.ow 3 1 (ad none 0 0) 0 [],Y.row g 290 [ad (some ⟨b,0,none⟩) 1 c,O (k:Int)],Y.row b 368 (Value.int .u64 (n:Int)::Value.int .i64 (id:Int)::D)]))\/
  (∃(p q f:Nat) (j:Option Addr),l=ad (some ⟨p,0,none⟩) 1 q/\ai (af w wr m [Y.ow 3 1 (ad (some ⟨p,0,none⟩) 1 q) 1 [O (id:Int)],Y.row g 290 [ad j 0 f,O (k:Int)],Y.ow 368 2 (ad j 0 f) 0 (nt [])])))
  (λ l _=>match l with| .slice _ y _=>1-y|_=>0)
 case atStart=>exact .inl ⟨rfl,a⟩
 case round=>
  clear a
  rcases hrel with⟨rfl,a⟩|⟨p,q,f,j,rfl,a⟩
  ·go_upto_region 4 with(first|(first|(refine KL a 0 288 ?_)|(refine KL a 1 288 ?_)|(refine KL a 2 288 ?_)|(refine KL a 3 288 ?_)|(refine KL a 0 46 ?_)|(refine KL a 1 46 ?_)|(refine KL a 2 46 ?_)|(refine KL a 3 46 ?_)|(refine KL a 0 3 ?_)|(refine KL a 1 3 ?_)|(refine KL a 2 3 ?_)|(refine KL a 3 3 ?_))|((with_reducible show cH);first|(refine Mk a.U rfl 31 rfl (some 1) 3 [_] (by go_simp;first|rfl|exact⟨rfl,rfl⟩) ?_;intro E C G d;replace a:=Z d;clear d;simp only[bk]))|(first|(refine Ap a.U rfl Bm rfl 1 rfl rfl 0 rfl rfl rfl rfl zD zD λ z y C d=>?_;simp only[au,ay] at d;replace a:=Z d;clear d)))
   have e:=ie a.U 3 rfl 1 c 2 r.U u.U (by simpa using v.U) (nt [(n,id)]) rfl
   simp only[au,ay] at e
   have d:af w _ m (Y.th g (ad (some ⟨b,0,none⟩) 1 c) k [(n,id)]::_):=af.cr ((e.ar 3 rfl).ar 3 rfl)
   simp only[List.eraseIdx_cons_zero,List.eraseIdx_cons_succ] at d
   clear e a
   have a:=Z d
   clear d
   go_wp2_with(first|(go_at_call 303;(refine(KE (a.U.get (i:=0) rfl)).mono ?_);rintro e H ⟨rfl,s,l⟩;have d:=a.U.at 0 rfl l;simp only[au,ay] at d;replace a:=Z d;clear d;clear l))
   have d:=a.U.fZ
   obtain⟨j,f,B,-⟩:=cF (show World.ownsRow _ 0 368 2 s 0 [] from d.get (i:=1) rfl)
   subst B
   exact⟨.inr ⟨z,y,f,j,rfl,Z ((d.ar 3 rfl).ar 3 rfl).tail⟩,by simp⟩
  ·go_wp2_with(first|(first|(refine KL a 0 288 ?_)|(refine KL a 1 288 ?_)|(refine KL a 2 288 ?_)|(refine KL a 0 46 ?_)|(refine KL a 1 46 ?_)|(refine KL a 2 46 ?_)))
   go_ret
   have d:af w _ m (Y.th g (ad j 0 f) k []::_):=af.cr ((a.U.ar 2 rfl).ar 2 rfl)
   rw[<-x.U] at d
   exact⟨_,_,_,rfl,d.kt⟩
structure RC.bL(c:RC):Prop where
 b1:1<=c.base
 b2:c.base<=c.j
 m:c.j<=1099511627776
 s:c.span<=1099511627776
 t1:1<=c.i
 t2:c.i<=1000
 r1:1<=c.room
 r2:c.room<=10000
def RC.bL.ok{c:RC}(h:c.bL):c.Ok:=by
 obtain⟨a,b,j,d,e,f,g,i⟩:=h;exact⟨by omega,by omega,by omega,by omega,by omega⟩
def WO(c:RC)(g:c.bL)(w:aa):CB 155 #[c.val] w (aF true):=by
 obtain⟨b,d,m,s,t1,t2,e,f⟩:=g;obtain⟨B,M,S,T,R⟩:=c;simp only at b d m s t1 t2 e f;have a:=Z (af.start w []);have f0:decide ((1:Nat)<=(B:Nat))=true:=aS W;have h:decide ((1:Int)<=(B:Int))=true:=aS W;have e0:decide (0<B)=true:=aS W;have f3:decide ((B:Nat)<=(M:Nat))=true:=aS W;have l:decide ((B:Int)<=(M:Int))=true:=aS W;have f5:decide ((M:Nat)<=(1099511627776:Nat))=true:=aS W;have n:decide ((M:Int)<=(1099511627776:Int))=true:=aS W;have f7:decide ((S:Nat)<=(1099511627776:Nat))=true:=aS W;have o:decide ((S:Int)<=(1099511627776:Int))=true:=aS W;have f9:decide ((1:Nat)<=(T:Nat))=true:=aS W;have p:decide ((1:Int)<=(T:Int))=true:=aS W;have e9:decide (0<T)=true:=aS W;have f12:decide ((T:Nat)<=(1000:Nat))=true:=aS W;have i:decide ((T:Int)<=(1000:Int))=true:=aS W;have f14:decide ((1:Nat)<=(R:Nat))=true:=aS W;have j:decide ((1:Int)<=(R:Int))=true:=aS W;have kb:decide (0<R)=true:=aS W;have f17:decide ((R:Nat)<=(10000:Nat))=true:=aS W;have k:decide ((R:Int)<=(10000:Int))=true:=aS W;clear b d m s t1 t2 e f
 go_enter func155,ntmps155
 go_wp2_with(first|refine Kl a ?_|refine KB a 48 1 _ λ b e d a=>?_)
 go_ret
 exact⟨by first|rfl|simp_all,a.U.ak⟩
def xX(o:Option (Nat×Nat×Nat)):List (Int×ab):=match o with|none=>[]|some p=>[((p.1:Int),O (p.2.1:Int))]
def CY(o:Option (Nat×Nat×Nat)):List (Nat×Nat):=match o with|none=>[]|some p=>[(p.2.2,p.1)]
abbrev RC.iD(c:RC)(b a:Nat):List ab:=[U (c.base:Int),U (c.j:Int),U (c.span:Int),O (c.i:Int),O (c.room:Int),.map (some b),pV a]
def Y.rt(e b a:Nat)(d:ab)(c:RC)(o:Option (Nat×Nat×Nat)):Y:=Y.all [Y.row e 224 (c.iD b a),Y.mp b (xX o),Y.th a d c.room (CY o)]
def sJ{w wr:aa}{rest:List Y}{a:ab}{c:RC}{o:Option (Nat×Nat×Nat)}(h:af w wr m (Y.rt g n k a c o::rest)):af w wr m (Y.row g 224 (c.iD n k)::Y.mp n (xX o)::Y.th k a c.room (CY o)::rest):=af.K4 h
def qV{w wr:aa}{rest:List Y}{a:ab}{c:RC}(o:Option (Nat×Nat×Nat))(h:af w wr m (Y.row g 224 (c.iD n k)::Y.mp n (xX o)::Y.th k a c.room (CY o)::rest)):af w wr m (Y.rt g n k a c o::rest):=af.H6 [_,_,_] h
def WN{f w:aa}(h:af f w m I)(c:RC)(d:c.bL):Calls prog 78 #[c.val] w λ r b=>
 ∃a i g,r=ao (aJ #[pV a,O 0])/\f.heap.size<=a/\af f b m (Y.rt a i g (ad none 0 0) c none::I):=by
 have a:=Z h
 have n:=Z (λ b=>WO c d b)
 have l:=Z (λ(b:aa) (q:List Y) (p:af f b m q)=>YW p c.room d.r1 d.r2)
 clear h d
 go_enter func78,ntmps78
 go_wp2_with(first|refine KT a 5 ?_|refine Kl a ?_|refine KB a 48 1 (c.cells) λ s k u a=>?_|refine KB a 224 22 (c.iD i g) λ t k o a=>?_|((with_reducible show jw);first|(refine jj a.U rfl 19 rfl 222 rfl λ i k x b=>?_;replace a:=Z b;clear b))|go_at_call 155;(refine(n.U _).mono ?_);rintro e r ⟨rfl,j⟩;replace a:=Z (a.U.below j);clear j|go_at_call 156;(refine(l.U _ _ a.U).mono ?_);rintro e r ⟨g,rfl,v,b⟩;replace a:=Z b;clear b)
 refine iI rfl rfl rfl rfl ?_
 exact⟨_,_,_,rfl,o,((qV none a.U).ft [1,1000])⟩
def PU:fR 288:=hO func288 V V
def WE{w:aa}{j:Nat}{o:ab}{c:RC}(h:(Y.rt g k j o c none).P w)(p:c.bL)(id l f:Nat)(t:l<18446744073709551616)(s:f<18446744073709551616):
 Calls prog 257 #[pV g,O (id:Int),U (l:Int),U (f:Int)] w λ r a=>
  r=ao (O 0)/\∃q,bj (Y.rt g k j o c none) w a (Y.rt g k j q c (some (id,1,bw l (gR c 0 f)))):=by
 have a:=sJ (af.self h)
 generalize e:(Y.rt g k j o c none).bs=m at*
 have b:=Z a
 have v:=Z e
 have y:=Z (λ d=>Lc c p.ok 0 zD f s d)
 have u:=Z (λ d=>nR l (gR c 0 f) t (iX _ _) d)
 have x:=Z (λ d (h:(Y.th j o c.room []).P d)=>KF h p.r1 id (bw l (gR c 0 f)))
 generalize bw l (gR c 0 f)=bt at*
 generalize gR c 0 f=wt at*
 clear h a e p t s
 go_enter func257,ntmps257
 go_upto_region 1 with fail
 try simp only[uw]
 refine af.region b.U (n:=14) (S:=bc [Y.row g 224 (c.iD k j)]) V V (λ A z=>(aP (z.in mZ) bf)) (λ A a d=> ?_)
 replace b:=Z a;clear a
 refine V2 0 10 d ?_
 refine V2 1 11 d ?_
 refine V2 2 12 d ?_
 refine L2 3 13 0 219 d ?_
 refine V2 4 14 d ?_
 refine V2 5 15 d ?_
 refine V2 6 16 d ?_
 refine V2 7 17 d ?_
 refine V2 8 18 d ?_
 refine W2 9 19 rfl rfl (Yr V 0 rfl 48 5 rfl rfl V _ rfl rfl) d ?_
 refine V2 10 20 d ?_
 clear d
 refine az.eM (i:=11) V zD rfl rfl 21 rfl rfl 288 rfl PU _ rfl ?_
 refine(y.U _).mono ?_
 rintro e r ⟨rfl,d⟩
 have a:=b.U.below d
 replace b:=Z a;clear a;clear d
 refine⟨_,rfl,(aP (b.U.in mZ) bf),?_⟩
 simp only[aH,au,ay]
 refine az.eM (i:=12) V zD rfl rfl 22 rfl rfl 139 rfl (en 139) _ rfl ?_
 refine(u.U _).mono ?_
 rintro e r ⟨rfl,rfl⟩
 refine⟨_,rfl,(aP (b.U.in mZ) bf),?_⟩
 simp only[aH,au,ay]
 refine az.eM (i:=13) V zD rfl rfl 23 rfl rfl 287 rfl PS _ rfl ?_
 refine(x.U _ (b.U.get (i:=2) rfl)).mono ?_
 rintro e r ⟨rfl,q,d⟩
 have a:=b.U.at 2 rfl d
 simp only[au,ay] at a
 replace b:=Z a;clear a;clear d
 refine⟨_,rfl,(aP (b.U.in mZ) bf),?_⟩
 simp only[aH,au,ay]
 refine az.tail V ?_
 simp only[bU,bC]
 go_wp2_with(first|(refine KL b 0 222 ?_)|((with_reducible show wpList _ _ _ (⟨_,.mapUpdate _ _ _ _,_,_,_,_⟩::_) _ _);(refine Mu b.U 1 rfl rfl uf rfl rfl rfl rfl λ d a=>?_;simp only[au,ay] at a;replace b:=Z a;clear a)))
 go_ret
 have a:=qV (some (id,1,bt)) b.U
 rw[<-v.U] at a
 exact⟨rfl,q,a.gQ⟩
def WG{w:aa}{d:Nat}{f:ab}{c:RC}{id bt:Nat}(h:(Y.rt g n d f c (some (id,k,bt))).P w):Calls prog 218 #[pV g,O (id:Int)] w λ r a=>
 r=ao (O 0)/\∃j,bj (Y.rt g n d f c (some (id,k,bt))) w a (Y.rt g n d j c none):=by
 have a:=sJ (af.self h)
 generalize e:(Y.rt g n d f c (some (id,k,bt))).bs=m at*
 have b:ai (af w w m [Y.row g 224 (c.iD n d),Y.mp n [((id:Int),O (k:Int))],Y.th d f c.room [(bt,id)]]):=Z a
 have o:=Z e
 have p:=Z (λ q (h:(Y.th d f c.room [(bt,id)]).P q)=>YV h)
 clear h a e
 go_enter func218,ntmps218
 go_wp2_with(first|(first|(refine KL b 0 219 ?_)|(refine KL b 0 222 ?_))|(refine Md b.U 1 rfl rfl (t:=222) (k:=3) (e:=3) V V rfl rfl rfl λ s a=>?_;simp only[au,ay] at a;rw[xn] at a;replace b:=Z a;clear a)|(go_at_call 275;(refine(p.U _ (b.U.get (i:=2) rfl)).mono ?_);rintro e r ⟨rfl,j,l⟩;have a:=b.U.at 2 rfl l;simp only[au,ay] at a;replace b:=Z a;clear a;clear l))
 go_ret
 have a:=qV none b.U
 rw[<-o.U] at a
 exact⟨rfl,j,a.gQ⟩
def B6(w:aa)(s:ag)(l:s.size<=1000000):CB 160 #[ae s] w (ae (aY s)):=by
 have a:=Z (af.start w []);have n:=Z (λ b=>VJ s W b);have o:=Z (λ b=>Wv (CrcM.on 0 s.data.toList) (Nat.lt_of_le_of_lt (Nat.sub_le _ _) zD) b);have c:=AU s W;have j:ai ((⟨[],0⟩:WS).b.length+(fm s).size<=16777216):=Z (by simp;omega);have k:=gn s;have g:=Z (show aY s=if s.size=0\/4096<s.size then⟨#[]⟩ else fm s++rS s from rfl);clear c;by_cases c:s=⟨#[]⟩;focus
  have d:s.size=0:=by rw[c];rfl
  rw[aS c] at k;have i:=Z (g.U.trans (ax (Or.inl d)));clear c d
 rotate_left;focus
  rw[bu c] at k;have d:¬s.size=0:=λ h=>c (tB h);by_cases b:s.size<=4096;focus
   have i:=Z (g.U.trans (aj W));have f:(⟨[],0⟩:WS).put (decide (s.size<=4096)) 4 (fm s)=⟨(fm s).data.toList,0⟩:=by
    rw[aS b];rfl
   have m:(⟨(fm s).data.toList,0⟩:WS).text=fm s:=by unfold WS.text;rw[ax rfl]
   have h:=Z f;have p:=Z m;have q:(fm s).size+(strOfNums (qQ (CrcM.on 0 s.data.toList))).size<=9223372036854775807:=by
    have e:(strOfNums (qQ (CrcM.on 0 s.data.toList))).size=4:=rfl;have:=AU s W;omega
   clear c d b f m
  rotate_left;focus
   have i:=Z (g.U.trans (ax (Or.inr W)));have f:(⟨[],0⟩:WS).put (decide (s.size<=4096)) 4 (fm s)=⟨[],4⟩:=by
    rw[bu b];rfl
   have h:=Z f;clear c d b f
 all_goals
  go_enter func160,ntmps160
  go_upto_region 2 with(refine KA a _ 3 yJ λ m t q a=>?_)
  replace a:=Z (a.U.Cu)
  go_wp2_with(first|refine KA a _ 3 yJ λ m t q a=>?_|(go_at_call 8;(refine(Lb (a.U.in (by first|exact mZ)) s l j.U).mono ?_);rintro e c ⟨rfl,r,d⟩;have f:=a.U.rep (by first|exact .head _) d;rw[h.U] at f;replace a:=Z f;clear f)|(go_at_call 8;(refine(Lb (a.U.in (by first|exact mZ)) s l j.U).mono ?_);rintro e c ⟨rfl,r,d⟩;replace a:=Z (a.U.rep (by first|exact .head _) d))|(go_at_call 222;(refine(aaA (a.U.in (by first|exact mZ))).mono ?_);rintro e c ⟨rfl,rfl⟩)|(go_at_call 11;(refine(DH (a.U.in (by first|exact mZ))).mono ?_);rintro e c ⟨rfl,rfl⟩;rw[p.U])|go_at_call 224;(refine(n.U _).mono ?_);rintro e c ⟨rfl,b⟩;replace a:=Z (a.U.below b);clear b|go_at_call 223;(refine(o.U _).mono ?_);rintro e c ⟨rfl,b⟩;replace a:=Z (a.U.below b);clear b)
  go_ret
  exact⟨by rw[i.U];rfl,a.U.ak⟩
variable{d:DK}{E:JN}
abbrev JN.cells(j:JN)(a:Nat)(b:ab):List ab:=[pV a,b,O (j.sure:Int),aF j.cut]
def Y.jr(g b:Nat)(a:ab)(j:JN):Y:=Y.star (Y.row g 227 (j.cells b a)) (Y.ow 9 1 a j.l.length (aV j.l))
def hj(j:JN)(d:DK)(s:ag):JN:=if df j d s=0 then⟨j.l++[s],j.sure,j.cut⟩ else j
def iv(j:JN)(d:DK)(s:ag):DK:=if df j d s=0 then d.put 0 (aY s) else d
def Tz{s:ag}(h:E.cut=true):df E d s=7/\hj E d s=E/\iv E d s=d:=by
 have e:df E d s=7:=by unfold df;rw[ax h]
 unfold hj iv;rw[e];exact⟨rfl,rfl,rfl⟩
def TB{s:ag}(h:E.cut=false)(h1:(aY s).size=0):df E d s=1/\hj E d s=E/\iv E d s=d:=by
 have e:df E d s=1:=by unfold df;rw[aj (by rw[h];decide),ax h1]
 unfold hj iv;rw[e];exact⟨rfl,rfl,rfl⟩
def Ty{s:ag}(h:E.cut=false)(h1:¬(aY s).size=0)(h2:¬d.cC (aY s)=0):df E d s=d.cC (aY s)/\hj E d s=E/\iv E d s=d.put 0 (aY s):=by
 have e:df E d s=d.cC (aY s):=by unfold df;rw[aj (by rw[h];decide),aj h1]
 have e2:d.put 0 (aY s)=d:=by
  unfold DK.cC at h2;unfold DK.put;split at h2
  ·rename_i a;rw[ax a]
  ·exact absurd rfl h2
 unfold hj iv;rw[e,aj h2,aj h2,e2];exact⟨rfl,rfl,rfl⟩
def TA{s:ag}(h:E.cut=false)(h1:¬(aY s).size=0)(h2:d.cC (aY s)=0):df E d s=0/\hj E d s=⟨E.l++[s],E.sure,E.cut⟩/\iv E d s=d.put 0 (aY s):=by
 have e:df E d s=0:=by unfold df;rw[aj (by rw[h];decide),aj h1,h2]
 unfold hj iv;rw[e];exact⟨rfl,rfl,rfl⟩
def Tp{x w:aa}{rest:List Y}{v k:ab}(h:af x w m (Y.jr g n v E::Y.dk n k d::rest))(hd:d.Ok)(u:d.a.length<=1000000)(z:E.l.length<=1000000)(s:ag)(B:s.size<=1000000):
 Calls prog 304 #[pV g,ae s] w λ r e=>r=ao (O (df E d s:Int))/\∃a o,af x e m (Y.jr g n a (hj E d s)::Y.dk n o (iv E d s)::rest):=by
 have a:=af.fZ h
 have b:=Z a
 have f:=Z (λ c=>B6 c s B)
 have j:ai (∀c k,(Y.dk n k d).P c->Calls prog 300 #[pV n,O 0,ae (aY s)] c λ r e=>r=ao (O (d.cC (aY s):Int))/\∃o,bj (Y.dk n k d) c e (Y.dk n o (d.put 0 (aY s)))):=Z (λ c k h=>F1 h hd 0 zD (aY s) u)
 obtain⟨pA,J,A,-⟩:=cF (show w.ownsRow 0 9 1 v E.l.length (aV E.l) from a.get (i:=1) rfl)
 subst A
 clear h a hd u
 have r:=Z z
 obtain⟨F,hF⟩:∃F,aY s=F:=⟨_,rfl⟩
 have q:=gn F
 cases l:E.cut
 focus
  by_cases c:F.size=0
  focus
   obtain⟨e1,e2,e3⟩:=TB (d:=d) (s:=s) l (by rw[hF];exact c)
   rw[e1,e2,e3]
   rw[aS (tB c)] at q
   rw[hF] at f
   clear e1 e2 e3 hF c
  rotate_left
  focus
   rw[bu (λ h=>c (by rw[h];rfl))] at q
   by_cases e:d.cC F=0
   focus
    obtain⟨e1,e2,e3⟩:=TA (d:=d) (s:=s) l (by rw[hF];exact c) (by rw[hF];exact e)
    rw[e1,e2,e3]
    rw[hF] at f j⊢
    rw[e] at j
    have p:aV E.l++[ae s]=aV (E.l++[s]):=by rw[pw];rfl
    have y:=Z p
    clear e1 e2 e3 hF c e p
   rotate_left
   focus
    obtain⟨e1,e2,e3⟩:=Ty (d:=d) (s:=s) l (by rw[hF];exact c) (by rw[hF];exact e)
    rw[e1,e2,e3]
    rw[hF] at f j⊢
    obtain⟨p,t⟩:∃p,d.cC F=p:=⟨_,rfl⟩
    rw[t] at j e⊢
    have C:((p:Int)==0)=false:=by rw[cc];omega
    clear e1 e2 e3 hF c t
 rotate_left 3
 focus
  obtain⟨e1,e2,e3⟩:=Tz (d:=d) (s:=s) l
  rw[e1,e2,e3]
  rw[hF] at f
  clear e1 e2 e3 hF q
 all_goals
  go_enter func304,ntmps304
  go_wp2_with(first|refine Kl b ?_|refine KS b λ t b=>?_|(with_reducible show cH);(refine Mk b.U rfl 31 rfl (some 1) 9 [_] (by go_simp;(exact⟨rfl,rfl⟩)) ?_;intro G t I a;replace b:=Z a;clear a;simp only[bk])|refine Ap b.U rfl la rfl 2 rfl rfl 0 rfl rfl rfl rfl (by unfold maxLen;have:=r.U;omega) (by have:=r.U;omega) ?_;intro H D t a;simp only[au,ay] at a;replace b:=Z a;clear a|go_at_call 160;(refine(f.U _).mono ?_);rintro e C ⟨rfl,c⟩;replace b:=Z (b.U.below c);clear c|go_at_call 300;(refine(j.U _ _ (b.U.get (i:=2) rfl)).mono ?_);rintro e C ⟨rfl,o,p⟩;have a:=b.U.at 2 rfl p;simp only[au,ay] at a;replace b:=Z a;clear a;clear p)
  go_ret
  first
   |have a:=b.U.tail
    rw[y.U,show E.l.length+1=(E.l++[s]).length by simp] at a
    exact⟨rfl,_,_,a.cr⟩
   |exact⟨rfl,_,_,b.U.cr⟩
def Tw{s:ag}(h:¬df E d s=0):hS E d s=hj E d s/\hU E d s=iv E d s:=by
 unfold hS hU hj iv;rw[aj h,aj h,aj h,aj h];exact⟨rfl,rfl⟩
def Tx{s:ag}(h:df E d s=0):hS E d s=⟨(hj E d s).l,(hj E d s).l.length,(hj E d s).cut⟩/\hU E d s={iv E d s with a:=[]}:=by
 unfold hS hU hj iv;rw[ax h,ax h,ax h,ax h];exact⟨by simp,rfl⟩
def Tn{q w:aa}{rest:List Y}{A z:ab}(h:af q w m (Y.jr g n A E::Y.dk n z d::rest))(hd:d.Ok)(v:d.a.length<=1000000)(u:E.l.length<=1000000)(s:ag)(x:s.size<=1000000):
 Calls prog 276 #[pV g,ae s] w λ r b=>r=ao (O (df E d s:Int))/\∃f l,af q b m (Y.jr g n f (hS E d s)::Y.dk n l (hU E d s)::rest):=by
 have a:=Z h
 have t:ai (∀c,af q c m (Y.jr g n A E::Y.dk n z d::rest)->Calls prog 304 #[pV g,ae s] c λ r b=>r=ao (O (df E d s:Int))/\∃f l,af q b m (Y.jr g n f (hj E d s)::Y.dk n l (iv E d s)::rest)):=Z (λ c h=>Tp h hd v u s x)
 clear h hd v u x
 obtain⟨o,c⟩:∃o,df E d s=o:=⟨_,rfl⟩
 obtain⟨J,k⟩:∃J,hj E d s=J:=⟨_,rfl⟩
 obtain⟨D,j⟩:∃D,iv E d s=D:=⟨_,rfl⟩
 rw[c,k,j] at t
 by_cases p:o=0
 ·obtain⟨e1,e2⟩:=Tx (c.trans p)
  rw[e1,e2,k,j,c]
  subst p
  clear e1 e2 c k j
  go_enter func276,ntmps276
  go_wp2_with(first|refine Kl a ?_|refine KS a λ H a=>?_|go_at_call 304;(refine(t.U _ a.U).mono ?_);rintro e B ⟨rfl,f,l,r⟩;have b:=r.fZ;clear r;replace a:=Z b;clear b;obtain⟨pA,G,C,-⟩:=cF (show World.ownsRow _ 0 9 1 f J.l.length (aV J.l) from a.U.get (i:=1) rfl);subst C|go_at_call 96;(refine(Bc (a.U.get (i:=2) rfl)).mono ?_);rintro e B ⟨rfl,y⟩;have b:=a.U.at 2 rfl y;simp only[au,ay] at b;replace a:=Z b;clear b;clear y)
  go_ret
  exact⟨rfl,_,_,a.U.cr⟩
 ·obtain⟨e1,e2⟩:=Tw (by rw[c];exact p)
  rw[e1,e2,k,j,c]
  have F:((o:Int)==0)=false:=by rw[cc];omega
  clear e1 e2 c k j p
  go_enter func276,ntmps276
  go_wp2_with((go_at_call 304;(refine(t.U _ a.U).mono ?_);rintro e B ⟨rfl,f,l,b⟩;replace a:=Z b;clear b))
  go_ret
  exact⟨rfl,_,_,a.U⟩
