import Derived.Test.YtncpbkoinennoaaGreatDoorFY
import Derived.Test.YtncpbkoinennoaaGreatDoorMBD
import Derived.Test.YtncpbkoinennoaaGreatDoorMBK
import Derived.Test.YtncpbkoinennoaaGreatDoorMBL
set_option linter.all false
set_option maxRecDepth 100000
set_option maxHeartbeats 0
namespace Go.Proofs.YtncpbkoinennoaaGreatDoor
open Go.RowKit Proofs.Tryz
attribute [local irreducible] wpList Calls
variable{m:List Nat}{M:ME}{g n:Nat}
def tk.post{b a:aa}{e:Ending}(h:tk b m g n M e a):hI b m g M e a:=⟨_,h.1,h.2⟩
def Ci{y w:aa}{K:Nat}(P:TM m y)(h:aZ y w m g M)(I:M.aI K)(T:K<=50000)(x:AC):
 Calls prog 22 #[pV g,x.val] w (hI y m g (M.act x)):=by
 have s:=Z (λ c=>Mh x c)
 cases d:x.right with
 |false=>
  have e:M.act x=M:=by unfold ME.act;rw[aj (by rw[d];decide)]
  rw[e]
  rw[d] at s
  obtain⟨f,p,q,rfl,k,u,l⟩:=h
  have a:=Z l
  have t:=Z k
  obtain⟨r,n,R,L,Q⟩:=x
  clear P I T e l d k
  show Calls prog 22 #[pV f.g,aG #[O r,O n,O R,U (L:Int),ae Q]] w (hI y m f.g M)
  go_enter func22,ntmps22
  go_wp2_with(first|refine KT a 5 ?_|refine KB a 55 3 _ λ F b G a=>?_|go_at_call 65;refine KC a (s.U _) λ i a=>?_)
  go_ret
  exact⟨_,rfl,aZ.mk f p q t.U u a.U.tail⟩
 |true=>
  have S:=d
  rw[d] at s
  unfold AC.right at S
  simp only[cQ,dx] at S
  obtain⟨H,J,N,X,a0,a1,a2,a3⟩:=S
  have E:M.act x=if x.c=0 then(if M.aT x.a=true then M.tick x.a.toNat ((M.now+(1+x.n%8))%18446744073709551616) x.n else M) else if x.c=5 then M.leaf x.a x.s else if x.c=6 then(if M.aT x.a=true then M.bR x.a.toNat x.n else M) else if x.c=7 then(if M.aT x.a=true then M.renew x.a.toNat (x.n%6) else M) else if x.c=8 then(if M.aT x.a=true then M.feed x.a.toNat x.b x.s else M) else M.bW x.c x.a:=by
   unfold ME.act;rw[ax d]
  have z:=Z (λ(c:aa) (j:aZ y c m g M)=>US P j I x d)
  have o:=Z (λ(c:aa) (j:aZ y c m g M)=>(HQ P j I x N X).mono (λ e B h=>h.post))
  have A:=Z (λ(c:aa) (j:aZ y c m g M)=>UN j I x d)
  have B:=Z (λ(c:aa) (j:aZ y c m g M)=>UL P j I x d)
  have C:=Z (λ(c:aa) (j:aZ y c m g M)=>UQ P j I x d)
  have D:=Z (λ(c:aa) (j:aZ y c m g M)=>UM P j I x d)
  obtain⟨f,p,q,rfl,k,u,l⟩:=h
  have a:=Z l
  have t:=Z k
  obtain⟨r,n,R,L,Q⟩:=x
  simp only at H J E
  clear P I T l d k N X a0 a1 a2 a3
  have X:r=0\/r=1\/r=2\/r=3\/r=4\/r=5\/r=6\/r=7\/r=8:=by omega
  show Calls prog 22 #[pV f.g,aG #[O r,O n,O R,U (L:Int),ae Q]] w (hI y m f.g (ME.act M ⟨r,n,R,L,Q⟩))
  rw[E]
  clear E H J
  go_enter func22,ntmps22
  rcases X with rfl|rfl|rfl|rfl|rfl|rfl|rfl|rfl|rfl
  ·rw[ax rfl]
   simp only at z
   generalize k:(if ME.aT M n=true then ME.tick M n.toNat ((M.now+(1+L%8))%18446744073709551616) L else M)=H at*
   clear o A B C D k
   go_wp2_with(first|refine KT a 5 ?_|refine Kl a ?_|refine KB a 55 3 _ λ F b G a=>?_|(with_reducible show jw);(refine jj a.U rfl 9 rfl 130 rfl λ N b J d=>?_;replace a:=Z d;clear d)|refine KM a λ b a=>?_|(with_reducible show iq);(refine Lk a.U 0 rfl rfl mv rfl rfl rfl (v:= .func (.func 66) #[pV f.g] #[]) (by rw[aj zD];rfl) ?_)|go_at_call 65;refine KC a (s.U _) λ i a=>?_|go_at_call 66;(refine(z.U _ (aZ.mk f p q t.U u a.U.tail.tail)).mono ?_);intro e i l;obtain⟨E,rfl,c⟩:=l;clear a;have j:=Z c;clear c)
   go_ret
   exact⟨_,rfl,j.U⟩
  ·rw[aj zD,aj zD,aj zD,aj zD,aj zD]
   simp only at o
   generalize k:(ME.bW M 1 n)=H at*
   clear z A B C D k
   go_wp2_with(first|refine KT a 5 ?_|refine Kl a ?_|refine KB a 55 3 _ λ F b G a=>?_|(with_reducible show jw);(refine jj a.U rfl 9 rfl 130 rfl λ N b J d=>?_;replace a:=Z d;clear d)|refine KM a λ b a=>?_|(with_reducible show iq);(refine Lk a.U 0 rfl rfl mv rfl rfl rfl (v:= .func (.func 67) #[pV f.g] #[]) (by rw[aj zD];rfl) ?_)|go_at_call 65;refine KC a (s.U _) λ i a=>?_|go_at_call 67;(refine(o.U _ (aZ.mk f p q t.U u a.U.tail.tail)).mono ?_);intro e i l;obtain⟨E,rfl,c⟩:=l;clear a;have j:=Z c;clear c)
   go_ret
   exact⟨_,rfl,j.U⟩
  ·rw[aj zD,aj zD,aj zD,aj zD,aj zD]
   simp only at o
   generalize k:(ME.bW M 2 n)=H at*
   clear z A B C D k
   go_wp2_with(first|refine KT a 5 ?_|refine Kl a ?_|refine KB a 55 3 _ λ F b G a=>?_|(with_reducible show jw);(refine jj a.U rfl 9 rfl 130 rfl λ N b J d=>?_;replace a:=Z d;clear d)|refine KM a λ b a=>?_|(with_reducible show iq);(refine Lk a.U 0 rfl rfl mv rfl rfl rfl (v:= .func (.func 67) #[pV f.g] #[]) (by rw[aj zD];rfl) ?_)|go_at_call 65;refine KC a (s.U _) λ i a=>?_|go_at_call 67;(refine(o.U _ (aZ.mk f p q t.U u a.U.tail.tail)).mono ?_);intro e i l;obtain⟨E,rfl,c⟩:=l;clear a;have j:=Z c;clear c)
   go_ret
   exact⟨_,rfl,j.U⟩
  ·rw[aj zD,aj zD,aj zD,aj zD,aj zD]
   simp only at o
   generalize k:(ME.bW M 3 n)=H at*
   clear z A B C D k
   go_wp2_with(first|refine KT a 5 ?_|refine Kl a ?_|refine KB a 55 3 _ λ F b G a=>?_|(with_reducible show jw);(refine jj a.U rfl 9 rfl 130 rfl λ N b J d=>?_;replace a:=Z d;clear d)|refine KM a λ b a=>?_|(with_reducible show iq);(refine Lk a.U 0 rfl rfl mv rfl rfl rfl (v:= .func (.func 67) #[pV f.g] #[]) (by rw[aj zD];rfl) ?_)|go_at_call 65;refine KC a (s.U _) λ i a=>?_|go_at_call 67;(refine(o.U _ (aZ.mk f p q t.U u a.U.tail.tail)).mono ?_);intro e i l;obtain⟨E,rfl,c⟩:=l;clear a;have j:=Z c;clear c)
   go_ret
   exact⟨_,rfl,j.U⟩
  ·rw[aj zD,aj zD,aj zD,aj zD,aj zD]
   simp only at o
   generalize k:(ME.bW M 4 n)=H at*
   clear z A B C D k
   go_wp2_with(first|refine KT a 5 ?_|refine Kl a ?_|refine KB a 55 3 _ λ F b G a=>?_|(with_reducible show jw);(refine jj a.U rfl 9 rfl 130 rfl λ N b J d=>?_;replace a:=Z d;clear d)|refine KM a λ b a=>?_|(with_reducible show iq);(refine Lk a.U 0 rfl rfl mv rfl rfl rfl (v:= .func (.func 67) #[pV f.g] #[]) (by rw[aj zD];rfl) ?_)|go_at_call 65;refine KC a (s.U _) λ i a=>?_|go_at_call 67;(refine(o.U _ (aZ.mk f p q t.U u a.U.tail.tail)).mono ?_);intro e i l;obtain⟨E,rfl,c⟩:=l;clear a;have j:=Z c;clear c)
   go_ret
   exact⟨_,rfl,j.U⟩
  ·rw[aj zD,ax rfl]
   simp only at A
   generalize k:(ME.leaf M n Q)=H at*
   clear z o B C D k
   go_wp2_with(first|refine KT a 5 ?_|refine Kl a ?_|refine KB a 55 3 _ λ F b G a=>?_|(with_reducible show jw);(refine jj a.U rfl 9 rfl 130 rfl λ N b J d=>?_;replace a:=Z d;clear d)|refine KM a λ b a=>?_|(with_reducible show iq);(refine Lk a.U 0 rfl rfl mv rfl rfl rfl (v:= .func (.func 68) #[pV f.g] #[]) (by rw[aj zD];rfl) ?_)|go_at_call 65;refine KC a (s.U _) λ i a=>?_|go_at_call 68;(refine(A.U _ (aZ.mk f p q t.U u a.U.tail.tail)).mono ?_);intro e i l;obtain⟨E,rfl,c⟩:=l;clear a;have j:=Z c;clear c)
   go_ret
   exact⟨_,rfl,j.U⟩
  ·rw[aj zD,aj zD,ax rfl]
   simp only at B
   generalize k:(if ME.aT M n=true then ME.bR M n.toNat L else M)=H at*
   clear z o A C D k
   go_wp2_with(first|refine KT a 5 ?_|refine Kl a ?_|refine KB a 55 3 _ λ F b G a=>?_|(with_reducible show jw);(refine jj a.U rfl 9 rfl 130 rfl λ N b J d=>?_;replace a:=Z d;clear d)|refine KM a λ b a=>?_|(with_reducible show iq);(refine Lk a.U 0 rfl rfl mv rfl rfl rfl (v:= .func (.func 69) #[pV f.g] #[]) (by rw[aj zD];rfl) ?_)|go_at_call 65;refine KC a (s.U _) λ i a=>?_|go_at_call 69;(refine(B.U _ (aZ.mk f p q t.U u a.U.tail.tail)).mono ?_);intro e i l;obtain⟨E,rfl,c⟩:=l;clear a;have j:=Z c;clear c)
   go_ret
   exact⟨_,rfl,j.U⟩
  ·rw[aj zD,aj zD,aj zD,ax rfl]
   simp only at C
   generalize k:(if ME.aT M n=true then ME.renew M n.toNat (L%6) else M)=H at*
   clear z o A B D k
   go_wp2_with(first|refine KT a 5 ?_|refine Kl a ?_|refine KB a 55 3 _ λ F b G a=>?_|(with_reducible show jw);(refine jj a.U rfl 9 rfl 130 rfl λ N b J d=>?_;replace a:=Z d;clear d)|refine KM a λ b a=>?_|(with_reducible show iq);(refine Lk a.U 0 rfl rfl mv rfl rfl rfl (v:= .func (.func 70) #[pV f.g] #[]) (by rw[aj zD];rfl) ?_)|go_at_call 65;refine KC a (s.U _) λ i a=>?_|go_at_call 70;(refine(C.U _ (aZ.mk f p q t.U u a.U.tail.tail)).mono ?_);intro e i l;obtain⟨E,rfl,c⟩:=l;clear a;have j:=Z c;clear c)
   go_ret
   exact⟨_,rfl,j.U⟩
  ·rw[aj zD,aj zD,aj zD,aj zD,ax rfl]
   simp only at D
   generalize k:(if ME.aT M n=true then ME.feed M n.toNat R Q else M)=H at*
   clear z o A B C k
   go_wp2_with(first|refine KT a 5 ?_|refine Kl a ?_|refine KB a 55 3 _ λ F b G a=>?_|(with_reducible show jw);(refine jj a.U rfl 9 rfl 130 rfl λ N b J d=>?_;replace a:=Z d;clear d)|refine KM a λ b a=>?_|(with_reducible show iq);(refine Lk a.U 0 rfl rfl mv rfl rfl rfl (v:= .func (.func 71) #[pV f.g] #[]) (by rw[aj zD];rfl) ?_)|go_at_call 65;refine KC a (s.U _) λ i a=>?_|go_at_call 71;(refine(D.U _ (aZ.mk f p q t.U u a.U.tail.tail)).mono ?_);intro e i l;obtain⟨E,rfl,c⟩:=l;clear a;have j:=Z c;clear c)
   go_ret
   exact⟨_,rfl,j.U⟩
variable{C:CF}
def Vr(a:C.bL):(cE C 100000).aI C 0:=ND.aI.Fl a ⟨bh _,by decide⟩ rfl (Fm C)
def Vq(b:ag)(c:C.bL)(e:C.bG=1)(d:C.key=(fp b).pub):(iU b C).aI 0:=
 ⟨c,e,d,Ct b,rfl,λ p a=>by
  have:p=⟨cE C 100000,[]⟩:=by
   rcases bV.1 a with h|h
   ·exact h
   ·exact ot.1 h
  rw[this]
  exact⟨Vr c,bh _,λ s f=>by cases f⟩,bh _,(λ p a=>by cases a),(show(0:Nat)<18446744073709551616 by decide)⟩
def ME.aI.round{K:Nat}{m:ME}(h:m.aI K)(b:K<=40000):m.round.aI (K+202):=by
 unfold ME.round;rw[h.two];have a:=ME.aI.ja (i:=0) [0,1] h (by show K+2<=50000;omega) zS;exact ME.aI.eO 200 a (by show K+2+200<=50000;omega)
def Wp:I2.bL:=⟨by decide,by decide,by decide,by decide,by decide,by decide,by decide,by decide⟩
def I0{a:ag}(h:a.size=32):(jJ a).bL:=⟨h,(show(1:Nat)<=63 by decide),(show(1:Nat)<=4 by decide),(show(4:Nat)<=16 by decide),(show(1:Nat)<=1 by decide),(show(1:Nat)<=1099511627776 by decide),(show(1:Nat)<=3 by decide),(show(3:Nat)<=1099511627776 by decide),Wp⟩
open FX (rounds)
def XN:FX.jK=mF ⟨#[116,111,112]⟩:=by kernel_rfl
def BA(a:Array ab){v:ab}(b:a[6]?=some v)(w:aa):(Instr.field 62 (aG a) 3).run prog w= .ok v w:=by
 simp[Instr.field,fN underlying62,asAgg,part,isAgg,fN dO,b,Result.andThen]
def J7(s:ag):(mF s).size=32:=rfl
def I1{b w:aa}(c:TM m b)(h:af b w m [])(a:ag)(d:a.size=32):
 Calls prog 19 #[A8 a] w λ r e=>∃g,r=ao (aJ #[pV g,O 0])/\aZ b e m g (iU a (jJ (fp a).pub)):=
 UP c h a d (jJ (fp a).pub) (I0 (Ct a).pub) rfl rfl
def I4(a:ag):(iU a (jJ (fp a).pub)).aI 0:=Vq a (I0 (Ct a).pub) rfl rfl
def QC{w:aa}(b5:bQ w):CB 18 #[] w (aF true):=by
 have l:ai (TM [] w):=Z ⟨b5,λ k c=>by cases c⟩;have b:=Z (af.start w []);have G:ai (∀a,CB 20 #[ae ⟨#[116,111,112]⟩,O 2] a (A8 (mF ⟨#[116,111,112]⟩))):=Z (λ a=>I3 ⟨#[116,111,112]⟩ a);have R:=J7 ⟨#[116,111,112]⟩;have o:=I4 (mF ⟨#[116,111,112]⟩);have H:=FX.QD;obtain⟨n,N⟩:∃n,mF ⟨#[116,111,112]⟩=n:=⟨_,rfl⟩;have c1:FX.jK=n:=XN.trans N;rw[N] at G R o;rw[c1] at H;have b0:=Z (λ(a:aa) (c:af w a [] [])=>I1 l.U c n R);generalize iU n (jJ (fp n).pub)=m0 at*;have c4:=Z o;have b6:=(o.act zD ⟨5,0,0,0,⟨#[97]⟩⟩).act zD ⟨5,1,0,0,⟨#[98]⟩⟩;have a1:ai (∀(a:aa) (g:Nat),aZ w a [] g m0->Calls prog 22 #[pV g,aG #[O 5,O 0,O 0,U 0,ae ⟨#[97]⟩]] a (hI w [] g (m0.act ⟨5,0,0,0,⟨#[97]⟩⟩))):=Z (λ(a:aa) (g:Nat) (c:aZ w a [] g m0)=>Ci l.U c o zD ⟨5,0,0,0,⟨#[97]⟩⟩);have a2:ai (∀(a:aa) (g:Nat),aZ w a [] g (m0.act ⟨5,0,0,0,⟨#[97]⟩⟩)->Calls prog 22 #[pV g,aG #[O 5,O 1,O 0,U 0,ae ⟨#[98]⟩]] a (hI w [] g ((m0.act ⟨5,0,0,0,⟨#[97]⟩⟩).act ⟨5,1,0,0,⟨#[98]⟩⟩))):=Z (λ(a:aa) (g:Nat) (c:aZ w a [] g (m0.act ⟨5,0,0,0,⟨#[97]⟩⟩))=>Ci l.U c (o.act zD _) zD ⟨5,1,0,0,⟨#[98]⟩⟩);generalize m0.act ⟨5,0,0,0,⟨#[97]⟩⟩=m1 at*;generalize m1.act ⟨5,1,0,0,⟨#[98]⟩⟩=m2 at*;have b2:=Z (λ(a:aa) (g K:Nat) (m:ME) (c:aZ w a [] g m) (d:m.aI K) (e:K<=40000)=>UR l.U c d e);have a4:ai (m2.aI 2):=Z b6;have a3:=Z H
 go_enter func18,ntmps18
 go_upto_region 4 with(first|go_at_call 20;refine KC b (G.U _) λ f b=>?_|go_at_call 19;(refine(b0.U _ b.U).mono ?_);rintro e f ⟨g,rfl,r⟩;have h:=Z r)
 go_upto_region 6 with((go_at_call 22;(first|(refine(a1.U _ _ h.U).mono ?_)|(refine(a2.U _ _ h.U).mono ?_));intro e f D;obtain⟨E,rfl,r⟩:=D;have h:=Z r))
 go_wp2
 go_loopw [3] (λ d wr=>∃(j:Nat),j<=4/\d=O (j:Int)/\ai ((rounds j m2).aI (2+202*j))/\ai (aZ w wr [] g (rounds j m2))) (λ d _=>4-(intOf d).toNat)
 case atStart=>exact⟨0,bh _,rfl,a4,h⟩
 case round=>
  obtain⟨j,c7,rfl,y,h⟩:=hrel;by_cases J:j<4
  ·have d1:decide (j<4)=true:=aS J;have d2:decide ((j:Int)<4)=true:=aS W;have T:=Z (λ(a:aa) (c:aZ w a [] g (rounds j m2))=>b2.U a g _ _ c y.U W);have a5:ai ((rounds (j+1) m2).aI (2+202*(j+1))):=Z (y.U.round W);have F:=Z J
   go_wp2_with((go_at_call 60;(refine(T.U _ h.U).mono ?_);intro e f D;obtain⟨rfl,r⟩:=D;have a6:=Z r))
   exact⟨⟨j+1,by have:=F.U;omega,by go_num,a5,a6⟩,by have:=F.U;simp[intOf];omega⟩
  ·obtain rfl:j=4:=by omega
   obtain⟨p,q,f1,f2,f3,f4⟩:=a3.U;obtain⟨M,c2,c3,I,c8,m,L⟩:=h.U;have c0:[c2,c3]=[p,q]:=m.symm.trans f1;cases c0
   have z:=y.U;have b7:=(z.pl p (by rw[m];simp)).n;have b8:=(z.pl q (by rw[m];simp)).n;have b9:(rounds 4 m2).b.length=0:=f2;obtain⟨u,v,C,-⟩:=cF (show World.ownsRow _ 0 210 3 M.a (rounds 4 m2).b.length (bB (rounds 4 m2).b) from L.get (i:=1) rfl);rw[b9] at C;obtain⟨k,t,s,x,d0,P,Q,S⟩:=M;simp only at I C;subst I C;have b1:=Z (λ(a:aa) (d:(Y.row k 126 ((rounds 4 m2).cells x (ad (some ⟨t,0,none⟩) 2 s) (ad u 0 v))).P a)=>HR d);have a7:ai (∀a,af w a [] (oU ⟨k,t,s,x,ad u 0 v,P,Q,S⟩ (rounds 4 m2) p q)->CB 23 #[pV k,O 0] a (pV P.a.g)):=Z (λ a c=>Cj m c 0 zD);have a8:ai (∀a,af w a [] (oU ⟨k,t,s,x,ad u 0 v,P,Q,S⟩ (rounds 4 m2) p q)->CB 23 #[pV k,O 1] a (pV Q.a.g)):=Z (λ a c=>Cj m c 1 zD);have b3:=Z (λ(a:aa) (d:(Y.aQ P.a P.x p.n).P a)=>uj d b7.ok.o);have b4:=Z (λ(a:aa) (d:(Y.aQ Q.a Q.x q.n).P a)=>uj d b8.ok.o);have c9:=z.k.pub;have X:ai (∀a,bQ a->CB 61 #[ae (rounds 4 m2).k.pub,ae p.n.st.aM] a (aF true)):=Z (λ a c=>by have:=Bv c (rounds 4 m2).k.pub p.n.st.aM W;rw[f3] at this;exact this);have a0:ai (∀a,bQ a->CB 61 #[ae (rounds 4 m2).k.pub,ae q.n.st.aM] a (aF true)):=Z (λ a c=>by have:=Bv c (rounds 4 m2).k.pub q.n.st.aM W;rw[f4] at this;exact this);have a9:=Z (λ(a:aa) (d:(Y.row k 126 ((rounds 4 m2).cells x (ad (some ⟨t,0,none⟩) 2 s) (ad u 0 v))).P a)=>UO d);have c5:∀a A c,(Instr.field 62 (p.n.st.val (ad A p.n.st.f.length c)) 3).run prog a= .ok (ae p.n.st.aM) a:=λ a A c=>BA _ rfl a;have c6:∀a A c,(Instr.field 62 (q.n.st.val (ad A q.n.st.f.length c)) 3).run prog a= .ok (ae q.n.st.aM) a:=λ a A c=>BA _ rfl a;have b:=Z L;generalize rounds 4 m2=m4 at*
   go_wp2_with(first|(go_at_call 23;(first|(refine(a7.U _ b.U).mono ?_)|(refine(a8.U _ b.U).mono ?_));rintro e f ⟨rfl,a⟩;replace b:=Z (b.U.below a))|go_at_call 27;refine KC b (b1.U _ (b.U.get (i:=0) rfl)) λ f b=>?_|(go_at_call 24;(first|(refine(b3.U _ (b.U.get (i:=3) rfl)).mono ?_)|(refine(b4.U _ (b.U.get (i:=6) rfl)).mono ?_));rintro e f ⟨A,c,rfl,a⟩;replace b:=Z (b.U.below a))|(go_at_call 61;(first|(refine(X.U _ (l.U.at b.U)).mono ?_)|(refine(a0.U _ (l.U.at b.U)).mono ?_));rintro e f ⟨rfl,a⟩;replace b:=Z (b.U.below a))|go_at_call 62;(refine(a9.U _ (b.U.get (i:=0) rfl)).mono ?_);rintro e f ⟨B,d,rfl,a⟩;replace b:=Z (b.U.below a))
   go_ret
   exact⟨rfl,b.U.ak⟩
variable{J:Y}{I:List Y}{A:Option Addr}
def af.Xc{w wr:aa}(h:af w wr [] I):af wr wr (blocks I) I/\∀k∈blocks I,w.heap.size<=k:=
 ⟨⟨aR.refl _ _ _,h.ok,λ k a=> .inl a,h.b⟩,λ k a=>(h.own k a).resolve_left (λ b=>by cases b)⟩
def aZ.only{a w:aa}{b:List Nat}{g:Nat}{m:ME}(h:aZ a w b g m):aR a.heap.size b a w:=by
 obtain⟨M,p,q,-,-,-,c⟩:=h;exact c.only
def VM{B:Nat}{w a:aa}(h:aR B m w a)(d:∀k∈m,g<=k)(b:g<=B):Below g w a:=(h.mono b (λ k e c=>c)).below d
def V7{w a:aa}(h:J.P w)(c:aR w.heap.size m w a)(hd:∀k∈J.bs,k∉m):J.P a:=J.st w a (λ k b=>c.block k (J.lt w h k b) (hd k b)) h
def Mn{w:aa}{B:Option Addr}{T:List AC}(h:(Y.ow 55 5 (ad B T.length g) T.length (eK T).flatten).P w)(b:T.length<=14):bD 5 w (ad B T.length g) (eK T):=
 qL (e:=55) (λ x hx=>by
  obtain⟨a,-,rfl⟩:=ep.1 hx
  rfl) (by rw[oG];exact h) (by rw[oG];unfold maxLen;omega)
abbrev iP(a:ag):CF:=⟨a,1,1,9,9,⟨1,1,0,1,1⟩⟩
def N2{a:ag}(h:a.size=32):(iP a).bL:=⟨h,(show(1:Nat)<=63 by decide),(show(1:Nat)<=1 by decide),(show(1:Nat)<=16 by decide),(show(1:Nat)<=9 by decide),(show(9:Nat)<=1099511627776 by decide),(show(1:Nat)<=9 by decide),(show(9:Nat)<=1099511627776 by decide),⟨(show(1:Nat)<=1 by decide),(show(1:Nat)<=1 by decide),(show(1:Nat)<=1099511627776 by decide),(show(0:Nat)<=1099511627776 by decide),(show(1:Nat)<=1 by decide),(show(1:Nat)<=1000 by decide),(show(1:Nat)<=1 by decide),(show(1:Nat)<=10000 by decide)⟩⟩
def Zu{w:aa}(d7:bQ w)(c4:ag){L:List AC}(f4:bD 5 w (ad A L.length g) (eK L))(g3:L.length<=maxLen)(X:Nat)(K:X<65536):
 CB 4 #[ae c4,ad A L.length g,.int .u16 (X:Int)] w (aF true):=by
 have f3:ai (TM [] w):=Z ⟨d7,λ k K=>by cases K⟩
 have c:=d7.a.lt
 have m:=Z (af.start w [])
 have n:=Z (λ l=>I3 c4 l)
 have b:=J7 c4
 have a:=I4 (mF c4)
 obtain⟨c3,f⟩:∃c3,mF c4=c3:=⟨_,rfl⟩
 rw[f] at n b a
 have x:=Z (λ(l:aa) (C:af w l [] [])=>I1 f3.U C c3 b)
 generalize iU c3 (jJ (fp c3).pub)=m0 at*
 have t:=Z (λ(l:aa) (u:BW w l)=>Mm (f4.below u) g3)
 have e:(L.take 14).length<=14:=by rw[ee];omega
 generalize L.take 14=T at*
 have c8:=Z e
 have d:=Z a
 have i5:=Z c
 have e9:ai (X<65536):=Z K
 have k8:IntKind.wrap .i64 (X:Int)=(X:Int):=by rw[fS]<;>omega
 clear d7 c b a f f4 g3 e K
 go_enter func4,ntmps4
 go_upto_region 4 with(first|go_at_call 20;refine KC m (n.U _) λ y m=>?_|go_at_call 19;(refine(x.U _ m.U).mono ?_);rintro e y ⟨a1,rfl,b6⟩;clear m;have h:=Z b6;clear b6)
 go_upto_region 5 with((go_at_call 21;(refine(t.U _ (by obtain⟨M,p,q,b5,a4,S,F⟩:=h.U;exact F.ak)).mono ?_);rintro e y ⟨B,c,rfl,C⟩;have z:=Z C;clear C))
 obtain⟨M,p,q,b5,a4,S,F⟩:=h.U
 have a:af w y [] (Y.ow 55 5 (ad B T.length c) T.length (eK T).flatten::oU M m0 p q):=F.plus z.U
 obtain⟨r,o⟩:=(af.tail a).Xc
 have b:=a.ak
 have j:=a.get (i:=0) rfl
 have f:=a.b
 rw[fD] at f
 have G:∀k∈(Y.ow 55 5 (ad B T.length c) T.length (eK T).flatten).bs,k∉blocks (oU M m0 p q):=λ k K v=>(lL.1 f).2.2 k K k v rfl
 clear f
 generalize H:blocks (oU M m0 p q)=b9 at*
 obtain⟨R,g9⟩:∃R,R=y:=⟨_,rfl⟩
 rw[<-g9] at r b j
 have E:TM b9 R:=⟨f3.U.a.below b,λ k K=>by have:=o k K;have:=i5.U;omega⟩
 have c7:=Z E
 have f:ai (aZ R R b9 a1 m0):=Z ⟨M,p,q,b5,a4,S,r⟩
 have v:ai (∀l,aR R.heap.size b9 R l->bD 5 l (ad B T.length c) (eK T)):=Z (λ l a5=>Mn (V7 j a5 G) c8.U)
 have d6:=Z o
 have c6:=Z b
 clear a r o j G H E F S a4 b5 b h z
 subst g9
 go_wp2
 go_loopw [10] (λ a wr=>∃(j:Nat) (a7:ME),j<=T.length/\a=O (j:Int)/\ai (a7.aI j)/\ai (aZ R wr b9 a1 a7)) (λ a _=>T.length-(intOf a).toNat)
 case atStart=>exact⟨0,m0,bh _,rfl,d,f⟩
 case round=>
  obtain⟨j,a7,h,rfl,a8,a9⟩:=hrel
  by_cases a:j<T.length
  ·obtain⟨bb,o,j9,hx⟩:=EY (v.U _ a9.U.only) a
   subst j9
   obtain⟨⟨i2,i0,i1,i3,i4⟩,b⟩:∃z,T[j]=z:=⟨_,rfl⟩
   rw[b] at hx
   have j7:=Z hx;have f0:=Z a
   have d1:decide (j<T.length)=true:=aS a
   have d2:decide ((j:Int)<(T.length:Int))=true:=aS W
   have k9:(0:Int)<=(j:Int):=by omega
   have l0:(j:Int)<(T.length:Int):=by omega
   have l1:(j:Int)<=14:=by have:=c8.U;omega
   have j0:=Z (λ(l:aa) (C:aZ R l b9 a1 a7)=>Ci c7.U C a8.U (by have:=c8.U;omega) ⟨i2,i0,i1,i3,i4⟩)
   have j2:ai ((a7.act ⟨i2,i0,i1,i3,i4⟩).aI (j+1)):=Z (a8.U.act (by have:=c8.U;omega) _)
   clear hx b a h f d
   go_wp2_with(first|refine dX rfl 55 5 rfl rfl j7.U rfl V ?_|go_at_call 22;(refine(j0.U _ a9.U).mono ?_);intro e y b7;obtain⟨E,rfl,b6⟩:=b7;have j3:=Z b6;clear b6)
   exact⟨⟨j+1,_,by have:=f0.U;omega,by go_num,j2,j3⟩,by have:=f0.U;simp[intOf];omega⟩
  ·obtain rfl:j=T.length:=by omega
   have d1:decide (T.length<T.length)=false:=bu (vA _)
   clear a f d v t x n
   obtain⟨M,p,q,b5,a4,S,F⟩:=a9.U
   subst b5
   have b2:=a8.U
   have d5:=(b2.pl p (by rw[S];simp)).n
   have d4:=d5.kg
   rw[b2.key] at d4
   have m:=Z (af.start wr [])
   have b0:ai (TM [] wr):=Z ⟨c7.U.at F,λ k K=>by cases K⟩
   have f1:ai (∀l,BW wr l->CB 23 #[pV M.g,O 0] l (pV M.p.a.g)):=Z (λ l u=>Cj S (F.below u) 0 zD)
   have h:=λ(l:aa) (u:BW wr l)=>uj (Y.lift _ (F.get (i:=3) rfl) u) d5.ok.o
   have j5:=Z (λ(l:aa) (u:BW wr l)=>HR (Y.lift _ (F.get (i:=0) rfl) u))
   have e8:=Z (λ(l:aa) (u:BW wr l)=>QC (b0.U.a.below u))
   have e0:BW w wr:=c6.U.trans (VM F.only d6.U c6.U.size)
   have c5:=Z e0
   have e3:=b2.k.pub
   have k7:∀l (a b c d e f v:ab),(Instr.field 62 (aG #[a,b,c,d,e,f,v]) 3).run prog l= .ok v l:=λ l a b c d e f v=>BA _ rfl l
   generalize a7.k.pub=v at*
   generalize d0:p.n.st.aM=a0 at*
   have f2:ai (∀(l:aa),BW wr l->Calls prog 24 #[pV M.p.a.g,O 0] l λ r d=>∃A c a6 z t c1 s1 n,r=ao (aG #[aF a6,U z,U t,ae c1,ae s1,ad A n c,ae a0])/\BW l d):=Z (λ l u=>(h l u).mono (by
    rintro e d ⟨A,c,I,P⟩
    refine⟨A,c,p.n.st.aT,(p.n.st.ar.size:Int),(p.n.st.ar.time:Int),p.n.st.ar.aE,p.n.st.ar.a,p.n.st.f.length,?_,P⟩
    rw[I,<-d0]))
   clear h
   have e2:Eg v a0:=by rw[<-d0];exact d4.aM
   have g0:=gn a0
   by_cases b3:a0=⟨#[]⟩
   ·rw[aS b3] at g0
    clear b3 e2 d4 e3 d5 b2 F S a4 d0 e0 c6 c7 d6 a8 a9
    go_wp2_with(first|go_at_call 23;refine KC m (f1.U _ m.U.ak) λ y m=>?_|go_at_call 24;(refine(f2.U _ m.U.ak).mono ?_);rintro e y ⟨j8,k5,k2,z0,t0,k4,s0,k3,rfl,u⟩;replace m:=Z (m.U.below u);clear u|go_at_call 18;refine KC m (e8.U _ m.U.ak) λ y m=>?_)
    go_ret
    exact⟨rfl,c5.U.trans (m.U.ak.mono c5.U.size)⟩
   ·obtain⟨b,d3,a5,f5,u⟩:=e2.resolve_left b3
    rw[bu b3] at g0
    have b8:=xz a5
    have e1:=Bf (rN b8) b8
    have b4:(iP v).bL:=N2 e3
    obtain⟨e5,N⟩:=Zn b4 rfl a5 f5 u
    have g8:(cj b).Ok:=(ny (I7 (rN b8) a5 b8)).1
    rw[<-d3] at e1
    have d8:=N.aM
    rw[<-d3] at d8
    obtain⟨Q,f6,d9,g7⟩:=N.back
    rw[<-d3] at d9
    obtain⟨E,c9⟩:∃E,(cj b).enc=E:=⟨_,rfl⟩
    have e7:ai (∀l,Calls prog 25 #[ae a0] l λ r d=>∃pA a3,r=ao (aJ #[b.val (ad pA b.e.length a3),O 0])/\bg d (ad pA b.e.length a3) b.e/\(∀k∈(Y.sr (ad pA b.e.length a3) b.e).bs,l.heap.size<=k)/\BW l d):=Z (λ l=>(Be e1 l).mono (by
     rintro e d ⟨c0,rfl,F,k0,u⟩
     obtain⟨pA,a3,rfl⟩:=F.form
     exact⟨pA,a3,rfl,F,k0,u⟩))
    have j1:ai (∀l c0,bQ l->bg l c0 b.e->CB 30 #[(cj b).val c0 (ad none 0 0) (ad none 0 0)] l (ae E)):=Z (λ l c0 f h=>by rw[<-c9];exact qG (cj b) g8 c0 (ad none 0 0) (ad none 0 0) l f.a f.aT (I9 b h))
    have i9:ai (∀(l:aa) (k:List Y),af wr l [] k->Calls prog 26 #[O 10000] l λ r d=>∃a1,r=ao (aJ #[pV a1,O 0])/\l.heap.size<=a1/\af wr d [] (Y.dk a1 (ad none 0 0) dT::k)):=Z (λ l k C=>F0 C 10000 zD)
    have f9:dT.Ok:=⟨bh _,by decide⟩
    have g1:(eA dT).l.length<=100000:=by
     have I:5*(eA dT).l.length<=0:=sq dT
     omega
    have g2:(eA ((cE (iP v) 10000).dU 0 (cj b).enc).d).l.length<=100000:=by
     have I:=sq ((cE (iP v) 10000).dU 0 (cj b).enc).d
     have P:=N.still.fit
     have f:=N.room
     omega
    have g4:(cE (iP v) 10000).Ok:=AV (s:=fj) (J:=⟨[],0,false⟩) (D:=dT) b4 (yM _) (bh _) ⟨bh _,by decide,rfl⟩
    have f7:=Np (iP v)
    have f8:=Oo N.still (X:Int)
    have k1:=N.ok
    have e4:=N.still
    have g5:=N.bq
    have g6:=N.f
    rw[c9] at e5
    have j4:ai (∀(l:aa) (k:List Y) (a:NA) (x:NV) (H:ab),af wr l [] (Y.aQ a x (cE (iP v) 10000)::Y.dk a.a H (cE (iP v) 10000).d::k)->Calls prog 29 #[pV a.g,O 0,ae E] l λ e d=>∃b1 c2 e6 a2,e=ao (ad b1 0 c2)/\af wr d [] (Y.so (ad b1 0 c2) []::Y.aQ a e6 ((cE (iP v) 10000).dU 0 (cj b).enc)::Y.dk a.a a2 ((cE (iP v) 10000).dU 0 (cj b).enc).d::k)):=Z (λ l k a x H C=>(qO b0.U C g4 rfl 0 E).mono (by
     rintro e d ⟨b1,c2,e6,a2,I,P⟩
     rw[e5] at I P
     rw[c9]
     exact⟨b1,c2,e6,a2,I,P⟩))
    generalize(cE (iP v) 10000).dU 0 (cj b).enc=G at*
    have i8:=Z (λ(l:aa) (f:Nat) (H:ab) (hd:(Y.dk f H G.d).P l)=>(by have:=Bb hd e4.cd (X:Int) (by have:=e9.U;omega) (by have:=e9.U;omega);rw[f8] at this;exact this:Calls prog 31 #[pV f,O (X:Int)] l λ r d=>r=ao (aJ #[])/\bj (Y.dk f H G.d) l d (Y.dk f (ad none 0 0) G.d)))
    have i6:ai (∀(l:aa) (q f:Nat) (H:ab) (k:List Y),Y.row q 9 [ae v]∈k->af wr l [] (Y.dk f H dT::k)->Calls prog 28 #[aG #[ad (some ⟨q,0,none⟩) 1 1,O 1,O 1,U 9,U 9,U 1,U 1,U 0,O 1,O 1],pV f] l λ e d=>∃a x a2,e=ao (aJ #[pV a.g,O 0])/\a.a=f/\af wr d [] (Y.aQ a x (cE (iP v) 10000)::Y.dk f a2 (cE (iP v) 10000).d::k)):=Z (λ l q f H k C h=>(tF b0.U C h b4 f9 g1).mono (λ e d b7=>b7.1 _ f7))
    have i7:ai (∀(l:aa) (q f:Nat) (H:ab) (k:List Y),Y.row q 9 [ae v]∈k->af wr l [] (Y.dk f H G.d::k)->Calls prog 28 #[aG #[ad (some ⟨q,0,none⟩) 1 1,O 1,O 1,U 9,U 9,U 1,U 1,U 0,O 1,O 1],pV f] l λ e d=>∃a x a2,e=ao (aJ #[pV a.g,O 0])/\a.a=f/\af wr d [] (Y.aQ a x Q::Y.dk f a2 Q.d::k)):=Z (λ l q f H k C h=>(tF b0.U C h b4 e4.ok g2).mono (λ e d b7=>b7.1 _ f6))
    generalize cE (iP v) 10000=k6 at*
    have H:ai (∀(l:aa) (a:NA) (x:NV),(Y.aQ a x G).P l->Calls prog 24 #[pV a.g,O 0] l λ r d=>∃A c a6 z t c1 s1 n,r=ao (aG #[aF a6,U z,U t,ae c1,ae s1,ad A n c,ae a0])/\BW l d):=Z (λ l a x C=>(uj C (by rw[g6];exact bh _)).mono (by
     rintro e d ⟨A,c,I,P⟩
     refine⟨A,c,G.st.aT,(G.st.ar.size:Int),(G.st.ar.time:Int),G.st.ar.aE,G.st.ar.a,G.st.f.length,?_,P⟩
     rw[I,<-d8]))
    have j6:ai (∀(l:aa) (a:NA) (x:NV),(Y.aQ a x Q).P l->Calls prog 24 #[pV a.g,O 0] l λ r d=>∃A c a6 z t c1 s1 n,r=ao (aG #[aF a6,U z,U t,ae c1,ae s1,ad A n c,ae a0])/\BW l d):=Z (λ l a x C=>(uj C (by rw[g7];exact bh _)).mono (by
     rintro e d ⟨A,c,I,P⟩
     refine⟨A,c,Q.st.aT,(Q.st.ar.size:Int),(Q.st.ar.time:Int),Q.st.ar.aE,Q.st.ar.a,Q.st.f.length,?_,P⟩
     rw[I,<-d9]))
    have n:ai (∀(l:aa) (a:NA) (x:NV),(Y.aQ a x G).P l->CB 32 #[pV a.g] l (U 0)):=Z (λ l a x C=>by have:=Vl (jz C);rw[g5] at this;exact this)
    clear b3 e2 d4 e3 d5 b2 F S a4 d0 e0 c6 c7 d6 a8 a9 d3 a5 f5 u b8 e1 b4 e5 N g8 d8 f6 d9 g7 c9 f9 g1 g2 g4 f7 f8 k1 e4 g5 g6
    generalize b.e.length=r at*
    obtain⟨⟨F,N,S,a4⟩,⟨a8,a9,b2,b3⟩,t⟩:=b
    simp only at e7
    go_upto_region 15 with(first|refine KS m λ h m=>?_|refine KA m _ 12 eW λ b4 h d0 m=>?_|go_at_call 23;refine KC m (f1.U _ m.U.ak) λ y m=>?_|go_at_call 24;(refine(f2.U _ m.U.ak).mono ?_);rintro e y ⟨j8,k5,k2,z0,t0,k4,s0,k3,rfl,u⟩;replace m:=Z (m.U.below u);clear u|go_at_call 25;(refine(e7.U _).mono ?_);rintro e y ⟨pA,a3,rfl,l,k,u⟩;replace m:=Z (m.U.join u (Y.sr (ad pA r a3) t) l k);clear u l k)
    go_upto_region 18 with((go_at_call 26;(refine(i9.U _ _ m.U).mono ?_);rintro e y ⟨f,rfl,c6,a⟩;replace m:=Z a;clear a))
    go_upto_region 22 with(first|refine KT m 10 ?_|refine KS m λ h m=>?_|refine KA m _ 16 LB λ b8 h d3 m=>?_|(with_reducible show cH);(refine Mk m.U rfl 79 rfl (some 1) 9 [_] (by go_simp;(exact⟨rfl,rfl⟩)) ?_;intro c1 h d4 a;replace m:=Z a;clear a;simp only[bk])|go_at_call 27;refine KC m (j5.U _ m.U.ak) λ y m=>?_|go_at_call 28;(refine(i6.U _ _ _ _ _ (.tail _ (.head _)) (m.U.ft [2])).mono ?_);rintro e y ⟨an,f5,d6,rfl,x,a⟩;replace m:=Z a;clear a;subst x)
    go_upto_region 25 with(first|refine KT m 9 ?_|refine KT m 10 ?_|go_at_call 30;refine KC m (j1.U _ _ (b0.U.at m.U) (m.U.get (i:=5) rfl)) λ y m=>?_|go_at_call 29;(refine(j4.U _ _ _ _ _ m.U).mono ?_);rintro e y ⟨b1,c2,e5,d5,rfl,a⟩;replace m:=Z a;clear a|go_at_call 31;refine KP m (i8.U _ _ _ (m.U.get (i:=2) rfl)) λ y m=>?_|go_at_call 28;(refine(i7.U _ _ _ _ _ (.tail _ (.tail _ (.tail _ (.head _)))) (m.U.ft [2])).mono ?_);rintro e y ⟨a5,f6,d8,rfl,c7,a⟩;replace m:=Z a;clear a)
    go_wp2_with(first|(go_at_call 24;(first|(refine(H.U _ _ _ (m.U.get (i:=3) rfl)).mono ?_)|(refine(j6.U _ _ _ (m.U.get (i:=0) rfl)).mono ?_));rintro e y ⟨z,e1,a6,g8,e3,e0,e2,d9,rfl,u⟩;replace m:=Z (m.U.below u);clear u)|go_at_call 32;refine KC m (n.U _ _ _ (m.U.get (i:=3) rfl)) λ y m=>?_|go_at_call 18;refine KC m (e8.U _ m.U.ak) λ y m=>?_)
    go_ret
    exact⟨rfl,c5.U.trans (m.U.ak.mono c5.U.size)⟩
variable{r:Int}
def aah(h:(Lit.int .u16 r).wf=true):0<=r/\r<=65535:=by
 simp[Lit.wf,IntKind.min,IntKind.max,IntKind.signed,IntKind.bits] at h;omega
def Zt{c:aa}{f:Prop}(e:ag)(o:f)(A:Option Addr)(b d:Nat)(L:List AC)(h:L.length=b/\b<=maxLen/\bD 5 c (ad A b d) (eK L))(a:Int)(m:(Lit.int .u16 a).wf=true)(j:bQ c):
 CB 4 #[ae e,ad A b d,.int .u16 a] c (aF true):=by
 obtain⟨rfl,l,i⟩:=h
 obtain⟨g,n⟩:=aah m
 obtain⟨k,rfl⟩:∃k:Nat,a=(k:Int):=⟨a.toNat,(Ei g).symm⟩
 exact Zu j e i l k W
