import Derived.BigRegion
import Derived.Test.YtncpbkoinennoaaGreatDoorMAG
set_option linter.all false
set_option maxRecDepth 100000
set_option maxHeartbeats 0
namespace Go.Proofs.YtncpbkoinennoaaGreatDoor
open Go.RowKit Proofs.Tryz
attribute [local irreducible] wpList Calls
section
open PT
def DE{u v:ab}{p q:Q4}(k3:fM u p)(k4:fM v q)(w:aa):Calls prog 103 #[u,v] w λ e a=>(∃r,e=ao r/\ka r (ga p q))/\BW w a:=by
 obtain⟨a8,rfl,p8,-⟩:=k3.row;obtain⟨a9,rfl,p9,-⟩:=k4.row;have p5:(prog.info? 92).map (·.size)=some a8.size:=by rw[p8];exact nK
 have p6:(prog.info? 92).map (·.size)=some a9.size:=by rw[p9];exact nK
 have p1:St w (((w.alloc (.cells a8 92)).alloc (.cells a9 92)).alloc (.cells zeroCells92 92)) [(w.heap.size+1+1,92,zeroCells92),(w.heap.size+1,92,a9),(w.heap.size,92,a8)]:=by
  have:=((((St.start w).alloc a8 92).alloc a9 92).alloc zeroCells92 92);simpa using this
 have n2:=Z k3;have n3:=Z k4;have d6:=Z p1
 go_enter func103,ntmps103
 go_upto_region 1 with fail
 generalize((w.alloc (.cells a8 92)).alloc (.cells a9 92)).alloc (.cells zeroCells92 92)=b6 at*;refine kW 6 (λ b=> ?_);refine W2 0 15 rfl rfl (cu V 92 (Operand.tmp 2) rfl (w.heap.size) zR 92 _ (0,0) _ (λ d h=>(show ah b6 (w.heap.size) 92 (a8) from d6.U.get zS).up h) fC rfl p5) b ?_;refine W2 2 17 rfl rfl (cu V 92 (Operand.tmp 3) rfl (w.heap.size+1) zR 92 _ (0,0) _ (λ d h=>(show ah b6 (w.heap.size+1) 92 (a9) from d6.U.get zS).up h) fC rfl p6) b ?_;refine ay.free (w0:=b6) [(1,16),(3,18),(4,5),(5,6)] [(4,90,ak (List.replicate 64 0),none),(5,90,ak (List.replicate 64 0),none)] (λ i v=>match i with|1=>mX v p|3=>mX v q|_=>True) V V b ⟨OC (yY n2.U),OC (yY n3.U),OA Gx,OA Gx,trivial⟩ (λ m b7 a1 j N=> ?_);obtain⟨k,s1,c8,b2⟩:=(j 4 zD).2 _ _ _ rfl;obtain⟨l,s2,j5,o7⟩:=(j 5 zD).2 _ _ _ rfl;have k2:k≠l:=λ h=>N 4 zD 5 zD zD zD zD (by rw[c8,j5,h]);obtain⟨y,z,E,F,e1,f1⟩:=(j 1 zD).1;obtain⟨G,H,I,J,e3,f2⟩:=(j 3 zD).1;simp only[ky,qh,lW,nc];simp only[tY,kd];simp only[c8,j5,e1,e3,bc];have g1:=d6.U.aJ.size;have P:=d6.U.lt;have c1:=d6.U.below a1;have c2:=c1.add b2 W (λ p f=>by have:=P p f;omega) (q4 y z E F);have j7:=o7.cH (q4 y z E F) (gr k2);have f9:=c2.add j7 W (λ p f=>by rcases bO.1 f with rfl|f;exact k2;have:=P p f;omega) (q4 G H I J);have b8:=Z f9;have n:=Z f1;have s:=Z f2;have q0:=f1.info;have q7:=f1.all;have n9:=f1.hold;have q3:=f2.info;have q8:=f2.all;have o0:=f2.hold;generalize ak (List.replicate 64 0)=R at*
 go_upto_region 2 with(first|(refine cm rfl 90 (Operand.tmp 5) (Operand.tmp 16) rfl (k) (q4 y z E F) zR zR 90 _ b2 q0 n9 q7 ?_)|(refine cm rfl 90 (Operand.tmp 6) (Operand.tmp 18) rfl (l) (q4 G H I J) zR zR 90 _ j7 q3 o0 q8 ?_))
 generalize(b7.setRow k (q4 y z E F)).setRow l (q4 G H I J)=e6 at*;simp only[Act.put];have k5:=n.U.x.info;have k6:=n.U.y.info;have q1:=n.U.z.info;have q2:=n.U.t.info;have k7:=s.U.x.info;have k8:=s.U.y.info;have q5:=s.U.z.info;have q6:=s.U.t.info;refine kW 12 (λ b=> ?_);refine V2 0 19 b ?_;refine W2 1 20 rfl rfl (mO V 88 (Operand.tmp 19) rfl (k) (16) zR z _ (λ d h=>(n.U.of ((show ah e6 (k) 90 (q4 y z E F) from b8.U.get zS).up h)).2.1) aY rfl k6) b ?_;refine V2 2 21 b ?_;refine W2 3 22 rfl rfl (mO V 88 (Operand.tmp 21) rfl (k) (0) zR y _ (λ d h=>(n.U.of ((show ah e6 (k) 90 (q4 y z E F) from b8.U.get zS).up h)).1) aY rfl k5) b ?_;refine V2 5 24 b ?_;refine W2 6 25 rfl rfl (mO V 88 (Operand.tmp 24) rfl (l) (16) zR H _ (λ d h=>(s.U.of ((show ah e6 (l) 90 (q4 G H I J) from b8.U.get zS).up h)).2.1) aY rfl k8) b ?_;refine V2 7 26 b ?_;refine W2 8 27 rfl rfl (mO V 88 (Operand.tmp 26) rfl (l) (0) zR G _ (λ d h=>(s.U.of ((show ah e6 (l) 90 (q4 G H I J) from b8.U.get zS).up h)).1) aY rfl k7) b ?_;refine ay.free (w0:=e6) [(4,23),(9,28),(10,29),(11,7)] [(11,88,ak (List.replicate 16 0),none)] (λ i v=>match i with|4=>aN v (bM p.y p.x)|9=>aN v (bM q.y q.x)|10=>aN v (hH p q)|_=>True) V V b ⟨OC (sM n.U.y n.U.x),OC (sM s.U.y s.U.x),Ga 4 9 (λ _ _ d t b0=>eV t b0 d),OA mh,trivial⟩ (λ m b7 a1 j N=> ?_);obtain⟨a4,p4,c8,b2⟩:=(j 11 zD).2 _ _ _ rfl;have c:aN (m 10) (hH p q):=(j 10 zD).1;simp only[ky,qh,lW,nc];simp only[tY,kd];simp only[c8,bc];generalize m 10=r at c;obtain⟨b3,rfl,-,-⟩:=c.row;have g1:=b8.U.aJ.size;have P:=b8.U.lt;have c1:=b8.U.below a1;have c2:=c1.add b2 W (λ p f=>by have:=P p f;omega) b3;have x:=Z c2;have i5:=Z c;have g2:=c.info;have q9:=c.all;have o1:=c.hold;generalize c9:ak (List.replicate 16 0)=R at*
 go_upto_region 3 with(refine cm rfl 88 (Operand.tmp 7) (Operand.tmp 29) rfl (a4) (b3) zR zR 88 _ b2 g2 o1 q9 ?_)
 generalize b7.setRow a4 b3=e7 at*;have b9:=x;refine kW 12 (λ b=> ?_);refine V2 0 30 b ?_;refine W2 1 31 rfl rfl (mO V 88 (Operand.tmp 30) rfl (k) (16) zR z _ (λ d h=>(n.U.of ((show ah e7 (k) 90 (q4 y z E F) from b9.U.get zS).up h)).2.1) aY rfl k6) b ?_;refine V2 2 32 b ?_;refine W2 3 33 rfl rfl (mO V 88 (Operand.tmp 32) rfl (k) (0) zR y _ (λ d h=>(n.U.of ((show ah e7 (k) 90 (q4 y z E F) from b9.U.get zS).up h)).1) aY rfl k5) b ?_;refine V2 5 35 b ?_;refine W2 6 36 rfl rfl (mO V 88 (Operand.tmp 35) rfl (l) (16) zR H _ (λ d h=>(s.U.of ((show ah e7 (l) 90 (q4 G H I J) from b9.U.get zS).up h)).2.1) aY rfl k8) b ?_;refine V2 7 37 b ?_;refine W2 8 38 rfl rfl (mO V 88 (Operand.tmp 37) rfl (l) (0) zR G _ (λ d h=>(s.U.of ((show ah e7 (l) 90 (q4 G H I J) from b9.U.get zS).up h)).1) aY rfl k7) b ?_;refine ay.free (w0:=e7) [(4,34),(9,39),(10,40),(11,8)] [(11,88,ak (List.replicate 16 0),none)] (λ i v=>match i with|4=>aN v (bt p.y p.x)|9=>aN v (bt q.y q.x)|10=>aN v (iq p q)|_=>True) V V b ⟨OC (qT n.U.y n.U.x),OC (qT s.U.y s.U.x),Ga 4 9 (λ _ _ d t b0=>eV t b0 d),OA mh,trivial⟩ (λ m b7 a1 j N=> ?_);obtain⟨a5,p4,c8,b2⟩:=(j 11 zD).2 _ _ _ rfl;have c:aN (m 10) (iq p q):=(j 10 zD).1;simp only[ky,qh,lW,nc];simp only[tY,kd];simp only[c8,bc];generalize m 10=r at c;obtain⟨b4,rfl,-,-⟩:=c.row;have g1:=b9.U.aJ.size;have P:=b9.U.lt;have c1:=b9.U.below a1;have c2:=c1.add b2 W (λ p f=>by have:=P p f;omega) b4;have x:=Z c2;have i6:=Z c;have g3:=c.info;have r0:=c.all;have o2:=c.hold;generalize c9:ak (List.replicate 16 0)=R at*
 go_upto_region 4 with(refine cm rfl 88 (Operand.tmp 8) (Operand.tmp 40) rfl (a5) (b4) zR zR 88 _ b2 g3 o2 r0 ?_)
 generalize b7.setRow a5 b4=l8 at*;have f4:=x;have i0:=(n.U.of (show ah l8 (k) 90 (q4 y z E F) from f4.U.get zS)).2.2.2;have i1:=(s.U.of (show ah l8 (l) 90 (q4 G H I J) from f4.U.get zS)).2.2.2
 go_wp2_with(first|(refine rK rfl 88 (Operand.tmp 41) rfl (k) 48 zR F _ i0 aY rfl q2 ?_)|(refine rK rfl 88 (Operand.tmp 43) rfl (l) 48 zR J _ i1 aY rfl q6 ?_))
 refine(eV n.U.t s.U.t _).mono ?_;rintro e f3 ⟨⟨x1,rfl,t⟩,c4⟩;have l9:=Z t
 go_wp2_with fail
 refine(Cr _ _).mono ?_;rintro e t2 ⟨⟨x2,rfl,b0⟩,p3⟩;have n0:=Z b0
 go_wp2_with fail
 refine(eV l9.U n0.U _).mono ?_;rintro e wc ⟨⟨x3,rfl,b1⟩,CA⟩;obtain⟨c5,rfl,-,-⟩:=b1.row;have c:aN (aG c5) (aF (aF p.t q.t) cK):=b1;have c0:=Z (((f4.U.below c4).below p3).below CA);have k9:=c.info;have r1:=c.all;have j3:=c.hold;have f7:=Z c;have x:=Z (St.fresh c0.U (ak (List.replicate 16 0)) c5 88);have c3:ah (wc.alloc (.cells (ak (List.replicate 16 0)) 88)) wc.heap.size 88 (ak (List.replicate 16 0)):=ah.new _ _ _;have e5:=dK;obtain⟨R,c9⟩:∃R,ak (List.replicate 16 0)=R:=⟨_,rfl⟩;rw[c9] at x c3 j3 e5;have f6:=Z e5
 go_upto_region 5 with((rw[<-f6.U];refine cm rfl 88 (Operand.tmp 9) (Operand.tmp 47) rfl (wc.heap.size) (c5) zR zR 88 _ c3 k9 j3 r1 ?_))
 generalize s3:wc.heap.size=K at*;generalize(wc.alloc (.cells R 88)).setRow K c5=r9 at*;have i3:=x;have d7:=(show ah r9 (K) 88 (c5) from i3.U.get zS)
 go_wp2_with(refine bD rfl 88 (Operand.tmp 9) rfl (K) zR 88 c5 (0,0) _ d7 aY rfl k9 ?_)
 refine(qT f7.U f7.U _).mono ?_;rintro e f3 ⟨⟨x1,rfl,t⟩,c4⟩;obtain⟨a2,rfl,-,-⟩:=t.row;have c:aN (aG a2) (gO p q):=t;have g0:=d7.up c4;have c0:=Z (i3.U.below c4);have g4:=c.info;have r2:=c.all;have d9:c5.size=a2.size:=by rw[f7.U.cells.1,c.cells.1]
 have i7:=Z c;have x:=Z (St.setAt [] _ c0.U a2)
 go_upto_region 6 with(refine cm rfl 88 (Operand.tmp 9) (Operand.tmp 50) rfl (K) (a2) zR zR 88 _ g0 g4 d9 r2 ?_)
 generalize f3.setRow K a2=i2 at*;have f5:ai (St w i2 [(K,88,a2),(a5,88,b4),(a4,88,b3),(l,90,q4 G H I J),(k,90,q4 y z E F),(w.heap.size+1+1,92,zeroCells92),(w.heap.size+1,92,a9),(w.heap.size,92,a8)]):=x;have i0:=(n.U.of (show ah i2 (k) 90 (q4 y z E F) from f5.U.get zS)).2.2.1;have i1:=(s.U.of (show ah i2 (l) 90 (q4 G H I J) from f5.U.get zS)).2.2.1
 go_wp2_with(first|(refine rK rfl 88 (Operand.tmp 51) rfl (k) 32 zR E _ i0 aY rfl q1 ?_)|(refine rK rfl 88 (Operand.tmp 53) rfl (l) 32 zR I _ i1 aY rfl q5 ?_))
 refine(eV n.U.z s.U.z _).mono ?_;rintro e wc ⟨⟨x3,rfl,b1⟩,CA⟩;obtain⟨c6,rfl,-,-⟩:=b1.row;have c:aN (aG c6) (aF p.z q.z):=b1;have c0:=Z (f5.U.below CA);have l0:=c.info;have r3:=c.all;have j4:=c.hold;have f8:=Z c;have x:=Z (St.fresh c0.U (ak (List.replicate 16 0)) c6 88);have c3:ah (wc.alloc (.cells (ak (List.replicate 16 0)) 88)) wc.heap.size 88 (ak (List.replicate 16 0)):=ah.new _ _ _;have e5:=dK;obtain⟨R,c9⟩:∃R,ak (List.replicate 16 0)=R:=⟨_,rfl⟩;rw[c9] at x c3 j4 e5;have f6:=Z e5
 go_upto_region 7 with((rw[<-f6.U];refine cm rfl 88 (Operand.tmp 10) (Operand.tmp 55) rfl (wc.heap.size) (c6) zR zR 88 _ c3 l0 j4 r3 ?_))
 generalize s4:wc.heap.size=gk at*;generalize(wc.alloc (.cells R 88)).setRow gk c6=s0 at*;have i4:=x;have d7:=(show ah s0 (gk) 88 (c6) from i4.U.get zS)
 go_wp2_with(refine bD rfl 88 (Operand.tmp 10) rfl (gk) zR 88 c6 (0,0) _ d7 aY rfl l0 ?_)
 refine(qT f8.U f8.U _).mono ?_;rintro e f3 ⟨⟨x1,rfl,t⟩,c4⟩;obtain⟨a6,rfl,-,-⟩:=t.row;have c:aN (aG a6) (hI p q):=t;have g0:=d7.up c4;have c0:=Z (i4.U.below c4);have g5:=c.info;have r4:=c.all;have d9:c6.size=a6.size:=by rw[f8.U.cells.1,c.cells.1]
 have i8:=Z c;have x:=Z (St.setAt [] _ c0.U a6)
 go_upto_region 8 with(refine cm rfl 88 (Operand.tmp 10) (Operand.tmp 58) rfl (gk) (a6) zR zR 88 _ g0 g5 d9 r4 ?_)
 generalize f3.setRow gk a6=a3 at*;have L:ai (St w a3 [(gk,88,a6),(K,88,a2),(a5,88,b4),(a4,88,b3),(l,90,q4 G H I J),(k,90,q4 y z E F),(w.heap.size+1+1,92,zeroCells92),(w.heap.size+1,92,a9),(w.heap.size,92,a8)]):=x;refine kW 16 (λ b=> ?_);refine W2 0 59 rfl rfl (cu V 88 (Operand.tmp 8) rfl (a5) zR 88 _ (0,0) _ (λ d h=>(show ah a3 (a5) 88 (b4) from L.U.get zS).up h) aY rfl g3) b ?_;refine W2 1 60 rfl rfl (cu V 88 (Operand.tmp 7) rfl (a4) zR 88 _ (0,0) _ (λ d h=>(show ah a3 (a4) 88 (b3) from L.U.get zS).up h) aY rfl g2) b ?_;refine W2 3 62 rfl rfl (cu V 88 (Operand.tmp 10) rfl (gk) zR 88 _ (0,0) _ (λ d h=>(show ah a3 (gk) 88 (a6) from L.U.get zS).up h) aY rfl g5) b ?_;refine W2 4 63 rfl rfl (cu V 88 (Operand.tmp 9) rfl (K) zR 88 _ (0,0) _ (λ d h=>(show ah a3 (K) 88 (a2) from L.U.get zS).up h) aY rfl g4) b ?_;refine W2 6 65 rfl rfl (cu V 88 (Operand.tmp 10) rfl (gk) zR 88 _ (0,0) _ (λ d h=>(show ah a3 (gk) 88 (a6) from L.U.get zS).up h) aY rfl g5) b ?_;refine W2 7 66 rfl rfl (cu V 88 (Operand.tmp 9) rfl (K) zR 88 _ (0,0) _ (λ d h=>(show ah a3 (K) 88 (a2) from L.U.get zS).up h) aY rfl g4) b ?_;refine W2 9 68 rfl rfl (cu V 88 (Operand.tmp 8) rfl (a5) zR 88 _ (0,0) _ (λ d h=>(show ah a3 (a5) 88 (b4) from L.U.get zS).up h) aY rfl g3) b ?_;refine W2 10 69 rfl rfl (cu V 88 (Operand.tmp 7) rfl (a4) zR 88 _ (0,0) _ (λ d h=>(show ah a3 (a4) 88 (b3) from L.U.get zS).up h) aY rfl g2) b ?_;refine ay.free (w0:=a3) [(2,61),(5,64),(8,67),(11,70),(12,11),(13,12),(14,13),(15,14)] [(12,88,ak (List.replicate 16 0),none),(13,88,ak (List.replicate 16 0),none),(14,88,ak (List.replicate 16 0),none),(15,88,ak (List.replicate 16 0),none)] (λ i v=>match i with|2=>aN v (bM (iq p q) (hH p q))|5=>aN v (bM (hI p q) (gO p q))|8=>aN v (bt (hI p q) (gO p q))|11=>aN v (bt (iq p q) (hH p q))|_=>True) V V b ⟨OC (sM i6.U i5.U),OC (sM i8.U i7.U),OC (qT i8.U i7.U),OC (qT i6.U i5.U),OA mh,OA mh,OA mh,OA mh,trivial⟩ (λ m b7 a1 j N=> ?_);obtain⟨S,s5,e8,o8⟩:=(j 12 zD).2 _ _ _ rfl;obtain⟨T,s6,en,c3⟩:=(j 13 zD).2 _ _ _ rfl;obtain⟨X,s7,e9,o9⟩:=(j 14 zD).2 _ _ _ rfl;obtain⟨a0,s8,f0,p0⟩:=(j 15 zD).2 _ _ _ rfl;have l1:S≠T:=λ h=>N 12 zD 13 zD zD zD zD (by rw[e8,en,h]);have l2:S≠X:=λ h=>N 12 zD 14 zD zD zD zD (by rw[e8,e9,h]);have l3:S≠a0:=λ h=>N 12 zD 15 zD zD zD zD (by rw[e8,f0,h]);have l4:T≠X:=λ h=>N 13 zD 14 zD zD zD zD (by rw[en,e9,h]);have l5:T≠a0:=λ h=>N 13 zD 15 zD zD zD zD (by rw[en,f0,h]);have l6:X≠a0:=λ h=>N 14 zD 15 zD zD zD zD (by rw[e9,f0,h]);have d1:aN (m 2) (bM (iq p q) (hH p q)):=(j 2 zD).1;have d2:aN (m 5) (bM (hI p q) (gO p q)):=(j 5 zD).1;have d3:aN (m 8) (bt (hI p q) (gO p q)):=(j 8 zD).1;have d4:aN (m 11) (bt (iq p q) (hH p q)):=(j 11 zD).1;simp only[ky,qh,lW,nc];simp only[tY,kd];simp only[e8,en,e9,f0,bc];generalize m 2=r at d1;obtain⟨a7,rfl,-,-⟩:=d1.row;generalize m 5=r at d2;obtain⟨b5,rfl,-,-⟩:=d2.row;generalize m 8=r at d3;obtain⟨c7,rfl,-,-⟩:=d3.row;generalize m 11=r at d4;obtain⟨d5,rfl,-,-⟩:=d4.row;have g1:=L.U.aJ.size;have P:=L.U.lt;have n4:=L.U.below a1;have j8:=o8;have c1:=n4.add j8 W (λ p f=>by have:=P p f;omega) a7;have g6:=d1.info;have r5:=d1.all;have o3:=d1.hold;have i9:=Z d1;have j9:=(c3.cH a7 (gr l1));have c2:=c1.add j9 W (λ p f=>by rcases bO.1 f with rfl|f;exact l1;have:=P p f;omega) b5;have g7:=d2.info;have r6:=d2.all;have o4:=d2.hold;have j0:=Z d2;have k0:=((o9.cH a7 (gr l2)).cH b5 (gr l4));have f9:=c2.add k0 W (λ p f=>by rcases bO.1 f with rfl|f;exact l4;rcases bO.1 f with rfl|f;exact l2;have:=P p f;omega) c7;have g8:=d3.info;have r7:=d3.all;have o5:=d3.hold;have j1:=Z d3;have k1:=(((p0.cH a7 (gr l3)).cH b5 (gr l5)).cH c7 (gr l6));have n5:=f9.add k1 W (λ p f=>by rcases bO.1 f with rfl|f;exact l6;rcases bO.1 f with rfl|f;exact l5;rcases bO.1 f with rfl|f;exact l3;have:=P p f;omega) d5;have g9:=d4.info;have r8:=d4.all;have o6:=d4.hold;have j2:=Z d4;have x:=Z n5;generalize c9:ak (List.replicate 16 0)=R at*
 go_upto_region 9 with(first|(refine cm rfl 88 (Operand.tmp 11) (Operand.tmp 61) rfl (S) (a7) zR zR 88 _ j8 g6 o3 r5 ?_)|(refine cm rfl 88 (Operand.tmp 12) (Operand.tmp 64) rfl (T) (b5) zR zR 88 _ j9 g7 o4 r6 ?_)|(refine cm rfl 88 (Operand.tmp 13) (Operand.tmp 67) rfl (X) (c7) zR zR 88 _ k0 g8 o5 r7 ?_)|(refine cm rfl 88 (Operand.tmp 14) (Operand.tmp 70) rfl (a0) (d5) zR zR 88 _ k1 g9 o6 r8 ?_))
 generalize((((b7.setRow S a7).setRow T b5).setRow X c7).setRow a0 d5)=Q at*;have M:ai (St w Q [(a0,88,d5),(X,88,c7),(T,88,b5),(S,88,a7),(gk,88,a6),(K,88,a2),(a5,88,b4),(a4,88,b3),(l,90,q4 G H I J),(k,90,q4 y z E F),(w.heap.size+1+1,92,zeroCells92),(w.heap.size+1,92,a9),(w.heap.size,92,a8)]):=x;refine kW 14 (λ b=> ?_);refine W2 0 71 rfl rfl (cu V 88 (Operand.tmp 11) rfl (S) zR 88 _ (0,0) _ (λ d h=>(show ah Q (S) 88 (a7) from M.U.get zS).up h) aY rfl g6) b ?_;refine W2 1 72 rfl rfl (cu V 88 (Operand.tmp 12) rfl (T) zR 88 _ (0,0) _ (λ d h=>(show ah Q (T) 88 (b5) from M.U.get zS).up h) aY rfl g7) b ?_;refine W2 3 74 rfl rfl (cu V 88 (Operand.tmp 14) rfl (a0) zR 88 _ (0,0) _ (λ d h=>(show ah Q (a0) 88 (d5) from M.U.get zS).up h) aY rfl g9) b ?_;refine W2 4 75 rfl rfl (cu V 88 (Operand.tmp 13) rfl (X) zR 88 _ (0,0) _ (λ d h=>(show ah Q (X) 88 (c7) from M.U.get zS).up h) aY rfl g8) b ?_;refine W2 6 77 rfl rfl (cu V 88 (Operand.tmp 13) rfl (X) zR 88 _ (0,0) _ (λ d h=>(show ah Q (X) 88 (c7) from M.U.get zS).up h) aY rfl g8) b ?_;refine W2 7 78 rfl rfl (cu V 88 (Operand.tmp 12) rfl (T) zR 88 _ (0,0) _ (λ d h=>(show ah Q (T) 88 (b5) from M.U.get zS).up h) aY rfl g7) b ?_;refine W2 9 80 rfl rfl (cu V 88 (Operand.tmp 11) rfl (S) zR 88 _ (0,0) _ (λ d h=>(show ah Q (S) 88 (a7) from M.U.get zS).up h) aY rfl g6) b ?_;refine W2 10 81 rfl rfl (cu V 88 (Operand.tmp 14) rfl (a0) zR 88 _ (0,0) _ (λ d h=>(show ah Q (a0) 88 (d5) from M.U.get zS).up h) aY rfl g9) b ?_;refine ay.free (w0:=Q) [(2,73),(5,76),(8,79),(11,82),(12,83),(13,84)] [] (λ i v=>match i with|2=>aN v (aF (bM (iq p q) (hH p q)) (bM (hI p q) (gO p q)))|5=>aN v (aF (bt (iq p q) (hH p q)) (bt (hI p q) (gO p q)))|8=>aN v (aF (bt (hI p q) (gO p q)) (bM (hI p q) (gO p q)))|11=>aN v (aF (bM (iq p q) (hH p q)) (bt (iq p q) (hH p q)))|12=>mX v (ga p q)|13=>ka v (ga p q)|_=>True) V V b ⟨OC (eV i9.U j0.U),OC (eV j2.U j1.U),OC (eV j1.U j0.U),OC (eV i9.U j2.U),λ o d8=> ?_,λ o d8=> ?_,trivial⟩ (λ m b7 a1 j N=> ?_)
 ·simp only[sG] at d8;subst d8;refine dA.build rfl rfl zD rfl (λ a d p7 d0 p2=> ?_);obtain⟨l7,e0,t⟩:=d0 2 73 V;obtain⟨s9,e1,b0⟩:=d0 5 76 V;obtain⟨t0,e2,b1⟩:=d0 8 79 V;obtain⟨t1,e3,j6⟩:=d0 11 82 V;simp only[bZ,eg,e0,e1,e2,e3];obtain⟨n1,rfl,-,-⟩:=aN.row t.1;obtain⟨n6,rfl,-,-⟩:=aN.row b0.1;obtain⟨n7,rfl,-,-⟩:=aN.row b1.1;obtain⟨n8,rfl,-,-⟩:=aN.row j6.1;have e4:QR n1 n6 n7 n8 (ga p q):=⟨t.1,b0.1,b1.1,j6.1⟩;exact⟨_,G1 e4,_,_,_,_,rfl,e4⟩
 ·simp only[sG] at d8;subst d8;refine dA.build rfl rfl zD rfl (λ a d p7 d0 p2=> ?_);obtain⟨l7,e0,t⟩:=d0 12 83 V;simp only[bZ,eg,eval_const,e0];obtain⟨A,B,C,D,rfl,e4⟩:=(show mX l7 (ga p q) from t.1);exact⟨_,BJ e4,_,_,_,_,rfl,e4⟩
 have A:ka (m 13) (ga p q):=(j 13 zD).1;simp only[ky,qh,lW,nc];simp only[tY,kd];generalize m 13=r at A;obtain⟨a,rfl,e4,n7⟩:=A.p.row;have C:=(show ah Q (w.heap.size+1+1) 92 (zeroCells92) from M.U.get zS).up a1;have n1:=Z (bL (M.U.aJ.trans (dy a1 M.U.aJ.size)) W a (g:=w.heap.size+1+1));have j6:=Z (C.setRow a);have d0:(prog.info? 92).map (·.size)=some a.size:=by rw[e4];exact nK
 have d9:zeroCells92.size=a.size:=by rw[e4];kernel_rfl
 have n6:a.all (·.oneCell')=true:=by rw[<-pX,hl];exact n7
 have l7:=Z A
 go_wp2_with(refine cm rfl 92 (Operand.tmp 4) (Operand.tmp 84) rfl (w.heap.size+1+1) a zR zR 92 _ C d0 d9 n6 ?_)
 refine cr (v:= .agg a) (fI results103 _ _ (w.heap.size+1+1) 92 a (0,0) _ rfl j6.U fC rfl d0) rfl ?_;exact⟨⟨_,rfl,l7.U⟩,n1.U⟩
end
variable{g n:Nat}{t:TypeId}
section
open PT
def fo:List ab->Nat->List ab->List ab
 |l,_,[]=>l
 |l,o,v::a=>fo (l.set o v) (o+1) a
def Dw:∀(a X P b:List ab),P.length=a.length->fo (X++(P++b)) X.length a=X++(a++b)
 |[],X,P,b,h=>by
  have:P=[]:=by grind
  subst this;rfl
 |v::a,X,[],b,h=>by cases h
 |v::a,X,p::P,b,h=>by
  have c:=Dw a (X++[v]) P b (by grind)
  simp only[fo]
  grind
def ah.setCells{g:Nat}{t:TypeId}:∀(b:List ab) (o:Nat) (w:aa) (a:Array ab),ah w g t a->ah (w.setCells g o b) g t (fo a.toList o b).toArray
 |[],o,w,a,h=>by simpa[World.setCells,fo] using h
 |v::b,o,w,a,h=>by
  have c:=h.dx o v
  have:=ah.setCells b (o+1) _ _ c
  rw[World.setCells]
  simpa[fo] using this
def ah.L0{w:aa}(X P b a:Array ab)(h:ah w g t (X++P++b))(i:P.size=a.size):ah (w.setCells g X.size a.toList) g t (X++a++b):=by
 have c:=ah.setCells a.toList X.size w _ h;have d:=Dw a.toList X.toList P.toList b.toList W;have e:(X++P++b).toList=X.toList++(P.toList++b.toList):=by simp
 rw[e,<-iO,d] at c;have f:(X.toList++(a.toList++b.toList)).toArray=X++a++b:=by
  apply ju;simp
 grind
def ah.rH{w:aa}{a:Array ab}(h:ah w g t a){o:Nat}(e:o+n<=a.size):w.there g o n:=λ j d=>by
 have c:=nD w g (o+j) a t (0,0) h;refine⟨?_,?_⟩
 ·grind
 ·have b:w.heap[g]?=some (.cells a t (0,0)):=h;simp[World.frozen?,b]
def GP{B b:Nat}{a:aa}(c:B<=b):∀(d:List ab) (o:Nat) (w:aa),Below B a w->Below B a (w.setCells b o d)
 |[],_,_,h=>h
 |v::r,o,w,h=>GP c r (o+1) _ (h.setCell (by exact c) v)
def St.cells{w wr:aa}(e f:List (Nat×TypeId×Array ab)){b m:Array ab}(h:St w wr (e++(g,t,b)::f))(o:Nat)(c:List ab)(n:ah (wr.setCells g o c) g t m):St w (wr.setCells g o c) (e++(g,t,m)::f):=by
 have k:=h.b;rw[jy,bZ,lV] at k;obtain⟨r,l,q⟩:=k;rw[ue] at l;have j:(g,t,b)∈e++(g,t,b)::f:=by simp
 have i:∀p:Nat×TypeId×Array ab,ah wr p.1 p.2.1 p.2.2->p.1≠g->ah (wr.setCells g o c) p.1 p.2.1 p.2.2:=λ p a d=>(Gr wr g o c (ah.lt a) d).trans a;refine⟨GP (h.own (g,t,b) j) c o _ h.aJ,λ p a=> ?_,λ p a=> ?_,?_⟩
 ·rcases eB.1 a with a|a
  ·exact h.own p (oB _ a)
  ·rcases bO.1 a with rfl|a
   ·exact h.own (g,t,b) j
   ·exact h.own p (rT _ (mQ a))
 ·rcases eB.1 a with a|a
  ·exact i p (h.a p (oB _ a)) λ d=>q p.1 (eH.2 ⟨p,a,rfl⟩) g zS d
  ·rcases bO.1 a with rfl|a
   ·exact n
   ·exact i p (h.a p (rT _ (mQ a))) λ d=>l.1 (eH.2 ⟨p,a,d⟩)
 ·have:=h.b;simpa using this
end
variable{i k:Nat}{o:Oper}
structure Y where
 bs:List Nat
 P:aa->Prop
 st:∀w w':aa,(∀k∈bs,w'.heap[k]?=w.heap[k]?)->P w->P w'
 b:∀w,P w->bs.Nodup
 lt:∀w,P w->∀k∈bs,k<w.heap.size
variable{I:List Y}
variable{J K:Y}
def Y.row(g:Nat)(t:TypeId)(c:List ab):Y:=
 ⟨[g],λ w=>ah w g t c.toArray,(λ w e h b=>(h g zS).trans b),(λ _ _=>by simp),(λ w b k d=>by
  have:k=g:=by simpa using d
  subst this;exact ah.lt b)⟩
def blocks(aj:List Y):List Nat:=aj.flatMap Y.bs
structure ae(w wr:aa)(m:List Nat)(aj:List Y):Prop where
 only:aW w.heap.size m w wr
 ok:∀it∈aj,it.P wr
 own:∀k∈blocks aj,k∈m\/w.heap.size<=k
 b:(blocks aj).Nodup
section
variable{w wr wz:aa}{m:List Nat}{aj:List Y}
def fO(a:Y)(l:List Y):blocks (a::l)=a.bs++blocks l:=rfl
def qF(a b:List Y):blocks (a++b)=blocks a++blocks b:=by simp[blocks]
def ae.start(w:aa)(m:List Nat):ae w w m []:=⟨aW.refl _ _ _,(λ _ h=>by cases h),(λ _ h=>by cases h),F1⟩
def ae.lt(h:ae w wr m aj):∀k∈blocks aj,k<wr.heap.size:=λ k e=>by
 obtain⟨b,c,d⟩:=F0.1 e;exact b.lt wr (h.ok b c) k d
def ae.self(h:J.P w):ae w w J.bs [J]:=⟨aW.refl _ _ _,(λ d c=>by
 grind),(λ k b=> .inl (by simpa[blocks] using b)),(by simpa[blocks] using J.b w h)⟩
def ae.get(h:ae w wr m aj)(b:aj[i]?=some J):J.P wr:=h.ok J (cX b)
def ae.row(h:ae w wr m aj){i g:Nat}{t:TypeId}{b:List ab}(c:aj[i]?=some (Y.row g t b)):ah wr g t b.toArray:=h.get c
def ae.aq(h:ae w wr [] aj):BW w wr:=h.only.below (λ k b=>by cases b)
def ae.size(h:ae w wr m aj):w.heap.size<=wr.heap.size:=h.only.size
def rh(b:J∈aj)(c:k∈J.bs):k∈blocks aj:=F0.2 ⟨J,b,c⟩
def ae.alloc(h:ae w wr m aj)(d:List ab)(t:TypeId):ae w (wr.alloc (.cells d.toArray t)) m (Y.row wr.heap.size t d::aj):=by
 refine⟨h.only.alloc h.size _,?_,?_,?_⟩
 ·intro e c;rcases bO.1 c with rfl|c
  ·exact ah.new _ _ _
  ·refine e.st wr _ (λ k b=>pY _ _ _ (h.lt k (rh c b))) (h.ok e c)
 ·intro k b;rw[fO] at b;rcases eB.1 b with b|b
  ·have:k=wr.heap.size:=by simpa[Y.row] using b
   right;have:=h.size;omega
  ·exact h.own k b
 ·rw[fO];show(wr.heap.size::blocks aj).Nodup;rw[ue];exact⟨λ b=>by have:=h.lt _ b;omega,h.b⟩
def ae.below(h:ae w wr m aj)(c:BW wr wz):ae w wz m aj:=
 ⟨h.only.trans ((aW.px c m).mono h.size (λ _ _ h=>h)),(λ d b=>d.st wr wz (λ k e=>c.block k (h.lt k (rh b e))) (h.ok d b)),h.own,h.b⟩
def ae.join(h:ae w wr m aj)(l:BW wr wz)(A:Y)(f:A.P wz)(g:∀k∈A.bs,wr.heap.size<=k):ae w wz m (A::aj):=by
 have d:=h.below l;refine⟨d.only,?_,?_,?_⟩
 ·intro n e;rcases bO.1 e with rfl|e
  ·exact f
  ·exact d.ok n e
 ·intro k c;rw[fO] at c;rcases eB.1 c with c|c
  ·right;have:=g k c;have:=h.size;omega
  ·exact d.own k c
 ·rw[fO,lV];refine⟨A.b _ f,d.b,λ a i b j=> ?_⟩;have:=g a i;have:=h.lt b j;omega
def ae.perm(h:ae w wr m aj)(c:aj.Perm I):ae w wr m I:=by
 have b:(blocks aj).Perm (blocks I):=c.flatMap_right _;exact⟨h.only,λ f d=>h.ok f (c.mem_iff.2 d),λ k e=>h.own k (b.mem_iff.2 e),(b.nodup_iff).1 h.b⟩
def ae.tail(h:ae w wr m (J::aj)):ae w wr m aj:=
 ⟨h.only,λ c b=>h.ok c (mQ b),λ k d=>h.own k (by rw[fO];grind),(lV.1 (by have:=h.b;rwa[fO] at this)).2.1⟩
structure bk(A:Y)(w w':aa)(A':Y):Prop where
 only:aW w.heap.size A.bs w w'
 ok:A'.P w'
 fr:∀k∈A'.bs,k∈A.bs\/w.heap.size<=k
def bk.trans{B:Y}{a b c:aa}(h:bk J a b B)(k:bk B b c K):bk J a c K:=
 ⟨h.only.then k.only h.only.size (λ i e f=>by
  rcases h.fr i f with d|d
  ·exact d
  ·omega),k.ok,λ i e=>by
  rcases k.fr i e with d|d
  ·exact h.fr i d
  ·exact .inr (hy h.only.size d)⟩
def bk.stay{a b:aa}(h:J.P a)(d:BW a b):bk J a b J:=
 ⟨aW.px d _,J.st a b (λ k c=>d.block k (J.lt a h k c)) h,λ k c=> .inl c⟩
def ae.iL(h:ae w wr J.bs (K::aj)):bk J w wr K:=⟨h.only,h.ok K zS,λ k b=>h.own k (by rw[fO];grind)⟩
def ae.cd(h:ae w wr m (J::aj))(o:bk J wr wz K):ae w wz m (K::aj):=by
 obtain⟨g,e,l⟩:=o;have f:=h.b;rw[fO,lV] at f;obtain⟨u,p,v⟩:=f;have n:∀k∈blocks aj,k<wr.heap.size:=λ k c=>h.lt k (by rw[fO];grind);have j:∀k∈blocks aj,k∉J.bs:=by grind
 have t:∀k∈J.bs,k∈m\/w.heap.size<=k:=λ k c=>h.own k (by rw[fO];grind);refine⟨h.only.then g h.size (λ k c s=> ?_),?_,?_,?_⟩
 ·grind
 ·intro i d;rcases bO.1 d with rfl|d
  ·exact e
  ·exact i.st wr wz (λ k c=>g.block k (n k (rh d c)) (j k (rh d c))) (h.ok i (mQ d))
 ·intro k c;rw[fO] at c;rcases eB.1 c with c|c
  ·rcases l k c with b|b
   ·grind
   ·right;have:=h.size;omega
  ·exact h.own k (by rw[fO];grind)
 ·rw[fO,lV];refine⟨K.b _ e,p,λ a q b r=> ?_⟩;grind
def set_perm:∀(l:List Y) (i:Nat) (A b:Y),l[i]?=some A->l.Perm (A::l.eraseIdx i)/\(l.set i b).Perm (b::l.eraseIdx i)
 |[],i,A,b,h=>by simp at h
 |x::l,0,A,b,h=>by
  simp_all
 |x::l,i+1,A,b,h=>by
  have c:=set_perm l i A b (by grind)
  simp only[List.eraseIdx_cons_succ,ax]
  exact⟨(List.Perm.cons x c.1).trans (List.Perm.swap _ _ _),(List.Perm.cons x c.2).trans (List.Perm.swap _ _ _)⟩
def ae.at(h:ae w wr m aj)(i:Nat)(b:aj[i]?=some J)(c:bk J wr wz K):ae w wz m (aj.set i K):=by
 obtain⟨p1,p2⟩:=set_perm aj i J K b;exact((h.perm p1).cd c).perm p2.symm
def J2{g:Nat}:∀(b:List ab) (o:Nat) (w:aa),aW w.heap.size [g] w (w.setCells g o b)
 |[],o,w=>aW.refl _ _ _
 |v::b,o,w=>by
  have d:aW w.heap.size [g] w (w.setCell ⟨g,o,none⟩ v):=(aW.refl _ _ _).setCell (p:=⟨g,o,none⟩) (.inl zS) v
  have e:(w.setCell ⟨g,o,none⟩ v).heap.size=w.heap.size:=by simp[World.setCell]
  have c:=J2 (g:=g) b (o+1) (w.setCell ⟨g,o,none⟩ v)
  rw[e] at c
  exact d.trans c
def ae.cells(h:ae w wr m aj)(i:Nat){c:List ab}(d:aj[i]?=some (Y.row g t c))(o:Nat)(b:List ab):ae w (wr.setCells g o b) m (aj.set i (Y.row g t (fo c o b))):=by
 have e:=h.row d;refine h.at i d ⟨J2 b o wr,?_,λ k f=> .inl f⟩;have:=ah.setCells b o wr _ e;simpa[Y.row] using this
end
section
variable{ops:Array Oper}{rest:List Oper}{op:Oper}{a:Act}{Q:Exit->Act->aa->Prop}{w wr:aa}{m:List Nat}{aj:List Y}
def eF{P:Program}{w:aa}(c:Region.wanted o (yielded ops a.tmps)=true)(h:∀K:Act->aa->Prop,(∀a w,wpList P ops Q rest a w->K a w)->o.wp P a w K Q):wpList P ops Q (o::rest) a w:=
 wpList_step λ K b=>by grind
def we(w:aa)(p:Addr)(b:TypeId)(v:ab)(d:TypeDesc)(f:w.cell? p=some v)(e:prog.underlying b=some d)(hd:d.isRow=false):(loadVar b p).run prog w= .ok v w:=by
 have c:(isAgg b).run prog w= .ok false w:=by
  unfold isAgg;rw[cO,hX e w];cases d<;>simp_all
 simp only[loadVar,cO,c,dd];simp_all
def UF(h:ae w wr m aj)(k:Region.wanted op (yielded ops a.tmps)=true)(b:TypeId)(x:Operand)(o:op.op= .load b x)(i:Nat){c:List ab}(hx:a.eval x= .pointer (some ⟨g,n,none⟩))
 (l:aj[i]?=some (Y.row g t c)) (d:TypeDesc) (p:prog.underlying b=some d) (hd:d.isRow=false) (v:ab) (q:c[n]?=some v) (f:wpList prog ops Q rest (a.put op.dst v) wr):wpList prog ops Q (op::rest) a wr:=by
 refine eF k λ K e=> ?_
 have j:wr.cell? ⟨g,n,none⟩=some v:=by rw[(h.row l).cell n];simpa using q
 unfold Oper.wp execOp
 simp only[o,hx,Instr.loadAt,Instr.sureAddr,cO,dN,dd,we wr _ b v d j p hd]
 exact e _ _ f
def UG(h:ae w wr m aj)(o:Region.wanted op (yielded ops a.tmps)=true)(b:TypeId)(x:Operand)(q:op.op= .load b x)(i:Nat){f:List ab}(hx:a.eval x= .pointer (some ⟨g,n,none⟩))
 (p:aj[i]?=some (Y.row g t f)) (d:TypeDesc) (r:prog.underlying b=some d) (hd:d.isRow=true) (e:Nat) (y:(prog.info? b).map (·.size)=some e) (c:List ab) (z:(f.drop n).take e=c) (u:c.length=e)
 (l:wpList prog ops Q rest (a.put op.dst (aG c.toArray)) wr):wpList prog ops Q (op::rest) a wr:=by
 refine eF o λ _ k=>Fo b x q g n hx c d (λ j v s=> ?_) r hd (by grind) (k _ _ l)
 rw[(h.row p).cell]
 grind
def str(h:ae w wr m aj)(l:Region.wanted op (yielded ops a.tmps)=true)(e:TypeId)(x y:Operand)(o:op.op= .store e x y)(i:Nat){c:List ab}(hx:a.eval x= .pointer (some ⟨g,n,none⟩))
 (f:aj[i]?=some (Y.row g t c)) (d:Nat) (s:(prog.info? e).map (·.size)=some d) (b:List ab) (p:a.eval y=aG b.toArray) (r:b.length=d) (q:n+d<=c.length) (h1:b.all (·.oneCell')=true)
 (k:∀j,ae w j m (aj.set i (Y.row g t (fo c n b)))->wpList prog ops Q rest (a.put op.dst undef) j):wpList prog ops Q (op::rest) a wr:=by
 refine eF l λ _ j=>wp_store_mid e x y o g n b.toArray hx p ((h.row f).rH (by grind)) (by grind) (by grind) (j _ _ ?_)
 simpa using k _ (h.cells i f n b)
def wo(h:ae w wr m aj)(s:Region.wanted op (yielded ops a.tmps)=true)(b:TypeId)(x y:Operand)(A:op.op= .store b x y)(i:Nat){c:List ab}(hx:a.eval x= .pointer (some ⟨g,k,none⟩))
 (d:aj[i]?=some (Y.row g t c)) (z:(prog.info? b).map (·.size)=some 1) (v:ab) (B:a.eval y=v) (h1:v.oneCell'=true) (D:k<c.length)
 (q:∀e,ae w e m (aj.set i (Y.row g t (c.set k v)))->wpList prog ops Q rest (a.put op.dst undef) e):wpList prog ops Q (op::rest) a wr:=by
 refine eF s λ K p=> ?_
 have o:=h.row d
 have r:v.cells=#[v]:=by cases v<;>simp_all[Value.oneCell',Value.cells]
 have l:=o.rH (o:=k) (n:=1) (by grind)
 have f:=LH (P:=prog) g k [v] 0 wr (λ j e=>by simpa using(l j W).1) (λ j e=>by simpa using(l j W).2) (λ u C=>by
  grind)
 simp only[fA] at f
 have j:(storeVar b ⟨g,k,none⟩ v).run prog wr= .ok () (wr.setCells g k [v]):=by
  cases e:prog.info? b with
  |none=>grind
  |some C=>
   have u:C.size=1:=by simpa[e] using z
   simp[storeVar,sizeOf,typeInfo,e,u,r,f]
 unfold Oper.wp execOp
 simp only[A,hx,B,Instr.storeAt,Instr.sureAddr,cO,dN,dd,j]
 refine p _ _ (q _ ?_)
 exact h.cells i d k [v]
def al(h:ae w wr m aj)(f:Region.wanted op (yielded ops a.tmps)=true)(b:TypeId)(i:op.op= .alloc b)(c:List ab)
 (j:∀w,(Instr.alloc b true (aM #[])).run prog w= .ok (pV w.heap.size) (w.alloc (.cells c.toArray b)))
 (e:∀g d,w.heap.size<=g->ae w d m (Y.row g b c::aj)->wpList prog ops Q rest (a.put op.dst (pV g)) d):wpList prog ops Q (op::rest) a wr:=by
 refine eF f λ K d=> ?_
 unfold Oper.wp execOp
 simp only[i,cO,j,dd,dN]
 exact d _ _ (e _ _ h.size (h.alloc c b))
end
def bU(n:Nat):List UInt8:=if h:n<128 then [UInt8.ofNat n] else UInt8.ofNat (n%128+128)::bU (n/128)
def wG(h:n<128):bU n=[UInt8.ofNat n]:=by rw[bU,dif_pos h]
def zL(h:¬n<128):bU n=UInt8.ofNat (n%128+128)::bU (n/128):=by rw[bU,dif_neg h]
def Ma{w:aa}(c:Nat)(b:c<256):Src prog 1 29 (ag (some ⟨w.heap.size,0,none⟩) 1 1) 1 (bB [UInt8.ofNat c]) (w.alloc (.cells #[.int .u8 (c:Int)] 5)):=by
 refine qw _ cP _ _ _ _ (by simp[bB]) ?_ (Pj _);intro j u a;rw[gp,dz,nD _ _ _ _ _ _ (pg w _)];have:(UInt8.ofNat c).toNat=c:=by simp[bY b]
 simp only[bB,bZ,eg,this] at a;simpa using a
def ZQ{w:aa}(c:Nat)(b:c<256)(a:Int)(h:(c:Int)=a):Src prog 1 29 (ag (some ⟨w.heap.size,0,none⟩) 1 1) 1 (bB [UInt8.ofNat c]) (w.alloc (.cells #[.int .u8 a] 5)):=by
 subst h;exact Ma c b
def tK:(prog.info? 5).map (λ i=>(i.zero,i.size,i.bytes))=some (some (.int .u8 0),1,1):=by kernel_rfl
def JZ(n:Nat)(E:n<18446744073709551616)(w:aa):CB 46 #[U (n:Int)] w (ad ⟨(bU n).toArray⟩):=by
 obtain⟨C,s,z,A,B⟩:=iB tK
 go_enter func46,ntmps46
 go_wp2
 go_loopw [0,3] (λ a b wr=>∃(m:Nat) (l:List UInt8),m<18446744073709551616/\m*128^l.length<=n/\a=U (m:Int)/\bU n=l++bU m/\wr.ownsRow w.heap.size 5 1 b l.length (bB l)/\l.length<=20/\BW w wr) (λ a _ _=>(intOf a).toNat)
 case atStart=>exact⟨n,[],E,by simp,rfl,rfl,di _ _ _ _,by simp,bp _ _⟩
 case round=>
  obtain⟨m,l,L,u,rfl,a,c,K,o⟩:=hrel;have y:=o.size;by_cases t:m<128
  ·rw[wG t] at a;have i:=Z a;clear a u
   go_wp2_with(at_builtin;refine mM rfl _ _ 29 29 rfl w.heap.size 5 C _ 1 1 cP s z A B rfl _ _ _ rfl (c.alloc _) _ 1 (bB [UInt8.ofNat m]) rfl (Ma m W) (by unfold maxLen;omega) W (by simp;omega) ?_)
   intro I r d p H;rw[<-qG,<-i.U] at d;have j:BW w r:=(o.alloc y _).grown p (by simp;omega) (λ k q=>(c.lt k q).1);have b:=qL (P:=prog) (src:=29) (dst:=9) cP eJ df d;have f:=Z j
   go_wp2
   go_ret
   exact⟨rfl,f.U⟩
  ·rw[zL t] at a;have J:l.length+1<=20:=by
    rcases lX l.length 20 with h|h
    ·omega
    ·have e:l.length=20:=by omega
     rw[e] at u;have D:128*128^20<=m*128^20:=lZ _ W;have b:(128:Nat)*128^20>=18446744073709551616:=by decide
     omega
   have F:(m/128)*128^(l.length+1)<=n:=by
    have D:(m/128)*128^(l.length+1)=(m/128*128)*128^l.length:=by rw[ca,AV,fg (128^l.length) 128]
    have b:m/128*128<=m:=by omega
    have:=lZ (128^l.length) b;omega
   obtain⟨b,e⟩:∃b,UInt8.ofNat (m%128+128)=b:=⟨_,rfl⟩;have G:Src prog 1 29 (ag (some ⟨wr.heap.size,0,none⟩) 1 1) 1 (bB [b]) (wr.alloc (.cells #[.int .u8 ((m:Int)%128+128)] 5)):=by rw[<-e];exact ZQ (m%128+128) W _ W
   rw[e] at a;have i:=Z a;have D:=Z F
   go_wp2_with(at_builtin;refine mM rfl _ _ 29 29 rfl w.heap.size 5 C _ 1 1 cP s z A B rfl _ _ _ rfl (c.alloc _) _ 1 (bB [b]) rfl G (by unfold maxLen;omega) W (by simp;omega) ?_)
   intro I r d p H;have j:BW w r:=(o.alloc y _).grown p (by simp;omega) (λ k q=>(c.lt k q).1);have h:=Z d;have f:=Z j
   go_wp2
   go_roundw
   case rel=>exact⟨m/128,l++[b],by omega,by rw[bV];exact D.U,by go_num,by rw[i.U,gK];rfl,by rw[qG,bV];exact h.U,by simp;omega,f.U⟩
   case measure=>simp[intOf];omega
structure WS where
 b:List UInt8
 e:Nat
def WS.put(x:WS)(a:Bool)(e:Nat)(s:af):WS:=if x.e=0 then(if a=true then{x with b:=x.b++s.data.toList} else{x with e:=e}) else x
def Kd{w:aa}{size:Nat}{v:ab}{c:List ab}(h:w.ownsRow k t size v n c):∀a∈v.ownBlock.toList,a<w.heap.size:=λ a b=>by
 simp only[Option.mem_toList] at b;exact DC h a b
def Ke{w b:aa}{size:Nat}{v:ab}{c:List ab}(h:w.ownsRow k t size v n c)(j:∀a∈v.ownBlock.toList,b.heap[a]?=w.heap[a]?):b.ownsRow k t size v n c:=by
 refine⟨h.1,?_⟩;rcases h.2 with e|⟨g,a,d,rfl,f,i,r⟩
 ·exact .inl e
 ·exact .inr ⟨g,a,d,rfl,f,by rw[j g (by simp[Value.ownBlock])];exact i,r⟩
def Kc{w:aa}{size:Nat}{v:ab}{a:List ab}(h:w.ownsRow k t size v n a):w.ownsRow 0 t size v n a:=by
 refine⟨h.1,?_⟩;rcases h.2 with d|⟨g,b,c,rfl,f,e,r⟩
 ·exact .inl d
 ·exact .inr ⟨g,b,c,rfl,bf _,e,r⟩
def Dm(o:Option Nat):o.toList.Nodup:=by cases o<;>simp
def Y.wr(g:Nat)(v:ab)(x:WS):Y:=
 ⟨g::v.ownBlock.toList,λ w=>ah w g 31 #[v,O (x.e:Int)]/\w.ownsRow 0 5 1 v x.b.length (bB x.b),
  (λ w d h a=>⟨(h g zS).trans a.1,Ke a.2 λ k b=>h k (mQ b)⟩),
  (λ w a=>ue.2 ⟨λ c=>tj a.2 a.1 zD (by simpa using c),Dm _⟩),
  (λ w a k b=>by
   rcases bO.1 b with rfl|b
   ·exact ah.lt a.1
   ·exact Kd a.2 k b)⟩
section
variable{w:aa}{g:Nat}{v:ab}{x:WS}
def tJ(h:(Y.wr g v x).P w)(t:Bool)(e:Nat)(y:Int)(I:(e:Int)=y)(s:af)(a5:x.b.length+s.size<=16777216):Calls prog 45 #[pV g,aK t,O y,ad s] w λ r a=>r=ao (aM #[])/\∃E,bk (Y.wr g v x) w a (Y.wr g E (x.put t e s)):=by
 subst I;obtain⟨X,J,R,S,T⟩:=iB tK;obtain⟨c,r⟩:=h;have a0:w.cell? ⟨g,0,none⟩=some v:=c.cell 0;have G:w.cell? ⟨g,1,none⟩=some (O (x.e:Int)):=c.cell 1;have f0:=c.frozen 0;have f1:=c.frozen 1;have a3:=c.lt;have z:=tj r c zD;by_cases o:x.e=0
 ·rw[o] at G;cases t with
  |true=>
   have l:x.put true e s={x with b:=x.b++s.data.toList}:=by rw[WS.put,au o,au rfl]
   rw[l];have H:=Z c;have m:=Z z
   go_enter func45,ntmps45
   go_wp2_with(at_builtin;refine mM rfl _ _ 29 9 rfl 0 5 X _ 1 1 cP J R S T rfl _ _ _ rfl r _ s.size (bB s.data.toList) rfl (Src.ofString (P:=prog) w df s) (by unfold maxLen;omega) W (bf _) ?_)
   intro E j C A D;obtain⟨d,f,rfl,a4⟩:=da C;have u:ah j g 31 #[v,O (x.e:Int)]:=H.U.grown A (λ n=>m.U n.symm);have a1:j.cell? ⟨g,0,none⟩=some v:=u.cell 0;have a2:j.frozen? ⟨g,0,none⟩=false:=u.frozen 0;have B:(Value.slice d (x.b.length+s.size) f).ownBlock≠some g:=by
    intro n;rcases D with a|a
    ·rw[n] at a;exact m.U a.symm
    ·rw[n] at a;injection a with a;omega
   have L:aW w.heap.size (g::v.ownBlock.toList) w j:=(aW.refl w.heap.size (g::v.ownBlock.toList) w).grown A (aQ _) (by intro q N;exact .inl (by rw[N];simp));have K:s.data.toList.length=s.size:=by rw[iO];rfl
   have Q:(Y.wr g (ag d (x.b.length+s.size) f) {x with b:=x.b++s.data.toList}).P (j.setCell ⟨g,0,none⟩ (ag d (x.b.length+s.size) f)):=by
    refine⟨u.dx 0 _,?_⟩;have:=DD (p:=⟨g,0,none⟩) C B (ag d (x.b.length+s.size) f);show World.ownsRow _ 0 5 1 _ (x.b++s.data.toList).length (bB (x.b++s.data.toList));rw[qG,bV,K];exact this
   have M:=L.setCell (p:=⟨g,0,none⟩) (.inl zS) (ag d (x.b.length+s.size) f);have F:=Z (show bk (Y.wr g v x) w (j.setCell ⟨g,0,none⟩ (ag d (x.b.length+s.size) f)) (Y.wr g (ag d (x.b.length+s.size) f) {x with b:=x.b++s.data.toList}) from⟨M,Q,λ k i=>by
    rcases bO.1 i with rfl|i
    ·exact .inl (by simp[Y.wr])
    ·simp only[Option.mem_toList] at i;rcases D with a|a
     ·exact .inl (by rw[i] at a;simp[Y.wr,<-a])
     ·rw[i] at a;injection a with a;right;omega⟩)
   go_wp2
   go_end0
   exact⟨rfl,_,F.U⟩
  |false=>
   have l:x.put false e s={x with e:=e}:=by rw[WS.put,au o,ar zS]
   rw[l];have H:=Z c;have m:=Z z;have a:=Z r
   go_enter func45,ntmps45
   go_wp2
   go_end0
   have b:aW w.heap.size (g::v.ownBlock.toList) w (w.setCell ⟨g,1,none⟩ (O (e:Int))):=(aW.refl _ _ _).setCell (p:=⟨g,1,none⟩) (.inl zS) _;exact⟨rfl,v,b,⟨H.U.dx 1 _,DD (p:=⟨g,1,none⟩) a.U m.U _⟩,λ k i=> .inl i⟩
 ·have B:¬(x.e:Int)=0:=by omega
  have l:x.put t e s=x:=by rw[WS.put,ar o]
  rw[l];have a:=Z (show(Y.wr g v x).P w from⟨c,r⟩)
  go_enter func45,ntmps45
  go_wp2
  go_end0
  exact⟨rfl,v,bk.stay a.U (bp _ _)⟩
def WS.text(x:WS):af:=if x.e=0 then⟨x.b.toArray⟩ else⟨#[]⟩
def zN(h:(Y.wr g v x).P w):Calls prog 11 #[pV g] w λ r a=>r=ao (ad x.text)/\w=a:=by
 obtain⟨c,e⟩:=h;have f:w.cell? ⟨g,0,none⟩=some v:=c.cell 0;have d:w.cell? ⟨g,1,none⟩=some (O (x.e:Int)):=c.cell 1;have j:=qL (P:=prog) (src:=29) (dst:=9) cP eJ df e;by_cases a:x.e=0
 ·have b:x.text=⟨x.b.toArray⟩:=by rw[WS.text,au a]
  rw[b];rw[a] at d
  go_enter func11,ntmps11
  go_wp2
  go_ret
  exact⟨rfl,rfl⟩
 ·have i:¬(x.e:Int)=0:=by omega
  have b:x.text=⟨#[]⟩:=by rw[WS.text,ar a]
  rw[b]
  go_enter func11,ntmps11
  go_wp2
  go_ret
  exact⟨rfl,rfl⟩
def abS(h:(Y.wr g v x).P w):Calls prog 222 #[pV g] w λ r a=>r=ao (O (x.e:Int))/\w=a:=by
 have b:w.cell? ⟨g,1,none⟩=some (O (x.e:Int)):=h.1.cell 1;clear h
 go_enter func222,ntmps222
 go_wp2
 go_ret
 exact⟨rfl,rfl⟩
def mn(n:Int):af:=strOfNums [n%256]
def abR(h:(Y.wr g v x).P w)(n:Int)(i:x.b.length+(mn n).size<=16777216):Calls prog 89 #[pV g,O n] w λ r a=>r=ao (aM #[])/\∃d,bk (Y.wr g v x) w a (Y.wr g d (x.put (decide (0<=n/\n<=255)) 1 (mn n))):=by
 have f:=uT (P:=prog) w 29 9 5 [n%256] cP eJ df 1 1 rfl 5;have p:strOfNums [n%256]=mn n:=rfl;rw[p] at f;simp only[bZ,eg] at f;have m:∀o:Obj,bk (Y.wr g v x) w (w.alloc o) (Y.wr g v x):=λ o=>bk.stay h (bJ w o);have a:=Z m;have o:n<0\/(0<=n/\n<=255)\/(0<=n/\¬n<=255):=by omega
 rcases o with j|⟨j,l⟩|⟨j,l⟩
 ·have hd:decide (0<=n/\n<=255)=false:=by simp;omega
  rw[hd]
  go_enter func89,ntmps89
  go_wp2_with fail
  refine(tJ (a.U _).ok false 1 1 rfl (mn n) i).mono ?_;rintro e k ⟨rfl,d,c⟩;have b:=Z ((a.U _).trans c)
  go_wp2
  go_end0
  exact⟨rfl,_,b.U⟩
 ·have hd:decide (0<=n/\n<=255)=true:=by simp;omega
  rw[hd];rw[show n%256=n by omega] at f
  go_enter func89,ntmps89
  go_wp2_with fail
  refine(tJ (a.U _).ok true 1 1 rfl (mn n) i).mono ?_;rintro e k ⟨rfl,d,c⟩;have b:=Z ((a.U _).trans c)
  go_wp2
  go_end0
  exact⟨rfl,_,b.U⟩
 ·have hd:decide (0<=n/\n<=255)=false:=by simp;omega
  rw[hd]
  go_enter func89,ntmps89
  go_wp2_with fail
  refine(tJ (a.U _).ok false 1 1 rfl (mn n) i).mono ?_;rintro e k ⟨rfl,d,c⟩;have b:=Z ((a.U _).trans c)
  go_wp2
  go_end0
  exact⟨rfl,_,b.U⟩
def w_num(h:(Y.wr g v x).P w)(n:Nat)(i:n<18446744073709551616)(j:x.b.length+(bU n).length<=16777216):Calls prog 90 #[pV g,U (n:Int)] w λ r a=>r=ao (aM #[])/\∃b,bk (Y.wr g v x) w a (Y.wr g b (x.put true 0 ⟨(bU n).toArray⟩)):=by
 go_enter func90,ntmps90
 go_wp2_with fail
 refine(JZ n i w).mono ?_;rintro e k ⟨rfl,f⟩;have a:=Z (bk.stay h f)
 go_wp2_with fail
 refine(tJ a.U.ok true 0 0 rfl ⟨(bU n).toArray⟩ j).mono ?_;rintro e l ⟨rfl,b,d⟩;have c:=Z (a.U.trans d)
 go_wp2
 go_end0
 exact⟨rfl,_,c.U⟩
def MV(h:(Y.wr g v x).P w)(s:af)(n:Int)(f:x.b.length+s.size<=16777216):Calls prog 9 #[pV g,ad s,O n] w λ r a=>r=ao (aM #[])/\∃b,bk (Y.wr g v x) w a (Y.wr g b (x.put (decide ((s.size:Int)=n)) 1 s)):=by
 obtain⟨a,i⟩:∃a,((s.size:Int)==n)=a:=⟨_,rfl⟩;have hd:decide ((s.size:Int)=n)=a:=by rw[<-i];rfl
 rw[hd]
 go_enter func9,ntmps9
 go_wp2_with fail
 refine(tJ h a 1 1 rfl s f).mono ?_;rintro e j ⟨rfl,b,d⟩;have c:=Z d
 go_wp2
 go_end0
 exact⟨rfl,_,c.U⟩
def eT(s:af):af:=⟨(bU s.size).toArray⟩++s
def Fj(h:(Y.wr g v x).P w)(s:af)(t:s.size<=1000000)(j:x.b.length+(eT s).size<=16777216):Calls prog 8 #[pV g,ad s] w λ r a=>r=ao (aM #[])/\∃l,bk (Y.wr g v x) w a (Y.wr g l (x.put (decide (s.size<=4096)) 4 (eT s))):=by
 obtain⟨a,r⟩:∃a,decide ((s.size:Int)<=4096)=a:=⟨_,rfl⟩;have hd:decide (s.size<=4096)=a:=by rw[<-r];congr 1;simp;omega
 rw[hd];have k:(⟨(bU s.size).toArray⟩:af).size+s.size<=maxLen:=by
  have:(eT s).size=(⟨(bU s.size).toArray⟩:af).size+s.size:=by rw[eT,gX]
  unfold maxLen;omega
 have f:eT s=⟨(bU s.size).toArray⟩++s:=rfl;obtain⟨b,q⟩:∃b:af,(⟨(bU s.size).toArray⟩:af)=b:=⟨_,rfl⟩;have i:=JZ s.size W;rw[q] at k f i;have u:b.size+s.size<=9223372036854775807:=by unfold maxLen at k;omega
 have c:=Z f;have n:=Z i
 go_enter func8,ntmps8
 go_wp2_with fail
 refine(n.U w).mono ?_;rintro e y ⟨rfl,p⟩;have d:=Z (bk.stay h p)
 go_wp2_with fail
 rw[c.U] at j;refine(tJ d.U.ok a 4 4 rfl _ j).mono ?_;rintro e z ⟨rfl,l,o⟩;have m:=Z (d.U.trans o)
 go_wp2
 go_end0
 exact⟨rfl,_,by rw[c.U];exact m.U⟩
end
variable{m:List Nat}
def vx:(prog.info? 184).map (·.size)=some 4:=by kernel_rfl
def pq(h:m.length=4):(aV m).size=4:=by rw[Wd];exact h
def J0:(#[U 0,U 0,U 0,U 0]:Array ab)=aV [0,0,0,0]:=by kernel_rfl
def GU(w:aa)(a b:Obj)(t:TypeId)(c:Array ab):ah (((w.alloc a).alloc b).alloc (.cells c t)) (w.heap.size+1+1) t c:=by
 have:=ah.new ((w.alloc a).alloc b) t c;simpa using this
structure oK(w wr:aa)(B:Nat)(b l:List Nat):Prop where
 aJ:BW w wr
 c:w.heap.size<=B
 a:ah wr B 184 (aV l)
 b:ah wr (B+1) 184 (aV b)
 z:ah wr (B+1+1) 184 (aV [0,0,0,0])
def oK.set{w wr:aa}{B:Nat}{b l:List Nat}(h:oK w wr B b l)(k x:Nat):oK w (wr.setCell ⟨B,k,none⟩ (U (x:Int))) B b (l.set k x):=
 ⟨h.aJ.setCell (by have:=h.c;simpa using this) _,h.c,by rw[<-yK];exact h.a.dx k _,h.b.cE zS _,h.z.cE (by simp;omega) _⟩
def oK.drew{w wr:aa}{B:Nat}{b l:List Nat}(h:oK w wr B b l):oK w wr.drew B b l:=⟨h.aJ.trans ((gv (bp _ _) 1).mono h.aJ.size),h.c,h.a,h.b,h.z⟩
def ZT(a b:List Nat)(I:a.length=4)(J:b.length=4)(L:SC.cQ a)(M:SC.cQ b)(w:aa):Calls prog 197 #[aG (aV a),aG (aV b)] w λ e c=>
 ∃l,e=ao (aM #[aG (aV l),aK (decide (SC.vW a<SC.vW b))])/\BW w c/\l.length=4/\SC.cQ l/\(¬SC.vW a<SC.vW b->SC.vW l=SC.vW a-SC.vW b):=by
 have f:=Z (And.intro I (And.intro J (And.intro L M)))
 go_enter func197,ntmps197
 go_upto_region 2 with fail
 rw[J0]
 have G:oK w (((w.alloc (.cells (aV a) 184)).alloc (.cells (aV b) 184)).alloc (.cells (aV [0,0,0,0]) 184)) w.heap.size b a:=
  ⟨(((bp _ _).alloc (aQ _) _).alloc zS _).alloc (by simp;omega) _,aQ _,((ah.new w 184 _).alloc _).alloc _,(fD w _ 184 _).alloc _,GU w _ _ 184 _⟩
 generalize((w.alloc (.cells (aV a) 184)).alloc (.cells (aV b) 184)).alloc (.cells (aV [0,0,0,0]) 184)=a2 at*
 have z:=Z G
 go_wp2
 go_loopw [6,8] (λ u i wr=>∃(k:Nat) (l:List Nat) (v:Nat),k<=4/\i=O k/\u=U (v:Int)/\oK w wr w.heap.size b l/\SC.kZ a b l v k) (λ _ i _=>4-(intOf i).toNat)
 case atStart=>exact⟨0,a,0,by omega,rfl,rfl,z.U,SC.kZ.start b f.U.1 f.U.2.2.1⟩
 case round=>
  obtain⟨k,l,v,R,rfl,rfl,e,c⟩:=hrel
  by_cases h:k<4
  ·obtain⟨x,hx⟩:∃x,l[k]?=some x:=⟨_,aU (by rw[c.len];exact h)⟩
   obtain⟨y,q⟩:∃y,b[k]?=some y:=⟨_,aU (by rw[f.U.2.1];exact h)⟩
   have T:=c.ok.get hx
   have X:=f.U.2.2.2.get q
   have p:=c.u
   have N:=(e.a.cell k).trans (lB hx)
   have f0:=e.a.frozen k
   have Q:=(e.b.cell k).trans (lB q)
   obtain⟨d,hd⟩:∃d,(x+18446744073709551616-y-v)%18446744073709551616=d:=⟨_,rfl⟩
   obtain⟨g,o⟩:∃g,(if x<y+v then 1 else 0)=g:=⟨_,rfl⟩
   have i:=λ j=>Z4 x y v p j
   have n:=c.step h hx q (d:=d) (u':=g) (by rw[<-hd,<-o];split<;>omega) W (by rw[<-o];split<;>omega)
   have D:=Z n;have F:=Z e;have E:=Z i
   clear n e c i
   have a0:(0:Int)<=(k:Int):=by omega
   have a1:(k:Int)<4:=by omega
   have i:=λ j=>E.U j
   rw[hd,o] at i
   go_wp2
   go_region
   go_wp2
   go_roundw
   case rel=>exact⟨k+1,_,g,by omega,by go_num,rfl,(F.U.set k d).drew,D.U⟩
   case measure=>simp[intOf];omega
  ·obtain rfl:k=4:=by omega
   have j:=c.under f.U.1 f.U.2.1 f.U.2.2.2
   have p:=c.u
   have t:(aV l).size=4:=pq c.len
   have s:(prog.info? 184).map (·.size)=some (aV l).size:=by rw[t];exact vx
   have H:=e.a
   have n:=dI (P:=prog) e.z (aV l) (by rw[t];rfl) (vG _)
   have u:=Z (e.z.setRow (aV l))
   have B:=Z (bL e.aJ (show w.heap.size<=w.heap.size+1+1 by omega) (aV l))
   have K:ai (decide (0<v)=decide (SC.vW a<SC.vW b)):=Z (by
    rw[bw,jL,jL,<-j.1];omega)
   have A:ai (l.length=4/\SC.cQ l/\(¬SC.vW a<SC.vW b->SC.vW l=SC.vW a-SC.vW b)):=Z ⟨c.len,c.ok,λ S=>j.2 (by have:=j.1;omega)⟩
   generalize r:aV l=m at*
   have C:=Z r
   clear r c e h j p
   go_wp2_with(refine bD rfl 184 (Operand.tmp 2) rfl w.heap.size rfl 184 m (0,0) _ H oM rfl s ?_)
   exact cr (v:= .tuple #[.agg m,.bool (decide (0<v))]) (hR results197 _ _ (w.heap.size+1+1) 184 m (0,0) _ rfl u.U oM rfl s) rfl ⟨l,by rw[C.U,K.U],B.U,A.U⟩
