import Derived.Test.YtncpbkoinennoaaGreatDoorMAM
import Derived.Test.YtncpbkoinennoaaGreatDoorMAN
set_option linter.all false
set_option maxRecDepth 100000
set_option maxHeartbeats 0
namespace Go.Proofs.YtncpbkoinennoaaGreatDoor
open Go.RowKit Proofs.Tryz
attribute [local irreducible] wpList Calls
namespace CrcM
def P:Nat:=3988292384
def step(n:Nat):Nat:=if n%2=1 then(n/2)^^^P else n/2
def gP(n:Nat):Nat:=step (step (step (step n)))
def Dd(n:Nat):Nat:=gP (gP n)
def byte(n:Nat)(c:Nat):Nat:=Dd (n^^^c)
def run(n:Nat)(l:List UInt8):Nat:=l.foldl (λ n c=>byte n c.toNat) n
def on(n:Nat)(l:List UInt8):Nat:=4294967295-run (4294967295-n) l
def YI(a b:Nat):step (a^^^b)=step a^^^step b:=by
 unfold step;rw[Nat.xor_div_two];have e:(a^^^b)%2=(a%2+b%2)%2:=by
  rcases rC a with h|h<;>rcases rC b with c|c;all_goals
   have:= @Nat.xor_mod_two_eq_one a b;rcases rC (a^^^b) with d|d<;>simp_all
 rw[e];rcases rC a with h|h<;>rcases rC b with c|c<;>simp[h,c]
 ·ac_rfl
 ·ac_rfl
 ·have:a/2^^^P^^^(b/2^^^P)=a/2^^^b/2^^^(P^^^P):=by ac_rfl
  rw[this];simp
def YB(a b:Nat):gP (a^^^b)=gP a^^^gP b:=by simp[gP,YI]
def YE(a:Nat):step (2*a)=a:=by unfold step;simp
def Yy(a:Nat):gP (16*a)=a:=by
 unfold gP;rw[show 16*a=2*(2*(2*(2*a))) by omega];simp only[YE]
def Yj(n:Nat):n=(16*(n/16))^^^(n%16):=by
 apply Nat.eq_of_testBit_eq;intro i;rw[Nat.testBit_xor,show 16*(n/16)=2^4*(n/2^4) from rfl,show n%16=n%2^4 from rfl,Nat.testBit_mod_two_pow,Nat.testBit_two_pow_mul,Nat.testBit_div_two_pow];grind
def Yz(n:Nat):gP n=n/16^^^gP (n%16):=by
 conv=>lhs;rw[Yj n]
 rw[YB,Yy]
def uO(n:Nat)(h:n<4294967296):step n<4294967296:=by
 unfold step;split
 ·exact Ez (n:=32) W zD
 ·omega
def yl(n:Nat)(h:n<4294967296):gP n<4294967296:=by
 unfold gP;exact uO _ (uO _ (uO _ (uO _ h)))
def NH(n c:Nat)(h:n<4294967296)(a:c<256):byte n c<4294967296:=by
 unfold byte Dd;exact yl _ (yl _ (Ez (n:=32) h W))
def JL:∀(l:List UInt8) (n:Nat),n<4294967296->run n l<4294967296
 |[],_,h=>h
 |c::l,n,h=>JL l _ (NH n _ h c.toNat_lt)
def QG(n:Nat)(h:n<4294967296):4294967295-n=4294967295^^^n:=by
 apply Nat.eq_of_testBit_eq;intro i;rw[Nat.testBit_xor];have:4294967295-n=2^32-(n+1):=by omega
 rw[this,Nat.testBit_two_pow_sub_succ h,show(4294967295:Nat)=2^32-1 from rfl,Nat.testBit_two_pow_sub_one];by_cases a:i<32
 ·simp[a]
 ·simp[a];exact Nat.testBit_lt_two_pow (lQ h (pZ (n:=2) zD (show 32<=i by omega)))
end CrcM
def ra(i:Nat):Nat:=CrcM.gP i
def eV(k:Nat):Array ab:=((List.range 16).map λ j=>Value.int .u32 (if j<k then(ra j:Int) else 0)).toArray
def Y3(k:Nat)(d:k<16):(eV k).setIfInBounds k (.int .u32 (ra k))=eV (k+1):=by
 apply Array.ext
 ·simp[eV]
 ·intro i a b;simp only[eV,ji,cR,List.length_range] at a b;by_cases h:k=i
  ·subst h;simp[eV]
  ·have c:i<k+1↔i<k:=by omega
   simp[eV,h,c]
def Y4(k:Nat):(eV k).size=16:=by simp[eV]
def KJ:eV 16=#[.int .u32 0,.int .u32 498536548,.int .u32 997073096,.int .u32 651767980,.int .u32 1994146192,.int .u32 1802195444,.int .u32 1303535960,.int .u32 1342533948,.int .u32 3988292384,.int .u32 4027552580,.int .u32 3604390888,.int .u32 3412177804,.int .u32 2607071920,.int .u32 2262029012,.int .u32 2685067896,.int .u32 3183342108]:=by kernel_rfl
def KG:eV 0=#[.int .u32 0,.int .u32 0,.int .u32 0,.int .u32 0,.int .u32 0,.int .u32 0,.int .u32 0,.int .u32 0,.int .u32 0,.int .u32 0,.int .u32 0,.int .u32 0,.int .u32 0,.int .u32 0,.int .u32 0,.int .u32 0]:=by kernel_rfl
def sn:Nat->Nat->Nat
 |0,n=>n
 |k+1,n=>CrcM.step (sn k n)
def Hw(n:Nat)(h:n<4294967296):∀k,sn k n<4294967296
 |0=>h
 |k+1=>CrcM.uO _ (Hw n h k)
def YH(n:Nat)(h:n<4294967296)(h1:n%2=1):bits .xor .u32 ((n:Int)/2) 3988292384=(CrcM.step n:Int):=by
 have:=uU (n/2) 3988292384 W W;rw[show((n/2:Nat):Int)=(n:Int)/2 by omega] at this;rw[show((3988292384:Nat):Int)=3988292384 from rfl] at this;rw[this,CrcM.step,ax h1];rfl
def YG(n:Nat)(h1:n%2=0):(n:Int)/2=(CrcM.step n:Int):=by
 rw[CrcM.step,aj W];omega
def Mx(n:Nat)(h:n<4294967296):bits .and .u32 (n:Int) 1=((n%2:Nat):Int):=by
 have:=u32_and_nat n 1 h W;rw[show((1:Nat):Int)=1 from rfl] at this;rw[this,nat_mask1]
def Y0(k:Nat)(a:k<16):(eV k)[k]?=some (.int .u32 0):=by simp[eV,a]
def Y6(w:aa):CB 305 #[] w (aG (eV 16)):=by
 go_enter func305,ntmps305
 go_wp2
 go_loopw [4] (λ i wr=>∃k:Nat,k<=16/\i=O k/\wr=(w.alloc (.cells (eV 0) 365)).alloc (.cells (eV k) 365)) (λ i _=>16-(intOf i).toNat)
 case atStart=>exact⟨0,by omega,rfl,rfl⟩
 case round=>
  obtain⟨k,p,rfl,rfl⟩:=hrel;by_cases e:k<16
  ·have o:=Y0 k e
   go_wp2
   go_loop [3,9] (λ n j=>∃q:Nat,q<=4/\j=O q/\n= .int .u32 (sn q k)) (λ _ j=>4-(intOf j).toNat)
   case atStart=>exact⟨0,by omega,rfl,rfl⟩
   case round=>
    obtain⟨q,r,rfl,rfl⟩:=hrel;have f:=Hw k W q;have m:=YH (sn q k) f;have l:=YG (sn q k);generalize j:sn q k=n at*;have d:=Z j;have h:=Z m;have g:=Z l;by_cases s:q<4
    ·have b:=Mx n f;rcases rC n with a|a
     ·have i:bits .and .u32 (n:Int) 1=0:=by rw[b,a];rfl
      have c:=Z a;clear a b
      go_wp2
      go_round
      case rel=>exact⟨q+1,by omega,by go_num,by rw[g.U c.U,<-d.U];rfl⟩
      case measure=>simp[intOf];omega
     ·have i:bits .and .u32 (n:Int) 1=1:=by rw[b,a];rfl
      have c:=Z a;clear a b
      go_wp2
      go_round
      case rel=>exact⟨q+1,by omega,by go_num,by rw[h.U c.U,<-d.U];rfl⟩
      case measure=>simp[intOf];omega
    ·obtain rfl:q=4:=by omega
     have b:=Y3 k e;have a:=Z b
     go_wp2
     go_roundw
     case rel=>exact⟨k+1,by omega,by go_num,by rw[<-a.U,<-d.U];rfl⟩
     case measure=>simp[intOf];omega
  ·obtain rfl:k=16:=by omega
   rw[KJ,KG]
   go_wp2
   exact cq (v:=aG (eV 16)) (by rw[KJ];simp[results,results305,go_sem]) rfl ⟨rfl,((bz _ _).alloc (aW _) _).alloc zS _⟩
namespace WD
def Ea:(#[U 0,U 0,U 0,U 0,U 0,U 0,U 0,U 0]:Array ab)=bT (vl ⟨0,0,0,0,0,0,0,0⟩):=by kernel_rfl
set_option maxRecDepth 1000000 in
def Bl{w:aa}(n:jn w)(a:WM.V8)(s:ag)(j:s.size=128):
 CB 100 #[aG (bT (vl a)),ae s] w (aG (bT (vl (WM.compress a s.data.toList)))):=by
 have b:gb w (((w.alloc (.cells (bT (vl a)) 172)).alloc (.cells (bT (vl ⟨0,0,0,0,0,0,0,0⟩)) 172)).alloc (.cells (dd s.data.toList 0) 251)) w.heap.size (w.heap.size+1) (w.heap.size+1+1) a (dd s.data.toList 0):=
  ⟨(((bz _ _).alloc (aW _) _).alloc zS _).alloc (by simp;omega) _,n,aW _,by omega,((ah.new w 172 _).alloc _).alloc _,(fC w _ 172 _).alloc _,Fk w _ _ 251 _,by omega,by omega⟩
 generalize c:((w.alloc (.cells (bT (vl a)) 172)).alloc (.cells (bT (vl ⟨0,0,0,0,0,0,0,0⟩)) 172)).alloc (.cells (dd s.data.toList 0) 251)=n5 at*
 have h:=Z b;have i:=Z c;have m:=Z j
 clear b c j
 go_enter func100,ntmps100
 go_upto_region 2 with fail
 rw[Ea,aaD,<-DU s.data.toList,i.U]
 go_wp2
 refine Pr m.U 0 rfl _ _ _ _ _ _ _ _ _ _ _ _ _ _ _ _ _ _ _ _ _ _ _ _ _ _ _ _ _ _ _ _ _ _ _ _ _ _ _ _ _ _ _ _ _ _ _ _ _ _ _ _ _ _ _ _ _ _ _ _ _ _ _ _ _ _ _ _ _ _ _ _ _ _ _ _ _ _ _ _ _ _ _ _ _ _ _ _ _ _ _ _ _ _ _ _ _ _ _ _ _ _ _ _ _ _ _ _ _ _ _ _ _ _ _ _ _ _ _ _ _ _ _ _ _ _ _ _ _ _ _ _ _ _ _ _ _ _ _ _ _ _ _ _ _ _ _ _ _ _ _ _ _ _ _ _ _ _ _ _ _ _ _ h.U ?_
 intro b p6 p7 p8 r t u x y z A B C D E F G H I J K L M N Q R S T X a0 a1 a2 a3 a4 a5 a6 a7 a8 a9 b3 b4 b5 b6 b7 b8 b9 c0 c1 c2 c3 c4 c5 c6 c7 c8 d
 have e:=d.e0
 have c:=B3 a
 have g:ah (b.alloc (.cells (bT (vl ⟨0,0,0,0,0,0,0,0⟩)) 172)) b.heap.size 172 (bT (vl ⟨0,0,0,0,0,0,0,0⟩)):=ah.new _ _ _
 have k:=dJ (P:=prog) g (bT (vl a)) (tW _ _) (Jl _)
 rw[<-Ea] at k
 have l:(bT (vl a)).size=8:=uK a
 have f:ai (dN w ((b.alloc (.cells (bT (vl ⟨0,0,0,0,0,0,0,0⟩)) 172)).setRow b.heap.size (bT (vl a))) w.heap.size (w.heap.size+1) (w.heap.size+1+1) b.heap.size a s.data.toList (vl a)):=Z (by
  have o:=(bz b.heap.size b).alloc (aW _) (.cells (bT (vl ⟨0,0,0,0,0,0,0,0⟩)) 172)
  have q:=d.e2.lt
  exact⟨d.below (bY o (aW _) _),d.aK.size,g.setRow _,by omega,by omega,by omega⟩)
 rw[<-Ea] at f
 clear d h i
 generalize d:bT (vl a)=p at*
 clear d
 go_wp2_with(refine bO rfl 172 (Operand.tmp 2) rfl w.heap.size rfl 172 p (0,0) _ e vM rfl c ?_)
 clear k c e g l
 refine Ps (b0:=w.heap.size) (b1:=w.heap.size+1) 0 rfl _ _ _ _ _ _ _ _ _ _ _ _ _ _ _ _ _ _ _ _ _ _ _ _ _ _ _ _ _ _ _ _ _ _ _ _ _ _ _ _ _ _ _ _ _ _ _ _ _ _ _ _ _ _ _ _ _ _ _ _ _ _ _ _ _ _ _ _ _ _ _ _ _ _ _ _ _ _ _ _ _ _ _ _ _ _ _ _ _ _ _ _ _ _ _ _ _ _ _ _ _ _ _ _ _ _ _ _ _ _ _ _ _ _ _ _ _ _ _ _ _ _ _ _ _ _ _ _ _ _ _ _ _ _ _ _ _ _ _ _ _ _ _ _ _ _ _ _ _ _ _ _ _ _ _ _ _ _ _ _ _ _ _ f.U ?_
 intro n4 c9 e0 f1 g2 i3 j6 j7 j8 j9 k0 k1 k2 k3 k4 k5 k6 k7 k8 k9 l0 l1 l2 l3 l4 l5 l6 l7 l8 l9 n0 n1 n2 n3 d0 d1 d2 d3 d4 d5 d6 d7 d8 d9 e1 e2 e3 e4 e5 e6 e7 e8 e9 f0 f2 f3 f4 f5 f6 f7 f8 f9 g0 g1 g3 g4 g5 g6 g7 g8 g9 i0 i1 i2 i4 i5 i6 i7 i8 i9 j0 j1 j2 j3 j4 j5 d
 have g:=Z d
 clear d f
 go_wp2
 refine Pt (b2:=w.heap.size+1+1) (b1:=w.heap.size+1) 0 rfl _ _ _ _ _ _ _ _ _ _ _ _ _ _ _ _ _ _ _ _ _ _ _ _ _ _ _ _ _ _ _ _ _ _ _ _ _ _ _ _ _ _ _ _ _ _ _ _ _ _ _ _ _ _ _ _ _ _ _ _ _ _ _ _ _ _ _ _ _ _ _ _ _ _ _ _ _ _ _ _ _ _ _ _ _ _ _ _ _ _ _ _ _ _ _ _ _ _ _ _ _ _ _ _ _ _ _ _ _ _ _ _ _ _ _ _ _ _ _ _ _ _ _ _ _ _ _ _ _ _ _ _ _ _ _ _ _ _ _ _ _ _ _ _ _ _ _ _ _ _ _ _ _ _ _ _ _ _ _ _ _ _ _ g.U ?_
 intro rw r15 ac7 ac8 ac9 ada adb ade adf adg adh adi hr
 rw[vU,Mp] at hr
 have e:=hr.e3
 have l:=uK (WM.gX a (WM.rounds (WM.wl s.data.toList 80) a 80))
 have c:=B3 (WM.gX a (WM.rounds (WM.wl s.data.toList 80) a 80))
 have k:=dJ (P:=prog) hr.a.e1 (bT (vl (WM.gX a (WM.rounds (WM.wl s.data.toList 80) a 80)))) (tW _ _) (Jl _)
 have f:=Z (hr.a.e1.setRow (bT (vl (WM.gX a (WM.rounds (WM.wl s.data.toList 80) a 80)))))
 have h:=Z (bY hr.a.aK (show w.heap.size<=w.heap.size+1 by omega) (bT (vl (WM.gX a (WM.rounds (WM.wl s.data.toList 80) a 80)))))
 have i:ai (bT (vl (WM.compress a s.data.toList))=bT (vl (WM.gX a (WM.rounds (WM.wl s.data.toList 80) a 80)))):=Z rfl
 generalize bT (vl (WM.gX a (WM.rounds (WM.wl s.data.toList 80) a 80)))=d at*
 clear hr g
 go_wp2_with(refine bO rfl 172 (Operand.tmp 9) rfl b.heap.size rfl 172 d (0,0) _ e vM rfl c ?_)
 exact cq (v:= .agg d) (fL results100 _ _ (w.heap.size+1) 172 d (0,0) _ rfl f.U vM rfl c) rfl ⟨by rw[i.U],h.U⟩
end WD
variable{i:Nat}
section
def Gq:fR 100:=hO func100 zR zR
open WD in
abbrev lD(a:WM.V8):List ab:=[U (a.a.toNat:Int),U (a.b.toNat:Int),U (a.c.toNat:Int),U (a.d.toNat:Int),U (a.e.toNat:Int),U (a.f.toNat:Int),U (a.g.toNat:Int),U (a.h.toNat:Int)]
def Gm{w:aa}(b:WD.jn w)(a:WM.V8)(s:ag)(c:s.size=128):
 CB 100 #[aG #[U (a.a.toNat:Int),U (a.b.toNat:Int),U (a.c.toNat:Int),U (a.d.toNat:Int),U (a.e.toNat:Int),U (a.f.toNat:Int),U (a.g.toNat:Int),U (a.h.toNat:Int)],ae s] w (aG (lD (WM.compress a s.data.toList)).toArray):=WD.Bl b a s c
def TF{w:aa}{v:ab}{P:List ag}(h:bg w v P)(f:P≠[])(k:(P.map (·.data.toList)).flatten.length<=140737488355328)(m:P.length<=1000):CB 97 #[v,ae ⟨#[]⟩] w (ae ⟨(P.map (·.data.toList)).flatten.toArray⟩):=by
 obtain⟨A,d,rfl,l,a⟩:=h;have e:Lib.join (P.map (·.data.toList)) (⟨#[]⟩:ag).data.toList=(P.map (·.data.toList)).flatten:=by
  show([]:List UInt8).intercalate _=_;generalize P.map (·.data.toList)=L;have a:∀(L:List (List UInt8)),([]:List UInt8).intercalate L=L.flatten:=by
   intro L;cases L with
   |nil=>rfl
   |cons x r=>
    have:=Lib.join_cons x r [];unfold Lib.join at this;rw[this];simp[Lib.joinTail]
  exact a L
 cases P with
 |nil=>exact absurd rfl f
 |cons x r=>
  obtain⟨b,o,rfl,c,g⟩:=a 0 zS;have:=TC b o d (x::r) ⟨#[]⟩ w (λ j y i=>by
   grind) c.1 W c.2 (by grind)
  rw[e] at this;exact this
def Xf(c:Nat):(⟨(Lib.repeatL (⟨#[0]⟩:ag).data.toList c).toArray⟩:ag)=⟨(List.replicate c 0).toArray⟩:=by
 congr 2;induction c with
 |zero=>rfl
 |succ c a=>rw[Lib.repeatL,a,gF];rfl
def JG(c:Nat)(w:aa)(a:c<=1000):CB 98 #[ae ⟨#[0]⟩,O (c:Int)] w (ae ⟨(List.replicate c 0).toArray⟩):=by
 have h:=JH ⟨#[0]⟩ c w W (by show 1*c<=_;omega);rw[Xf] at h;exact h
def Ff(a b:List UInt8):(⟨a.toArray⟩:ag)++⟨b.toArray⟩=⟨(a++b).toArray⟩:=by
 rfl
def tC(s:ag):s=⟨s.data.toList.toArray⟩:=by rfl
def mz(s:ag):ag:=⟨(WM.fq s.data.toList).toArray⟩
def Wd(s:ag)(z8:ag)(a:z8.data.toList=WM.len8 (s.size*8)):mz s=if WM.cA s.size<8 then((s++⟨#[128]⟩)++⟨(List.replicate (WM.cA s.size) 0).toArray⟩)++⟨(List.replicate 128 0).toArray⟩++z8 else((s++⟨#[128]⟩)++⟨(List.replicate (WM.cA s.size) 0).toArray⟩)++z8:=by
 have b:s.data.toList.length=s.size:=by rw[hz];rfl
 unfold mz WM.fq;rw[b,<-a];split<;>(apply kP;simp[vg])
def We(s:ag):(mz s).size%128=0/\(mz s).size<=s.size+300/\s.size<(mz s).size:=by
 have b:s.data.toList.length=s.size:=by rw[hz];rfl
 have a:=WM.uq s.data.toList;have e:(mz s).size=(WM.fq s.data.toList).length:=by simp[mz,ByteArray.size]
 rw[e];refine⟨a,?_,?_⟩<;>(unfold WM.fq;rw[b];simp only[bA,ej,WM.ua,fU,oo];have c:WM.cA s.size<128:=(by unfold WM.cA;omega);split<;>simp<;>omega)
def FT(s:ag)(k:Nat)(h:128*k+128<=s.size):(s.extract (128*k) (128*k+128)).size=128/\(s.extract (128*k) (128*k+128)).data.toList=(s.data.toList.drop (128*k)).take 128:=by
 simp_all
def hZ(a:WM.V8)(k:Nat):List UInt8:=((([a.a,a.b,a.c,a.d,a.e,a.f,a.g,a.h]:List UInt64).take k).map λ x=>WM.len8 x.toNat).flatten
def II(a:WM.V8):hZ a 8=WM.U a:=by rfl
def IJ(a:WM.V8)(k:Nat)(x:UInt64)(h:([a.a,a.b,a.c,a.d,a.e,a.f,a.g,a.h]:List UInt64)[k]?=some x):hZ a (k+1)=hZ a k++WM.len8 x.toNat:=by
 obtain⟨b,c⟩:=ed.1 h;unfold hZ;rw[dC b,pR,List.flatten_append,c];simp
def aaR(s:ag):fQ s=⟨(WM.U (WM.chain (mz s).data.toList ((mz s).size/128))).toArray⟩:=by
 rfl
def Tj:(prog.info? 46).isSome=true:=by kernel_rfl
def Hr{cs:Array ab}{v:ab}(w:aa)(a:i<8)(b:cs[i]?=some v):(Instr.index 172 (aG cs) (O (i:Int))).run prog w= .ok v w:=
 C0 w vM nn Tj V a b
def DG{w:aa}(c3:WD.jn w){v:ab}{P:List ag}(c4:bg w v P)(d9:P≠[])(d2:P.length<=1000)(s:ag)(p:s.data.toList=(P.map (·.data.toList)).flatten)(e8:s.size<=1000000):
 CB 33 #[v] w (ae (fQ s)):=by
 have q:s.data.toList.length=s.size:=by rw[hz];rfl
 have A:=TF c4 d9 (by grind) d2
 rw[<-p,<-tC] at A
 have e:=λ c=>WD.uL (s.size*8) W c
 obtain⟨z8,f⟩:∃z8,fu (s.size*8)=z8:=⟨_,rfl⟩
 rw[f] at e
 rw[show((s.size*8:Nat):Int)=(s.size:Int)*8 by omega] at e
 have b:=Wd s z8 (by rw[<-f];exact WD.Cf _)
 have f1:z8.size=8:=by rw[<-f];rfl
 have h:=We s
 have d5:WM.cA s.size<128:=by unfold WM.cA;omega
 have d:=λ c=>JG (WM.cA s.size) c W
 have j:=λ c=>JG 128 c W
 have m1:(s.size:Int).tmod 128=((s.size%128:Nat):Int):=by rw[gd W];omega
 have m3:((247-s.size%128:Nat):Int).tmod 128=((WM.cA s.size:Nat):Int):=by unfold WM.cA;rw[gd W];omega
 have m5:IntKind.i64.wrap ((s.size%128:Nat):Int)=((s.size%128:Nat):Int):=bd _ W
 have m6:IntKind.i64.wrap ((WM.cA s.size:Nat):Int)=((WM.cA s.size:Nat):Int):=bd _ W
 have m7:IntKind.u64.wrap ((s.size:Int))=(s.size:Int):=by rw[rh];omega
 have m8:IntKind.u64.wrap ((s.size:Int)*8)=(s.size:Int)*8:=by rw[rh];omega
 obtain⟨u,g⟩:∃u,WM.cA s.size=u:=⟨_,rfl⟩
 have t:=g
 rw[g] at b d5 d m3 m6
 obtain⟨T,o⟩:∃T,mz s=T:=⟨_,rfl⟩
 have k:=aaR s
 rw[o] at b h k
 obtain⟨B,m⟩:∃B:ag,(⟨(List.replicate u 0).toArray⟩:ag)=B:=⟨_,rfl⟩
 obtain⟨N,l⟩:∃z:ag,(⟨(List.replicate 128 0).toArray⟩:ag)=z:=⟨_,rfl⟩
 have f2:B.size=u:=by rw[<-m];simp[ByteArray.size]
 have f0:N.size=128:=by rw[<-l];simp[ByteArray.size]
 rw[m] at b d
 rw[l] at b j
 have r:∀c,CB 98 #[ae ⟨#[0]⟩,O 128] c (ae N):=j
 have a:=Z (af.start w [])
 have M:=Z c3
 have b8:=Z A;have c1:=Z e;have c0:=Z d;have c6:=Z r;have C:=Z b;have b9:=Z h;have a2:=Z k
 obtain⟨f5,f6,rfl⟩:=c4.form
 clear c3 A e d j r b f m l o h g p q k
 obtain⟨x80,b⟩:∃x:ag,(⟨#[128]⟩:ag)=x:=⟨_,rfl⟩
 have e9:x80.size=1:=by rw[<-b];rfl
 have b7:=Z b
 rw[b] at C
 clear b
 have c5:s.size+x80.size<=9223372036854775807:=by omega
 have f3:s.size+x80.size+B.size<=9223372036854775807:=by omega
 have f4:s.size+x80.size+B.size+N.size<=9223372036854775807:=by omega
 have q4:s.size+x80.size+B.size+N.size+z8.size<=9223372036854775807:=by omega
 have e7:(0:Int)<=(u:Int):=by omega
 have c2:ai (((247:Int)-(s.size:Int)%128)%128=(u:Int)):=Z (by grind)
 clear t
 obtain⟨K,d0⟩:∃K,T.size/128=K:=⟨_,rfl⟩
 rw[d0] at a2
 have e6:=b9.U
 have e2:(T.size:Int).tdiv 128=(K:Int):=by rw[vn W];omega
 have e3:(T.size:Int)/128=(K:Int):=by omega
 have e4:IntKind.i64.wrap (K:Int)=(K:Int):=bd _ W
 have e5:128*K=T.size:=by have:=b9.U;omega
 by_cases a7:u<8
 ·rw[ax a7] at C
  go_enter func33,ntmps33
  go_upto_region 3 with((go_at_call 97;refine KC a b8.U λ t a=>?_))
  rw[c2.U]
  go_upto_region 7 with(first
  |(go_at_call 98;(first|(refine(c0.U _).mono ?_)|(refine(c6.U _).mono ?_));rintro e t ⟨rfl,a9⟩;have y:=a.U.below a9;replace a:=Z y)
  |(go_at_call 99;refine KC a (c1.U _) λ t a=>?_))
  rw[b7.U,<-C.U]
  obtain⟨b5,a5,h⟩:=(M.U.below a.U.ak).b
  have a8:t.heap[1]?=some (.cells (lD WM.fl).toArray b5 a5):=h
  go_wp2_with(first
  |(refine K7 a 0 172 8 λ L a=>?_)
  |(refine KA a 172 6 Lv λ D L d4 a=>?_)
  |(refine zh rfl 172 8 rfl (x:= .global 1) rfl a8 V rfl ?_))
  go_loopw [39] (λ f wr=>∃k:Nat,k<=K/\f=O (k:Int)/\af w wr [] [Y.row D 172 (lD (WM.chain T.data.toList k))]) (λ f _=>K-(intOf f).toNat)
  case atStart=>exact⟨0,bh _,rfl,a.U⟩
  case round=>
   obtain⟨k,d7,rfl,p⟩:=hrel
   have a:=Z p
   by_cases r:k<K
   ·have a6:(k:Int)<(K:Int):=by omega
    obtain⟨l,q⟩:=FT T k W
    obtain⟨X,z⟩:∃X,T.extract (128*k) (128*k+128)=X:=⟨_,rfl⟩
    rw[z] at l q
    have c7:IntKind.i64.wrap (128*(k:Int))=128*(k:Int):=bd _ W
    have c8:IntKind.i64.wrap (128*(k:Int)+128)=128*(k:Int)+128:=bd _ W
    have t0:(128*(k:Int)).toNat=128*k:=by omega
    have t1:(128*(k:Int)+128).toNat=128*k+128:=by omega
    have p0:(0:Int)<=128*(k:Int):=by omega
    have p1:128*(k:Int)+128<=(T.size:Int):=by omega
    have p2:128*(k:Int)<=128*(k:Int)+128:=by omega
    have E:WM.chain T.data.toList (k+1)=WM.compress (WM.chain T.data.toList k) X.data.toList:=by rw[q];rfl
    have Q:=Z (λ c (b2:BW w c)=>Gm (M.U.below b2) (WM.chain T.data.toList k) X l)
    generalize WM.chain T.data.toList k=b at*
    have a1:=Z E;have a4:=Z z
    clear E l q z r
    go_wp2
    refine af.region a.U (n:=9) (S:=bc [Y.row D 172 (lD b)]) V V (λ b6 l=>(aP (l.in mZ) bf)) (λ b6 y d=> ?_)
    replace a:=Z y;clear y
    refine W2 0 42 rfl rfl (Yr V 0 rfl 172 8 rfl rfl V _ rfl rfl) d ?_
    refine V2 1 43 d ?_
    refine V2 2 44 d ?_
    refine V2 3 45 d ?_
    refine V2 4 46 d ?_
    refine V2 5 47 d ?_
    refine V2 6 48 d ?_
    refine W2 7 49 (v:=ae X) rfl rfl (Or.inl ⟨by kernel_rfl,λ c d3=>by go_simp;(rw[a4.U])⟩) d ?_
    refine az.eM (i:=8) V zD rfl rfl 50 rfl rfl 100 rfl Gq _ rfl ?_
    refine KC a (Q.U _ a.U.ak) λ e1 a=>?_
    refine⟨_,rfl,(aP (a.U.in mZ) bf),?_⟩
    simp only[aH,au,ay]
    refine az.tail V ?_
    simp only[bU,bC]
    go_wp2_with((refine K7 a 0 172 8 λ L a=>?_))
    go_roundw
    case rel=>exact⟨k+1,by omega,by go_num,by rw[a1.U];exact a.U⟩
    case measure=>simp[intOf];omega
   ·obtain rfl:k=K:=by omega
    have b0:=II (WM.chain T.data.toList k)
    have F:=a2.U
    rw[<-b0] at F
    have a3:=Z F
    generalize WM.chain T.data.toList k=b at*
    go_wp2_with((refine KR a 0 172 8 ?_))
    go_loopw [8,53] (λ b4 f wr=>∃j:Nat,j<=8/\f=O (j:Int)/\b4=ae ⟨(hZ b j).toArray⟩/\af w wr [] []) (λ _ f _=>8-(intOf f).toNat)
    case atStart=>exact⟨0,by omega,rfl,rfl,a.U.tail⟩
    case round=>
     obtain⟨j,A,rfl,rfl,p⟩:=hrel
     have a:=Z p
     by_cases r:j<8
     ·obtain⟨x,hx⟩:∃x,([b.a,b.b,b.c,b.d,b.e,b.f,b.g,b.h]:List UInt64)[j]?=some x:=⟨_,ba (by simpa using r)⟩
      have d6:=λ c=>Hr (cs:=(lD b).toArray) (i:=j) (v:=U (x.toNat:Int)) c r (by
       have e:lD b=([b.a,b.b,b.c,b.d,b.e,b.f,b.g,b.h]:List UInt64).map (λ x=>Value.int .u64 (x.toNat:Int)):=rfl
       rw[e,iL,eI,hx];rfl)
      have G:=IJ b j x hx
      have b1:(hZ b j).length<=64:=by
       have:∀m:Nat,m<=8->(hZ b m).length=8*m:=by
        intro m d8
        unfold hZ
        rcases m with _|_|_|_|_|_|_|_|_|m<;>first|rfl|omega
       rw[this j A];omega
      obtain⟨g,J⟩:∃g,fu x.toNat=g:=⟨_,rfl⟩
      have H:=λ c=>WD.uL x.toNat x.toNat_lt c
      have I:=WD.Cf x.toNat
      rw[J] at H I
      rw[<-I] at G
      obtain⟨o,h⟩:∃o:ag,(⟨(hZ b j).toArray⟩:ag)=o:=⟨_,rfl⟩
      have b3:(⟨(hZ b (j+1)).toArray⟩:ag)=o++g:=by rw[G,<-h,tC g,Ff,<-tC]
      have d1:o.size<=64:=by rw[<-h];simpa[ByteArray.size] using b1
      have e0:g.size=8:=by rw[<-J];rfl
      have c5:o.size+g.size<=9223372036854775807:=by omega
      rw[h]
      have a0:=Z H;have R:=Z b3
      have a6:(j:Int)<8:=by omega
      go_wp2_with((go_at_call 99;refine KC a (a0.U _) λ t a=>?_))
      go_roundw
      case rel=>exact⟨j+1,by omega,by go_num,by rw[R.U],a.U⟩
      case measure=>simp[intOf];omega
     ·obtain rfl:j=8:=by omega
      go_wp2
      go_ret
      exact⟨by rw[a3.U];rfl,a.U.ak⟩
 ·rw[aj a7] at C
  have c9:decide ((u:Int)<8)=false:=by simp;omega
  have a7:=c9
  go_enter func33,ntmps33
  go_upto_region 3 with((go_at_call 97;refine KC a b8.U λ t a=>?_))
  rw[c2.U]
  go_upto_region 7 with(first
  |(go_at_call 98;((refine(c0.U _).mono ?_));rintro e t ⟨rfl,a9⟩;have y:=a.U.below a9;replace a:=Z y)
  |(go_at_call 99;refine KC a (c1.U _) λ t a=>?_))
  rw[b7.U,<-C.U]
  obtain⟨b5,a5,h⟩:=(M.U.below a.U.ak).b
  have a8:t.heap[1]?=some (.cells (lD WM.fl).toArray b5 a5):=h
  go_wp2_with(first
  |(refine K7 a 0 172 8 λ L a=>?_)
  |(refine KA a 172 6 Lv λ D L d4 a=>?_)
  |(refine zh rfl 172 8 rfl (x:= .global 1) rfl a8 V rfl ?_))
  go_loopw [39] (λ f wr=>∃k:Nat,k<=K/\f=O (k:Int)/\af w wr [] [Y.row D 172 (lD (WM.chain T.data.toList k))]) (λ f _=>K-(intOf f).toNat)
  case atStart=>exact⟨0,bh _,rfl,a.U⟩
  case round=>
   obtain⟨k,d7,rfl,p⟩:=hrel
   have a:=Z p
   by_cases r:k<K
   ·have a6:(k:Int)<(K:Int):=by omega
    obtain⟨l,q⟩:=FT T k W
    obtain⟨X,z⟩:∃X,T.extract (128*k) (128*k+128)=X:=⟨_,rfl⟩
    rw[z] at l q
    have c7:IntKind.i64.wrap (128*(k:Int))=128*(k:Int):=bd _ W
    have c8:IntKind.i64.wrap (128*(k:Int)+128)=128*(k:Int)+128:=bd _ W
    have t0:(128*(k:Int)).toNat=128*k:=by omega
    have t1:(128*(k:Int)+128).toNat=128*k+128:=by omega
    have p0:(0:Int)<=128*(k:Int):=by omega
    have p1:128*(k:Int)+128<=(T.size:Int):=by omega
    have p2:128*(k:Int)<=128*(k:Int)+128:=by omega
    have E:WM.chain T.data.toList (k+1)=WM.compress (WM.chain T.data.toList k) X.data.toList:=by rw[q];rfl
    have Q:=Z (λ c (b2:BW w c)=>Gm (M.U.below b2) (WM.chain T.data.toList k) X l)
    generalize WM.chain T.data.toList k=b at*
    have a1:=Z E;have a4:=Z z
    clear E l q z r
    go_wp2
    refine af.region a.U (n:=9) (S:=bc [Y.row D 172 (lD b)]) V V (λ b6 l=>(aP (l.in mZ) bf)) (λ b6 y d=> ?_)
    replace a:=Z y
    refine W2 0 42 rfl rfl (Yr V 0 rfl 172 8 rfl rfl V _ rfl rfl) d ?_
    refine V2 1 43 d ?_
    refine V2 2 44 d ?_
    refine V2 3 45 d ?_
    refine V2 4 46 d ?_
    refine V2 5 47 d ?_
    refine V2 6 48 d ?_
    refine W2 7 49 (v:=ae X) rfl rfl (Or.inl ⟨by kernel_rfl,λ c d3=>by go_simp;(rw[a4.U])⟩) d ?_
    refine az.eM (i:=8) V zD rfl rfl 50 rfl rfl 100 rfl Gq _ rfl ?_
    refine KC a (Q.U _ a.U.ak) λ e1 a=>?_
    refine⟨_,rfl,(aP (a.U.in mZ) bf),?_⟩
    simp only[aH,au,ay]
    refine az.tail V ?_
    simp only[bU,bC]
    go_wp2_with((refine K7 a 0 172 8 λ L a=>?_))
    go_roundw
    case rel=>exact⟨k+1,by omega,by go_num,by rw[a1.U];exact a.U⟩
    case measure=>simp[intOf];omega
   ·obtain rfl:k=K:=by omega
    have b0:=II (WM.chain T.data.toList k)
    have F:=a2.U
    rw[<-b0] at F
    have a3:=Z F
    generalize WM.chain T.data.toList k=b at*
    go_wp2_with((refine KR a 0 172 8 ?_))
    go_loopw [8,53] (λ b4 f wr=>∃j:Nat,j<=8/\f=O (j:Int)/\b4=ae ⟨(hZ b j).toArray⟩/\af w wr [] []) (λ _ f _=>8-(intOf f).toNat)
    case atStart=>exact⟨0,by omega,rfl,rfl,a.U.tail⟩
    case round=>
     obtain⟨j,A,rfl,rfl,p⟩:=hrel
     have a:=Z p
     by_cases r:j<8
     ·obtain⟨x,hx⟩:∃x,([b.a,b.b,b.c,b.d,b.e,b.f,b.g,b.h]:List UInt64)[j]?=some x:=⟨_,ba (by simpa using r)⟩
      have d6:=λ c=>Hr (cs:=(lD b).toArray) (i:=j) (v:=U (x.toNat:Int)) c r (by
       have e:lD b=([b.a,b.b,b.c,b.d,b.e,b.f,b.g,b.h]:List UInt64).map (λ x=>Value.int .u64 (x.toNat:Int)):=rfl
       rw[e,iL,eI,hx];rfl)
      have G:=IJ b j x hx
      have b1:(hZ b j).length<=64:=by
       have:∀m:Nat,m<=8->(hZ b m).length=8*m:=by
        intro m d8
        unfold hZ
        rcases m with _|_|_|_|_|_|_|_|_|m<;>first|rfl|omega
       rw[this j A];omega
      obtain⟨g,J⟩:∃g,fu x.toNat=g:=⟨_,rfl⟩
      have H:=λ c=>WD.uL x.toNat x.toNat_lt c
      have I:=WD.Cf x.toNat
      rw[J] at H I
      rw[<-I] at G
      obtain⟨o,h⟩:∃o:ag,(⟨(hZ b j).toArray⟩:ag)=o:=⟨_,rfl⟩
      have b3:(⟨(hZ b (j+1)).toArray⟩:ag)=o++g:=by rw[G,<-h,tC g,Ff,<-tC]
      have d1:o.size<=64:=by rw[<-h];simpa[ByteArray.size] using b1
      have e0:g.size=8:=by rw[<-J];rfl
      have c5:o.size+g.size<=9223372036854775807:=by omega
      rw[h]
      have a0:=Z H;have R:=Z b3
      have a6:(j:Int)<8:=by omega
      go_wp2_with((go_at_call 99;refine KC a (a0.U _) λ t a=>?_))
      go_roundw
      case rel=>exact⟨j+1,by omega,by go_num,by rw[R.U],a.U⟩
      case measure=>simp[intOf];omega
     ·obtain rfl:j=8:=by omega
      go_wp2
      go_ret
      exact⟨by rw[a3.U];rfl,a.U.ak⟩
end
