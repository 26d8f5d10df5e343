import Derived.ChangeSame
import Derived.Lib.SmallJoins
import Derived.OpenShut
import Derived.ProofKit
import Derived.Test.YtncpbkoinennoaaGreatDoorMBA
set_option linter.all false
set_option maxRecDepth 100000
set_option maxHeartbeats 0
namespace Go.Proofs.YtncpbkoinennoaaGreatDoor
open Go.RowKit Proofs.Tryz
attribute [local irreducible] wpList Calls
variable{g k n:Nat}{A:Option Addr}
def mF(a:ag):ag:=⟨(ShaM.sum (a.extract 0 (min a.size 100)).data.toList).toArray⟩
abbrev A8(a:ag):ab:=aG #[ae a,O 2,O 4,U 1,U 3,U 2,U 8,U 0,O 3,O 2]
def I3(a:ag)(w:aa):CB 20 #[ae a,O 2] w (A8 (mF a)):=by
 have b:=Z (af.start w []);have h:(a.extract 0 (min a.size 100)).size<=100000000:=by rw[ij];omega
 have d:=Z (λ c=>Xw (a.extract 0 (min a.size 100)) h c);have g:(⟨(ShaM.sum (a.extract 0 (min a.size 100)).data.toList).toArray⟩:ag)=mF a:=rfl;rw[g] at d;generalize mF a=n at*;have e:min (a.size:Int) 100=((min a.size 100:Nat):Int):=by omega
 obtain⟨c,f⟩:∃c,min a.size 100=c:=⟨_,rfl⟩;rw[f] at e d;have l:(c:Int)<=(a.size:Int):=by omega
 have m:(0:Int)<=(c:Int):=by omega
 go_enter func20,ntmps20
 go_wp2_with(first|refine KS b λ i b=>?_|refine KA b _ 4 aaU λ j i k b=>?_|go_at_call 6;refine KC b (d.U _) λ o b=>?_)
 refine iH b.U 0 rfl 50 10 rfl rfl V rfl rfl ?_;exact⟨rfl,b.U.ak⟩
abbrev AC.cells(a:AC):List ab:=[O a.c,O a.a,O a.b,U (a.n:Int),ae a.s]
def eK(L:List AC):List (List ab):=L.map λ a=>a.cells
def oG(L:List AC):(eK L).length=L.length:=by simp[eK]
def Mj(L:List AC)(a:AC):(eK L).flatten++a.cells=(eK (L++[a])).flatten:=by simp[eK]
def PC:dh 41 55 5 48:=dh.mk' underlying41 (z:= .agg #[O 0,O 0,O 0,U 0,.string ⟨#[]⟩]) V rfl zD
def EY{w:aa}{L:List AC}(h:bD 5 w (ad A n g) (eK L))(a:k<L.length):∃b o,A=some ⟨b,o,none⟩/\w.rangeAt b (o+k*5) (L[k]).cells:=by
 obtain⟨b,o,c,hx⟩:=h.at (j:=k) (by rw[oG];exact a);have:(eK L)[k]'(by rw[oG];exact a)=(L[k]).cells:=by unfold eK;rw[lJ]
 rw[this] at hx;exact⟨b,o,c,hx⟩
def Mm{w:aa}{L:List AC}(h:bD 5 w (ad A L.length g) (eK L))(M:L.length<=maxLen):Calls prog 21 #[ad A L.length g,O 14] w λ r a=>∃B c,r=ao (.slice B (L.take 14).length c)/\af w a [] [Y.ow 55 5 (.slice B (L.take 14).length c) (L.take 14).length (eK (L.take 14)).flatten]:=by
 have a:=Z (af.start w []);obtain⟨T,p⟩:∃T,L.take 14=T:=⟨_,rfl⟩;rw[p];have e:=Z p;have E:=Z h;have Q:ai (L.length<=9223372036854775807):=Z M
 go_enter func21,ntmps21
 go_wp2_with(((with_reducible show cH);(refine Mk a.U rfl 7 rfl (some 0) 55 [] (by go_simp;(rfl)) ?_;intro X C a2 b;replace a:=Z b;simp only[bk])))
 have b:=ie a.U 0 rfl 0 0 5 (aW _) zD rfl (eK (L.take 0)).flatten rfl;simp only[au,ay] at b;have a:=Z b
 go_loopw [5,6] (λ f d wr=>∃(j:Nat) (B:Option Addr) (c:Nat),j<=L.length/\j<=14/\f=ad B j c/\d=O (j:Int)/\ai (af w wr [] [Y.ow 55 5 (ad B j c) j (eK (L.take j)).flatten])) (λ _ d _=>14-(intOf d).toNat)
 case atStart=>exact⟨0,_,_,bh _,by decide,rfl,rfl,a⟩
 case round=>
  obtain⟨j,B,c,J,q,rfl,rfl,a⟩:=hrel;have P:=Z J;have n:=Z q;by_cases d:j<L.length
  ·have d1:decide (j<L.length)=true:=aS d;have d2:decide ((j:Int)<(L.length:Int))=true:=aS W;by_cases k:j<14
   ·have d3:decide (j<14)=true:=aS k;have d4:decide ((j:Int)<14)=true:=aS W;obtain⟨bb,o,H,hx⟩:=EY E.U d;subst H;have r:(eK (L.take j)).flatten++(L[j]).cells=(eK (L.take (j+1))).flatten:=by rw[Mj,dC d]
    obtain⟨⟨u,s,t,x,y⟩,N⟩:∃z,L[j]=z:=⟨_,rfl⟩;rw[N] at hx r;have G:=Z hx;have F:=Z r;have D:=Z d;have m:=Z k;have a3:(0:Int)<=(j:Int):=by omega
    have a4:(j:Int)<(L.length:Int):=by omega
    have a5:(j:Int)<=14:=by omega
    go_wp2_with(first|refine dX rfl 55 5 rfl rfl (λ i v I=>(G.U i v I|>fb a.U.ak rfl)) rfl V ?_|(with_reducible show cH);(refine Mk a.U rfl 24 rfl (some 1) 55 [_,_,_,_,_] (by go_simp;(exact⟨rfl,rfl⟩)) ?_;intro S C a1 b;replace a:=Z b;simp only[bk])|refine Ap a.U rfl PC rfl 1 rfl rfl 0 rfl rfl rfl rfl (by have:=n.U;unfold maxLen;omega) (by have:=n.U;omega) ?_;intro a0 R C b;simp only[au,ay] at b;replace a:=Z b)
    have b:=a.U.tail;rw[show [Value.int .i64 u,O s,O t,U (x:Int),ae y]=(⟨u,s,t,x,y⟩:AC).cells from rfl,F.U] at b;exact⟨⟨j+1,_,_,by have:=D.U;omega,by have:=m.U;omega,rfl,by go_num,Z b⟩,by have:=m.U;simp[intOf];omega⟩
   ·have d3:decide (j<14)=false:=bu k;have d4:decide ((j:Int)<14)=false:=bu W;have z:ai (j=14):=Z W;have l:T.length=14:=by rw[<-e.U,ee];omega
    have f:=Z l
    go_wp2_with(fail)
    go_ret
    have K:=z.U;subst K;rw[f.U,<-e.U];exact⟨_,_,rfl,a.U⟩
  ·have d1:decide (j<L.length)=false:=bu d;have d2:decide ((j:Int)<(L.length:Int))=false:=bu W;obtain rfl:j=L.length:=by omega
   have l:T=L:=by rw[<-e.U];exact cS q
   have f:=Z l;have i:=a.U;rw[lO] at i;have a:=Z i
   go_wp2_with(fail)
   go_ret
   rw[f.U];exact⟨_,_,rfl,a.U⟩
variable{r:Int}
section
open Go.ChangeShapes Go.WideShapes Go.ChangeAt Go.Joins Go.Deep
def aai(h:(Lit.int .u64 r).wf=true):0<=r/\r<=18446744073709551615:=by
 simp[Lit.wf,IntKind.min,IntKind.max,IntKind.signed,IntKind.bits] at h;omega
def Iw:prog.cellsOf 55=5:=by kernel_rfl
def VA:prog.cellsOf 3=1:=by kernel_rfl
def VB:prog.cellsOf 46=1:=by kernel_rfl
def VC:prog.cellsOf 9=1:=by kernel_rfl
def HK{α:Type}{l:List α}(h:l.length=5):∃a b c d e,l=[a,b,c,d,e]:=by
 match l,h with
 |[a,b,c,d,e],_=>simp
def VP{H:Type}{enc:TypeId×ab->H}{w:aa}{t:Nat->Bool}{f:Bool}{d:DataW H}{p:List MemPlace}
 (h:DataW.Trod enc prog w g t f 41 (.slice A n k) d p):n<=maxLen/\∃ops:Nat->AC,∀i,i<n->∃b q,A=some ⟨b,q,none⟩/\b<w.heap.size/\w.rangeAt b (q+i*5) (ops i).cells:=by
 obtain⟨c2,a3⟩:=h
 rcases open_slice underlying41 a3 with⟨u,_⟩|⟨a,l,c,m,b5,D,b9,u,c3,c6,c8,a5,_,hx⟩
 ·simp[Value.cells] at u
  obtain⟨rfl,rfl,rfl⟩:=u
  exact⟨by decide,λ _=>⟨0,0,0,0,⟨#[]⟩⟩,λ i z=>absurd z W⟩
 ·simp[Value.cells] at u
  obtain⟨rfl,rfl,rfl⟩:=u
  have c7:n<=m:=by rw[a5];split<;>omega
  obtain⟨ops,a9⟩:=choose_lt (α:=Option AC) (p:=λ i o=>∃C,o=some C/\∃b q,some a=some (⟨b,q,none⟩:Addr)/\b<w.heap.size/\w.rangeAt b (q+i*5) C.cells) (n:=n) (λ i z=>by
   obtain⟨c0,a1,b2⟩:=hx i W
   obtain⟨c4,P,e⟩:=World.cells?_some a1
   rw[Iw] at P e
   obtain⟨x0,x1,x2,x3,x4,rfl⟩:=HK P
   have e0:=e 0 W
   have e1:=e 1 W
   have e2:=e 2 W
   have e3:=e 3 W
   have e4:=e 4 W
   obtain⟨b,o,b6⟩:=a
   simp only[List.getElem?_cons_zero,mV] at e0 e1 e2 e3 e4
   obtain⟨b8,y,_,_,_,b3,x⟩:=DataW.trod_struct underlying55 b2
   have b4:b8.length=5:=b3
   obtain⟨y0,y1,y2,y3,y4,rfl⟩:=HK b4
   have E:DataW.trod enc prog w g t f y 3 (([x0,x1,x2,x3,x4].drop 0).take (prog.cellsOf 3))=[y0,y1,y2,y3,y4][0]?:=x 0 _ rfl
   have F:DataW.trod enc prog w g t f y 3 (([x0,x1,x2,x3,x4].drop 1).take (prog.cellsOf 3))=[y0,y1,y2,y3,y4][1]?:=x 1 _ rfl
   have G:DataW.trod enc prog w g t f y 3 (([x0,x1,x2,x3,x4].drop 2).take (prog.cellsOf 3))=[y0,y1,y2,y3,y4][2]?:=x 2 _ rfl
   have I:DataW.trod enc prog w g t f y 46 (([x0,x1,x2,x3,x4].drop 3).take (prog.cellsOf 46))=[y0,y1,y2,y3,y4][3]?:=x 3 _ rfl
   have J:DataW.trod enc prog w g t f y 9 (([x0,x1,x2,x3,x4].drop 4).take (prog.cellsOf 9))=[y0,y1,y2,y3,y4][4]?:=x 4 _ rfl
   simp only[VA,VB,VC,List.drop,List.take,List.getElem?_cons_zero,mV] at E F G I J
   obtain⟨S,L,_,c9⟩:=za oB E
   obtain⟨T,M,_,d0⟩:=za oB F
   obtain⟨X,N,_,d1⟩:=za oB G
   obtain⟨B,Q,_,b7⟩:=za nn I
   obtain⟨s,R,_,d2⟩:=DataW.trod_string dO J
   simp only[zj,and_true] at L M N Q R
   subst L M N Q R
   have b1:b6=none:=by
    obtain⟨c1,a2,_⟩:=hx 0 W
    obtain⟨_,a4,K⟩:=World.cells?_some a2
    rw[Iw] at a4 K
    have z0:=K 0 W
    rw[ba W] at z0
    simpa[Addr.add] using World.cell?_spot z0
   subst b1
   have a6:=(aai b7).1
   have a7:((B.toNat:Nat):Int)=B:=Ei a6
   refine⟨some ⟨S,T,X,B.toNat,s⟩,⟨S,T,X,B.toNat,s⟩,rfl,b,o,rfl,?_,?_⟩
   ·simp only[add_plain] at e0
    exact ER w _ e0
   ·simp only[add_plain] at e0 e1 e2 e3 e4
    intro j v r
    show w.cell? ⟨b,o+i*5+j,none⟩=some v
    have c5:j<5:=by
     have:=(ed.1 r).1
     exact this
    have a0:j=0\/j=1\/j=2\/j=3\/j=4:=by omega
    rcases a0 with rfl|rfl|rfl|rfl|rfl
    ·cases r;exact e0
    ·cases r;exact e1
    ·cases r;exact e2
    ·cases r;rw[a7];exact e3
    ·cases r;exact e4)
  refine⟨by omega,λ i=>(ops i).getD ⟨0,0,0,0,⟨#[]⟩⟩,λ i z=> ?_⟩
  obtain⟨C,a8,b,q,b0⟩:=a9 i z
  refine⟨b,q,?_⟩
  have:(ops i).getD ⟨0,0,0,0,⟨#[]⟩⟩=C:=by rw[a8];rfl
  show some a=some ⟨b,q,none⟩/\b<w.heap.size/\w.rangeAt b (q+i*5) ((ops i).getD ⟨0,0,0,0,⟨#[]⟩⟩).cells
  rw[this]
  exact b0
def VO{H:Type}{enc:TypeId×ab->H}{w:aa}{r:Nat->Bool}{j:Bool}{d:DataW H}{p:List MemPlace}
 (h:DataW.Trod enc prog w g r j 41 (.slice A n k) d p):∃L:List AC,L.length=n/\n<=maxLen/\bD 5 w (.slice A n k) (eK L):=by
 obtain⟨m,ops,o⟩:=VP h
 refine⟨(List.range n).map ops,by simp,m,?_,A,k,?_,?_,λ i c=> ?_⟩
 ·intro x hx
  obtain⟨a,-,rfl⟩:=ep.1 hx
  rfl
 ·rw[oG];simp
 ·rw[oG];grind
 ·rw[oG] at c
  have l:i<n:=by simpa using c
  obtain⟨b,q,e,f,s⟩:=o i l
  refine⟨b,q,e,f,?_⟩
  have:(eK ((List.range n).map ops))[i]'(by rw[oG];exact c)=(ops i).cells:=by unfold eK;rw[lJ,lJ,List.getElem_range]
  grind
end
