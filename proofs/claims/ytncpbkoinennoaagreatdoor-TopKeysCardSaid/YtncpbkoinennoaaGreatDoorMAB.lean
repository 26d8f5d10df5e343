import Derived.Ground.NamesProg
import Derived.Shelf.Bits.Mul64
import Derived.Shelf.Lay
import Derived.Shelf.Spec.BitsCarry
import Derived.Test.YtncpbkoinennoaaGreatDoorMAA
set_option linter.all false
set_option maxRecDepth 100000
set_option maxHeartbeats 0
namespace Go.Proofs.YtncpbkoinennoaaGreatDoor
open Go.RowKit Proofs.Tryz
attribute [local irreducible] wpList Calls
noncomputable def xQ(n:Nat):Bool:=match prog.funcs[n]? with
 |some a=> !(a.name== "runtime.NumGoroutine")&& !a.body.isNone
 |none=>false
def en(n:Nat)(h:xQ n=true:=by kernel_rfl)(a:Array ab)(w:aa):(callFunc n a).run prog w= .ok (.enter n a) w:=by
 unfold xQ at h;split at h
 ·rename_i c f;simp only[dL,Ag,dP,ne_eq] at h;obtain⟨d,b⟩:=h;have e:¬c.body=none:=by intro h;rw[h] at b;cases b
  simp[callFunc,go_sem,f,d,e]
 ·cases h
def sB:(∀b:Bool,(true&&b)=b)/\(∀b:Bool,(b&&true)=b)/\(∀b:Bool,(false&&b)=false)/\(∀b:Bool,(b&&false)=false)/\(∀b:Bool,(true||b)=true)/\(∀b:Bool,(b||true)=true)/\(∀b:Bool,(false||b)=b)/\(∀b:Bool,(b||false)=b)/\((!true)=false)/\((!false)=true):=by simp
def sG{α:Type}:(∀(l:List α) (i:Nat),l.toArray[i]?=l[i]?)/\(∀(a:α) (l:List α) (i:Nat),(a::l)[i+1]?=l[i]?)/\(∀(a:α) (l:List α),(a::l)[0]?=some a)/\(∀a b:α,(some a=some b)=(a=b)):=by simp
abbrev fl{P:_}{ops:_}{Q:_}{d:_}{x:_}{y:_}{f:_}{e:_}{b:_}{c:_}{rest:_}{a:_}{wr:_}:=wpList P ops Q (⟨d,.next x y,f,e,b,c⟩::rest) a wr
abbrev yf{P:_}{ops:_}{Q:_}{d:_}{x:_}{y:_}{f:_}{e:_}{b:_}{c:_}{rest:_}{a:_}{wr:_}:=wpList P ops Q (⟨d,.makeMap x y,f,e,b,c⟩::rest) a wr
abbrev IC{P:_}{ops:_}{Q:_}{d:_}{x:_}{y:_}{z:_}{u:_}{f:_}{e:_}{b:_}{c:_}{rest:_}{a:_}{wr:_}:=wpList P ops Q (⟨d,.lookup x y z u,f,e,b,c⟩::rest) a wr
abbrev Sw{P:_}{ops:_}{Q:_}{d:_}{x:_}{y:_}{z:_}{u:_}{f:_}{e:_}{b:_}{c:_}{rest:_}{a:_}{wr:_}:=wpList P ops Q (⟨d,.insert x y z u,f,e,b,c⟩::rest) a wr
abbrev yg{P:_}{ops:_}{Q:_}{d:_}{x:_}{y:_}{f:_}{e:_}{b:_}{c:_}{rest:_}{a:_}{wr:_}:=wpList P ops Q (⟨d,.range x y,f,e,b,c⟩::rest) a wr
variable{l:List Int}{k n:Nat}
def aN(v:ab)(n:Nat):Prop:=∃l,v=aG (ak l)/\FM.Good l/\FM.fe l=n
def aN.lt{v:ab}(h:aN v n):n<FM.PN:=by obtain⟨l,-,-,rfl⟩:=h;exact FM.Il l
def dK:ak (List.replicate 16 0)=#[O 0,O 0,O 0,O 0,O 0,O 0,O 0,O 0,O 0,O 0,O 0,O 0,O 0,O 0,O 0,O 0]:=by kernel_rfl
structure AW(w wr:aa)(l y z:List Int):Prop where
 aJ:BW w wr
 a:ah wr w.heap.size 88 (ak l)
 b:ah wr (w.heap.size+1) 88 (ak y)
 r:ah wr (w.heap.size+1+1) 88 (ak z)
def AW.drew{w wr:aa}{l y z:List Int}(h:AW w wr l y z):AW w wr.drew l y z:=⟨h.aJ.drew,h.a.drew,h.b.drew,h.r.drew⟩
def AW.set{w wr:aa}{l y z:List Int}(h:AW w wr l y z)(k:Nat)(x:Int):AW w (wr.setCell ⟨w.heap.size,k,none⟩ (O x)) (l.set k x) y z:=
 ⟨h.aJ.setCell (aQ _) _,by rw[<-ph];exact h.a.dx k _,h.b.cE zS _,h.r.cE (by simp;omega) _⟩
def AW.carried{w wr c:aa}{b y z:List Int}(h:AW w wr l y z)(a:CW wr c w.heap.size b):AW w c b y z:=
 ⟨h.aJ.trans ((a.only.mono h.aJ.size (λ k e d=>d)).below zS),a.a,h.b.only a.only h.b.lt zS,h.r.only a.only h.r.lt (by simp;omega)⟩
def AW.start(w:aa)(x y z:List Int):AW w (((w.alloc (.cells (ak x) 88)).alloc (.cells (ak y) 88)).alloc (.cells (ak z) 88)) x y z:=by
 refine⟨(((bp _ _).alloc (aQ _) _).alloc zS _).alloc (by simp;omega) _,((ah.new w 88 _).alloc _).alloc _,(fD w _ 88 _).alloc _,?_⟩;have h:=fD (w.alloc (.cells (ak x) 88)) (.cells (ak y) 88) 88 (ak z);rw[xx] at h;exact h
def qT{u v:ab}(S:aN u n)(T:aN v k)(w:aa):
 Calls prog 188 #[u,v] w λ e a=>(∃r,e=ao r/\aN r ((n+k)%FM.PN))/\BW w a:=by
 obtain⟨x,rfl,hx,rfl⟩:=S
 obtain⟨y,rfl,a1,rfl⟩:=T
 have c:=Z hx;have j:=Z a1
 go_enter func188,ntmps188
 go_wp2
 rw[<-dK]
 go_loopw [6] (λ i wr=>∃a:Nat,a<=16/\i=O a/\AW w wr (FM.dw (·+·) a x y) y (List.replicate 16 0)) (λ i _=>16-(intOf i).toNat)
 case atStart=>exact⟨0,by omega,rfl,AW.start w x y _⟩
 case round=>
  obtain⟨a,a6,rfl,a0⟩:=hrel
  have b:=Z a0
  by_cases a7:a<16
  ·obtain⟨p,f⟩:∃p,x[a]?=some p:=⟨_,aU (by have:=c.U.len;omega)⟩
   obtain⟨q,h⟩:∃q,y[a]?=some q:=⟨_,aU (by have:=j.U.len;omega)⟩
   have a8:=c.U.bound (cX f)
   have a9:=j.U.bound (cX h)
   have a2:wr.cell? ⟨w.heap.size,a,none⟩=some (O p):=(b.U.a.cell a).trans (dp ((FM.vI _ a x y a (aQ _)).trans f))
   have a3:wr.cell? ⟨w.heap.size+1,a,none⟩=some (O q):=(b.U.b.cell a).trans (dp h)
   have f0:=b.U.a.frozen a
   have R:=FM.vJ (·+·) a x y p q f h
   have F:=Z R
   have b3:IntKind.i64.wrap (p+q)=p+q:=aO _ W
   have b1:(0:Int)<=(a:Int):=by omega
   have b2:(a:Int)<16:=by omega
   go_wp2
   go_still_tail 11,V
   show wpList _ _ _ _ _ wr.drew
   go_wp2
   go_roundw
   case rel=>
    have:=(b.U.set a (p+q)).drew
    rw[F.U] at this
    exact⟨a+1,by omega,by go_num,this⟩
   case measure=>simp[intOf];omega
  ·obtain rfl:a=16:=by omega
   have X:=FM.Dr 16 x y c.U.len j.U.len
   have J:∀d∈FM.dw (·+·) 16 x y,-152<=d/\d<=131222:=FM.yN _ (λ d=> -152<=d/\d<=131222) 16 x y (λ d hd=>by have:=c.U.bound hd;omega) (λ p f q h=>by have a4:=c.U.bound f;have a5:=j.U.bound h;show-152<=p+q/\p+q<=131222;omega)
   have N:(FM.dw (·+·) 16 x y).length=16:=by rw[FM.yO];exact c.U.len
   generalize FM.dw (·+·) 16 x y=s at*
   have G:=Z X;have B:=Z J;have D:=Z N
   go_wp2_with fail
   refine(uR b.U.a D.U (-2) 2 (-152) 131222 B.U zD zD zD zD zD zD zD zD).mono ?_
   rintro e b4 ⟨rfl,l,L,m⟩
   have d:=b.U.carried L
   have o:=m.IL zD zD
   have t:=m.mod
   rw[G.U] at t
   have M:=FM.RX t
   have z:(ak l).size=16:=by rw[cF];exact o.len
   have r:(prog.info? 88).map (·.size)=some (ak l).size:=by rw[z];exact dX
   have b0:=dI (P:=prog) d.r (ak l) (by rw[z,cF,ez]) (mz _)
   have H:=d.r.setRow (ak l)
   have K:=bL d.aJ W (ak l) (g:=w.heap.size+1+1)
   have I:=d.a
   have Q:aN (aG (ak l)) ((FM.fe x+FM.fe y)%FM.PN):=⟨l,rfl,o,M⟩
   generalize ak l=i at*
   have A:=Z H;have C:=Z K;have E:=Z Q
   go_wp2_with(refine bD rfl 88 (Operand.tmp 2) rfl w.heap.size rfl 88 i (0,0) _ I aY rfl r ?_)
   exact cr (v:= .agg i) (fI results188 _ _ (w.heap.size+1+1) 88 i (0,0) _ rfl A.U aY rfl r) rfl ⟨⟨_,rfl,E.U⟩,C.U⟩
def sM{u v:ab}(S:aN u n)(T:aN v k)(w:aa):
 Calls prog 186 #[u,v] w λ e a=>(∃r,e=ao r/\aN r ((n+(FM.PN-k))%FM.PN))/\BW w a:=by
 obtain⟨x,rfl,hx,rfl⟩:=S
 obtain⟨y,rfl,a1,rfl⟩:=T
 have c:=Z hx;have j:=Z a1
 go_enter func186,ntmps186
 go_wp2
 rw[<-dK]
 go_loopw [6] (λ i wr=>∃a:Nat,a<=16/\i=O a/\AW w wr (FM.dw (·-·) a x y) y (List.replicate 16 0)) (λ i _=>16-(intOf i).toNat)
 case atStart=>exact⟨0,by omega,rfl,AW.start w x y _⟩
 case round=>
  obtain⟨a,a6,rfl,a0⟩:=hrel
  have b:=Z a0
  by_cases a7:a<16
  ·obtain⟨p,f⟩:∃p,x[a]?=some p:=⟨_,aU (by have:=c.U.len;omega)⟩
   obtain⟨q,h⟩:∃q,y[a]?=some q:=⟨_,aU (by have:=j.U.len;omega)⟩
   have a8:=c.U.bound (cX f)
   have a9:=j.U.bound (cX h)
   have a2:wr.cell? ⟨w.heap.size,a,none⟩=some (O p):=(b.U.a.cell a).trans (dp ((FM.vI _ a x y a (aQ _)).trans f))
   have a3:wr.cell? ⟨w.heap.size+1,a,none⟩=some (O q):=(b.U.b.cell a).trans (dp h)
   have f0:=b.U.a.frozen a
   have R:=FM.vJ (·-·) a x y p q f h
   have F:=Z R
   have b3:IntKind.i64.wrap (p-q)=p-q:=aO _ W
   have b1:(0:Int)<=(a:Int):=by omega
   have b2:(a:Int)<16:=by omega
   go_wp2
   go_still_tail 11,V
   show wpList _ _ _ _ _ wr.drew
   go_wp2
   go_roundw
   case rel=>
    have:=(b.U.set a (p-q)).drew
    rw[F.U] at this
    exact⟨a+1,by omega,by go_num,this⟩
   case measure=>simp[intOf];omega
  ·obtain rfl:a=16:=by omega
   have X:=FM.J4 16 x y c.U.len j.U.len
   have J:∀d∈FM.dw (·-·) 16 x y,-65687<=d/\d<=65687:=FM.yN _ (λ d=> -65687<=d/\d<=65687) 16 x y (λ d hd=>by have:=c.U.bound hd;omega) (λ p f q h=>by have a4:=c.U.bound f;have a5:=j.U.bound h;show-65687<=p-q/\p-q<=65687;omega)
   have N:(FM.dw (·-·) 16 x y).length=16:=by rw[FM.yO];exact c.U.len
   generalize FM.dw (·-·) 16 x y=s at*
   have G:=Z X;have B:=Z J;have D:=Z N
   go_wp2_with fail
   refine(uR b.U.a D.U (-2) 2 (-65687) 65687 B.U zD zD zD zD zD zD zD zD).mono ?_
   rintro e b4 ⟨rfl,l,L,m⟩
   have d:=b.U.carried L
   have o:=m.IL zD zD
   have t:=m.mod
   rw[G.U] at t
   have M:=FM.RZ t
   have z:(ak l).size=16:=by rw[cF];exact o.len
   have r:(prog.info? 88).map (·.size)=some (ak l).size:=by rw[z];exact dX
   have b0:=dI (P:=prog) d.r (ak l) (by rw[z,cF,ez]) (mz _)
   have H:=d.r.setRow (ak l)
   have K:=bL d.aJ W (ak l) (g:=w.heap.size+1+1)
   have I:=d.a
   have Q:aN (aG (ak l)) ((FM.fe x+(FM.PN-FM.fe y))%FM.PN):=⟨l,rfl,o,M⟩
   generalize ak l=i at*
   have A:=Z H;have C:=Z K;have E:=Z Q
   go_wp2_with(refine bD rfl 88 (Operand.tmp 2) rfl w.heap.size rfl 88 i (0,0) _ I aY rfl r ?_)
   exact cr (v:= .agg i) (fI results186 _ _ (w.heap.size+1+1) 88 i (0,0) _ rfl A.U aY rfl r) rfl ⟨⟨_,rfl,E.U⟩,C.U⟩
variable{f r:Int}{g i:Nat}
namespace FM
def oh(h:l[g]?=some r):val (l.take (g+1))=val (l.take g)+r*65536^g:=by
 obtain⟨a,rfl⟩:=cw.1 h;rw[eC a,tI,eA,hz W];simp only[val,rR,rQ];grind
structure ih(x y t:List Int)(i j:Nat):Prop where
 len:t.length=32
 eq:val t=val (x.take i)*val y+(x.getD i 0)*65536^i*val (y.take j)
 small:∀d∈t,-((16*i+j:Nat)*4304803321)<=d/\d<=(16*i+j:Nat)*4304803321
def ih.start(x y:List Int):ih x y (List.replicate 32 0) 0 0:=by
 refine⟨by simp,?_,λ d hd=>by grind⟩;simp only[dr,val,rR,Int.zero_mul,rQ];decide
def DN{p q:Int}(d: -76<=p/\p<=65611)(e: -76<=q/\q<=65611): -4304803321<=p*q/\p*q<=4304803321:=by
 have a:p.natAbs<=65611:=by omega
 have b:q.natAbs<=65611:=by omega
 have c:=uj a b;rw[<-Int.natAbs_mul] at c;omega
def ih.step{y t:List Int}(h:ih l y t i g){s:Int}(k:i<16)(m:g<16)(n:l[i]?=some r)(c:y[g]?=some f)(j:t[i+g]?=some s)(b: -76<=r/\r<=65611)(e: -76<=f/\f<=65611):
 ih l y (t.set (i+g) (s+r*f)) i (g+1):=by
 obtain⟨a,rfl⟩:=cw.1 j
 refine⟨by simp[h.len],?_,λ d hd=> ?_⟩
 ·rw[jq _ _ _ a,oh c,h.eq]
  grind
 ·have o:=DN b e
  rcases nb hd with hd|rfl
  ·have:=h.small d hd;omega
  ·have:=h.small _ (eR a);omega
def ih.next{y t:List Int}(h:ih l y t i 16)(b:i<16)(hx:l.length=16)(c:y.length=16):ih l y t (i+1) 0:=by
 obtain⟨p,a⟩:∃p,l[i]?=some p:=⟨_,aU W⟩;refine⟨h.len,?_,λ d hd=>by have:=h.small d hd;omega⟩;rw[h.eq,oh a,bK (by omega:y.length<=16)];have e:l.getD i 0=p:=by simp[dc,a]
 rw[e,oE];simp only[val,rR,rQ];grind
def lp(t:List Int):List Int:=List.zipWith (λ p q=>p+38*q) (t.take 16) (t.drop 16)
def MR:∀(a b:List Int),a.length=b.length->val (List.zipWith (λ p q=>p+38*q) a b)=val a+38*val b
 |[],[],_=>rfl
 |p::a,q::b,h=>by
  have:=MR a b (by grind)
  simp only[List.zipWith_cons_cons,val,this];omega
def Sk(h:l.length=32):(lp l).length=16:=by simp[lp,h]
def Sj(b:l[k]?=some r)(c:l[k+16]?=some f)(a:k<16):(lp l)[k]?=some (r+38*f):=by
 unfold lp;grind
def Sm(h:l.length=32):val (lp l)%P=val l%P:=by
 have b:val (lp l)=val (l.take 16)+38*val (l.drop 16):=MR _ _ (by simp[h]);have a:val l=val (l.take 16)+65536^16*val (l.drop 16):=by
  have:=tI (l.take 16) (l.drop 16);rw[nf,eA,h] at this;exact this
 rw[wA] at a;have c:val (lp l)=val l+P*(-(2*val (l.drop 16))):=by
  rw[b,a,Int.add_mul,Int.mul_neg];have:P*(2*val (List.drop 16 l))=2*P*val (List.drop 16 l):=by ac_rfl
  omega
 rw[c,tT]
def Sl(h:∀d∈l,-r<=d/\d<=r):∀d∈lp l,-(39*r)<=d/\d<=39*r:=by
 intro d hd;unfold lp at hd;obtain⟨k,c,rfl⟩:=qg.1 hd;rw[FY];have a:=h _ (oC (eR (by grind:k<(l.take 16).length)));have b:=h _ (uc (eR (by grind:k<(l.drop 16).length)));omega
def J3:∀(k:Nat) (x y:List Int),x.length=k->y.length=k->dw (λ _ q=>q) k x y=y
 |0,x,y,a,b=>by rw[ig a,ig b];rfl
 |k+1,p::x,q::y,a,b=>by
  have:=J3 k x y (by grind) (by grind)
  simp only[dw,this]
 |k+1,[],y,a,b=>by grind
 |k+1,p::x,[],a,b=>by grind
def gJ.first{e:List Int}(h:gJ e l r f)(m: -1000000000000<=r)(n:f<=1000000000000):(∀d∈l,-50000000000000<=d/\d<=50000000000000)/\-(2*65536^16)<=val l/\val l<3*65536^16:=by
 obtain⟨q,z,t,rfl,g,i,j,k,a,b,-,-⟩:=h.split;have c:=jX t a;rw[b] at c;refine⟨λ d hd=> ?_,?_,?_⟩
 ·grind
 ·simp only[val];omega
 ·simp only[val];omega
end FM
def acm:ak (List.replicate 32 0)=#[O 0,O 0,O 0,O 0,O 0,O 0,O 0,O 0,O 0,O 0,O 0,O 0,O 0,O 0,O 0,O 0,O 0,O 0,O 0,O 0,O 0,O 0,O 0,O 0,O 0,O 0,O 0,O 0,O 0,O 0,O 0,O 0]:=by kernel_rfl
structure MW(w wr:aa)(l y t:List Int):Prop where
 a:AW w wr l y (List.replicate 16 0)
 t:ah wr (w.heap.size+1+1+1) 263 (ak t)
def MW.drew{w wr:aa}{l y t:List Int}(h:MW w wr l y t):MW w wr.drew l y t:=⟨h.a.drew,h.t.drew⟩
def MW.set{w wr:aa}{l y t:List Int}(h:MW w wr l y t)(k:Nat)(x:Int):MW w (wr.setCell ⟨w.heap.size,k,none⟩ (O x)) (l.set k x) y t:=
 ⟨h.a.set k x,h.t.cE (by simp<;>omega) _⟩
def MW.Zo{w wr:aa}{y t:List Int}(h:MW w wr l y t)(k:Nat)(x:Int):MW w (wr.setCell ⟨w.heap.size+1+1+1,k,none⟩ (O x)) l y (t.set k x):=
 ⟨⟨h.a.aJ.setCell (by simp<;>omega) _,h.a.a.cE (by simp<;>omega) _,h.a.b.cE (by simp<;>omega) _,h.a.r.cE zS _⟩,by rw[<-ph];exact h.t.dx k _⟩
def MW.start(w:aa)(x y t:List Int):MW w ((((w.alloc (.cells (ak x) 88)).alloc (.cells (ak y) 88)).alloc (.cells (ak (List.replicate 16 0)) 88)).alloc (.cells (ak t) 263)) x y t:=by
 have h:=AW.start w x y (List.replicate 16 0);refine⟨⟨h.aJ.alloc (by have:=h.aJ.size;omega) _,h.a.alloc _,h.b.alloc _,h.r.alloc _⟩,?_⟩;have h:=fD ((w.alloc (.cells (ak x) 88)).alloc (.cells (ak y) 88)) (.cells (ak (List.replicate 16 0)) 88) 263 (ak t);rw[xx,xx] at h;exact h
def TP:(prog.info? 2).isSome=true:=by kernel_rfl
def Pw:prog.cellsOf 2=1:=by kernel_rfl
def CM{cs:Array ab}{v:ab}(w:aa)(a:i<16)(b:cs[i]?=some v):(Instr.index 86 (aG cs) (O (i:Int))).run prog w= .ok v w:=
 Eh w oO underlying2 TP Pw a b
def qW:(prog.info? 86).map (·.size)=some 16:=by kernel_rfl
def eV{u v:ab}(E:aN u n)(d6:aN v k)(w:aa):
 Calls prog 107 #[u,v] w λ e a=>(∃r,e=ao r/\aN r (n*k%FM.PN))/\BW w a:=by
 obtain⟨x,rfl,hx,rfl⟩:=E
 obtain⟨y,rfl,d9,rfl⟩:=d6
 have o:=Z hx;have C:=Z d9
 go_enter func107,ntmps107
 go_upto_region 2 with fail
 rw[<-dK,<-acm]
 have T:=MW.start w x y (List.replicate 32 0)
 generalize(((w.alloc (.cells (ak x) 88)).alloc (.cells (ak y) 88)).alloc (.cells (ak (List.replicate 16 0)) 88)).alloc (.cells (ak (List.replicate 32 0)) 263)=e8 at*
 have b8:=T.a.a
 have d3:(ak x).size=16:=by rw[cF];exact o.U.len
 have d4:(ak y).size=16:=by rw[cF];exact C.U.len
 have J:(prog.info? 86).map (·.size)=some (ak x).size:=by rw[d3];exact qW
 have b1:=Z T
 go_wp2_with(refine bD rfl 86 (Operand.tmp 11) rfl w.heap.size rfl 88 (ak x) (0,0) _ b8 oO rfl J ?_)
 go_loopw [13] (λ i wr=>∃(a:Nat) (t:List Int),a<=16/\i=O a/\MW w wr x y t/\FM.ih x y t a 0) (λ i _=>16-(intOf i).toNat)
 case atStart=>exact⟨0,_,by omega,rfl,b1.U,FM.ih.start x y⟩
 case round=>
  obtain⟨i,t,d0,rfl,f,K⟩:=hrel
  have b:=Z f;have c:=Z K
  by_cases D:i<16
  ·obtain⟨p,z⟩:∃p,x[i]?=some p:=⟨_,aU (by have:=o.U.len;omega)⟩
   have L:=o.U.bound (cX z)
   have d8:=dp z
   have b4:=Z z
   have e0:(0:Int)<=(i:Int):=by omega
   have e1:(i:Int)<16:=by omega
   have b9:=b.U.a.b
   have J:(prog.info? 86).map (·.size)=some (ak y).size:=by rw[d4];exact qW
   have c9:=λ d=>CM (cs:=ak x) (i:=i) d W d8
   go_wp2_with(refine bD rfl 86 (Operand.tmp 17) rfl (w.heap.size+1) rfl 88 (ak y) (0,0) _ b9 oO rfl J ?_)
   go_loopw [19] (λ j wr=>∃(a:Nat) (t:List Int),a<=16/\j=O a/\MW w wr x y t/\FM.ih x y t i a) (λ j _=>16-(intOf j).toNat)
   case atStart=>exact⟨0,t,by omega,rfl,b.U,c.U⟩
   case round=>
    obtain⟨j,t,a1,rfl,f,K⟩:=hrel
    have b:=Z f;have c:=Z K
    by_cases h:j<16
    ·obtain⟨q,A⟩:∃q,y[j]?=some q:=⟨_,aU (by have:=C.U.len;omega)⟩
     have M:=C.U.bound (cX A)
     have S:=dp A
     have G:=Z A
     obtain⟨s,B⟩:∃s,t[i+j]?=some s:=⟨_,aU (by have:=c.U.len;omega)⟩
     have a2:=c.U.small s (cX B)
     have Q:=FM.DN L M
     have N:=c.U.step D h b4.U G.U B L M
     have R:wr.cell? ⟨w.heap.size+1+1+1,i+j,none⟩=some (O s):=(b.U.t.cell (i+j)).trans (dp B)
     have f0:=b.U.t.frozen (i+j)
     have c9:=λ d=>CM (cs:=ak y) (i:=j) d h S
     obtain⟨m,l⟩:∃m,p*q=m:=⟨_,rfl⟩
     rw[l] at Q N
     have e3:IntKind.i64.wrap (p*q)=m:=by rw[l];exact aO _ W
     have e4:IntKind.i64.wrap (s+m)=s+m:=aO _ W
     have a9:IntKind.i64.wrap ((i:Int)+(j:Int))=((i+j:Nat):Int):=(aO _ W).trans W
     have a0:(i:Int)+(j:Int)=((i+j:Nat):Int):=by omega
     have a7:(0:Int)<=((i+j:Nat):Int):=by omega
     have a8:((i+j:Nat):Int)<32:=by omega
     have e2:(0:Int)<=(j:Int):=by omega
     have a3:(j:Int)<16:=by omega
     have d:=Z N
     obtain⟨X,H⟩:∃F,i+j=F:=⟨_,rfl⟩
     rw[H] at R f0 a9 a0 a7 a8 d
     go_wp2
     go_roundw
     case rel=>exact⟨j+1,_,by omega,by go_num,b.U.Zo X (s+m),d.U⟩
     case measure=>simp[intOf];omega
    ·obtain rfl:j=16:=by omega
     have I:=c.U.next D o.U.len C.U.len
     have F:=Z I
     go_wp2
     go_roundw
     case rel=>exact⟨i+1,t,by omega,by go_num,b.U,F.U⟩
     case measure=>simp[intOf];omega
  ·obtain rfl:i=16:=by omega
   have a5:=c.U.len
   have c1:=FM.Sk a5
   have S:=FM.Sm a5
   have c2:=FM.Sl c.U.small
   have d5:FM.val t=FM.val x*FM.val y:=by
    rw[c.U.eq,bK (by rw[o.U.len];exact aQ _),oE]
    simp only[FM.val,rR,rQ]
   rw[d5] at S
   have a6:=c.U.small
   have b3:ai (∀a (h:a<16),∃p q,t[a]?=some p/\t[a+16]?=some q/\(-1102029650176<=p/\p<=1102029650176)/\(-1102029650176<=q/\q<=1102029650176)/\(FM.lp t)[a]?=some (p+38*q)):=Z (λ a h=>by
    have G:a<t.length:=by omega
    have H:a+16<t.length:=by omega
    refine⟨t[a],t[a+16],aU G,aU H,?_,?_,FM.Sj (aU G) (aU H) h⟩
    ·have:=a6 _ (eR G);omega
    ·have:=a6 _ (eR H);omega)
   generalize hF:FM.lp t=F at*
   have m:=Z (And.intro c1 (And.intro S c2))
   go_wp2
   rw[show((16:Nat):Int)=16 from rfl]
   go_loopw [35] (λ i wr=>∃a:Nat,a<=16/\i=O a/\MW w wr (FM.dw (λ _ q=>q) a x F) y t) (λ i _=>16-(intOf i).toNat)
   case atStart=>exact⟨0,by omega,rfl,b.U⟩
   case round=>
    obtain⟨a,d0,rfl,f⟩:=hrel
    have b:=Z f
    by_cases D:a<16
    ·obtain⟨p,q,z,A,L,M,c0⟩:=b3.U a D
     obtain⟨u,E⟩:∃u,x[a]?=some u:=⟨_,aU (by have:=o.U.len;omega)⟩
     have R:wr.cell? ⟨w.heap.size+1+1+1,a,none⟩=some (O p):=(b.U.t.cell a).trans (dp z)
     have e5:wr.cell? ⟨w.heap.size+1+1+1,a+16,none⟩=some (O q):=(b.U.t.cell (a+16)).trans (dp A)
     have e6:wr.cell? ⟨w.heap.size,a,none⟩=some (O u):=(b.U.a.a.cell a).trans (dp ((FM.vI _ a x F a (aQ _)).trans E))
     have f0:=b.U.a.a.frozen a
     have B:=FM.vJ (λ _ q=>q) a x F u (p+38*q) E c0
     have b6:=Z B
     have e3:IntKind.i64.wrap (38*q)=38*q:=aO _ W
     have e4:IntKind.i64.wrap (p+38*q)=p+38*q:=aO _ W
     have a9:IntKind.i64.wrap ((a:Int)+16)=(a:Int)+16:=aO _ W
     have t3:((a:Int)+16).toNat=a+16:=by omega
     have e0:(0:Int)<=(a:Int):=by omega
     have e1:(a:Int)<16:=by omega
     have a7:(0:Int)<=(a:Int)+16:=by omega
     have a8:(a:Int)+16<32:=by omega
     have e2:(a:Int)<32:=by omega
     go_wp2
     go_still_tail 12,V
     show wpList _ _ _ _ _ wr.drew
     go_wp2
     go_roundw
     case rel=>
      have:=(b.U.set a (p+38*q)).drew
      rw[b6.U] at this
      exact⟨a+1,by omega,by go_num,this⟩
     case measure=>simp[intOf];omega
    ·obtain rfl:a=16:=by omega
     have f:=b.U
     rw[FM.J3 16 x F o.U.len m.U.1] at f
     have Q:=Z f
     go_wp2_with fail
     refine(uR Q.U.a.a m.U.1 (-1000000000000) 1000000000000 (-50000000000000) 50000000000000 (λ d hd=>by have:=m.U.2.2 d hd;omega) zD zD zD zD zD zD zD zD).mono ?_
     rintro e e9 ⟨rfl,e7,c6,I⟩
     have d7:=Q.U.a.carried c6
     have a2:=I.mod
     rw[m.U.2.1] at a2
     have c7:=I.first zD zD
     have d1:=I.len
     have h:=Z (And.intro d7 (And.intro a2 (And.intro c7 d1)))
     go_wp2_with fail
     refine(uR h.U.1.a h.U.2.2.2 (-1000000000000) 1000000000000 (-50000000000000) 50000000000000 h.U.2.2.1.1 zD zD zD zD zD zD zD zD).mono ?_
     rintro e f1 ⟨rfl,l,c5,X⟩
     have s:=h.U.1.carried c5
     have a0:=X.lu h.U.2.2.1.2.1 h.U.2.2.1.2.2
     have a3:=X.mod
     rw[h.U.2.1] at a3
     have c8:=FM.RY a3
     have a4:(ak l).size=16:=by rw[cF];exact a0.len
     have a1:(prog.info? 88).map (·.size)=some (ak l).size:=by rw[a4];exact dX
     have N:=dI (P:=prog) s.r (ak l) (by rw[a4,cF,ez]) (mz _)
     have b7:=s.r.setRow (ak l)
     have c4:=bL s.aJ W (ak l) (g:=w.heap.size+1+1)
     have c3:=s.a
     have d2:aN (aG (ak l)) (FM.fe x*FM.fe y%FM.PN):=⟨l,rfl,a0,c8⟩
     generalize ak l=r at*
     have b0:=Z b7;have b2:=Z c4;have b5:=Z d2
     go_wp2_with(refine bD rfl 88 (Operand.tmp 2) rfl w.heap.size rfl 88 r (0,0) _ c3 aY rfl a1 ?_)
     exact cr (v:= .agg r) (fI results107 _ _ (w.heap.size+1+1) 88 r (0,0) _ rfl b0.U aY rfl a1) rfl ⟨⟨_,rfl,b5.U⟩,b2.U⟩
namespace FM
def pd:List Int:=[65517,65535,65535,65535,65535,65535,65535,65535,65535,65535,65535,65535,65535,65535,65535,32767]
def Ki:val pd=P:=by decide
structure na(l m:List Int)(i:Nat):Prop where
 len:m.length=16
 done:∀k (h:k<m.length),k+1<i->0<=m[k]/\m[k]<65536
 cur:∀k (h:k<m.length),k+1=i-> -65536<=m[k]/\m[k]<65536
 top:∀k (h:k<m.length),k+1=16->i=16-> -32768<=m[k]/\m[k]<=32768
 rest:∀k (h:k<m.length),i<=k->l[k]?=some m[k]
 eq:val m=val l-val (pd.take i)
def na.start(h:Norm l)(hx:l[0]?=some r):na l (l.set 0 (r-65517)) 1:=by
 have c:0<l.length:=by rw[h.len];decide
 have d:l[0]=r:=by rw[aU c] at hx;exact hD hx
 have f:=h.e r (by grind);refine⟨by simp[h.len],λ k b a=>by omega,λ k b a=> ?_,λ k b a e=>by omega,λ k b a=> ?_,?_⟩
 ·grind
 ·grind
 ·rw[jq _ _ _ c,d];simp only[pd,dJ,dr,val,Int.pow_zero];omega
def na.step{m:List Int}(h:na l m i)(u:Norm l)(s:1<=i/\i<16){c q:Int}(hx:m[i-1]?=some r)(n:m[i]?=some f)(o:c=if i<15 then 65535 else 32767)(D:q=r/65536):
 na l ((m.set i (f-c+q)).set (i-1) (r-q*65536)) (i+1):=by
 have t:=h.len
 have b:i<m.length:=by omega
 have g:i-1<m.length:=by omega
 have d:m[i-1]=r:=by rw[aU g] at hx;exact hD hx
 have e:m[i]=f:=by rw[aU b] at n;exact hD n
 have w:=h.cur (i-1) g W
 rw[d] at w
 have j:=h.rest i b (aQ _)
 rw[e] at j
 have x:=u.e f (cX j)
 refine⟨by simp[t],λ k a C=> ?_,λ k a p=> ?_,λ k a p y=> ?_,λ k a B=> ?_,?_⟩
 ·simp only[fc] at a
  rw[AF]
  split
  ·omega
  ·rw[kP W];exact h.done k a W
 ·grind
 ·grind
 ·simp only[fc] at a
  rw[kP W,kP W]
  exact h.rest k a W
 ·rw[jq _ _ _ (by grind),jq _ _ _ b,e,kP W,d,h.eq]
  have v:pd[i]?=some c:=by
   subst o
   obtain⟨z,A⟩:=s
   clear h hx n j x d e b g
   rcases i with _|_|_|_|_|_|_|_|_|_|_|_|_|_|_|_|i
   all_goals first|omega|rfl
  rw[oh v]
  obtain⟨j,rfl⟩:∃j,i=j+1:=⟨i-1,by omega⟩
  grind
def na.end_{m:List Int}(h:na l m 16)(b:m[15]?=some r):(r<0->val l<P)/\(0<=r->Norm m/\val m=val l-P):=by
 have i:=h.len;have h15:15<m.length:=by omega
 have e:m[15]=r:=by rw[aU h15] at b;exact hD b
 have j:=h.top 15 h15 rfl rfl;rw[e] at j;have c:=h.eq;rw[bK (by decide:pd.length<=16),Ki] at c;have g:∀d∈m.take 15,0<=d/\d<65536:=by
  intro d hd;obtain⟨k,a,rfl⟩:=qg.1 hd;rw[eA] at a;rw[FW];exact h.done k W W
 have f:=jX _ g;rw[eA,hz W] at f;have n:=oh b;rw[bK W] at n;refine⟨λ p=> ?_,λ q=>⟨⟨i,λ d hd=> ?_⟩,c⟩⟩
 ·omega
 ·obtain⟨k,a,rfl⟩:=qg.1 hd;by_cases o:k=15
  ·grind
  ·exact h.done k a W
def bE:Nat->Nat->List Nat
 |0,_=>[]
 |k+1,n=>n%256::bE k (n/256)
def enc(n:Nat):af:=⟨((bE 32 n).map UInt8.ofNat).toArray⟩
def iw:∀(k n:Nat),(bE k n).length=k
 |0,n=>rfl
 |k+1,n=>by simp[bE,iw k]
def gf(n:Nat):(enc n).size=32:=by
 rfl
def qQ:∀(k n i:Nat),i<k->(bE k n)[i]?=some (n/256^i%256)
 |0,n,i,h=>by omega
 |k+1,n,0,h=>by simp[bE]
 |k+1,n,i+1,h=>by
  simp only[bE,oA]
  rw[qQ k (n/256) i W,gM,ca,fg (256^i)]
def Fg:∀(l:List Int) (n:Nat) (i:Nat) (d:Int),(∀x∈l,0<=x/\x<65536)->val l=(n:Int)->l[i]?=some d->d=((n/65536^i%65536:Nat):Int)
 |[],n,i,d,_,_,h=>by simp at h
 |p::l,n,0,d,a,b,h=>by
  simp at h;subst h
  have:=a p zS
  simp only[val] at b
  omega
 |p::l,n,i+1,d,a,b,h=>by
  have e:=a p zS
  simp only[val] at b
  simp only[oA] at h
  have c:=jX l (λ x hx=>a x (mQ hx))
  have:=Fg l (n/65536) i d (λ x hx=>a x (mQ hx)) W h
  rw[this,gM,ca,fg (65536^i)]
end FM
structure LW(w wr:aa)(l z m:List Int):Prop where
 aJ:BW w wr
 a:ah wr w.heap.size 86 (ak l)
 r:ah wr (w.heap.size+1) 86 (ak z)
 m:ah wr (w.heap.size+1+1) 86 (ak m)
def LW.drew{w wr:aa}{l z m:List Int}(h:LW w wr l z m):LW w wr.drew l z m:=⟨h.aJ.drew,h.a.drew,h.r.drew,h.m.drew⟩
def LW.set{w wr:aa}{l z m:List Int}(h:LW w wr l z m)(k:Nat)(x:Int):LW w (wr.setCell ⟨w.heap.size+1+1,k,none⟩ (O x)) l z (m.set k x):=
 ⟨h.aJ.setCell (by simp<;>omega) _,h.a.cE (by simp<;>omega) _,h.r.cE (by simp<;>omega) _,by rw[<-ph];exact h.m.dx k _⟩
def Nn(l:List Int)(w:aa)(e:Ending)(a:aa):Prop:=(∃m b,e=ao (aM #[aG (ak m),aK b])/\m.length=16/\(b=true->FM.val l<FM.P)/\(b=false->FM.Norm m/\FM.val m=FM.val l-FM.P))/\BW w a
def UT(c1:FM.Norm l)(w:aa):Calls prog 196 #[aG (ak l)] w (Nn l w):=by
 have s:=Z c1;have a0:(ak l).size=16:=by rw[cF];exact s.U.len
 have b9:(prog.info? 86).map (·.size)=some (ak l).size:=by rw[a0];exact qW
 go_enter func196,ntmps196
 go_upto_region 1 with fail
 rw[<-dK];have M:ah ((w.alloc (.cells (ak l) 86)).alloc (.cells (ak (List.replicate 16 0)) 86)) w.heap.size 86 (ak l):=(ah.new w 86 _).alloc _;have b2:ah ((w.alloc (.cells (ak l) 86)).alloc (.cells (ak (List.replicate 16 0)) 86)) (w.heap.size+1) 86 (ak (List.replicate 16 0)):=fD w _ 86 _;have a8:BW w ((w.alloc (.cells (ak l) 86)).alloc (.cells (ak (List.replicate 16 0)) 86)):=((bp _ _).alloc (aQ _) _).alloc zS _;have z:((w.alloc (.cells (ak l) 86)).alloc (.cells (ak (List.replicate 16 0)) 86)).heap.size=w.heap.size+1+1:=by simp
 generalize(w.alloc (.cells (ak l) 86)).alloc (.cells (ak (List.replicate 16 0)) 86)=p at*;obtain⟨a1,c9⟩:∃a1,ak (List.replicate 16 0)=a1:=⟨_,rfl⟩;have C:=dI (P:=prog) (ah.new p 86 (ak (List.replicate 16 0))) (ak l) (by rw[a0,cF,ez]) (mz _);have N:=ah.setRow (ah.new p 86 (ak (List.replicate 16 0))) (ak l);have hA2:=ah.cH (M.alloc (.cells (ak (List.replicate 16 0)) 86)) (ak l) (k:=p.heap.size) (by rw[z];omega);have b3:=ah.cH (b2.alloc (.cells (ak (List.replicate 16 0)) 86)) (ak l) (k:=p.heap.size) (by rw[z];omega);have a9:=bL (a8.alloc (by rw[z];omega) (.cells (ak (List.replicate 16 0)) 86)) (g:=p.heap.size) (by rw[z];omega) (ak l);have I:LW w ((p.alloc (.cells (ak (List.replicate 16 0)) 86)).setRow p.heap.size (ak l)) l (List.replicate 16 0) l:=⟨a9,hA2,b3,by rw[<-z];exact N⟩;rw[z] at C I;rw[dK] at C I;have D:=Z I
 go_upto_region 2 with(refine bD rfl 86 (Operand.tmp 1) rfl w.heap.size rfl 86 (ak l) (0,0) _ M oO rfl b9 ?_)
 rw[<-dK] at D⊢;generalize(p.alloc (.cells (ak (List.replicate 16 0)) 86)).setRow (w.heap.size+1+1) (ak l)=c8 at*;obtain⟨x,hx⟩:∃x,l[0]?=some x:=⟨_,aU (by rw[s.U.len];decide)⟩;have c5:=s.U.e x (cX hx);have f:c8.cell? ⟨w.heap.size+1+1,0,none⟩=some (O x):=(D.U.m.cell 0).trans (dp hx);have f0:=D.U.m.frozen 0;have c7:IntKind.i64.wrap (x-65517)=x-65517:=aO _ W;have b1:=FM.na.start s.U hx;have a2:=Z b1
 go_wp2
 go_loopw [5] (λ i wr=>∃(k:Nat) (m:List Int),1<=k/\k<=16/\i=O k/\LW w wr l (List.replicate 16 0) m/\FM.na l m k) (λ i _=>16-(intOf i).toNat)
 case atStart=>exact⟨1,_,by omega,by omega,rfl,D.U.set 0 (x-65517),a2.U⟩
 case round=>
  obtain⟨k,m,c0,d2,rfl,c4,c3⟩:=hrel;have e:=Z c4;have d:=Z c3;by_cases c2:k<16
  ·obtain⟨x,hx⟩:∃x,m[k-1]?=some x:=⟨_,aU (by have:=d.U.len;omega)⟩;obtain⟨y,L⟩:∃y,m[k]?=some y:=⟨_,aU (by have:=d.U.len;omega)⟩;have c5: -65536<=x/\x<65536:=by
    obtain⟨j,rfl⟩:=cw.1 hx;exact d.U.cur _ j W
   have d4:0<=y/\y<65536:=by
    obtain⟨j,rfl⟩:=cw.1 L;exact s.U.e _ (cX (d.U.rest k j (aQ _)))
   obtain⟨q,X⟩:∃q,x/65536=q:=⟨_,rfl⟩;have c6:x%65536=x-q*65536:=by omega
   have f:wr.cell? ⟨w.heap.size+1+1,k,none⟩=some (O y):=(e.U.m.cell k).trans (dp L);have H:wr.cell? ⟨w.heap.size+1+1,k-1,none⟩=some (O x):=(e.U.m.cell (k-1)).trans (dp hx);have f0:=e.U.m.frozen k;have f1:=e.U.m.frozen (k-1);have G:=IW q;have a6:=Ty x;rw[c6] at a6;have J:q%2= -q:=by omega
   rw[J] at G;have c7:IntKind.i64.wrap ((k:Int)-1)=(k:Int)-1:=aO _ W;have t1:((k:Int)-1).toNat=k-1:=by omega
   have p2:(k:Int)-1<16:=by omega
   have p3:(1:Int)<=(k:Int):=by omega
   have d5:(0:Int)<=(k:Int):=by omega
   have d6:(k:Int)<16:=by omega
   have E:=Z hx;have a5:=Z L;have a3:=Z X.symm;obtain⟨c,u⟩:∃c:Int,c=if k<15 then 65535 else 32767:=⟨_,rfl⟩
   have C:=d.U.step s.U ⟨c0,c2⟩ E.U a5.U u a3.U;have a4:=Z C;have d1:c=65535\/c=32767:=by split at u<;>omega
   have d7:IntKind.i64.wrap (y-c)=y-c:=aO _ W;have d8:IntKind.i64.wrap (y-c- -q)=y-c+q:=(aO _ W).trans W;have d9:y-c- -q=y-c+q:=by omega
   have e0:IntKind.i64.wrap (y-c+q)=y-c+q:=aO _ W;by_cases h15:k<15;focus
    rw[au h15] at u;subst u;have A:(k:Int)<15:=by omega
    go_wp2
    have h:=e.U.set k (y-65535);generalize wr.setCell ⟨w.heap.size+1+1,k,none⟩ (O (y-65535))=b at*;have a:=Z h;have r:k<m.length:=by have:=d.U.len;omega
    have f:b.cell? ⟨w.heap.size+1+1,k,none⟩=some (O (y-65535)):=(a.U.m.cell k).trans (dp (lS r));have H:b.cell? ⟨w.heap.size+1+1,k-1,none⟩=some (O x):=(a.U.m.cell (k-1)).trans (dp ((hn W).trans E.U));have f0:=a.U.m.frozen k;have f1:=a.U.m.frozen (k-1)
    go_still_tail 11,V
    show wpList _ _ _ _ _ b.drew
    go_upto_region 10 with fail
    have h:=(a.U.set k (y-65535+q)).drew;generalize(b.setCell ⟨w.heap.size+1+1,k,none⟩ (O (y-65535+q))).drew=t at*
   rotate_left;focus
    rw[ar h15] at u;subst u;have A:((k:Int)<15)=False:=eq_false W
    go_wp2
    have h:=e.U.set k (y-32767);generalize wr.setCell ⟨w.heap.size+1+1,k,none⟩ (O (y-32767))=b at*;have a:=Z h;have r:k<m.length:=by have:=d.U.len;omega
    have f:b.cell? ⟨w.heap.size+1+1,k,none⟩=some (O (y-32767)):=(a.U.m.cell k).trans (dp (lS r));have H:b.cell? ⟨w.heap.size+1+1,k-1,none⟩=some (O x):=(a.U.m.cell (k-1)).trans (dp ((hn W).trans E.U));have f0:=a.U.m.frozen k;have f1:=a.U.m.frozen (k-1)
    go_still_tail 11,V
    show wpList _ _ _ _ _ b.drew
    go_upto_region 10 with fail
    have h:=(a.U.set k (y-32767+q)).drew;generalize(b.setCell ⟨w.heap.size+1+1,k,none⟩ (O (y-32767+q))).drew=t at*
   all_goals
    rw[w5] at h;have a:=Z h;have H:t.cell? ⟨w.heap.size+1+1,k-1,none⟩=some (O x):=(a.U.m.cell (k-1)).trans (dp ((hn W).trans E.U));have f1:=a.U.m.frozen (k-1);have b:IntKind.i64.wrap ((k:Int)+1)=(k:Int)+1:=aO _ W
    go_wp2
    go_roundw
    case rel=>exact⟨k+1,_,by omega,by omega,by go_num,a.U.set (k-1) (x-q*65536),a4.U⟩
    case measure=>simp[intOf];omega
  ·obtain rfl:k=16:=by omega
   obtain⟨t,F⟩:∃t,m[15]?=some t:=⟨_,aU (by rw[d.U.len];decide)⟩;have d3: -32768<=t/\t<=32768:=by
    obtain⟨j,rfl⟩:=cw.1 F;exact d.U.top _ j rfl rfl
   have b8:=d.U.end_ F;have R:=d.U.len;have T:(ak m).size=16:=by rw[cF];exact R
   have Q:(prog.info? 86).map (·.size)=some (ak m).size:=by rw[T];exact qW
   have N:=e.U.m;have f:wr.cell? ⟨w.heap.size+1+1,15,none⟩=some (O t):=(e.U.m.cell 15).trans (dp F);obtain⟨q,X⟩:∃q,t/65536=q:=⟨_,rfl⟩;have G:=IW q;have J:q%2= -q:=by omega
   rw[J] at G;obtain⟨b,d0,b7⟩:∃b:Bool,((-q)==1)=b/\(b=true↔t<0):=⟨_,rfl,by rw[gb];omega⟩;have A:=Z e.U.drew;have C:=dI (P:=prog) A.U.r (ak m) (by rw[T,cF,ez]) (mz _);have a7:=A.U.r.setRow (ak m);have b6:=bL A.U.aJ W (ak m) (g:=w.heap.size+1);have b5:ai (ah (wr.drew.setRow (w.heap.size+1) (ak m)) (w.heap.size+1+1) 86 (ak m)):=Z (ah.cH A.U.m (ak m) W);have B:=dp F;have r:=Z (And.intro b8 (And.intro R (And.intro a7 (And.intro b6 b7))));have b4:ai (ah wr.drew (w.heap.size+1+1) 86 (ak m)):=Z A.U.m
   go_wp2
   refine mN (n:=7) (S:=λ a=>ah a (w.heap.size+1+1) 86 (ak m)) V V b4.U (λ b0=> ?_);refine ay.take (i:=0) (oi:=_) (v:=_) rfl zD V V (λ _ _ _ h=>h) (cu V 86 (Operand.tmp 4) rfl (w.heap.size+1+1) zR 86 _ (0,0) _ (λ a h=>h) oO rfl Q) zA ?_;refine ay.take (i:=1) (oi:=_) (v:=?vr1) rfl zD V V (λ _ _ _ h=>h) (Or.inl ⟨by kernel_rfl,?CJ⟩) zA ?_;case CJ=>(intro a j;have f:a.cell? ⟨w.heap.size+1+1,15,none⟩=some (O t):=(ah.cell j 15).trans B;go_simp;try(with_reducible rfl))
   refine ay.take (i:=2) (oi:=_) (v:=?vr2) rfl zD V V (λ _ _ _ h=>h) (Or.inl ⟨by kernel_rfl,?Tr⟩) zA ?_;case Tr=>(intro a j;have f:a.cell? ⟨w.heap.size+1+1,15,none⟩=some (O t):=(ah.cell j 15).trans B;go_simp;try(with_reducible rfl))
   refine ay.take (i:=3) (oi:=_) (v:=?vr3) rfl zD V V (λ _ _ _ h=>h) (Or.inl ⟨by kernel_rfl,?Ts⟩) zA ?_;case Ts=>(intro a j;have f:a.cell? ⟨w.heap.size+1+1,15,none⟩=some (O t):=(ah.cell j 15).trans B;go_simp;try(with_reducible rfl))
   refine ay.take (i:=4) (oi:=_) (v:=?vr4) rfl zD V V (λ _ _ _ h=>h) (Or.inl ⟨by kernel_rfl,?Tt⟩) zA ?_;case Tt=>(intro a j;have f:a.cell? ⟨w.heap.size+1+1,15,none⟩=some (O t):=(ah.cell j 15).trans B;go_simp;try(with_reducible rfl))
   refine ay.take (i:=5) (oi:=_) (v:=?vr5) rfl zD V V (λ _ _ _ h=>h) (Or.inl ⟨by kernel_rfl,?Tu⟩) zA ?_;case Tu=>(intro a j;have f:a.cell? ⟨w.heap.size+1+1,15,none⟩=some (O t):=(ah.cell j 15).trans B;go_simp;try(with_reducible rfl))
   refine ay.one (i:=6) (o:=?Wq) V zD ?CH ?SZ;case CH=>(simp only[sG];exact rfl)
   intro K i
   go_simp
   refine i.out _ _ b5.U (λ b0=> ?_);refine ay.tail V ?_;simp only[ck,bH]
   go_wp2
   refine cr (v:= .tuple #[.agg (ak m),.bool b]) (hR results196 _ _ (w.heap.size+1) 86 (ak m) (0,0) _ rfl r.U.2.2.1 oO rfl Q) rfl ⟨⟨m,b,rfl,r.U.2.1,λ h=> ?_,λ h=> ?_⟩,r.U.2.2.2.1⟩
   ·exact r.U.1.1 (r.U.2.2.2.2.1 h)
   ·exact r.U.1.2 (by have:=r.U.2.2.2.2;subst h;simpa using this)
namespace FM
def bl(n k:Nat):List Nat:=(bE 32 n).take (2*k)++List.replicate (32-2*k) 0
def GS(n k:Nat)(h:k<=16):(bl n k).length=32:=by simp[bl,iw];omega
def OS(n:Nat):bl n 0=List.replicate 32 0:=by simp[bl]
def OQ(n:Nat):bl n 16=bE 32 n:=by
 rfl
def pow_two(k:Nat):65536^k=256^(2*k):=by rw[iT]
def OR(n k a b d:Nat)(m:k<16)(hd:d=n/65536^k%65536)(f:a=d%256)(g:b=d/256):((bl n k).set (2*k) a).set (2*k+1) b=bl n (k+1):=by
 have j:(bE 32 n)[2*k]?=some a:=by
  rw[qQ 32 n _ W];congr 1;rw[f,hd,pow_two];omega
 have l:(bE 32 n)[2*k+1]?=some b:=by
  rw[qQ 32 n _ W];congr 1;rw[g,hd,pow_two,ca,<-gM];omega
 have o:=iw 32 n;apply FU;intro i;have h:(bl n k).length=32:=GS n k W;by_cases c:i=2*k+1
 ·subst c;rw[lS (by grind)];unfold bl;grind
 ·rw[hn W];by_cases e:i=2*k
  ·subst e;rw[lS W];unfold bl;grind
  ·rw[hn W];unfold bl;grind
def Hp:∀(k n:Nat),∀d∈bE k n,d<256
 |0,n,d,h=>by simp[bE] at h
 |k+1,n,d,h=>by
  rcases bO.1 h with rfl|h
  ·omega
  ·exact Hp k _ d h
structure C3(x l:List Int)(k:Nat):Prop where
 lu:Good l
 norm:0<k->Norm l
 mod:val l%P=val x%P
def C3.step{x c:List Int}(h:C3 x c k)(a:gJ c l r f):C3 x l (k+1):=by
 have b:=a.norm h.lu;exact⟨b.lu,λ _=>b,a.mod.trans h.mod⟩
structure D2(x l:List Int)(k:Nat):Prop where
 norm:Norm l
 mod:val l%P=val x%P
 one:k=1->val l<P+38
 two:k=2->val l<P
def D2.start{x:List Int}(h:C3 x l 3):D2 x l 0:=⟨h.norm zD,h.mod,λ h=>by omega,λ h=>by omega⟩
def D2.stay{x:List Int}(h:D2 x l k)(a:val l<P):D2 x l (k+1):=⟨h.norm,h.mod,λ _=>by omega,λ _=>a⟩
def D2.less{x m:List Int}(h:D2 x l k)(g:k<2)(c:Norm m)(b:val m=val l-P):D2 x m (k+1):=by
 have a:=h.norm.bounds.2;rw[wA] at a;have e:val l-P=val l+P*(-1):=by omega
 refine⟨c,by rw[b,e,tT];exact h.mod,λ d=>by omega,λ f=> ?_⟩;have:=h.one W;unfold P at*;omega
def D2.fe{x l:List Int}(h:D2 x l 2):val l=(fe x:Int):=by
 rw[kl,<-h.mod];exact(wS h.norm.bounds.1 (h.two rfl)).symm
end FM
variable{b:List UInt8}
namespace FM
def aH:List UInt8->Nat
 |[]=>0
 |b::l=>b.toNat+256*aH l
def qX:∀(a b:List UInt8),aH (a++b)=aH a+256^a.length*aH b
 |[],b=>by simp[aH]
 |x::a,b=>by
  simp only[lR,aH,qX a b,gq,ca]
  grind
def vy{c:UInt8}(h:b[k]?=some c):aH (b.take (k+1))=aH (b.take k)+c.toNat*256^k:=by
 obtain⟨a,rfl⟩:=cw.1 h;rw[eC a,qX,eA,hz W];simp only[aH,jB,fA];grind
structure ic(b:List UInt8)(l:List Int)(k:Nat):Prop where
 len:l.length=16
 e:∀d∈l,0<=d/\d<65536
 rest:∀j (h:j<l.length),k<=2*j->l[j]=0
 half:∀j (h:j<l.length),k=2*j+1->l[j]<256
 eq:val l=(aH (b.take k):Int)
def ic.start(b:List UInt8):ic b (List.replicate 16 0) 0:=
 ⟨by simp,λ d hd=>by grind,λ j h _=>by grind,λ j h _=>by omega,by rfl⟩
def ic.even{j:Nat}{c:UInt8}(h:ic b l k)(g:k=2*j)(q:j<16)(f:b[k]?=some c):ic b (l.set j (c.toNat:Int)) (k+1):=by
 have m:=h.len;have e:j<l.length:=by omega
 have n:=h.rest j e W;have o:=c.toNat_lt;refine⟨by simp[m],λ d hd=> ?_,λ i a r=> ?_,λ i a p=> ?_,?_⟩
 ·rcases nb hd with hd|rfl
  ·exact h.e d hd
  ·omega
 ·simp only[fc] at a;rw[kP W];exact h.rest i a W
 ·grind
 ·rw[jq _ _ _ e,n,h.eq,vy f,g,iT];simp
def ic.bX{j:Nat}{c:UInt8}(h:ic b l k)(f:k=2*j+1)(s:j<16)(g:b[k]?=some c)(hx:l[j]?=some r):ic b (l.set j (r+(c.toNat:Int)*256)) (k+1)/\0<=r/\r<256:=by
 have n:=h.len;obtain⟨a,rfl⟩:=cw.1 hx;have o:=h.half j a f;have m:=h.e _ (eR a);have p:=c.toNat_lt;refine⟨⟨by simp[n],λ d hd=> ?_,λ i e t=> ?_,λ i e q=>by omega,?_⟩,m.1,o⟩
 ·rcases nb hd with hd|rfl
  ·exact h.e d hd
  ·omega
 ·simp only[fc] at e;rw[kP W];exact h.rest i e W
 ·rw[jq _ _ _ a,h.eq,vy g,f,ca,iT];grind
def JV(h1:l.length=16)(h2:∀d∈l,0<=d/\d<65536):Good l:=Norm.lu ⟨h1,h2⟩
def sJ(h:val l=(n:Int)):fe l=n%PN:=by
 have a:=kl l;rw[h,qo] at a;omega
def eW(skip:Nat->Bool)(a:Nat):Nat->Nat->Nat
 |0,c=>c
 |i+1,c=>eW skip a i (if skip i=true then c*c%PN else c*c%PN*a%PN)
def vP(skip:Nat->Bool)(a i c:Nat):eW skip a (i+1) c=eW skip a i (if skip i=true then c*c%PN else c*c%PN*a%PN):=rfl
def cZ(a:Nat):Nat:=eW (λ i=>decide (i=2)||decide (i=4)) a 254 a
def ed(a:Nat):Nat:=eW (λ i=>decide (i=1)) a 251 a*a%PN
def gn(r a:Nat):Nat:=if r*r%PN=a then r else r*eW (λ i=>decide (i=2)) 2 252 2%PN
def hS(r:Nat):Nat:=if r%2=1 then(PN-r)%PN else r
def eE(a:Nat):Option Nat:=let r:=gn (ed a) a;if r*r%PN=a then some (hS r) else none
def dq(s:af):Int:=if s.size<32 then 2 else if 32<s.size then 4 else if enc (aH s.data.toList%PN)=s then 0 else 3
def dE(s:af):Nat:=if dq s=0 then aH s.data.toList%PN else 0
def iv(s:af):Nat:=aH (s.data.toList.take 32)%PN
end FM
section
open Go.Shelf
def Tryz.Jd:Go.Shelf.Ren:=⟨λ|264=>115|n=>n,λ|53=>46|46=>191|n=>n,λ|n=>n⟩
def Tryz.UD:Go.Proofs.Lays.n264 prog Tryz.Jd:=⟨by kernel_rfl,dW func115,underlying191,Tryz.isAgg191,Tryz.sizeOf191,Tryz.zeroValue191,oN,Bf,Bo,Bq⟩
def Tryz.Jb:Go.Shelf.Ren:=⟨λ|25=>116|n=>n,λ|22=>46|n=>n,λ|n=>n⟩
def Tryz.UA:Go.Proofs.Lays7.n25 prog Tryz.Jb:=⟨by kernel_rfl,dW func116,oN,Bf,Bo,Bq,by kernel_rfl⟩
def Tryz.Je:Go.Shelf.Ren:=⟨λ|26=>252|n=>n,λ|22=>46|n=>n,λ|n=>n⟩
def Tryz.UE:Go.Proofs.Lays7.n26 prog Tryz.Je:=⟨by kernel_rfl,dW func252,oN,Bf,Bo,Bq,by kernel_rfl⟩
def VJ:Tryz.Jd.f 264=115:=by kernel_rfl
def N3:Tryz.Jb.f 25=116:=by kernel_rfl
def Z3:Tryz.Je.f 26=252:=by kernel_rfl
def VI(x y:Nat)(hx:x<18446744073709551616)(a:y<18446744073709551616)(w:aa):
 Calls prog 115 #[U x,U y] w λ e b=>e=ao (aM #[U ((x*y/18446744073709551616:Nat):Int),U ((x*y%18446744073709551616:Nat):Int)])/\b=w:=by
 have h:=Any.bits_Mul64 Tryz.UD x y hx a w
 rw[VJ] at h
 exact h
def Gu(x y c:Nat)(a:c<=1)(w:aa):(callFunc 116 #[U x,U y,U c]).run prog w=
 .ok (.value (aM #[U (((x+y+c)%18446744073709551616:Nat):Int),U (((x+y+c)/18446744073709551616:Nat):Int)])) w:=by
 have h:=Any7.bits_Add64 Tryz.UA x y c a w
 rw[N3] at h
 exact h
def Z4(x y b:Nat)(a:b<=1)(w:aa):(callFunc 252 #[U x,U y,U b]).run prog w=
 .ok (.value (aM #[U (((x+18446744073709551616-y-b)%18446744073709551616:Nat):Int),U ((if x<y+b then 1 else 0:Nat):Int)])) w:=by
 have h:=Any7.bits_Sub64 Tryz.UE x y b a w
 rw[Z3] at h
 exact h
end
namespace WM
structure V8 where
 a:UInt64
 b:UInt64
 c:UInt64
 d:UInt64
 e:UInt64
 f:UInt64
 g:UInt64
 h:UInt64
def K:List UInt64:=[0x428a2f98d728ae22,0x7137449123ef65cd,0xb5c0fbcfec4d3b2f,0xe9b5dba58189dbbc,0x3956c25bf348b538,0x59f111f1b605d019,0x923f82a4af194f9b,0xab1c5ed5da6d8118,0xd807aa98a3030242,0x12835b0145706fbe,0x243185be4ee4b28c,0x550c7dc3d5ffb4e2,0x72be5d74f27b896f,0x80deb1fe3b1696b1,0x9bdc06a725c71235,0xc19bf174cf692694,0xe49b69c19ef14ad2,0xefbe4786384f25e3,0x0fc19dc68b8cd5b5,0x240ca1cc77ac9c65,0x2de92c6f592b0275,0x4a7484aa6ea6e483,0x5cb0a9dcbd41fbd4,0x76f988da831153b5,0x983e5152ee66dfab,0xa831c66d2db43210,0xb00327c898fb213f,0xbf597fc7beef0ee4,0xc6e00bf33da88fc2,0xd5a79147930aa725,0x06ca6351e003826f,0x142929670a0e6e70,0x27b70a8546d22ffc,0x2e1b21385c26c926,0x4d2c6dfc5ac42aed,0x53380d139d95b3df,0x650a73548baf63de,0x766a0abb3c77b2a8,0x81c2c92e47edaee6,0x92722c851482353b,0xa2bfe8a14cf10364,0xa81a664bbc423001,0xc24b8b70d0f89791,0xc76c51a30654be30,0xd192e819d6ef5218,0xd69906245565a910,0xf40e35855771202a,0x106aa07032bbd1b8,0x19a4c116b8d2d0c8,0x1e376c085141ab53,0x2748774cdf8eeb99,0x34b0bcb5e19b48a8,0x391c0cb3c5c95a63,0x4ed8aa4ae3418acb,0x5b9cca4f7763e373,0x682e6ff3d6b2b8a3,0x748f82ee5defb2fc,0x78a5636f43172f60,0x84c87814a1f0ab72,0x8cc702081a6439ec,0x90befffa23631e28,0xa4506cebde82bde9,0xbef9a3f7b2c67915,0xc67178f2e372532b,0xca273eceea26619c,0xd186b8c721c0c207,0xeada7dd6cde0eb1e,0xf57d4f7fee6ed178,0x06f067aa72176fba,0x0a637dc5a2c898a6,0x113f9804bef90dae,0x1b710b35131c471b,0x28db77f523047d84,0x32caab7b40c72493,0x3c9ebe0a15c9bebc,0x431d67c49c100d4c,0x4cc5d4becb3e42b6,0x597f299cfc657e2a,0x5fcb6fab3ad6faec,0x6c44198c4a475817]
def eK:V8:=⟨0x6a09e667f3bcc908,0xbb67ae8584caa73b,0x3c6ef372fe94f82b,0xa54ff53a5f1d36f1,0x510e527fade682d1,0x9b05688c2b3e6c1f,0x1f83d9abfb41bd6b,0x5be0cd19137e2179⟩
def aL(n:Nat)(x:UInt64):UInt64:=UInt64.ofNat (x.toNat/2^n+x.toNat%2^n*2^(64-n))
def shr(n:Nat)(x:UInt64):UInt64:=UInt64.ofNat (x.toNat/2^n)
def iu(l:List UInt8):Nat:=l.foldl (λ n c=>n*256+c.toNat) 0
def tE(x:UInt64):UInt64:=aL 1 x^^^aL 8 x^^^shr 7 x
def tF(x:UInt64):UInt64:=aL 19 x^^^aL 61 x^^^shr 6 x
def fS(b:List UInt8)(w:List UInt64):UInt64:=
 if w.length<16 then UInt64.ofNat (iu ((b.drop (8*w.length)).take 8))
 else w.getD (w.length-16) 0+w.getD (w.length-7) 0+tE (w.getD (w.length-15) 0)+tF (w.getD (w.length-2) 0)
def wl(b:List UInt8):Nat->List UInt64
 |0=>[]
 |i+1=>wl b i++[fS b (wl b i)]
def bx(e:UInt64):UInt64:=aL 14 e^^^aL 18 e^^^aL 41 e
def BK(a:UInt64):UInt64:=aL 28 a^^^aL 34 a^^^aL 39 a
def ch(e f g:UInt64):UInt64:=(e&&&f)^^^(~~~e&&&g)
def C7(a b c:UInt64):UInt64:=(a&&&b)^^^(a&&&c)^^^(b&&&c)
def rx(v:V8)(k w:UInt64):UInt64:=v.h+bx v.e+ch v.e v.f v.g+k+w
def ry(v:V8):UInt64:=BK v.a+C7 v.a v.b v.c
def iJ(v:V8)(k w:UInt64):V8:=⟨rx v k w+ry v,v.a,v.b,v.c,v.d+rx v k w,v.e,v.f,v.g⟩
def rounds(w:List UInt64)(h:V8):Nat->V8
 |0=>h
 |i+1=>iJ (rounds w h i) (K.getD i 0) (w.getD i 0)
def gu(x y:V8):V8:=⟨x.a+y.a,x.b+y.b,x.c+y.c,x.d+y.d,x.e+y.e,x.f+y.f,x.g+y.g,x.h+y.h⟩
def compress(h:V8)(b:List UInt8):V8:=gu h (rounds (wl b 80) h 80)
def chain(l:List UInt8):Nat->V8
 |0=>eK
 |k+1=>compress (chain l k) ((l.drop (128*k)).take 128)
def cb(n:Nat):Nat:=(247-n%128)%128
def len8(n:Nat):List UInt8:=[UInt8.ofNat (n/72057594037927936),UInt8.ofNat (n/281474976710656),UInt8.ofNat (n/1099511627776),UInt8.ofNat (n/4294967296),UInt8.ofNat (n/16777216),UInt8.ofNat (n/65536),UInt8.ofNat (n/256),UInt8.ofNat n]
def dF(l:List UInt8):List UInt8:=l++[128]++List.replicate (cb l.length) 0++(if cb l.length<8 then List.replicate 128 0 else [])++len8 (l.length*8)
def U(v:V8):List UInt8:=len8 v.a.toNat++len8 v.b.toNat++len8 v.c.toNat++len8 v.d.toNat++len8 v.e.toNat++len8 v.f.toNat++len8 v.g.toNat++len8 v.h.toNat
def sum(l:List UInt8):List UInt8:=U (chain (dF l) ((dF l).length/128))
def cU(b:List UInt8):∀i,(wl b i).length=i
 |0=>rfl
 |i+1=>by simp[wl,cU b i]
def sW(n:Nat):(len8 n).length=8:=rfl
def Mp(l:List UInt8):(sum l).length=64:=rfl
def tm(l:List UInt8):(dF l).length%128=0:=by
 unfold dF;split<;>simp[sW]<;>unfold cb at* <;>omega
def xD:∀(l:List UInt8) (k:Nat),k<=l.length->iu (l.take k)<256^k
 |l,0,_=>by simp[iu]
 |l,k+1,h=>by
  have a:=xD l k W
  unfold iu at*
  rw[eC W,tZ]
  have:=(l[k]).toNat_lt
  simp only[List.foldl_cons,List.foldl_nil]
  rw[ca];omega
def GQ(l:List UInt8)(k:Nat)(h:k<l.length):iu (l.take (k+1))=iu (l.take k)*256+(l[k]).toNat:=by
 unfold iu;rw[eC h,tZ];rfl
end WM
