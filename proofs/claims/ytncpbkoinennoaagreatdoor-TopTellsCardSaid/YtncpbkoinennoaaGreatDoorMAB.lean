import Derived.Ground.NamesProg
import Derived.Shelf.Bits.Mul64
import Derived.Shelf.Lay
import Derived.Shelf.Spec.BitsCarry
import Derived.Test.YtncpbkoinennoaaGreatDoorMAA
set_option linter.all false
set_option maxRecDepth 100000
set_option maxHeartbeats 0
namespace Go.Proofs.YtncpbkoinennoaaGreatDoor
open Go.RowKit Proofs.Tryz
attribute [local irreducible] wpList Calls
variable{r:Int}{l:List Int}{g k:Nat}
def av(l:List Int):Array ab:=(l.map λ x=>Value.int .i64 x).toArray
def dr(h:l[k]?=some r):(av l)[k]?=some (O r):=by simp[av,h]
def oP(l:List Int)(k:Nat)(x:Int):(av l).setIfInBounds k (O x)=av (l.set k x):=by simp[av,mW]
def cI(l:List Int):(av l).size=l.length:=by simp[av]
def mo(l:List Int):∀v∈(av l).toList,v.oneCell'=true:=by
 intro v a;simp only[av,ep] at a;obtain⟨_,_,rfl⟩:=a;rfl
def dS:(prog.info? 88).map (·.size)=some 16:=by kernel_rfl
structure CW(w wr:aa)(g:Nat)(l:List Int):Prop where
 only:aR w.heap.size [g] w wr
 a:ah wr g 88 (av l)
def CW.drew{w wr:aa}{g:Nat}{l:List Int}(h:CW w wr g l):CW w wr.drew g l:=⟨h.only.drew,h.a.drew⟩
def CW.set{w wr:aa}{g:Nat}{l:List Int}(h:CW w wr g l)(k:Nat)(x:Int):CW w (wr.setCell ⟨g,k,none⟩ (O x)) g (l.set k x):=
 ⟨h.only.setCell zS _,by rw[<-oP];exact h.a.cN k _⟩
def tI{w:aa}(K:ah w g 88 (av l))(a1:l.length=16)(a b m M:Int)(L:∀d∈l,m<=d/\d<=M)(P:65536*a<=m+a)(S:M+b<65536*(b+1))(Q:a<=0)(T:0<=b)(a2: -1000000000000000<=m/\m<=0)(N:65536<=M/\M<=1000000000000000)(R: -1000000000000<=a)(X:b<=1000000000000):
 Calls prog 195 #[pV g] w λ e c=>e=ao (aJ #[])/\∃o,CW w c g o/\FM.gV l o a b:=by
 have J:=Z a1;have p:=Z L;have I:=Z K
 have c:=Z (And.intro P (And.intro S (And.intro Q (And.intro T (And.intro a2 (And.intro N (And.intro R X)))))))
 go_enter func195,ntmps195
 go_wp2
 go_loopw [4] (λ i wr=>∃(k:Nat) (o:List Int),k<=16/\i=O k/\CW w wr g o/\FM.kz l a b k o) (λ i _=>16-(intOf i).toNat)
 case atStart=>exact⟨0,l,by omega,rfl,⟨aR.refl _ _ _,I.U⟩,⟨λ _=>FM.CI.start J.U c.U.2.2.1 c.U.2.2.2.1,λ h=>by omega⟩⟩
 case round=>
  obtain⟨k,o,a6,rfl,a4,a0⟩:=hrel
  have f:=Z a4;have e:=Z a0
  by_cases n:k<16
  ·obtain⟨x,hx⟩:=e.U.get n k n
   have a9:=e.U.small n p.U hx c.U.2.2.2.2.1.2 c.U.2.2.2.2.2.1.1 c.U.2.2.1 c.U.2.2.2.1
   have a8: -2000000000000000<=x/\x<=2000000000000000:=by obtain⟨-,-,-,-,F,G,H,q4⟩:=c.U;omega
   have r:=Z hx
   have b4:(0:Int)<=(k:Int):=by omega
   have b5:(k:Int)<16:=by omega
   have E:wr.cell? ⟨g,k,none⟩=some (O x):=(f.U.a.cell k).trans (dr r.U)
   have f0:=f.U.a.frozen k
   obtain⟨q,a3⟩:∃q,x/65536=q:=⟨_,rfl⟩
   have d1:(x+65536)/65536=q+1:=by omega
   have a7: -40000000000<=q/\q<=40000000000:=by omega
   have b8:IntKind.i64.wrap (x+65536)=x+65536:=bd _ W
   have c0:IntKind.i64.wrap ((q+1)*65536)=(q+1)*65536:=bd _ W
   have c1:IntKind.i64.wrap (x+65536-(q+1)*65536)=x-q*65536:=(bd _ W).trans W
   have c2:IntKind.i64.wrap (q+1-1)=q:=(bd _ W).trans W
   have c3:q+1-1=q:=by omega
   have c4:x+65536-(q+1)*65536=x-q*65536:=by omega
   have c5:IntKind.i64.wrap (x-q*65536)=x-q*65536:=bd _ W
   have c6:IntKind.i64.wrap q=q:=bd _ W
   have D:=Z a3
   by_cases h15:k<15
   ·obtain⟨y,B⟩:=e.U.get n (k+1) W
    have b1:=e.U.small n p.U B c.U.2.2.2.2.1.2 c.U.2.2.2.2.2.1.1 c.U.2.2.1 c.U.2.2.2.1
    have b0: -2000000000000000<=y/\y<=2000000000000000:=by obtain⟨-,-,-,-,F,G,H,q4⟩:=c.U;omega
    have s:wr.cell? ⟨g,k+1,none⟩=some (O y):=(f.U.a.cell (k+1)).trans (dr B)
    have f1:=f.U.a.frozen (k+1)
    have v:=Z B
    have a5:IntKind.i64.wrap (y+q)=y+q:=bd _ W
    have c7:IntKind.i64.wrap ((k:Int)+1)=(k:Int)+1:=bd _ W
    have t1:((k:Int)+1).toNat=k+1:=by omega
    have p1:(0:Int)<=(k:Int)+1:=by omega
    have b6:(k:Int)+1<16:=by omega
    have b7:(k:Int)<15:=by omega
    go_wp2
    go_still_tail 10,V
    show wpList _ _ _ _ _ wr.drew
    go_wp2
    have h:=(f.U.set k (x+65536)).drew
    generalize(wr.setCell ⟨g,k,none⟩ (O (x+65536))).drew=i at*
    have d:=Z h
    have E:i.cell? ⟨g,k,none⟩=some (O (x+65536)):=(d.U.a.cell k).trans (dr (om (ed.1 r.U).1))
    have f0:=d.U.a.frozen k
    have s:i.cell? ⟨g,k+1,none⟩=some (O y):=(d.U.a.cell (k+1)).trans (dr ((iK W).trans v.U))
    have f1:=d.U.a.frozen (k+1)
    go_still_tail 12,V
    show wpList _ _ _ _ _ i.drew
    go_wp2
    have h:=(d.U.set k (x-q*65536)).drew
    generalize(i.setCell ⟨g,k,none⟩ (O (x-q*65536))).drew=u at*
    rw[List.set_set] at h
    have j:=Z h
    have s:u.cell? ⟨g,k+1,none⟩=some (O y):=(j.U.a.cell (k+1)).trans (dr ((iK W).trans v.U))
    have f1:=j.U.a.frozen (k+1)
    go_still_tail 13,V
    show wpList _ _ _ _ _ u.drew
    go_wp2
    go_roundw
    case rel=>
     obtain⟨t,-,-⟩:=e.U.step h15 r.U v.U p.U c.U.1 c.U.2.1
     rw[D.U] at t
     exact⟨k+1,_,by omega,by go_num,(j.U.set (k+1) (y+q)).drew,t⟩
    case measure=>simp[intOf];omega
   ·obtain rfl:k=15:=by omega
    obtain⟨z,C⟩:=e.U.get n 0 W
    have b3:=e.U.small n p.U C c.U.2.2.2.2.1.2 c.U.2.2.2.2.2.1.1 c.U.2.2.1 c.U.2.2.2.1
    have b2: -2000000000000000<=z/\z<=2000000000000000:=by obtain⟨-,-,-,-,F,G,H,q4⟩:=c.U;omega
    have s:wr.cell? ⟨g,0,none⟩=some (O z):=(f.U.a.cell 0).trans (dr C)
    have f1:=f.U.a.frozen 0
    have A:=Z C
    have a5:IntKind.i64.wrap (38*q)=38*q:=bd _ W
    have b9:IntKind.i64.wrap (z+38*q)=z+38*q:=bd _ W
    go_wp2
    go_still_tail 10,V
    show wpList _ _ _ _ _ wr.drew
    go_wp2
    have h:=(f.U.set 15 (x+65536)).drew
    generalize(wr.setCell ⟨g,15,none⟩ (O (x+65536))).drew=i at*
    have d:=Z h
    have E:i.cell? ⟨g,15,none⟩=some (O (x+65536)):=(d.U.a.cell 15).trans (dr (om (ed.1 r.U).1))
    have f0:=d.U.a.frozen 15
    have s:i.cell? ⟨g,0,none⟩=some (O z):=(d.U.a.cell 0).trans (dr ((iK W).trans A.U))
    have f1:=d.U.a.frozen 0
    go_still_tail 12,V
    show wpList _ _ _ _ _ i.drew
    go_wp2
    have h:=(d.U.set 15 (x-q*65536)).drew
    generalize(i.setCell ⟨g,15,none⟩ (O (x-q*65536))).drew=u at*
    rw[List.set_set] at h
    have j:=Z h
    have s:u.cell? ⟨g,0,none⟩=some (O z):=(j.U.a.cell 0).trans (dr ((iK W).trans A.U))
    have f1:=j.U.a.frozen 0
    go_still_tail 12,V
    show wpList _ _ _ _ _ u.drew
    go_wp2
    go_roundw
    case rel=>
     obtain⟨t,-,-⟩:=e.U.last r.U A.U p.U c.U.1 c.U.2.1
     rw[D.U] at t
     exact⟨16,_,by omega,by go_num,(j.U.set 0 (z+38*q)).drew,t⟩
    case measure=>simp[intOf]
  ·obtain rfl:k=16:=by omega
   go_wp2
   go_end0
   exact⟨rfl,o,f.U,e.U.2 rfl⟩
variable{n:Nat}
def aO(v:ab)(n:Nat):Prop:=∃l,v=aG (av l)/\FM.Good l/\FM.fe l=n
def aO.lt{v:ab}(h:aO v n):n<FM.PN:=by obtain⟨l,-,-,rfl⟩:=h;exact FM.GK l
def dM:av (List.replicate 16 0)=#[O 0,O 0,O 0,O 0,O 0,O 0,O 0,O 0,O 0,O 0,O 0,O 0,O 0,O 0,O 0,O 0]:=by kernel_rfl
structure AW(w wr:aa)(l y z:List Int):Prop where
 aK:BW w wr
 a:ah wr w.heap.size 88 (av l)
 b:ah wr (w.heap.size+1) 88 (av y)
 r:ah wr (w.heap.size+1+1) 88 (av z)
def AW.drew{w wr:aa}{l y z:List Int}(h:AW w wr l y z):AW w wr.drew l y z:=⟨h.aK.drew,h.a.drew,h.b.drew,h.r.drew⟩
def AW.set{w wr:aa}{l y z:List Int}(h:AW w wr l y z)(k:Nat)(x:Int):AW w (wr.setCell ⟨w.heap.size,k,none⟩ (O x)) (l.set k x) y z:=
 ⟨h.aK.setCell (aW _) _,by rw[<-oP];exact h.a.cN k _,h.b.cG zS _,h.r.cG (by simp;omega) _⟩
def AW.carried{w wr c:aa}{b y z:List Int}(h:AW w wr l y z)(a:CW wr c w.heap.size b):AW w c b y z:=
 ⟨h.aK.trans ((a.only.mono h.aK.size (λ k e d=>d)).below zS),a.a,h.b.only a.only h.b.lt zS,h.r.only a.only h.r.lt (by simp;omega)⟩
def AW.start(w:aa)(x y z:List Int):AW w (((w.alloc (.cells (av x) 88)).alloc (.cells (av y) 88)).alloc (.cells (av z) 88)) x y z:=by
 refine⟨(((bz _ _).alloc (aW _) _).alloc zS _).alloc (by simp;omega) _,((ah.new w 88 _).alloc _).alloc _,(fC w _ 88 _).alloc _,?_⟩;have h:=fC (w.alloc (.cells (av x) 88)) (.cells (av y) 88) 88 (av z);rw[rJ] at h;exact h
def qs{u v:ab}(S:aO u n)(T:aO v k)(w:aa):
 Calls prog 188 #[u,v] w λ e a=>(∃r,e=ao r/\aO r ((n+k)%FM.PN))/\BW w a:=by
 obtain⟨x,rfl,hx,rfl⟩:=S
 obtain⟨y,rfl,a1,rfl⟩:=T
 have c:=Z hx;have j:=Z a1
 go_enter func188,ntmps188
 go_wp2
 rw[<-dM]
 go_loopw [6] (λ i wr=>∃a:Nat,a<=16/\i=O a/\AW w wr (FM.eS (·+·) a x y) y (List.replicate 16 0)) (λ i _=>16-(intOf i).toNat)
 case atStart=>exact⟨0,by omega,rfl,AW.start w x y _⟩
 case round=>
  obtain⟨a,a6,rfl,a0⟩:=hrel
  have b:=Z a0
  by_cases a7:a<16
  ·obtain⟨p,f⟩:∃p,x[a]?=some p:=⟨_,ba (by have:=c.U.len;omega)⟩
   obtain⟨q,h⟩:∃q,y[a]?=some q:=⟨_,ba (by have:=j.U.len;omega)⟩
   have a8:=c.U.bound (dB f)
   have a9:=j.U.bound (dB h)
   have a2:wr.cell? ⟨w.heap.size,a,none⟩=some (O p):=(b.U.a.cell a).trans (dr ((FM.xC _ a x y a (aW _)).trans f))
   have a3:wr.cell? ⟨w.heap.size+1,a,none⟩=some (O q):=(b.U.b.cell a).trans (dr h)
   have f0:=b.U.a.frozen a
   have R:=FM.xD (·+·) a x y p q f h
   have F:=Z R
   have b3:IntKind.i64.wrap (p+q)=p+q:=bd _ W
   have b1:(0:Int)<=(a:Int):=by omega
   have b2:(a:Int)<16:=by omega
   go_wp2
   go_still_tail 11,V
   show wpList _ _ _ _ _ wr.drew
   go_wp2
   go_roundw
   case rel=>
    have:=(b.U.set a (p+q)).drew
    rw[F.U] at this
    exact⟨a+1,by omega,by go_num,this⟩
   case measure=>simp[intOf];omega
  ·obtain rfl:a=16:=by omega
   have X:=FM.IA 16 x y c.U.len j.U.len
   have J:∀d∈FM.eS (·+·) 16 x y,-152<=d/\d<=131222:=FM.CA _ (λ d=> -152<=d/\d<=131222) 16 x y (λ d hd=>by have:=c.U.bound hd;omega) (λ p f q h=>by have a4:=c.U.bound f;have a5:=j.U.bound h;show-152<=p+q/\p+q<=131222;omega)
   have N:(FM.eS (·+·) 16 x y).length=16:=by rw[FM.CC];exact c.U.len
   generalize FM.eS (·+·) 16 x y=s at*
   have G:=Z X;have B:=Z J;have D:=Z N
   go_wp2_with fail
   refine(tI b.U.a D.U (-2) 2 (-152) 131222 B.U zD zD zD zD zD zD zD zD).mono ?_
   rintro e b4 ⟨rfl,l,L,m⟩
   have d:=b.U.carried L
   have o:=m.Hd zD zD
   have t:=m.mod
   rw[G.U] at t
   have M:=FM.Ql t
   have z:(av l).size=16:=by rw[cI];exact o.len
   have r:(prog.info? 88).map (·.size)=some (av l).size:=by rw[z];exact dS
   have b0:=dJ (P:=prog) d.r (av l) (by rw[z,cI,ej]) (mo _)
   have H:=d.r.setRow (av l)
   have K:=bY d.aK W (av l) (g:=w.heap.size+1+1)
   have I:=d.a
   have Q:aO (aG (av l)) ((FM.fe x+FM.fe y)%FM.PN):=⟨l,rfl,o,M⟩
   generalize av l=i at*
   have A:=Z H;have C:=Z K;have E:=Z Q
   go_wp2_with(refine bO rfl 88 (Operand.tmp 2) rfl w.heap.size rfl 88 i (0,0) _ I aX rfl r ?_)
   exact cq (v:= .agg i) (fL results188 _ _ (w.heap.size+1+1) 88 i (0,0) _ rfl A.U aX rfl r) rfl ⟨⟨_,rfl,E.U⟩,C.U⟩
def sg{u v:ab}(S:aO u n)(T:aO v k)(w:aa):
 Calls prog 186 #[u,v] w λ e a=>(∃r,e=ao r/\aO r ((n+(FM.PN-k))%FM.PN))/\BW w a:=by
 obtain⟨x,rfl,hx,rfl⟩:=S
 obtain⟨y,rfl,a1,rfl⟩:=T
 have c:=Z hx;have j:=Z a1
 go_enter func186,ntmps186
 go_wp2
 rw[<-dM]
 go_loopw [6] (λ i wr=>∃a:Nat,a<=16/\i=O a/\AW w wr (FM.eS (·-·) a x y) y (List.replicate 16 0)) (λ i _=>16-(intOf i).toNat)
 case atStart=>exact⟨0,by omega,rfl,AW.start w x y _⟩
 case round=>
  obtain⟨a,a6,rfl,a0⟩:=hrel
  have b:=Z a0
  by_cases a7:a<16
  ·obtain⟨p,f⟩:∃p,x[a]?=some p:=⟨_,ba (by have:=c.U.len;omega)⟩
   obtain⟨q,h⟩:∃q,y[a]?=some q:=⟨_,ba (by have:=j.U.len;omega)⟩
   have a8:=c.U.bound (dB f)
   have a9:=j.U.bound (dB h)
   have a2:wr.cell? ⟨w.heap.size,a,none⟩=some (O p):=(b.U.a.cell a).trans (dr ((FM.xC _ a x y a (aW _)).trans f))
   have a3:wr.cell? ⟨w.heap.size+1,a,none⟩=some (O q):=(b.U.b.cell a).trans (dr h)
   have f0:=b.U.a.frozen a
   have R:=FM.xD (·-·) a x y p q f h
   have F:=Z R
   have b3:IntKind.i64.wrap (p-q)=p-q:=bd _ W
   have b1:(0:Int)<=(a:Int):=by omega
   have b2:(a:Int)<16:=by omega
   go_wp2
   go_still_tail 11,V
   show wpList _ _ _ _ _ wr.drew
   go_wp2
   go_roundw
   case rel=>
    have:=(b.U.set a (p-q)).drew
    rw[F.U] at this
    exact⟨a+1,by omega,by go_num,this⟩
   case measure=>simp[intOf];omega
  ·obtain rfl:a=16:=by omega
   have X:=FM.IC 16 x y c.U.len j.U.len
   have J:∀d∈FM.eS (·-·) 16 x y,-65687<=d/\d<=65687:=FM.CA _ (λ d=> -65687<=d/\d<=65687) 16 x y (λ d hd=>by have:=c.U.bound hd;omega) (λ p f q h=>by have a4:=c.U.bound f;have a5:=j.U.bound h;show-65687<=p-q/\p-q<=65687;omega)
   have N:(FM.eS (·-·) 16 x y).length=16:=by rw[FM.CC];exact c.U.len
   generalize FM.eS (·-·) 16 x y=s at*
   have G:=Z X;have B:=Z J;have D:=Z N
   go_wp2_with fail
   refine(tI b.U.a D.U (-2) 2 (-65687) 65687 B.U zD zD zD zD zD zD zD zD).mono ?_
   rintro e b4 ⟨rfl,l,L,m⟩
   have d:=b.U.carried L
   have o:=m.Hd zD zD
   have t:=m.mod
   rw[G.U] at t
   have M:=FM.Qn t
   have z:(av l).size=16:=by rw[cI];exact o.len
   have r:(prog.info? 88).map (·.size)=some (av l).size:=by rw[z];exact dS
   have b0:=dJ (P:=prog) d.r (av l) (by rw[z,cI,ej]) (mo _)
   have H:=d.r.setRow (av l)
   have K:=bY d.aK W (av l) (g:=w.heap.size+1+1)
   have I:=d.a
   have Q:aO (aG (av l)) ((FM.fe x+(FM.PN-FM.fe y))%FM.PN):=⟨l,rfl,o,M⟩
   generalize av l=i at*
   have A:=Z H;have C:=Z K;have E:=Z Q
   go_wp2_with(refine bO rfl 88 (Operand.tmp 2) rfl w.heap.size rfl 88 i (0,0) _ I aX rfl r ?_)
   exact cq (v:= .agg i) (fL results186 _ _ (w.heap.size+1+1) 88 i (0,0) _ rfl A.U aX rfl r) rfl ⟨⟨_,rfl,E.U⟩,C.U⟩
variable{f:Int}{i:Nat}
namespace FM
def yz(h:l[g]?=some r):val (l.take (g+1))=val (l.take g)+r*65536^g:=by
 obtain⟨a,rfl⟩:=ed.1 h;rw[dC a,DD,ee,jT W];simp only[val,zf,zd];grind
structure kF(x y t:List Int)(i j:Nat):Prop where
 len:t.length=32
 eq:val t=val (x.take i)*val y+(x.getD i 0)*65536^i*val (y.take j)
 small:∀d∈t,-((16*i+j:Nat)*4304803321)<=d/\d<=(16*i+j:Nat)*4304803321
def kF.start(x y:List Int):kF x y (List.replicate 32 0) 0 0:=by
 refine⟨by simp,?_,λ d hd=>by grind⟩;simp only[cO,val,zf,Int.zero_mul,zd];decide
def I6(d: -76<=r/\r<=65611)(e: -76<=f/\f<=65611): -4304803321<=r*f/\r*f<=4304803321:=by
 have a:r.natAbs<=65611:=by omega
 have b:f.natAbs<=65611:=by omega
 have c:=zC a b;rw[<-Int.natAbs_mul] at c;omega
def kF.step{y t:List Int}(h:kF l y t i g){s:Int}(k:i<16)(m:g<16)(n:l[i]?=some r)(c:y[g]?=some f)(j:t[i+g]?=some s)(b: -76<=r/\r<=65611)(e: -76<=f/\f<=65611):
 kF l y (t.set (i+g) (s+r*f)) i (g+1):=by
 obtain⟨a,rfl⟩:=ed.1 j
 refine⟨by simp[h.len],?_,λ d hd=> ?_⟩
 ·rw[lE _ _ _ a,yz c,h.eq]
  grind
 ·have o:=I6 b e
  rcases vu hd with hd|rfl
  ·have:=h.small d hd;omega
  ·have:=h.small _ (cY a);omega
def kF.next{y t:List Int}(h:kF l y t i 16)(b:i<16)(hx:l.length=16)(c:y.length=16):kF l y t (i+1) 0:=by
 obtain⟨p,a⟩:∃p,l[i]?=some p:=⟨_,ba W⟩;refine⟨h.len,?_,λ d hd=>by have:=h.small d hd;omega⟩;rw[h.eq,yz a,cS (by omega:y.length<=16)];have e:l.getD i 0=p:=by simp[eY,a]
 rw[e,pU];simp only[val,zf,zd];grind
def lj(t:List Int):List Int:=List.zipWith (λ p q=>p+38*q) (t.take 16) (t.drop 16)
def K8:∀(a b:List Int),a.length=b.length->val (List.zipWith (λ p q=>p+38*q) a b)=val a+38*val b
 |[],[],_=>rfl
 |p::a,q::b,h=>by
  have:=K8 a b (by grind)
  simp only[List.zipWith_cons_cons,val,this];omega
def QK(h:l.length=32):(lj l).length=16:=by simp[lj,h]
def QJ(b:l[k]?=some r)(c:l[k+16]?=some f)(a:k<16):(lj l)[k]?=some (r+38*f):=by
 unfold lj;grind
def QM(h:l.length=32):val (lj l)%P=val l%P:=by
 have b:val (lj l)=val (l.take 16)+38*val (l.drop 16):=K8 _ _ (by simp[h]);have a:val l=val (l.take 16)+65536^16*val (l.drop 16):=by
  have:=DD (l.take 16) (l.drop 16);rw[ou,ee,h] at this;exact this
 rw[Dp] at a;have c:val (lj l)=val l+P*(-(2*val (l.drop 16))):=by
  rw[b,a,Int.add_mul,Int.mul_neg];have:P*(2*val (List.drop 16 l))=2*P*val (List.drop 16 l):=by ac_rfl
  omega
 rw[c,zc]
def QL(h:∀d∈l,-r<=d/\d<=r):∀d∈lj l,-(39*r)<=d/\d<=39*r:=by
 intro d hd;unfold lj at hd;obtain⟨k,c,rfl⟩:=ru.1 hd;rw[Eo];have a:=h _ (oq (cY (by grind:k<(l.take 16).length)));have b:=h _ (pT (cY (by grind:k<(l.drop 16).length)));omega
def IB:∀(k:Nat) (x y:List Int),x.length=k->y.length=k->eS (λ _ q=>q) k x y=y
 |0,x,y,a,b=>by rw[kC a,kC b];rfl
 |k+1,p::x,q::y,a,b=>by
  have:=IB k x y (by grind) (by grind)
  simp only[eS,this]
 |k+1,[],y,a,b=>by grind
 |k+1,p::x,[],a,b=>by grind
def gV.first{e:List Int}(h:gV e l r f)(m: -1000000000000<=r)(n:f<=1000000000000):(∀d∈l,-50000000000000<=d/\d<=50000000000000)/\-(2*65536^16)<=val l/\val l<3*65536^16:=by
 obtain⟨q,z,t,rfl,g,i,j,k,a,b,-,-⟩:=h.split;have c:=pC t a;rw[b] at c;refine⟨λ d hd=> ?_,?_,?_⟩
 ·grind
 ·simp only[val];omega
 ·simp only[val];omega
end FM
def aaY:av (List.replicate 32 0)=#[O 0,O 0,O 0,O 0,O 0,O 0,O 0,O 0,O 0,O 0,O 0,O 0,O 0,O 0,O 0,O 0,O 0,O 0,O 0,O 0,O 0,O 0,O 0,O 0,O 0,O 0,O 0,O 0,O 0,O 0,O 0,O 0]:=by kernel_rfl
structure MW(w wr:aa)(l y t:List Int):Prop where
 a:AW w wr l y (List.replicate 16 0)
 t:ah wr (w.heap.size+1+1+1) 263 (av t)
def MW.drew{w wr:aa}{l y t:List Int}(h:MW w wr l y t):MW w wr.drew l y t:=⟨h.a.drew,h.t.drew⟩
def MW.set{w wr:aa}{l y t:List Int}(h:MW w wr l y t)(k:Nat)(x:Int):MW w (wr.setCell ⟨w.heap.size,k,none⟩ (O x)) (l.set k x) y t:=
 ⟨h.a.set k x,h.t.cG (by simp<;>omega) _⟩
def MW.XV{w wr:aa}{y t:List Int}(h:MW w wr l y t)(k:Nat)(x:Int):MW w (wr.setCell ⟨w.heap.size+1+1+1,k,none⟩ (O x)) l y (t.set k x):=
 ⟨⟨h.a.aK.setCell (by simp<;>omega) _,h.a.a.cG (by simp<;>omega) _,h.a.b.cG (by simp<;>omega) _,h.a.r.cG zS _⟩,by rw[<-oP];exact h.t.cN k _⟩
def MW.start(w:aa)(x y t:List Int):MW w ((((w.alloc (.cells (av x) 88)).alloc (.cells (av y) 88)).alloc (.cells (av (List.replicate 16 0)) 88)).alloc (.cells (av t) 263)) x y t:=by
 have h:=AW.start w x y (List.replicate 16 0);refine⟨⟨h.aK.alloc (by have:=h.aK.size;omega) _,h.a.alloc _,h.b.alloc _,h.r.alloc _⟩,?_⟩;have h:=fC ((w.alloc (.cells (av x) 88)).alloc (.cells (av y) 88)) (.cells (av (List.replicate 16 0)) 88) 263 (av t);rw[rJ,rJ] at h;exact h
def Tg:(prog.info? 2).isSome=true:=by kernel_rfl
def NY:prog.cellsOf 2=1:=by kernel_rfl
def B2{cs:Array ab}{v:ab}(w:aa)(a:i<16)(b:cs[i]?=some v):(Instr.index 86 (aG cs) (O (i:Int))).run prog w= .ok v w:=
 C0 w oC underlying2 Tg NY a b
def qx:(prog.info? 86).map (·.size)=some 16:=by kernel_rfl
def ff{u v:ab}(E:aO u n)(d6:aO v k)(w:aa):
 Calls prog 107 #[u,v] w λ e a=>(∃r,e=ao r/\aO r (n*k%FM.PN))/\BW w a:=by
 obtain⟨x,rfl,hx,rfl⟩:=E
 obtain⟨y,rfl,d9,rfl⟩:=d6
 have o:=Z hx;have C:=Z d9
 go_enter func107,ntmps107
 go_upto_region 2 with fail
 rw[<-dM,<-aaY]
 have T:=MW.start w x y (List.replicate 32 0)
 generalize(((w.alloc (.cells (av x) 88)).alloc (.cells (av y) 88)).alloc (.cells (av (List.replicate 16 0)) 88)).alloc (.cells (av (List.replicate 32 0)) 263)=e8 at*
 have b8:=T.a.a
 have d3:(av x).size=16:=by rw[cI];exact o.U.len
 have d4:(av y).size=16:=by rw[cI];exact C.U.len
 have J:(prog.info? 86).map (·.size)=some (av x).size:=by rw[d3];exact qx
 have b1:=Z T
 go_wp2_with(refine bO rfl 86 (Operand.tmp 11) rfl w.heap.size rfl 88 (av x) (0,0) _ b8 oC rfl J ?_)
 go_loopw [13] (λ i wr=>∃(a:Nat) (t:List Int),a<=16/\i=O a/\MW w wr x y t/\FM.kF x y t a 0) (λ i _=>16-(intOf i).toNat)
 case atStart=>exact⟨0,_,by omega,rfl,b1.U,FM.kF.start x y⟩
 case round=>
  obtain⟨i,t,d0,rfl,f,K⟩:=hrel
  have b:=Z f;have c:=Z K
  by_cases D:i<16
  ·obtain⟨p,z⟩:∃p,x[i]?=some p:=⟨_,ba (by have:=o.U.len;omega)⟩
   have L:=o.U.bound (dB z)
   have d8:=dr z
   have b4:=Z z
   have e0:(0:Int)<=(i:Int):=by omega
   have e1:(i:Int)<16:=by omega
   have b9:=b.U.a.b
   have J:(prog.info? 86).map (·.size)=some (av y).size:=by rw[d4];exact qx
   have c9:=λ d=>B2 (cs:=av x) (i:=i) d W d8
   go_wp2_with(refine bO rfl 86 (Operand.tmp 17) rfl (w.heap.size+1) rfl 88 (av y) (0,0) _ b9 oC rfl J ?_)
   go_loopw [19] (λ j wr=>∃(a:Nat) (t:List Int),a<=16/\j=O a/\MW w wr x y t/\FM.kF x y t i a) (λ j _=>16-(intOf j).toNat)
   case atStart=>exact⟨0,t,by omega,rfl,b.U,c.U⟩
   case round=>
    obtain⟨j,t,a1,rfl,f,K⟩:=hrel
    have b:=Z f;have c:=Z K
    by_cases h:j<16
    ·obtain⟨q,A⟩:∃q,y[j]?=some q:=⟨_,ba (by have:=C.U.len;omega)⟩
     have M:=C.U.bound (dB A)
     have S:=dr A
     have G:=Z A
     obtain⟨s,B⟩:∃s,t[i+j]?=some s:=⟨_,ba (by have:=c.U.len;omega)⟩
     have a2:=c.U.small s (dB B)
     have Q:=FM.I6 L M
     have N:=c.U.step D h b4.U G.U B L M
     have R:wr.cell? ⟨w.heap.size+1+1+1,i+j,none⟩=some (O s):=(b.U.t.cell (i+j)).trans (dr B)
     have f0:=b.U.t.frozen (i+j)
     have c9:=λ d=>B2 (cs:=av y) (i:=j) d h S
     obtain⟨m,l⟩:∃m,p*q=m:=⟨_,rfl⟩
     rw[l] at Q N
     have e3:IntKind.i64.wrap (p*q)=m:=by rw[l];exact bd _ W
     have e4:IntKind.i64.wrap (s+m)=s+m:=bd _ W
     have a9:IntKind.i64.wrap ((i:Int)+(j:Int))=((i+j:Nat):Int):=(bd _ W).trans W
     have a0:(i:Int)+(j:Int)=((i+j:Nat):Int):=by omega
     have a7:(0:Int)<=((i+j:Nat):Int):=by omega
     have a8:((i+j:Nat):Int)<32:=by omega
     have e2:(0:Int)<=(j:Int):=by omega
     have a3:(j:Int)<16:=by omega
     have d:=Z N
     obtain⟨X,H⟩:∃F,i+j=F:=⟨_,rfl⟩
     rw[H] at R f0 a9 a0 a7 a8 d
     go_wp2
     go_roundw
     case rel=>exact⟨j+1,_,by omega,by go_num,b.U.XV X (s+m),d.U⟩
     case measure=>simp[intOf];omega
    ·obtain rfl:j=16:=by omega
     have I:=c.U.next D o.U.len C.U.len
     have F:=Z I
     go_wp2
     go_roundw
     case rel=>exact⟨i+1,t,by omega,by go_num,b.U,F.U⟩
     case measure=>simp[intOf];omega
  ·obtain rfl:i=16:=by omega
   have a5:=c.U.len
   have c1:=FM.QK a5
   have S:=FM.QM a5
   have c2:=FM.QL c.U.small
   have d5:FM.val t=FM.val x*FM.val y:=by
    rw[c.U.eq,cS (by rw[o.U.len];exact aW _),pU]
    simp only[FM.val,zf,zd]
   rw[d5] at S
   have a6:=c.U.small
   have b3:ai (∀a (h:a<16),∃p q,t[a]?=some p/\t[a+16]?=some q/\(-1102029650176<=p/\p<=1102029650176)/\(-1102029650176<=q/\q<=1102029650176)/\(FM.lj t)[a]?=some (p+38*q)):=Z (λ a h=>by
    have G:a<t.length:=by omega
    have H:a+16<t.length:=by omega
    refine⟨t[a],t[a+16],ba G,ba H,?_,?_,FM.QJ (ba G) (ba H) h⟩
    ·have:=a6 _ (cY G);omega
    ·have:=a6 _ (cY H);omega)
   generalize hF:FM.lj t=F at*
   have m:=Z (And.intro c1 (And.intro S c2))
   go_wp2
   rw[show((16:Nat):Int)=16 from rfl]
   go_loopw [35] (λ i wr=>∃a:Nat,a<=16/\i=O a/\MW w wr (FM.eS (λ _ q=>q) a x F) y t) (λ i _=>16-(intOf i).toNat)
   case atStart=>exact⟨0,by omega,rfl,b.U⟩
   case round=>
    obtain⟨a,d0,rfl,f⟩:=hrel
    have b:=Z f
    by_cases D:a<16
    ·obtain⟨p,q,z,A,L,M,c0⟩:=b3.U a D
     obtain⟨u,E⟩:∃u,x[a]?=some u:=⟨_,ba (by have:=o.U.len;omega)⟩
     have R:wr.cell? ⟨w.heap.size+1+1+1,a,none⟩=some (O p):=(b.U.t.cell a).trans (dr z)
     have e5:wr.cell? ⟨w.heap.size+1+1+1,a+16,none⟩=some (O q):=(b.U.t.cell (a+16)).trans (dr A)
     have e6:wr.cell? ⟨w.heap.size,a,none⟩=some (O u):=(b.U.a.a.cell a).trans (dr ((FM.xC _ a x F a (aW _)).trans E))
     have f0:=b.U.a.a.frozen a
     have B:=FM.xD (λ _ q=>q) a x F u (p+38*q) E c0
     have b6:=Z B
     have e3:IntKind.i64.wrap (38*q)=38*q:=bd _ W
     have e4:IntKind.i64.wrap (p+38*q)=p+38*q:=bd _ W
     have a9:IntKind.i64.wrap ((a:Int)+16)=(a:Int)+16:=bd _ W
     have t3:((a:Int)+16).toNat=a+16:=by omega
     have e0:(0:Int)<=(a:Int):=by omega
     have e1:(a:Int)<16:=by omega
     have a7:(0:Int)<=(a:Int)+16:=by omega
     have a8:(a:Int)+16<32:=by omega
     have e2:(a:Int)<32:=by omega
     go_wp2
     go_still_tail 12,V
     show wpList _ _ _ _ _ wr.drew
     go_wp2
     go_roundw
     case rel=>
      have:=(b.U.set a (p+38*q)).drew
      rw[b6.U] at this
      exact⟨a+1,by omega,by go_num,this⟩
     case measure=>simp[intOf];omega
    ·obtain rfl:a=16:=by omega
     have f:=b.U
     rw[FM.IB 16 x F o.U.len m.U.1] at f
     have Q:=Z f
     go_wp2_with fail
     refine(tI Q.U.a.a m.U.1 (-1000000000000) 1000000000000 (-50000000000000) 50000000000000 (λ d hd=>by have:=m.U.2.2 d hd;omega) zD zD zD zD zD zD zD zD).mono ?_
     rintro e e9 ⟨rfl,e7,c6,I⟩
     have d7:=Q.U.a.carried c6
     have a2:=I.mod
     rw[m.U.2.1] at a2
     have c7:=I.first zD zD
     have d1:=I.len
     have h:=Z (And.intro d7 (And.intro a2 (And.intro c7 d1)))
     go_wp2_with fail
     refine(tI h.U.1.a h.U.2.2.2 (-1000000000000) 1000000000000 (-50000000000000) 50000000000000 h.U.2.2.1.1 zD zD zD zD zD zD zD zD).mono ?_
     rintro e f1 ⟨rfl,l,c5,X⟩
     have s:=h.U.1.carried c5
     have a0:=X.kg h.U.2.2.1.2.1 h.U.2.2.1.2.2
     have a3:=X.mod
     rw[h.U.2.1] at a3
     have c8:=FM.Qm a3
     have a4:(av l).size=16:=by rw[cI];exact a0.len
     have a1:(prog.info? 88).map (·.size)=some (av l).size:=by rw[a4];exact dS
     have N:=dJ (P:=prog) s.r (av l) (by rw[a4,cI,ej]) (mo _)
     have b7:=s.r.setRow (av l)
     have c4:=bY s.aK W (av l) (g:=w.heap.size+1+1)
     have c3:=s.a
     have d2:aO (aG (av l)) (FM.fe x*FM.fe y%FM.PN):=⟨l,rfl,a0,c8⟩
     generalize av l=r at*
     have b0:=Z b7;have b2:=Z c4;have b5:=Z d2
     go_wp2_with(refine bO rfl 88 (Operand.tmp 2) rfl w.heap.size rfl 88 r (0,0) _ c3 aX rfl a1 ?_)
     exact cq (v:= .agg r) (fL results107 _ _ (w.heap.size+1+1) 88 r (0,0) _ rfl b0.U aX rfl a1) rfl ⟨⟨_,rfl,b5.U⟩,b2.U⟩
namespace FM
def pd:List Int:=[65517,65535,65535,65535,65535,65535,65535,65535,65535,65535,65535,65535,65535,65535,65535,32767]
def Wk:val pd=P:=by decide
structure mU(l m:List Int)(i:Nat):Prop where
 len:m.length=16
 done:∀k (h:k<m.length),k+1<i->0<=m[k]/\m[k]<65536
 cur:∀k (h:k<m.length),k+1=i-> -65536<=m[k]/\m[k]<65536
 top:∀k (h:k<m.length),k+1=16->i=16-> -32768<=m[k]/\m[k]<=32768
 rest:∀k (h:k<m.length),i<=k->l[k]?=some m[k]
 eq:val m=val l-val (pd.take i)
def mU.start(h:Norm l)(hx:l[0]?=some r):mU l (l.set 0 (r-65517)) 1:=by
 have c:0<l.length:=by rw[h.len];decide
 have d:l[0]=r:=by rw[ba c] at hx;exact hK hx
 have f:=h.a r (by grind);refine⟨by simp[h.len],λ k b a=>by omega,λ k b a=> ?_,λ k b a e=>by omega,λ k b a=> ?_,?_⟩
 ·grind
 ·grind
 ·rw[lE _ _ _ c,d];simp only[pd,dc,cO,val,Int.pow_zero];omega
def mU.step{m:List Int}(h:mU l m i)(u:Norm l)(s:1<=i/\i<16){c q:Int}(hx:m[i-1]?=some r)(n:m[i]?=some f)(o:c=if i<15 then 65535 else 32767)(D:q=r/65536):
 mU l ((m.set i (f-c+q)).set (i-1) (r-q*65536)) (i+1):=by
 have t:=h.len
 have b:i<m.length:=by omega
 have g:i-1<m.length:=by omega
 have d:m[i-1]=r:=by rw[ba g] at hx;exact hK hx
 have e:m[i]=f:=by rw[ba b] at n;exact hK n
 have w:=h.cur (i-1) g W
 rw[d] at w
 have j:=h.rest i b (aW _)
 rw[e] at j
 have x:=u.a f (dB j)
 refine⟨by simp[t],λ k a C=> ?_,λ k a p=> ?_,λ k a p y=> ?_,λ k a B=> ?_,?_⟩
 ·simp only[hH] at a
  rw[zp]
  split
  ·omega
  ·rw[lK W];exact h.done k a W
 ·grind
 ·grind
 ·simp only[hH] at a
  rw[lK W,lK W]
  exact h.rest k a W
 ·rw[lE _ _ _ (by grind),lE _ _ _ b,e,lK W,d,h.eq]
  have v:pd[i]?=some c:=by
   subst o
   obtain⟨z,A⟩:=s
   clear h hx n j x d e b g
   rcases i with _|_|_|_|_|_|_|_|_|_|_|_|_|_|_|_|i
   all_goals first|omega|rfl
  rw[yz v]
  obtain⟨j,rfl⟩:∃j,i=j+1:=⟨i-1,by omega⟩
  grind
def mU.end_{m:List Int}(h:mU l m 16)(b:m[15]?=some r):(r<0->val l<P)/\(0<=r->Norm m/\val m=val l-P):=by
 have i:=h.len;have h15:15<m.length:=by omega
 have e:m[15]=r:=by rw[ba h15] at b;exact hK b
 have j:=h.top 15 h15 rfl rfl;rw[e] at j;have c:=h.eq;rw[cS (by decide:pd.length<=16),Wk] at c;have g:∀d∈m.take 15,0<=d/\d<65536:=by
  intro d hd;obtain⟨k,a,rfl⟩:=ru.1 hd;rw[ee] at a;rw[List.getElem_take];exact h.done k W W
 have f:=pC _ g;rw[ee,jT W] at f;have n:=yz b;rw[cS W] at n;refine⟨λ p=> ?_,λ q=>⟨⟨i,λ d hd=> ?_⟩,c⟩⟩
 ·omega
 ·obtain⟨k,a,rfl⟩:=ru.1 hd;by_cases o:k=15
  ·grind
  ·exact h.done k a W
def dn:Nat->Nat->List Nat
 |0,_=>[]
 |k+1,n=>n%256::dn k (n/256)
def enc(n:Nat):ag:=⟨((dn 32 n).map UInt8.ofNat).toArray⟩
def kU:∀(k n:Nat),(dn k n).length=k
 |0,n=>rfl
 |k+1,n=>by simp[dn,kU k]
def rX(n:Nat):(enc n).size=32:=by
 rfl
def tM:∀(k n i:Nat),i<k->(dn k n)[i]?=some (n/256^i%256)
 |0,n,i,h=>by omega
 |k+1,n,0,h=>by simp[dn]
 |k+1,n,i+1,h=>by
  simp only[dn,mV]
  rw[tM k (n/256) i W,lP,fk,jU (256^i)]
def K6:∀(l:List Int) (n:Nat) (i:Nat) (d:Int),(∀x∈l,0<=x/\x<65536)->val l=(n:Int)->l[i]?=some d->d=((n/65536^i%65536:Nat):Int)
 |[],n,i,d,_,_,h=>by simp at h
 |p::l,n,0,d,a,b,h=>by
  simp at h;subst h
  have:=a p zS
  simp only[val] at b
  omega
 |p::l,n,i+1,d,a,b,h=>by
  have e:=a p zS
  simp only[val] at b
  simp only[mV] at h
  have c:=pC l (λ x hx=>a x (mQ hx))
  have:=K6 l (n/65536) i d (λ x hx=>a x (mQ hx)) W h
  rw[this,lP,fk,jU (65536^i)]
end FM
structure LW(w wr:aa)(l z m:List Int):Prop where
 aK:BW w wr
 a:ah wr w.heap.size 86 (av l)
 r:ah wr (w.heap.size+1) 86 (av z)
 m:ah wr (w.heap.size+1+1) 86 (av m)
def LW.drew{w wr:aa}{l z m:List Int}(h:LW w wr l z m):LW w wr.drew l z m:=⟨h.aK.drew,h.a.drew,h.r.drew,h.m.drew⟩
def LW.set{w wr:aa}{l z m:List Int}(h:LW w wr l z m)(k:Nat)(x:Int):LW w (wr.setCell ⟨w.heap.size+1+1,k,none⟩ (O x)) l z (m.set k x):=
 ⟨h.aK.setCell (by simp<;>omega) _,h.a.cG (by simp<;>omega) _,h.r.cG (by simp<;>omega) _,by rw[<-oP];exact h.m.cN k _⟩
def LK(l:List Int)(w:aa)(e:Ending)(a:aa):Prop:=(∃m b,e=ao (aJ #[aG (av m),aF b])/\m.length=16/\(b=true->FM.val l<FM.P)/\(b=false->FM.Norm m/\FM.val m=FM.val l-FM.P))/\BW w a
def Un(c1:FM.Norm l)(w:aa):Calls prog 196 #[aG (av l)] w (LK l w):=by
 have s:=Z c1;have a0:(av l).size=16:=by rw[cI];exact s.U.len
 have b9:(prog.info? 86).map (·.size)=some (av l).size:=by rw[a0];exact qx
 go_enter func196,ntmps196
 go_upto_region 1 with fail
 rw[<-dM];have M:ah ((w.alloc (.cells (av l) 86)).alloc (.cells (av (List.replicate 16 0)) 86)) w.heap.size 86 (av l):=(ah.new w 86 _).alloc _;have b2:ah ((w.alloc (.cells (av l) 86)).alloc (.cells (av (List.replicate 16 0)) 86)) (w.heap.size+1) 86 (av (List.replicate 16 0)):=fC w _ 86 _;have a8:BW w ((w.alloc (.cells (av l) 86)).alloc (.cells (av (List.replicate 16 0)) 86)):=((bz _ _).alloc (aW _) _).alloc zS _;have z:((w.alloc (.cells (av l) 86)).alloc (.cells (av (List.replicate 16 0)) 86)).heap.size=w.heap.size+1+1:=by simp
 generalize(w.alloc (.cells (av l) 86)).alloc (.cells (av (List.replicate 16 0)) 86)=p at*;obtain⟨a1,c9⟩:∃a1,av (List.replicate 16 0)=a1:=⟨_,rfl⟩;have C:=dJ (P:=prog) (ah.new p 86 (av (List.replicate 16 0))) (av l) (by rw[a0,cI,ej]) (mo _);have N:=ah.setRow (ah.new p 86 (av (List.replicate 16 0))) (av l);have hA2:=ah.cJ (M.alloc (.cells (av (List.replicate 16 0)) 86)) (av l) (k:=p.heap.size) (by rw[z];omega);have b3:=ah.cJ (b2.alloc (.cells (av (List.replicate 16 0)) 86)) (av l) (k:=p.heap.size) (by rw[z];omega);have a9:=bY (a8.alloc (by rw[z];omega) (.cells (av (List.replicate 16 0)) 86)) (g:=p.heap.size) (by rw[z];omega) (av l);have I:LW w ((p.alloc (.cells (av (List.replicate 16 0)) 86)).setRow p.heap.size (av l)) l (List.replicate 16 0) l:=⟨a9,hA2,b3,by rw[<-z];exact N⟩;rw[z] at C I;rw[dM] at C I;have D:=Z I
 go_upto_region 2 with(refine bO rfl 86 (Operand.tmp 1) rfl w.heap.size rfl 86 (av l) (0,0) _ M oC rfl b9 ?_)
 rw[<-dM] at D⊢;generalize(p.alloc (.cells (av (List.replicate 16 0)) 86)).setRow (w.heap.size+1+1) (av l)=c8 at*;obtain⟨x,hx⟩:∃x,l[0]?=some x:=⟨_,ba (by rw[s.U.len];decide)⟩;have c5:=s.U.a x (dB hx);have f:c8.cell? ⟨w.heap.size+1+1,0,none⟩=some (O x):=(D.U.m.cell 0).trans (dr hx);have f0:=D.U.m.frozen 0;have c7:IntKind.i64.wrap (x-65517)=x-65517:=bd _ W;have b1:=FM.mU.start s.U hx;have a2:=Z b1
 go_wp2
 go_loopw [5] (λ i wr=>∃(k:Nat) (m:List Int),1<=k/\k<=16/\i=O k/\LW w wr l (List.replicate 16 0) m/\FM.mU l m k) (λ i _=>16-(intOf i).toNat)
 case atStart=>exact⟨1,_,by omega,by omega,rfl,D.U.set 0 (x-65517),a2.U⟩
 case round=>
  obtain⟨k,m,c0,d2,rfl,c4,c3⟩:=hrel;have e:=Z c4;have d:=Z c3;by_cases c2:k<16
  ·obtain⟨x,hx⟩:∃x,m[k-1]?=some x:=⟨_,ba (by have:=d.U.len;omega)⟩;obtain⟨y,L⟩:∃y,m[k]?=some y:=⟨_,ba (by have:=d.U.len;omega)⟩;have c5: -65536<=x/\x<65536:=by
    obtain⟨j,rfl⟩:=ed.1 hx;exact d.U.cur _ j W
   have d4:0<=y/\y<65536:=by
    obtain⟨j,rfl⟩:=ed.1 L;exact s.U.a _ (dB (d.U.rest k j (aW _)))
   obtain⟨q,X⟩:∃q,x/65536=q:=⟨_,rfl⟩;have c6:x%65536=x-q*65536:=by omega
   have f:wr.cell? ⟨w.heap.size+1+1,k,none⟩=some (O y):=(e.U.m.cell k).trans (dr L);have H:wr.cell? ⟨w.heap.size+1+1,k-1,none⟩=some (O x):=(e.U.m.cell (k-1)).trans (dr hx);have f0:=e.U.m.frozen k;have f1:=e.U.m.frozen (k-1);have G:=Ho q;have a6:=SN x;rw[c6] at a6;have J:q%2= -q:=by omega
   rw[J] at G;have c7:IntKind.i64.wrap ((k:Int)-1)=(k:Int)-1:=bd _ W;have t1:((k:Int)-1).toNat=k-1:=by omega
   have p2:(k:Int)-1<16:=by omega
   have p3:(1:Int)<=(k:Int):=by omega
   have d5:(0:Int)<=(k:Int):=by omega
   have d6:(k:Int)<16:=by omega
   have E:=Z hx;have a5:=Z L;have a3:=Z X.symm;obtain⟨c,u⟩:∃c:Int,c=if k<15 then 65535 else 32767:=⟨_,rfl⟩
   have C:=d.U.step s.U ⟨c0,c2⟩ E.U a5.U u a3.U;have a4:=Z C;have d1:c=65535\/c=32767:=by split at u<;>omega
   have d7:IntKind.i64.wrap (y-c)=y-c:=bd _ W;have d8:IntKind.i64.wrap (y-c- -q)=y-c+q:=(bd _ W).trans W;have d9:y-c- -q=y-c+q:=by omega
   have e0:IntKind.i64.wrap (y-c+q)=y-c+q:=bd _ W;by_cases h15:k<15;focus
    rw[ax h15] at u;subst u;have A:(k:Int)<15:=by omega
    go_wp2
    have h:=e.U.set k (y-65535);generalize wr.setCell ⟨w.heap.size+1+1,k,none⟩ (O (y-65535))=b at*;have a:=Z h;have r:k<m.length:=by have:=d.U.len;omega
    have f:b.cell? ⟨w.heap.size+1+1,k,none⟩=some (O (y-65535)):=(a.U.m.cell k).trans (dr (om r));have H:b.cell? ⟨w.heap.size+1+1,k-1,none⟩=some (O x):=(a.U.m.cell (k-1)).trans (dr ((iK W).trans E.U));have f0:=a.U.m.frozen k;have f1:=a.U.m.frozen (k-1)
    go_still_tail 11,V
    show wpList _ _ _ _ _ b.drew
    go_upto_region 10 with fail
    have h:=(a.U.set k (y-65535+q)).drew;generalize(b.setCell ⟨w.heap.size+1+1,k,none⟩ (O (y-65535+q))).drew=t at*
   rotate_left;focus
    rw[aj h15] at u;subst u;have A:((k:Int)<15)=False:=lh W
    go_wp2
    have h:=e.U.set k (y-32767);generalize wr.setCell ⟨w.heap.size+1+1,k,none⟩ (O (y-32767))=b at*;have a:=Z h;have r:k<m.length:=by have:=d.U.len;omega
    have f:b.cell? ⟨w.heap.size+1+1,k,none⟩=some (O (y-32767)):=(a.U.m.cell k).trans (dr (om r));have H:b.cell? ⟨w.heap.size+1+1,k-1,none⟩=some (O x):=(a.U.m.cell (k-1)).trans (dr ((iK W).trans E.U));have f0:=a.U.m.frozen k;have f1:=a.U.m.frozen (k-1)
    go_still_tail 11,V
    show wpList _ _ _ _ _ b.drew
    go_upto_region 10 with fail
    have h:=(a.U.set k (y-32767+q)).drew;generalize(b.setCell ⟨w.heap.size+1+1,k,none⟩ (O (y-32767+q))).drew=t at*
   all_goals
    rw[List.set_set] at h;have a:=Z h;have H:t.cell? ⟨w.heap.size+1+1,k-1,none⟩=some (O x):=(a.U.m.cell (k-1)).trans (dr ((iK W).trans E.U));have f1:=a.U.m.frozen (k-1);have b:IntKind.i64.wrap ((k:Int)+1)=(k:Int)+1:=bd _ W
    go_wp2
    go_roundw
    case rel=>exact⟨k+1,_,by omega,by omega,by go_num,a.U.set (k-1) (x-q*65536),a4.U⟩
    case measure=>simp[intOf];omega
  ·obtain rfl:k=16:=by omega
   obtain⟨t,F⟩:∃t,m[15]?=some t:=⟨_,ba (by rw[d.U.len];decide)⟩;have d3: -32768<=t/\t<=32768:=by
    obtain⟨j,rfl⟩:=ed.1 F;exact d.U.top _ j rfl rfl
   have b8:=d.U.end_ F;have R:=d.U.len;have T:(av m).size=16:=by rw[cI];exact R
   have Q:(prog.info? 86).map (·.size)=some (av m).size:=by rw[T];exact qx
   have N:=e.U.m;have f:wr.cell? ⟨w.heap.size+1+1,15,none⟩=some (O t):=(e.U.m.cell 15).trans (dr F);obtain⟨q,X⟩:∃q,t/65536=q:=⟨_,rfl⟩;have G:=Ho q;have J:q%2= -q:=by omega
   rw[J] at G;obtain⟨b,d0,b7⟩:∃b:Bool,((-q)==1)=b/\(b=true↔t<0):=⟨_,rfl,by rw[fB];omega⟩;have A:=Z e.U.drew;have C:=dJ (P:=prog) A.U.r (av m) (by rw[T,cI,ej]) (mo _);have a7:=A.U.r.setRow (av m);have b6:=bY A.U.aK W (av m) (g:=w.heap.size+1);have b5:ai (ah (wr.drew.setRow (w.heap.size+1) (av m)) (w.heap.size+1+1) 86 (av m)):=Z (ah.cJ A.U.m (av m) W);have B:=dr F;have r:=Z (And.intro b8 (And.intro R (And.intro a7 (And.intro b6 b7))));have b4:ai (ah wr.drew (w.heap.size+1+1) 86 (av m)):=Z A.U.m
   go_wp2
   refine iE (n:=7) (S:=λ a=>ah a (w.heap.size+1+1) 86 (av m)) V V b4.U (λ b0=> ?_);refine az.take (i:=0) (oi:=_) (v:=_) rfl zD V V (λ _ _ _ h=>h) (cv V 86 (Operand.tmp 4) rfl (w.heap.size+1+1) zR 86 _ (0,0) _ (λ a h=>h) oC rfl Q) zA ?_;refine az.take (i:=1) (oi:=_) (v:=?vr1) rfl zD V V (λ _ _ _ h=>h) (Or.inl ⟨by kernel_rfl,?B1⟩) zA ?_;case B1=>(intro a j;have f:a.cell? ⟨w.heap.size+1+1,15,none⟩=some (O t):=(ah.cell j 15).trans B;go_simp;try(with_reducible rfl))
   refine az.take (i:=2) (oi:=_) (v:=?vr2) rfl zD V V (λ _ _ _ h=>h) (Or.inl ⟨by kernel_rfl,?SF⟩) zA ?_;case SF=>(intro a j;have f:a.cell? ⟨w.heap.size+1+1,15,none⟩=some (O t):=(ah.cell j 15).trans B;go_simp;try(with_reducible rfl))
   refine az.take (i:=3) (oi:=_) (v:=?vr3) rfl zD V V (λ _ _ _ h=>h) (Or.inl ⟨by kernel_rfl,?SG⟩) zA ?_;case SG=>(intro a j;have f:a.cell? ⟨w.heap.size+1+1,15,none⟩=some (O t):=(ah.cell j 15).trans B;go_simp;try(with_reducible rfl))
   refine az.take (i:=4) (oi:=_) (v:=?vr4) rfl zD V V (λ _ _ _ h=>h) (Or.inl ⟨by kernel_rfl,?SH⟩) zA ?_;case SH=>(intro a j;have f:a.cell? ⟨w.heap.size+1+1,15,none⟩=some (O t):=(ah.cell j 15).trans B;go_simp;try(with_reducible rfl))
   refine az.take (i:=5) (oi:=_) (v:=?vr5) rfl zD V V (λ _ _ _ h=>h) (Or.inl ⟨by kernel_rfl,?SI⟩) zA ?_;case SI=>(intro a j;have f:a.cell? ⟨w.heap.size+1+1,15,none⟩=some (O t):=(ah.cell j 15).trans B;go_simp;try(with_reducible rfl))
   refine az.one (i:=6) (o:=?VR) V zD ?BX ?Rs;case BX=>(simp only[sG];exact rfl)
   intro K i
   go_simp
   refine i.out _ _ b5.U (λ b0=> ?_);refine az.tail V ?_;simp only[bU,bC]
   go_wp2
   refine cq (v:= .tuple #[.agg (av m),.bool b]) (ia results196 _ _ (w.heap.size+1) 86 (av m) (0,0) _ rfl r.U.2.2.1 oC rfl Q) rfl ⟨⟨m,b,rfl,r.U.2.1,λ h=> ?_,λ h=> ?_⟩,r.U.2.2.2.1⟩
   ·exact r.U.1.1 (r.U.2.2.2.2.1 h)
   ·exact r.U.1.2 (by have:=r.U.2.2.2.2;subst h;simpa using this)
namespace FM
def bl(n k:Nat):List Nat:=(dn 32 n).take (2*k)++List.replicate (32-2*k) 0
def Fj(n k:Nat)(h:k<=16):(bl n k).length=32:=by simp[bl,kU];omega
def Ni(n:Nat):bl n 0=List.replicate 32 0:=by simp[bl]
def Ng(n:Nat):bl n 16=dn 32 n:=by
 rfl
def pow_two(k:Nat):65536^k=256^(2*k):=by rw[qb]
def Nh(n k a b d:Nat)(m:k<16)(hd:d=n/65536^k%65536)(f:a=d%256)(g:b=d/256):((bl n k).set (2*k) a).set (2*k+1) b=bl n (k+1):=by
 have j:(dn 32 n)[2*k]?=some a:=by
  rw[tM 32 n _ W];congr 1;rw[f,hd,pow_two];omega
 have l:(dn 32 n)[2*k+1]?=some b:=by
  rw[tM 32 n _ W];congr 1;rw[g,hd,pow_two,fk,<-lP];omega
 have o:=kU 32 n;apply zl;intro i;have h:(bl n k).length=32:=Fj n k W;by_cases c:i=2*k+1
 ·subst c;rw[om (by grind)];unfold bl;grind
 ·rw[iK W];by_cases e:i=2*k
  ·subst e;rw[om W];unfold bl;grind
  ·rw[iK W];unfold bl;grind
def F8:∀(k n:Nat),∀d∈dn k n,d<256
 |0,n,d,h=>by simp[dn] at h
 |k+1,n,d,h=>by
  rcases bV.1 h with rfl|h
  ·omega
  ·exact F8 k _ d h
structure C3(x l:List Int)(k:Nat):Prop where
 kg:Good l
 norm:0<k->Norm l
 mod:val l%P=val x%P
def C3.step{x c:List Int}(h:C3 x c k)(a:gV c l r f):C3 x l (k+1):=by
 have b:=a.norm h.kg;exact⟨b.kg,λ _=>b,a.mod.trans h.mod⟩
structure D2(x l:List Int)(k:Nat):Prop where
 norm:Norm l
 mod:val l%P=val x%P
 one:k=1->val l<P+38
 two:k=2->val l<P
def D2.start{x:List Int}(h:C3 x l 3):D2 x l 0:=⟨h.norm zD,h.mod,λ h=>by omega,λ h=>by omega⟩
def D2.stay{x:List Int}(h:D2 x l k)(a:val l<P):D2 x l (k+1):=⟨h.norm,h.mod,λ _=>by omega,λ _=>a⟩
def D2.less{x m:List Int}(h:D2 x l k)(g:k<2)(c:Norm m)(b:val m=val l-P):D2 x m (k+1):=by
 have a:=h.norm.bounds.2;rw[Dp] at a;have e:val l-P=val l+P*(-1):=by omega
 refine⟨c,by rw[b,e,zc];exact h.mod,λ d=>by omega,λ f=> ?_⟩;have:=h.one W;unfold P at*;omega
def D2.fe{x l:List Int}(h:D2 x l 2):val l=(fe x:Int):=by
 rw[ke,<-h.mod];exact(Eh h.norm.bounds.1 (h.two rfl)).symm
end FM
variable{b:List UInt8}
namespace FM
def eB:List UInt8->Nat
 |[]=>0
 |b::l=>b.toNat+256*eB l
def HF:∀(a b:List UInt8),eB (a++b)=eB a+256^a.length*eB b
 |[],b=>by simp[eB]
 |x::a,b=>by
  simp only[gD,eB,HF a b,fU,fk]
  grind
def Ce{c:UInt8}(h:b[k]?=some c):eB (b.take (k+1))=eB (b.take k)+c.toNat*256^k:=by
 obtain⟨a,rfl⟩:=ed.1 h;rw[dC a,HF,ee,jT W];simp only[eB,vC,hJ];grind
structure lH(b:List UInt8)(l:List Int)(k:Nat):Prop where
 len:l.length=16
 a:∀d∈l,0<=d/\d<65536
 rest:∀j (h:j<l.length),k<=2*j->l[j]=0
 half:∀j (h:j<l.length),k=2*j+1->l[j]<256
 eq:val l=(eB (b.take k):Int)
def lH.start(b:List UInt8):lH b (List.replicate 16 0) 0:=
 ⟨by simp,λ d hd=>by grind,λ j h _=>by grind,λ j h _=>by omega,by rfl⟩
def lH.even{j:Nat}{c:UInt8}(h:lH b l k)(g:k=2*j)(q:j<16)(f:b[k]?=some c):lH b (l.set j (c.toNat:Int)) (k+1):=by
 have m:=h.len;have e:j<l.length:=by omega
 have n:=h.rest j e W;have o:=c.toNat_lt;refine⟨by simp[m],λ d hd=> ?_,λ i a r=> ?_,λ i a p=> ?_,?_⟩
 ·rcases vu hd with hd|rfl
  ·exact h.a d hd
  ·omega
 ·simp only[hH] at a;rw[lK W];exact h.rest i a W
 ·grind
 ·rw[lE _ _ _ e,n,h.eq,Ce f,g,qb];simp
def lH.bq{j:Nat}{c:UInt8}(h:lH b l k)(f:k=2*j+1)(s:j<16)(g:b[k]?=some c)(hx:l[j]?=some r):lH b (l.set j (r+(c.toNat:Int)*256)) (k+1)/\0<=r/\r<256:=by
 have n:=h.len;obtain⟨a,rfl⟩:=ed.1 hx;have o:=h.half j a f;have m:=h.a _ (cY a);have p:=c.toNat_lt;refine⟨⟨by simp[n],λ d hd=> ?_,λ i e t=> ?_,λ i e q=>by omega,?_⟩,m.1,o⟩
 ·rcases vu hd with hd|rfl
  ·exact h.a d hd
  ·omega
 ·simp only[hH] at e;rw[lK W];exact h.rest i e W
 ·rw[lE _ _ _ a,h.eq,Ce g,f,fk,qb];grind
def Ip(h1:l.length=16)(h2:∀d∈l,0<=d/\d<65536):Good l:=Norm.kg ⟨h1,h2⟩
def GL(h:val l=(n:Int)):fe l=n%PN:=by
 have a:=ke l;rw[h,tr] at a;omega
def iA(skip:Nat->Bool)(a:Nat):Nat->Nat->Nat
 |0,c=>c
 |i+1,c=>iA skip a i (if skip i=true then c*c%PN else c*c%PN*a%PN)
def I5(skip:Nat->Bool)(a i c:Nat):iA skip a (i+1) c=iA skip a i (if skip i=true then c*c%PN else c*c%PN*a%PN):=rfl
def fg(a:Nat):Nat:=iA (λ i=>decide (i=2)||decide (i=4)) a 254 a
def mC(a:Nat):Nat:=iA (λ i=>decide (i=1)) a 251 a*a%PN
def qT(r a:Nat):Nat:=if r*r%PN=a then r else r*iA (λ i=>decide (i=2)) 2 252 2%PN
def pj(r:Nat):Nat:=if r%2=1 then(PN-r)%PN else r
def ib(a:Nat):Option Nat:=let r:=qT (mC a) a;if r*r%PN=a then some (pj r) else none
def jD(s:ag):Int:=if s.size<32 then 2 else if 32<s.size then 4 else if enc (eB s.data.toList%PN)=s then 0 else 3
def jE(s:ag):Nat:=if jD s=0 then eB s.data.toList%PN else 0
def qp(s:ag):Nat:=eB (s.data.toList.take 32)%PN
end FM
section
open Go.Shelf
def Tryz.HC:Go.Shelf.Ren:=⟨λ|264=>115|n=>n,λ|53=>46|46=>191|n=>n,λ|n=>n⟩
def Tryz.T8:Go.Proofs.Lays.n264 prog Tryz.HC:=⟨by kernel_rfl,dH func115,underlying191,Tryz.isAgg191,Tryz.sizeOf191,Tryz.zeroValue191,nn,Ae,Az,AE⟩
def Tryz.HA:Go.Shelf.Ren:=⟨λ|25=>116|n=>n,λ|22=>46|n=>n,λ|n=>n⟩
def Tryz.T5:Go.Proofs.Lays7.n25 prog Tryz.HA:=⟨by kernel_rfl,dH func116,nn,Ae,Az,AE,by kernel_rfl⟩
def Tryz.HE:Go.Shelf.Ren:=⟨λ|26=>252|n=>n,λ|22=>46|n=>n,λ|n=>n⟩
def Tryz.Ua:Go.Proofs.Lays7.n26 prog Tryz.HE:=⟨by kernel_rfl,dH func252,nn,Ae,Az,AE,by kernel_rfl⟩
def Ve:Tryz.HC.f 264=115:=by kernel_rfl
def Mo:Tryz.HA.f 25=116:=by kernel_rfl
def YJ:Tryz.HE.f 26=252:=by kernel_rfl
def Vd(x y:Nat)(hx:x<18446744073709551616)(a:y<18446744073709551616)(w:aa):
 Calls prog 115 #[U x,U y] w λ e b=>e=ao (aJ #[U ((x*y/18446744073709551616:Nat):Int),U ((x*y%18446744073709551616:Nat):Int)])/\b=w:=by
 have h:=Any.bits_Mul64 Tryz.T8 x y hx a w
 rw[Ve] at h
 exact h
def EZ(x y c:Nat)(a:c<=1)(w:aa):(callFunc 116 #[U x,U y,U c]).run prog w=
 .ok (.value (aJ #[U (((x+y+c)%18446744073709551616:Nat):Int),U (((x+y+c)/18446744073709551616:Nat):Int)])) w:=by
 have h:=Any7.bits_Add64 Tryz.T5 x y c a w
 rw[Mo] at h
 exact h
def YK(x y b:Nat)(a:b<=1)(w:aa):(callFunc 252 #[U x,U y,U b]).run prog w=
 .ok (.value (aJ #[U (((x+18446744073709551616-y-b)%18446744073709551616:Nat):Int),U ((if x<y+b then 1 else 0:Nat):Int)])) w:=by
 have h:=Any7.bits_Sub64 Tryz.Ua x y b a w
 rw[YJ] at h
 exact h
end
