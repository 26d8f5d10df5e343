import Derived.Test.YtncpbkoinennoaaGreatDoorMAO
import Derived.Test.YtncpbkoinennoaaGreatDoorMAU
set_option linter.all false
set_option maxRecDepth 100000
set_option maxHeartbeats 0
namespace Go.Proofs.YtncpbkoinennoaaGreatDoor
open Go.RowKit Proofs.Tryz
attribute [local irreducible] wpList Calls
variable{D:BD}{h:HD}{n:Nat}
def sk(h:HD):List UInt8:=cm h.size++(cm h.time++(h.aE.data.toList++h.a.data.toList))
def ma(b:BD):List UInt8:=sk b.a++(sk b.b++(cm b.e.length++(b.e.map λ s=>s.data.toList).flatten))
def DW{x:WS}(a:x.e=0)(n:Nat):x.num n=⟨x.b++cm n,0⟩:=by
 unfold WS.num WS.put;grind
def Ln{x:WS}(a:x.e=0){s:ag}(b:s.size=n):x.raw s (n:Int)=⟨x.b++s.data.toList,0⟩:=by
 unfold WS.raw WS.put;grind
def Lo{x:WS}(a:x.e=0){s:ag}(b:s.size=32):x.raw s 32=⟨x.b++s.data.toList,0⟩:=Ln a b
def aaQ{x:WS}(a:x.e=0){s:ag}(b:s.size=64):x.raw s 64=⟨x.b++s.data.toList,0⟩:=Ln a b
def Lm{x:WS}(a:x.e=0)(b:h.aE.size=32)(c:h.a.size=64):x.head h=⟨x.b++sk h,0⟩:=by
 unfold WS.head sk;rw[DW a,DW rfl,Lo rfl b,aaQ rfl c];simp
def Ll:∀(L:List ag) {x:WS},x.e=0->(∀s∈L,s.size=32)->x.fX L=⟨x.b++(L.map λ s=>s.data.toList).flatten,0⟩
 |[],x,a,_=>by
  obtain⟨b,e⟩:=x
  simp only at a;subst a
  simp[WS.fX]
 |s::L,x,a,h=>by
  have e1:x.fX (s::L)=(x.raw s 32).fX L:=rfl
  rw[e1,Lo a (h s mZ),Ll L rfl (λ t b=>h t (mQ b))]
  simp
def uC(h:D.right=true):D.a.right=true/\D.b.right=true/\D.e.length<=48/\cu D.e=false:=by
 unfold BD.right at h;grind
def ml(a:h.right=true):1<=h.size/\h.size<=1099511627776/\h.time<=1099511627776/\h.aE.size=32/\h.a.size=64:=by
 unfold HD.right at a;grind
def DV{x:WS}(i:x.e=0)(h:D.right=true):x.jY D=⟨x.b++ma D,0⟩:=by
 obtain⟨e,f,j,g⟩:=uC h;obtain⟨-,-,-,a,b⟩:=ml e;obtain⟨-,-,-,c,d⟩:=ml f;unfold WS.jY ma;rw[Lm i a b,Lm rfl c d,DW rfl,Ll _ rfl (AM g)];simp
def PG(h:D.right=true):D.enc=⟨(ma D).toArray⟩:=by
 unfold BD.enc;rw[ax h,DV rfl h];rfl
def uz{y:RD}{s:ag}{rest:List UInt8}(a:y.e=0)(c:s.size=n)(b:y.s.data.toList=s.data.toList++rest):y.cK (n:Int)=s/\y.bF (n:Int)=⟨⟨rest.toArray⟩,0⟩:=by
 have h:=KK a b;simp_all
def Jq{y:RD}{rest:List UInt8}(b:h.Ok)(f:h.aE.size=32)(e:h.a.size=64)(d:y.e=0)(a:y.s.data.toList=sk h++rest):y.jx=h/\y.jy=⟨⟨rest.toArray⟩,0⟩:=by
 unfold sk at a;simp only[di] at a;obtain⟨g,x1⟩:=xw b.size d a;obtain⟨i,x2⟩:=xw (y:=y.cg) b.time (by rw[x1]) (by rw[x1]);obtain⟨j,x3⟩:=uz (y:=y.cg.cg) (s:=h.aE) (n:=32) (by rw[x2]) f (by rw[x2]);obtain⟨k,x4⟩:=uz (y:=y.cg.cg.bF 32) (s:=h.a) (n:=64) (by grind) e (by rw[show(32:Int)=((32:Nat):Int) from rfl,x3]);have wD:(32:Int)=((32:Nat):Int):=rfl;have c:(64:Int)=((64:Nat):Int):=rfl;constructor
 ·unfold RD.jx;rw[g,i,c,k,wD,j]
 ·unfold RD.jy;omega
def Jr:∀(L:List ag) {y:RD} {rest:List UInt8},(∀s∈L,s.size=32)->y.e=0->y.s.data.toList=(L.map λ s=>s.data.toList).flatten++rest->y.fH L.length=L/\y.gv L.length=⟨⟨rest.toArray⟩,0⟩
 |[],y,rest,_,a,b=>by
  obtain⟨s,e⟩:=y
  simp only at a b;subst a
  refine⟨rfl,?_⟩
  show RD.mk s 0=_
  congr 1
  exact kP (by grind)
 |s::L,y,rest,h,a,b=>by
  simp only[cw,zm,di] at b
  obtain⟨d,x1⟩:=uz (n:=32) a (h s mZ) b
  have wD:(32:Int)=((32:Nat):Int):=rfl
  obtain⟨e,x2⟩:=Jr L (y:=y.bF 32) (rest:=rest) (λ t c=>h t (mQ c)) (by grind) (by grind)
  simp only[fU,RD.fH,RD.gv]
  grind
def Jp{y:RD}{rest:List UInt8}(d:D.Ok)(h:D.right=true)(o:y.e=0)(a:y.s.data.toList=ma D++rest):y.gZ=D/\y.mb=⟨⟨rest.toArray⟩,0⟩:=by
 obtain⟨k,l,s,m⟩:=uC h;obtain⟨-,-,-,f,g⟩:=ml k;obtain⟨-,-,-,i,j⟩:=ml l;unfold ma at a;simp only[di] at a;obtain⟨p,x1⟩:=Jq d.a f g o a;obtain⟨q,x2⟩:=Jq (y:=y.jy) d.b i j (by rw[x1]) (by rw[x1]);obtain⟨e,x3⟩:=xw (y:=y.ir) (n:=D.e.length) W (by unfold RD.ir;rw[x2]) (by unfold RD.ir;rw[x2]);have b:y.qn=y.ir.cg:=by unfold RD.qn;rw[e,aj W]
 obtain⟨r,x4⟩:=Jr D.e (y:=y.qn) (rest:=rest) (AM m) (by rw[b,x3]) (by rw[b,x3]);have c:min y.ir.cB 48=D.e.length:=by rw[e];omega
 constructor
 ·unfold RD.gZ;rw[c,r,p,q]
 ·unfold RD.mb;rw[c,x4]
def Bf(a:D.Ok)(h:D.right=true):eN D.enc= .ok D:=by
 obtain⟨v,x⟩:=Jp (y:=⟨D.enc,0⟩) (rest:=[]) a h rfl (by rw[PG h];simp);unfold eN;rw[x,v,ax (show RD.ea _=0 by rfl),ax h]
def cj(b:BD):MG:={dL with c:=4,b:=b}
def Wr(b:BD):(cj b).bare=cj b:=by
 rfl
def Ja(h:D.bq=true):(cj D).right=true:=by
 have a:eC (eQ 4)=[108,98]:=by decide
 unfold MG.right;rw[Wr];show(hY 4&&(decide (cj D=cj D)&&(eC (eQ 4)).all _))=true;rw[a];simp only[decide_true,te,List.all_nil,vd,mR];have b:hY 4=true:=by decide
 have c:(cj D).part 108=true:=by unfold MG.part;rfl
 have d:(cj D).part 98=D.bq:=by unfold MG.part;rfl
 grind
section
open TreeM
def HD.check(a:ag)(h:HD):Bool:=h.right&&mK a h.text h.a
def kj(k:KY)(size a:Nat)(aE:ag):Option HD:=
 if(⟨size,a,aE,k.sign (HD.text ⟨size,a,aE,⟨#[]⟩⟩)⟩:HD).right=true then some ⟨size,a,aE,k.sign (HD.text ⟨size,a,aE,⟨#[]⟩⟩)⟩ else none
def fa(a b:HD)(c:List ag):Option BD:=
 if(⟨a,b,[]⟩:BD).bq=true then some ⟨a,b,[]⟩ else if(⟨b,a,[]⟩:BD).bq=true then some ⟨b,a,[]⟩
 else if(⟨a,b,c⟩:BD).bq=true then some ⟨a,b,c⟩ else if(⟨b,a,c⟩:BD).bq=true then some ⟨b,a,c⟩ else none
def fc(a s:ag):Bool:=match eN s with| .error _=>false| .ok b=>b.bq&&(b.a.check a&&b.b.check a)
structure ST where
 aT:Bool
 ar:HD
 f:List HD
 aM:ag
def fj:ST:=⟨false,ec,[],⟨#[]⟩⟩
def eG(h:HD):List HD->Option (Option BD)
 |[]=>none
 |x::l=>if x.size=h.size then(if x.aE=h.aE then some none else match fa x h [] with|some b=>some (some b)|none=>eG h l) else eG h l
def nM(h:HD):List HD->Nat
 |[]=>0
 |x::l=>if 0<x.ahead h then 0 else nM h l+1
def ST.take(s:ST)(a:ag)(h:HD)(c:Nat):ST×Nat:=
 if s.aM=⟨#[]⟩ then
  if h.check a=true then
   if s.aT=true then
    match eG h (s.ar::s.f) with
    |some none=>(s,2)
    |some (some b)=>({s with aM:=b.enc},5)
    |none=>if c<=s.f.length then(s,6) else({s with f:=s.f.take (nM h s.f)++h::s.f.drop (nM h s.f)},3)
   else({s with aT:=true,ar:=h},1)
  else(s,7)
 else(s,9)
def ST.gK(s:ST):Option (Nat×Nat):=
 if s.aM=⟨#[]⟩/\s.aT=true then match s.f with|[]=>none|x::_=>some (min x.size s.ar.size,max x.size s.ar.size) else none
def kf(f m n:Nat):List HD->Option Nat
 |[]=>none
 |x::l=>if min x.size f=m/\max x.size f=n then some 0 else(kf f m n l).map (·+1)
def ST.link(s:ST)(m n:Nat)(a:List ag):ST×Nat:=
 if s.aM=⟨#[]⟩ then
  if s.aT=true then
   match kf s.ar.size m n s.f with
   |none=>(s,8)
   |some i=>
    let x:=s.f.getD i ec
    let d:=if x.size<s.ar.size then x else s.ar
    let c:=if x.size<s.ar.size then s.ar else x
    if fF m n a=0/\hQ m n a=c.aE then
     if iu m n a=d.aE then({s with ar:=c,f:=s.f.eraseIdx i},4)
     else match fa d c a with
      |none=>(s,7)
      |some b=>({s with aM:=b.enc},5)
    else(s,7)
  else(s,8)
 else(s,9)
def ST.lay(s:ST)(b a:ag):ST×Nat:=
 if s.aM=⟨#[]⟩ then(if fc b a=true then({s with aM:=a},5) else(s,7)) else(s,9)
end
namespace DA
structure DS where
 f0:ag
 f1:ag
 a:List (Nat×Nat)
 room:Nat
def nF(l:List (Nat×Nat)):List ab:=l.flatMap λ p=>[Value.int .i64 (p.1:Int),Value.int .i64 (p.2:Int)]
def ka(d:DS)(v:ab):Array ab:=#[ae d.f0,ae d.f1,v,O (d.room:Int)]
structure du(w:aa)(base g:Nat)(v:ab)(d:DS):Prop where
 a:ah w g 146 (ka d v)
 hb:base<=g
 own:w.ownsRow base 169 2 v d.a.length (nF d.a)
def eD(f:Nat)(l:List (Nat×Nat)):Nat:=(l.map λ p=>if p.1=f then p.2 else 0).sum
def fI(l:List (Nat×Nat)):Nat:=(l.map λ p=>p.2).sum
structure DS.ok(d:DS):Prop where
 fits:d.f0.size+d.f1.size<=d.room
 room:d.room<=16777216
 a:d.a.length<=1000000
 two:∀p∈d.a,p.1<2
 l0:eD 0 d.a<=d.f0.size
 l1:eD 1 d.a<=d.f1.size
def DS.file(d:DS)(f:Nat):ag:=if f=0 then d.f0 else d.f1
section
variable{w:aa}{base g:Nat}{v:ab}{d:DS}
def du.c0(h:du w base g v d):w.cell? ⟨g,0,none⟩=some (ae d.f0):=h.a.cell 0
def du.c1(h:du w base g v d):w.cell? ⟨g,1,none⟩=some (ae d.f1):=h.a.cell 1
def du.c2(h:du w base g v d):w.cell? ⟨g,2,none⟩=some v:=h.a.cell 2
def du.fr(h:du w base g v d)(i:Nat):w.frozen? ⟨g,i,none⟩=false:=h.a.frozen i
end
def wZ(f:Int)(b:0<=f)(h2:f<2)(w:aa):Calls prog 221 #[O f] w λ e a=>e=ao (aF true)/\w=a:=by
 go_enter func221,ntmps221
 go_wp2
 go_ret
 simp
def DS.sync(d:DS):DS:={d with a:=[]}
def YU{base g:Nat}{v:ab}{d:DS}{w:aa}(h:du w base g v d):Calls prog 96 #[pV g] w λ e a=>e=ao (aJ #[])/\du a base g (ad none 0 0) d.sync/\aR w.heap.size [g] w a:=by
 have b:=h.c2;have f2:=h.fr 2;have H:=Z h;clear h
 go_enter func96,ntmps96
 go_wp2
 go_end0
 exact⟨rfl,⟨H.U.a.cN 2 _,H.U.hb,ct _ _ _ _⟩,(aR.refl _ _ _).setCell (.inl zS) _⟩
def HP(l:List (Nat×Nat))(p:Nat×Nat):fI (l++[p])=fI l+p.2:=by simp[fI]
def HN(l:List (Nat×Nat))(k:Nat):fI (l.take k)<=fI l:=by
 have:fI l=fI (l.take k)+fI (l.drop k):=by
  simp only[fI,<-List.sum_append,<-pR,ou]
 omega
def HO:∀(l:List (Nat×Nat)),(∀p∈l,p.1<2)->fI l=eD 0 l+eD 1 l
 |[],_=>rfl
 |p::l,h=>by
  have b:=HO l (λ q a=>h q (mQ a))
  have c:=h p (mZ ..)
  simp only[fI,eD,cw,List.sum_cons] at b⊢
  grind
def DS.ok.all{d:DS}(h:d.ok):fI d.a<=16777216:=by
 have a:=HO d.a h.two;have b:=h.l0;have c:=h.l1;have e:=h.fits;have f:=h.room;omega
def xl(l:List (Nat×Nat))(k:Nat)(b:k<l.length):(nF l)[k*2]?=some (O (l[k].1:Int))/\(nF l)[k*2+1]?=some (O (l[k].2:Int)):=by
 induction l generalizing k with
 |nil=>grind
 |cons p l a=>
  cases k with
  |zero=>simp[nF]
  |succ k=>
   have:=a k (by grind);simp only[nF,List.flatMap_cons,gD,fV,List.getElem_cons_succ] at this⊢;grind
def xk{base g:Nat}{v:ab}{d:DS}{w:aa}(h:du w base g v d)(f:d.ok):CB 225 #[pV g] w (O (fI d.a:Int)):=by
 have o:=h.c2;have r:=f.all;have x:=f.a;have a:=h.own;have H:=Z h;clear h;rcases a.2 with⟨rfl,c⟩|⟨b,p,q,rfl,s,i,c,z,j,k⟩
 ·have e0:d.a=[]:=by grind
  rw[e0];clear c a e0
  go_enter func225,ntmps225
  go_wp2
  refine Lg 1 ?_;rw[gO]
  go_wp2
  go_ret
  exact⟨rfl,bz _ _⟩
 ·have c:=a.cellAt;have e:=Z c;clear c;clear a;clear j;clear k;have A:b<w.heap.size:=by grind
  clear i
  go_enter func225,ntmps225
  go_wp2
  go_loopw [3,11] (λ n i wr=>∃k:Nat,k<=d.a.length/\i=O k/\n=O (fI (d.a.take k):Int)/\BW w wr) (λ _ i _=>d.a.length-(intOf i).toNat)
  case atStart=>exact⟨0,bh _,rfl,rfl,bz _ _⟩
  case round=>
   obtain⟨k,y,rfl,rfl,a⟩:=hrel;have m:=a.size;by_cases c:k<d.a.length
   ·have t:wr.cell? ⟨b,k*2,none⟩=some (O (d.a[k].1:Int)):=by
     rw[a.cell W,e.U (k*2) W];exact(xl _ k c).1
    have u:wr.cell? ⟨b,k*2+1,none⟩=some (O (d.a[k].2:Int)):=by
     rw[a.cell W,e.U (k*2+1) W];exact(xl _ k c).2
    have i:fI (d.a.take (k+1))=fI (d.a.take k)+d.a[k].2:=by
     rw[dC c,HP]
    have l:=HN d.a (k+1);have n:fI (d.a.take k)+d.a[k].2<=16777216:=by omega
    have j:=Z i;clear i l
    go_wp2
    go_roundw
    case rel=>exact⟨k+1,by omega,by go_num,by rw[j.U];go_num,a.alloc m _⟩
    case measure=>simp[intOf];omega
   ·obtain rfl:k=d.a.length:=by omega
    go_wp2
    go_ret
    simp_all
end DA
variable{g:Nat}
namespace DA
def du.cf{w:aa}{v:ab}{d:DS}(h:du w n g v d)(f:Nat)(a:f<2):w.cell? ⟨g,f,none⟩=some (ae (d.file f)):=by
 have:f=0\/f=1:=by omega
 rcases this with rfl|rfl
 ·exact h.c0
 ·exact h.c1
def GO{d:DS}(a:d.ok)(f:Nat):(d.file f).size<=16777216:=by
 have:=a.fits;have:=a.room;unfold DS.file;split<;>omega
end DA
namespace DA
def du.only{w e:aa}{a g B:Nat}{v:ab}{d:DS}{l:List Nat}(h:du w a g v d)(c:aR B l w e)(b:g<B/\g∉l)(f:∀k,v.ownBlock=some k->k<B/\k∉l):du e a g v d:=
 ⟨h.a.only c b.1 b.2,h.hb,CH h.own c f⟩
def du.below{w a:aa}{v:ab}{d:DS}(h:du w n g v d)(b:BW w a):du a n g v d:=
 h.only (aR.lx b []) ⟨h.a.lt,by simp⟩ (λ k c=>⟨xH h.own k c,by simp⟩)
def DS.bN(d:DS):DS:={d with f0:=d.f1,f1:=d.f0}
def Z8{v:ab}{d:DS}{w:aa}(h:du w n g v d)(b:d.ok)(c:0<fI d.a):CB 301 #[pV g] w (O 7):=by
 go_enter func301,ntmps301
 go_wp2_with fail
 refine(xk h b).mono ?_;rintro e f ⟨rfl,a⟩
 go_wp2
 go_ret
 exact⟨rfl,a⟩
def aaa{v:ab}{d:DS}{w:aa}(h:du w n g v d)(q:d.ok)(r:fI d.a=0):Calls prog 301 #[pV g] w λ e a=>e=ao (O 0)/\du a n g v d.bN/\aR w.heap.size [g] w a:=by
 go_enter func301,ntmps301
 go_wp2_with fail
 refine(xk h q).mono ?_;rintro e c ⟨rfl,f⟩;have a:=h.below f;have m:=a.c0;have o:=a.c1;have f0:=a.fr 0;have f1:=a.fr 1;have b:=Z a;clear a h;have l:=Z f;clear f
 go_wp2
 go_region
 have a:=b.U.a;have j:=qN b.U.own a zD;have f:ah ((c.setCell ⟨g,0,none⟩ (ae d.f1)).setCell ⟨g,1,none⟩ (ae d.f0)).drew g 146 (ka d.bN v):=(a.cN 0 _).cN 1 _;have k:((c.setCell ⟨g,0,none⟩ (ae d.f1)).setCell ⟨g,1,none⟩ (ae d.f0)).drew.ownsRow n 169 2 v d.a.length (nF d.a):=uo (p:=⟨g,1,none⟩) (uo (p:=⟨g,0,none⟩) b.U.own j _) j _;have i:aR w.heap.size [g] w ((c.setCell ⟨g,0,none⟩ (ae d.f1)).setCell ⟨g,1,none⟩ (ae d.f0)).drew:=(((aR.lx l.U [g]).setCell (p:=⟨g,0,none⟩) (.inl zS) _).setCell (p:=⟨g,1,none⟩) (.inl zS) _).drew;clear a m o f0 f1;generalize((c.setCell ⟨g,0,none⟩ (ae d.f1)).setCell ⟨g,1,none⟩ (ae d.f0)).drew=m at*;have a:=Z (And.intro f (And.intro k i));clear f k i
 go_wp2
 go_ret
 exact⟨rfl,⟨a.U.1,b.U.hb,a.U.2.1⟩,a.U.2.2⟩
def DS.trim(d:DS)(f n:Nat):DS:=if f=0 then{d with f0:=d.f0.extract 0 n} else{d with f1:=d.f1.extract 0 n}
def Zy(d:DS)(v:ab)(f:Nat)(a:f<2)(n:Nat):(ka d v).setIfInBounds f (ae ((d.file f).extract 0 n))=ka (d.trim f n) v:=by
 have:f=0\/f=1:=by omega
 rcases this with rfl|rfl<;>rfl
def Zz(d:DS)(f:Nat)(a:f<2)(n:Nat):(d.trim f n).a=d.a:=by unfold DS.trim;split<;>rfl
def Zx{v:ab}{d:DS}{w:aa}(h:du w n g v d)(j:d.ok)(f:Nat)(i:f<2)(a:Int)(b:a<0\/((d.file f).size:Int)<a):Calls prog 161 #[pV g,O (f:Int),O a] w λ e c=>e=ao (O 1)/\w=c:=by
 have k:=h.cf f i;have l:(f:Int)<2:=by omega
 have e:=GO j f;clear h;rcases b with b|b
 ·have c:decide (a<0)=true:=by simp;omega
  go_enter zL,Ah
  go_wp2_with fail
  refine KQ (wZ _ W W _) ?_
  go_wp2
  go_ret
  exact⟨rfl,rfl⟩
 ·have c:decide (a<0)=false:=by simp;omega
  go_enter zL,Ah
  go_wp2_with fail
  refine KQ (wZ _ W W _) ?_
  go_wp2
  go_ret
  exact⟨rfl,rfl⟩
def ZA{v:ab}{d:DS}{w:aa}(h:du w n g v d)(i:d.ok)(f:Nat)(c:f<2)(a:Nat)(m:a<=(d.file f).size)(l:0<fI d.a):CB 161 #[pV g,O (f:Int),O (a:Int)] w (O 7):=by
 have j:=h.cf f c;have k:(f:Int)<2:=by omega
 go_enter zL,Ah
 go_wp2_with fail
 refine KQ (wZ _ W W _) ?_
 go_wp2_with fail
 refine(xk h i).mono ?_;rintro e o ⟨rfl,b⟩
 go_wp2
 go_ret
 exact⟨rfl,b⟩
def ZB{v:ab}{d:DS}{w:aa}(h:du w n g v d)(t:d.ok)(f:Nat)(i:f<2)(a:Nat)(y:a<=(d.file f).size)(x:fI d.a=0):Calls prog 161 #[pV g,O (f:Int),O (a:Int)] w λ e b=>e=ao (O 0)/\du b n g v (d.trim f a)/\aR w.heap.size [g] w b:=by
 have k:=h.cf f i;have u:(f:Int)<2:=by omega
 have z:(a:Int)<=((d.file f).size:Int):=by omega
 go_enter zL,Ah
 go_wp2_with fail
 refine KQ (wZ _ W W _) ?_
 go_wp2_with fail
 refine(xk h t).mono ?_;rintro e j ⟨rfl,l⟩;have c:=h.below l;clear k;have k:=c.cf f i;have r:=c.fr f;have b:=Z c;clear c h;have q:=Z l;clear l
 go_wp2
 go_region
 have c:=b.U.a;have s:=qN b.U.own c zD;have l:ah (j.setCell ⟨g,f,none⟩ (ae ((d.file f).extract 0 a))).drew g 146 (ka (d.trim f a) v):=by
  rw[<-Zy d v f i a];exact c.cN f _
 have o:(j.setCell ⟨g,f,none⟩ (ae ((d.file f).extract 0 a))).drew.ownsRow n 169 2 v d.a.length (nF d.a):=uo (p:=⟨g,f,none⟩) b.U.own s _;have m:aR w.heap.size [g] w (j.setCell ⟨g,f,none⟩ (ae ((d.file f).extract 0 a))).drew:=((aR.lx q.U [g]).setCell (p:=⟨g,f,none⟩) (.inl zS) _).drew;clear c k r;generalize(j.setCell ⟨g,f,none⟩ (ae ((d.file f).extract 0 a))).drew=k at*;have c:=Z (And.intro l (And.intro o m));clear l o m
 go_wp2
 go_ret
 refine⟨rfl,⟨c.U.1,b.U.hb,?_⟩,c.U.2.2⟩;rw[Zz d f i a];exact c.U.2.1
end DA
variable{X:Operand}{t:TypeId}
abbrev Y.arr(g:Nat)(t:TypeId)(b:Array ab):Y:=Y.row g t b.toList
section
variable{ops:Array Oper}{rest:List Oper}{op:Oper}{a:Act}{Q:Exit->Act->aa->Prop}{w wr:aa}{m:List Nat}{aq:List Y}
def LI(h:af w wr m aq)(i:Nat){b:Array ab}(k:aq[i]?=some (Y.arr g t b))(j:Region.wanted op (yielded ops a.tmps)=true)(c n:Nat)(l:op.op= .load c X)(hx:a.eval X=pV g)
 (e:ic c n=true) (d:b.size=n) (f:wpList prog ops Q rest (a.put op.dst (aG b)) wr):wpList prog ops Q (op::rest) a wr:=by
 refine zi h i k j c n l hx e b.toList (by rw[jR,cS (by simp[d])]) (by simp[d]) ?_
 rw[mP];exact f
def zH(h:af w wr m aq)(i:Nat){d:Array ab}(x:aq[i]?=some (Y.arr g t d))(s:Region.wanted op (yielded ops a.tmps)=true)(k n:Nat){y:Operand}(z:op.op= .store k X y)(hx:a.eval X=pV g)
 (b:Array ab) (A:a.eval y=aG b) (o:b.size=n) (l:d.size=n) (q:iB k n=true) (h1:∀u∈b.toList,u.oneCell'=true)
 (r:∀j,af w j m (aq.set i (Y.arr g t b))->wpList prog ops Q rest (a.put op.dst undef) j):wpList prog ops Q (op::rest) a wr:=by
 refine zI h i x s k n z hx b.toList (by rw[mP];exact A) (by simp[o]) q (by simp[l]) (by rw[gC];exact h1) (λ j p=>r j ?_)
 have e:eF d.toList 0 b.toList=b.toList:=by
  have u:d.toList.length=b.toList.length:=by simp[o,l]
  have C:∀(b d f:List ab),d.length=b.length->eF (f++d) f.length b=f++b:=by
   intro b
   induction b with
   |nil=>intro d f h;have:d=[]:=kC h;subst this;simp[eF]
   |cons v b B=>
    intro d f h
    cases d with
    |nil=>simp at h
    |cons c d=>
     have:=B d (f++[v]) (by simpa using h)
     simp only[eF]
     rw[kE _ _ (aW _),qc,lM]
     simpa using this
  simpa using C b.toList d.toList [] u
 rw[e] at p
 exact p
end
section
variable{ops:Array Oper}{op:Oper}{a:Act}{L:List Y}
def YA(j:Region.wanted op (yielded ops a.tmps)=true)(i:Nat){b:Array ab}(f:L[i]?=some (Y.arr g t b))(c n:Nat)(h:op.op= .load c X)(hx:a.eval X=pV g)
 (e:ic c n=true) (d:b.size=n):YieldsIf prog ops (bc L) op (aG b) a:=by
 have:=Yr j i f c n h hx e b.toList (by rw[jR,cS (by simp[d])]) (by simp[d])
 rwa[mP] at this
end
def D9:fx 92 zeroCells92.toList:=λ w=>by
 rw[mP]
 go_simp
structure bQ(w:aa):Prop where
 a:cp w
 wide:WD.jn w
 ord:kM w
 aT:(Y.dP 0 gI).P w
def bQ.below{w c:aa}(h:bQ w)(b:BW w c):bQ c:=
 ⟨h.a.below b,h.wide.below b,h.ord.below b h.ord.lt,(Y.dP 0 gI).st w c (λ k d=>b.block k ((Y.dP 0 gI).lt w h.aT k d)) h.aT⟩
def uE{w:aa}{L:List ag}(h:(Y.row g 9 (aV L)).P w)(d:L.length<=maxLen):bg w (ad (some ⟨g,0,none⟩) L.length L.length) L:=by
 have b:ah w g 9 (aV L).toArray:=h;refine⟨some ⟨g,0,none⟩,L.length,rfl,d,λ i c=>⟨g,0,rfl,⟨b.lt,aW _⟩,?_⟩⟩;rw[eu,b.cell];simp[aV,c]
variable{a:Act}{B:Array Bool}{I:List Y}{m:List Nat}{i:Nat}{o:Oper}
section
section
variable{P:Program}{Q:Exit->Act->aa->Prop}{S:aa->Prop}{l:List Oper}
def zb(l:List Oper)(Q:Exit->Act->aa->Prop)(b:Array Bool)(a:Act)(w:aa):Prop:=Region.ready .any l.toArray b=[]/\Q .normal a w
def bX(P:Program)(l:List Oper)(Q:Exit->Act->aa->Prop)(S:aa->Prop)(f:Nat)(b:Array Bool)(a:Act)(w:aa):Prop:=
 Region.noSelect l.toArray=true->eX P .any l.toArray Q S l.length (zb l Q) f b a w
def Jy{ops:Array Oper}(h:g∈Region.ready .any ops B):g<ops.size:=by
 obtain⟨_,o,a,_⟩:=lr.1 h;grind
def eX.Qu{v:ab}(r:l.toArray[i]?=some o)(x:∀(j:Nat) (d:Oper) k b,l.toArray[j]?=some d->d.op≠ .select k b)
 (z:∀c a w,Q (.panic c) (a.put o.dst v) w->Q (.panic c) a w):
 ∀(f:Nat) (d:Array Bool) (a:Act) (w:aa),
  (∀j g,l.toArray[j]?=some g->j≠i->d.getD j true=false->(∀e∈g.after,Region.binds .any e=true->e.on≠i)->o.apart l.toArray g=true)->
  i∈Region.ready .any l.toArray d->YieldsIf P l.toArray S o v a->S w->
  eX P .any l.toArray Q S l.length (zb l Q) f (d.setIfInBounds i true) (a.put o.dst v) w->eX P .any l.toArray Q S l.length (zb l Q) (f+1) d a w:=by
 intro f
 induction f with
 |zero=>
  intro d a w _ t q n H
  refine⟨λ h=>(by grind),λ j m=>⟨by simpa using Jy m,?_⟩⟩
  by_cases c:j=i
  ·subst c;exact q.wpOp r n ⟨n,H⟩
  ·have p:=uB m c
   rw[H.1] at p;cases p
 |succ f G=>
  intro d a w u t q n H
  have L:=(lr.1 t).1
  refine⟨λ h=>(by grind),λ j m=>⟨by simpa using Jy m,?_⟩⟩
  by_cases c:j=i
  ·subst c;exact q.wpOp r n ⟨n,H⟩
  ·have p:=(H.2 j (uB m c)).2
   obtain⟨B,g,s,I⟩:=lr.1 m
   have F:∀e∈g.after,Region.binds .any e=true->e.on≠i:=by grind
   have y:=wpOp_putIf s (u j g s c B F) (λ k b=>x i o k b r) (λ k b=>x j g k b s) z q p
   have A:∀k ok,l.toArray[k]?=some ok->k≠i->(d.setIfInBounds j true).getD k true=false->
    (∀e∈ok.after,Region.binds .any e=true->e.on≠i)->o.apart l.toArray ok=true:=λ k ok C D K E=>by
    refine u k ok C D ?_ E
    by_cases J:j=k
    ·grind
    simp_all
   refine wpOp_mono (λ e k b=>⟨b.2.1,G (d.setIfInBounds j true) e k A (uB t (dY c)) b.1 b.2.1 ?_⟩) y
   rw[Array.setIfInBounds_comm _ _ c]
   grind
def bX.dt{oi:Oper}{v:ab}{w:aa}(k:Tmp)(d:l.toArray[i]?=some oi)(j:oi.dst=some k)
 (f:Region.free .any l.toArray B i=true) (m:(Region.ready .any l.toArray B).contains i=true)
 (e:∀c a w,Q (.panic c) (a.put oi.dst v) w->Q (.panic c) a w) (o:YieldsIf P l.toArray S oi v a) (c:S w)
 (h:bX P l Q S g (B.setIfInBounds i true) {a with tmps:=a.tmps.setIfInBounds k v} w):bX P l Q S (g+1) B a w:=λ b=>by
 have n:i∈Region.ready .any l.toArray B:=by simpa using m
 refine eX.Qu d (Region.noSelect_spec b) e g B a w (Region.free_spec d f) n o c ?_
 rw[j];exact h b
def bX.one{w:aa}(d:Region.ready .any l.toArray B=[i])(m:l.toArray[i]?=some o)
 (h:∀b:Act->aa->Prop,Shut (∀a w,S w->(S w->bX P l Q S g (B.setIfInBounds i true) a w)->b a w)->if Region.wanted o (yielded l.toArray a.tmps)=true then Oper.wp P o a w b Q else b (a.put o.dst undef) w):
 bX P l Q S (g+1) B a w:=λ e=>by
 have n:i∈Region.ready .any l.toArray B:=by rw[d];simp
 refine⟨by grind,λ j c=> ?_⟩
 rw[d,ot] at c
 subst c
 exact⟨by grind,yF m (λ b f=>h b (λ a w b k=>f a w ⟨b,k b e⟩))⟩
def bX.done{w:aa}(b:Region.ready .any l.toArray B=[])(h:Q .normal a w):bX P l Q S 0 B a w:=λ _=>⟨b,h⟩
def bX.eM{w:aa}(u:Region.ready .any l.toArray B=[i])(t:l.toArray[i]?=some o)(s:o.guard=none)(k:Tmp)(hd:o.dst=some k){c:Call}(p:o.op= .call c)(d:FuncId)(r:c.callee= .value (.func d))
 (q:∀e b,(callFunc d e).run P b= .ok (.enter d e) b) (f:List ab) (x:c.args.toList.mapM (fE a)=some f)
 (h:Calls P d f.toArray w λ e b=>∃v,e=ao v/\S b/\bX P l Q S g (B.setIfInBounds i true) {a with tmps:=a.tmps.setIfInBounds k v} b):bX P l Q S (g+1) B a w:=by
 refine bX.one u t (λ z j=> ?_)
 have y:Region.wanted o (yielded l.toArray a.tmps)=true:=by unfold Region.wanted;rw[s]
 rw[ax y]
 refine sU p r (vs:=f.toArray) ?_ q (h.mono ?_)
 ·apply kx
  simpa using HU _ _ x
 ·rintro e b ⟨v,rfl,m,n⟩
  refine⟨v,rfl,?_⟩
  refine j _ _ m (λ _=> ?_)
  rw[hd]
  exact n
end
def af.Jz{Q:Exit->Act->aa->Prop}{l:List Oper}{w b:aa}{id:Nat}(i:af b w m I)(S:aa->Prop)(f:prog.follows .mixedOrders=true)(d:Region.noSelect l.toArray=true)
 (h:∀c,af b c m I->bX prog l Q S l.length (Array.replicate l.length false) a c):(Code.region id l.toArray true).wp prog Q a w:=by
 refine wp_region_any f ?_
 have:=eX.any (Q:=Q) (g:=0) (λ j c k e=>(show wpAny prog .any l.toArray Q 0 j c k from e)) _ _ _ _ (h _ i.drew d)
 rw[ji]
 exact this
end
section
variable{l:List Oper}{Q:Exit->Act->aa->Prop}{S:aa->Prop}{n f:Nat}{B B':List Bool}{M M':List ab}{d:List Deferred}{w w0:aa}{m:List Nat}{aq Li:List Y}{o oj oi:Oper}{fn:FuncId}{vs:List ab}{c:Call}{i:Nat}{k:Tmp}{L:Array Bool}{a:Act}
def T1(i:Nat)(h:One prog l Q S n f L a w i oi)(g:Region.ready .any l.toArray L=[i]:=by decide+kernel)(b:i<n:=by decide)(e:l.toArray[i]?=some oi:=by exact rfl):az prog l Q S n (f+1) L a w:=az.iW g b e h
def T2(i j:Nat)(h:One prog l Q S n f L a w i oi)(k:One prog l Q S n f L a w j oj)(q:Region.ready .any l.toArray L=[i,j]:=by decide+kernel)(b:i<n:=by decide)(g:j<n:=by decide)(p:l.toArray[i]?=some oi:=by exact rfl)(e:l.toArray[j]?=some oj:=by exact rfl):az prog l Q S n (f+1) L a w:=az.two q b g p e h k
def tp{p:ab->Prop}(j:ai (af w0 w m aq))(g:bc Li w)(x:fR fn)(u:Calls prog fn vs.toArray w λ e q=>(∃v,e=ao v/\p v)/\BW w q)(h:∀v b,p v->ai (af w0 b m aq)->bc Li b->az prog l Q (bc Li) n f B'.toArray ⟨(M.set k v).toArray,d⟩ b)
 (A:Region.wanted o (yielded l.toArray M.toArray)=true:=by kernel_rfl) (hd:o.dst=some k:=by exact rfl) (t:o.op= .call c:=by exact rfl) (y:c.callee= .value (.func fn):=by exact rfl) (z:c.args.toList.mapM (fE ⟨M.toArray,d⟩)=some vs:=by exact rfl)
 (s:B.set i true=B':=by first|(simp only[au,ay];exact rfl)|(simp only[gF,jh,au,ay];exact rfl)|exact rfl):One prog l Q (bc Li) n f B.toArray ⟨M.toArray,d⟩ w i o:=
 One.eM A k hd t fn y x vs z (u.mono λ e b ⟨⟨v,q,r⟩,e⟩=>⟨v,q,g.st e,by subst s;simpa only[aH] using h v b r (Z (j.U.below e)) (g.st e)⟩)
def LH{v:ab}(j:ai (af w0 w m aq))(g:bc Li w)(u:fR fn)(t:Calls prog fn vs.toArray w λ e p=>e=ao v/\BW w p)(h:∀b,ai (af w0 b m aq)->bc Li b->az prog l Q (bc Li) n f B'.toArray ⟨M'.toArray,d⟩ b)
 (z:Region.wanted o (yielded l.toArray M.toArray)=true:=by kernel_rfl) (hd:o.dst=some k:=by exact rfl) (s:o.op= .call c:=by exact rfl) (x:c.callee= .value (.func fn):=by exact rfl) (y:c.args.toList.mapM (fE ⟨M.toArray,d⟩)=some vs:=by exact rfl)
 (q:B.set i true=B':=by first|(simp only[au,ay];exact rfl)|(simp only[gF,jh,au,ay];exact rfl)|exact rfl) (r:M.set k v=M':=by first|(simp only[au,ay,bC,bU,dc,cO];exact rfl)|exact rfl):One prog l Q (bc Li) n f B.toArray ⟨M.toArray,d⟩ w i o:=
 One.eM z k hd s fn x u vs y (t.mono λ e b ⟨p,e⟩=>⟨v,p,g.st e,by subst q;subst r;simpa only[aH] using h b (Z (j.U.below e)) (g.st e)⟩)
def LP{b:List ab}(j:ai (af w0 w m aq))(p:bc Li w)(s:fx t b)(h:∀g e,w0.heap.size<=g->ai (af w0 e m (Y.row g t b::aq))->bc Li e->az prog l Q (bc Li) n f B'.toArray ⟨(M.set k (pV g)).toArray,d⟩ e)
 (u:Region.wanted o (yielded l.toArray M.toArray)=true:=by kernel_rfl) (hd:o.dst=some k:=by exact rfl) (r:o.op= .alloc t:=by exact rfl)
 (q:B.set i true=B':=by first|(simp only[au,ay];exact rfl)|(simp only[gF,jh,au,ay];exact rfl)|exact rfl):One prog l Q (bc Li) n f B.toArray ⟨M.toArray,d⟩ w i o:=by
 intro v g
 rw[ax u]
 unfold Oper.wp execOp
 simp only[r,cL,s w,cZ,dw]
 have e:=p.st (bJ w (.cells b.toArray t))
 refine g _ _ e (λ _=> ?_)
 rw[hd]
 subst q
 simp only[Act.put,aH]
 exact h _ _ j.U.size (Z (j.U.alloc b t)) e
end
def P2:fR 44:=hO func44 V V
def PY:fR 35:=hO func35 V V
def PZ:fR 36:=hO func36 V V
def P0:fR 37:=hO func37 V V
def P1:fR 43:=hO func43 V V
def aci:fR 119:=hO func119 V V
def ach:fR 103:=hO func103 V V
def KY.val(k:KY):ab:=aG #[ae k.a,ae k.pre,ae k.pub]
def MV(f p m:ag):(f++(p++m)).data.toList=(([f,p,m]:List ag).map (·.data.toList)).flatten:=by simp[vg]
def MU(p m:ag):(p++m).data.toList=(([p,m]:List ag).map (·.data.toList)).flatten:=by simp[vg]
def MT(m:ag):m.data.toList=(([m]:List ag).map (·.data.toList)).flatten:=by simp
def YO{w:aa}(a:bQ w)(f p m:ag)(h:(Y.row g 9 [ae f,ae p,ae m]).P w)(b:f.size+(p.size+m.size)<=1000000):CB 33 #[ad (some ⟨g,0,none⟩) 3 3] w (ae (fQ (f++(p++m)))):=
 DG a.wide (uE (L:=[f,p,m]) h (by simp[maxLen])) zS zS _ (MV f p m) (by rw[gU,gU];exact b)
def YN{w:aa}(a:bQ w)(p m:ag)(h:(Y.row g 9 [ae p,ae m]).P w)(b:p.size+m.size<=1000000):CB 33 #[ad (some ⟨g,0,none⟩) 2 2] w (ae (fQ (p++m))):=
 DG a.wide (uE (L:=[p,m]) h (by simp[maxLen])) zS zS _ (MU p m) (by rw[gU];exact b)
def YM{w:aa}(a:bQ w)(m:ag)(h:(Y.row g 9 [ae m]).P w)(b:m.size<=1000000):CB 33 #[ad (some ⟨g,0,none⟩) 1 1] w (ae (fQ m)):=
 DG a.wide (uE (L:=[m]) h (by simp[maxLen])) zS zS _ (MT m) b
def H5{w:aa}(e:bQ w)(f p m:ag)(h:f.size+(p.size+m.size)<=1000000):CB 44 #[ae f,ae p,ae m] w (ae (oV f p m)):=by
 have a:=Z (af.start w []);have b:=Z e;have d:=Z h;have c:ai (oV f p m=ig (fQ (f++(p++m)))):=Z rfl
 go_enter func44,ntmps44
 go_wp2_with(first|((with_reducible show cH);first|(refine Mk a.U rfl 10 rfl (some 3) 9 [_,_,_] (by go_simp;first|rfl|exact⟨rfl,rfl⟩) ?_;intro k n l g;replace a:=Z g;simp only[bk]))|go_at_call 33;refine KC a (YO (b.U.below a.U.ak) _ _ _ (a.U.get (i:=0) rfl) d.U) λ j a=>?_|go_at_call 42;refine KC a (C1 (b.U.below a.U.ak).ord _) λ j a=>?_)
 go_ret
 exact⟨by rw[c.U];rfl,a.U.ak⟩
def HM(d m a:ag)(w:aa):CB 49 #[aG #[ae d,ae m,ae a]] w (aF (decide (a.size=64))):=by
 have c:=Z (af.start w []);have e1:((a.size:Int)==64)=decide (a.size=64):=by rw[bI];simp;omega
 generalize decide (a.size=64)=b at*
 go_enter func49,ntmps49
 go_wp2_with(first|refine Kl c ?_|refine KB c 106 1 _ λ e g f c=>?_)
 go_ret
 exact⟨rfl,c.U.ak⟩
def uL{w:aa}(f:bQ w)(i m b:ag)(h:b.size=64):CB 50 #[aG #[ae i,ae m,ae b]] w (aF (qX (b.extract 32 64))):=by
 have a:=Z (af.start w []);have e:=λ j (g:BW w j)=>XF (f.below g).ord (b.extract 32 64);have c:=Z e;have d:ai (b.extract 32 b.size=b.extract 32 64):=Z (by rw[h])
 go_enter func50,ntmps50
 go_wp2_with(first|refine Kl a ?_|refine KB a 106 1 _ λ g l j a=>?_|go_at_call 118;(try rw[d.U]);refine KC a (c.U _ a.U.ak) λ k a=>?_)
 go_ret
 exact⟨rfl,a.U.ak⟩
def Wu(k:KY)(w:aa):CB 16 #[aG #[ae k.a,ae k.pre,ae k.pub]] w (ae k.pub):=by
 have b:=Z (af.start w []);obtain⟨a,p,u⟩:=k;simp only
 go_enter func16,ntmps16
 go_wp2_with(first|refine Kl b ?_|refine KB b 23 1 _ λ c e d b=>?_)
 go_ret
 exact⟨rfl,b.U.ak⟩
section
open PT
def DX(s:ag):(fQ s).size=64:=rfl
def rX(n:Nat):(FM.enc n).size=32:=by simp[FM.enc,ByteArray.size,FM.kU]
def Gp(q:Q4):(jv q).size=32:=rX _
def XM(s:ag):(ig s).size=32:=rX _
def Yf(a b c:ag):(qW a b c).size=32:=rX _
def XK(s:ag):(mE s).size=min 32 s.size:=by
 show(wq (s.data.toList.take 32)).toArray.size=_;rw[ji];unfold wq;rw[hH,hH,ee,hz];rfl
structure KY.Ok(k:KY):Prop where
 a:k.a.size=32
 pre:k.pre.size=32
 pub:k.pub.size=32
def Ct(s:ag):(fp s).Ok:=by
 refine⟨?_,?_,Gp _⟩
 ·show(mE _).size=32;rw[XK,ij,DX];rfl
 ·show((fQ s).extract 32 64).size=32;rw[ij,DX];rfl
def X9{w:aa}(k:bQ w)(s:ag)(I:s.size=32):CB 5 #[ae s] w (aJ #[(fp s).val,O 0]):=by
 have a:=Z (af.start w []);have C:=Z k;have J:(s.size:Int)=32:=by omega
 have l:fp s=⟨mE ((fQ s).extract 0 32),(fQ s).extract 32 64,jv (iT lZ (mE ((fQ s).extract 0 32)))⟩:=rfl;have j:=DX s;have r:=λ(f:aa) (g:Nat) (d:BW w f) (h:(Y.row g 9 [ae s]).P f)=>YM (k.below d) s h W;generalize fQ s=S at*;have K:(S.size:Int)=64:=by omega
 have x:(S.extract 0 32).size=32:=by rw[ij];omega
 have q:=λ f=>XD (S.extract 0 32) x f;generalize mE (S.extract 0 32)=A at*;have o:=Z q;have B:=Z l;have p:=Z r;have D:ai (S.extract 32 S.size=S.extract 32 64):=Z (by rw[j]);rw[l];unfold KY.val;simp only
 go_enter func5,ntmps5
 go_upto_region 5 with(first
  |(refine KA a 23 2 Lx λ g m H a=>?_)
  |((with_reducible show cH);(refine Mk a.U rfl 11 rfl (some 1) 9 [_] (by go_simp;(exact⟨rfl,rfl⟩)) ?_;intro E m G b;replace a:=Z b;simp only[bk]))
  |(go_at_call 33;refine KC a (p.U _ _ a.U.ak (a.U.get (i:=0) rfl)) λ y a=>?_)
  |(go_at_call 34;refine KC a (o.U _) λ y a=>?_))
 refine af.region a.U (n:=8) (S:=bc [Y.row g 23 [ae ⟨#[]⟩,ae ⟨#[]⟩,ae ⟨#[]⟩]]) V V (λ z j=>(aP (j.in (by exact mQ mZ)) bf)) (λ z b c=> ?_);replace a:=Z b;refine V2 0 16 c ?_;refine V2 1 17 c ?_;refine W2 2 18 (v:=ae (S.extract 32 64)) rfl rfl (Or.inl ⟨by kernel_rfl,λ f F=>by go_simp;(done)⟩) c ?_;refine V2 4 20 c ?_;refine az.eM (i:=3) V zD rfl rfl 19 rfl rfl 35 rfl PY _ rfl ?_;refine(CK _).mono ?_;rintro e h ⟨⟨L,rfl,t⟩,d⟩;have b:=a.U.below d;replace a:=Z b;refine⟨_,rfl,(aP (a.U.in (by exact mQ mZ)) bf),?_⟩;simp only[aH,au,ay];refine az.eM (i:=5) V zD rfl rfl 21 rfl rfl 36 rfl PZ _ rfl ?_;refine(xJ t _ _).mono ?_;rintro e h ⟨⟨M,rfl,u⟩,d⟩;have b:=a.U.below d;replace a:=Z b;refine⟨_,rfl,(aP (a.U.in (by exact mQ mZ)) bf),?_⟩;simp only[aH,au,ay];refine az.eM (i:=6) V zD rfl rfl 22 rfl rfl 37 rfl P0 _ rfl ?_;refine KC a (CL u _) λ h a=>?_;refine⟨_,rfl,(aP (a.U.in (by exact mQ mZ)) bf),?_⟩;simp only[aH,au,ay];have c:bc [Y.row g 23 [ae ⟨#[]⟩,ae ⟨#[]⟩,ae ⟨#[]⟩]] _:=(aP (a.U.in (by exact mQ mZ)) bf);refine V2 7 23 c ?_;refine az.tail V ?_;simp only[bU,bC]
 go_wp2_with((refine K7 a 1 23 3 λ m a=>?_))
 refine cz a.U 1 rfl 23 3 rfl rfl rfl V rfl rfl ?_;exact⟨rfl,a.U.ak⟩
def Ya{w:aa}(o:bQ w)(k:KY)(u:k.Ok)(m:ag)(a1:m.size<=900000):CB 7 #[aG #[ae k.a,ae k.pre,ae k.pub],ae m] w (ae (k.sign m)):=by
 have b:=Z (af.start w []);have B:=Z o;have r:k.sign m=k.first m++qW (oV (k.first m) k.pub m) k.a (ig (fQ (k.pre++m))):=by
  unfold KY.sign;rw[aj];intro h;have:=u.pub;rw[h] at this;exact absurd this zD
 have t:k.first m=jv (iT lZ (ig (fQ (k.pre++m)))):=rfl;obtain⟨a,j,f⟩:=k;obtain⟨a6,a7,p⟩:=u;simp only at*;have v:=λ(c:aa) (g:Nat) (d:BW w c) (h:(Y.row g 9 [ae j,ae m]).P c)=>YN (o.below d) j m h W;obtain⟨l,E⟩:∃l,fQ (j++m)=l:=⟨_,rfl⟩;rw[E] at v r t;obtain⟨F,hF⟩:∃F,jv (iT lZ (ig l))=F:=⟨_,rfl⟩;have R:F.size=32:=by rw[<-hF];exact Gp _
 rw[t,hF] at r;rw[r];have H:=λ(c:aa) (d:BW w c)=>H5 (o.below d) F f m W;have a2:(oV F f m).size=32:=XM _;generalize oV F f m=X at*;have G:=λ(c:aa) (d:BW w c)=>XE (o.below d).ord X a (ig l);have a5:(qW X a (ig l)).size=32:=Yf _ _ _;generalize qW X a (ig l)=P at*;have a3:(f.toList==(⟨#[]⟩:ag).toList)=false:=by rw[qZ];apply bu;intro h;rw[h] at p;exact absurd p zD
 have a4:f.toList.isEmpty=false:=by rw[gn];apply bu;intro h;rw[h] at p;exact absurd p zD
 have a8:F.size+P.size<=9223372036854775807:=by omega
 have A:=Z v;have z:=Z H;have y:=Z G;have x:=Z hF
 go_enter func7,ntmps7
 go_upto_region 5 with(first
  |(refine KL b 0 9 ?_)
  |(refine KB b 23 2 ([ae a,ae j,ae f]) λ s M a0 b=>?_)
  |((with_reducible show cH);(refine Mk b.U rfl 13 rfl (some 2) 9 [_,_] (by go_simp;(exact⟨rfl,rfl⟩)) ?_;intro Q M T g;replace b:=Z g;simp only[bk]))
  |(go_at_call 33;refine KC b (A.U _ _ b.U.ak (b.U.get (i:=0) rfl)) λ L b=>?_)
  |(go_at_call 42;refine KC b (C1 (B.U.below b.U.ak).ord _) λ L b=>?_)
  |(go_at_call 35;refine(CK _).mono ?_;rintro e q ⟨⟨a9,rfl,I⟩,d⟩;have g:=b.U.below d;replace b:=Z g;have C:=Z I)
  |(go_at_call 36;refine(xJ C.U _ _).mono ?_;rintro e q ⟨⟨b0,rfl,J⟩,d⟩;have g:=b.U.below d;replace b:=Z g;have D:=Z J)
  |(go_at_call 37;refine KC b (CL D.U _) λ q b=>?_;rw[x.U]))
 refine af.region b.U (n:=11) (S:=bc [Y.row s 23 [ae a,ae j,ae f]]) V V (λ N K=>(aP (K.in (by exact mQ mZ)) bf)) (λ N g c=> ?_);replace b:=Z g;refine V2 0 20 c ?_;refine V2 1 21 c ?_;refine V2 2 22 c ?_;refine L2 3 23 0 9 c ?_;refine V2 4 24 c ?_;refine V2 6 26 c ?_;refine L2 7 27 0 9 c ?_;refine V2 8 28 c ?_;refine az.eM (i:=5) V zD rfl rfl 25 rfl rfl 44 rfl P2 _ rfl ?_;refine KC b (z.U _ b.U.ak) λ q b=>?_;refine⟨_,rfl,(aP (b.U.in (by exact mQ mZ)) bf),?_⟩;simp only[aH,au,ay];refine az.eM (i:=9) V zD rfl rfl 29 rfl rfl 43 rfl P1 _ rfl ?_;refine KC b (y.U _ b.U.ak) λ q b=>?_;refine⟨_,rfl,(aP (b.U.in (by exact mQ mZ)) bf),?_⟩;simp only[aH,au,ay];have c:bc [Y.row s 23 [ae a,ae j,ae f]] _:=(aP (b.U.in (by exact mQ mZ)) bf);refine V2 10 30 c ?_;refine az.tail V ?_;simp only[bU,bC]
 go_wp2
 go_ret
 exact⟨rfl,b.U.ak⟩
end
section
open PT
def QB{w:aa}(I:bQ w)(f m d:ag)(a4:d.size=64)(a3:f.size+m.size<=900000):CB 51 #[aG #[ae f,ae m,ae d]] w (aF (qu f m d)):=by
 have b:=Z (af.start w []);have hd:=λ l=>IQ f l;unfold kA at hd;have p:qu f m d=match gu f with|none=>false|some a=>decide (jv (gY (iT lZ (d.extract 32 64)) (iT (uk a) (oV (d.extract 0 32) f m)))=d.extract 0 32):=rfl
 have h32:(d.extract 0 32).size=32:=by rw[ij];omega
 have L:=λ(l:aa) (j:BW w l)=>H5 (I.below j) (d.extract 0 32) f m W;cases t:gu f with
 |none=>
  rw[t] at hd p;have c:qu f m d=false:=p;rw[c];have HD:=Z hd
  go_enter func51,ntmps51
  go_upto_region 1 with(refine KB b 106 1 _ λ F h J b=>?_)
  go_wp2_with(first|refine Kl b ?_|refine KA b _ 3 D9 λ G h K b=>?_|refine zH b.U 0 rfl rfl 92 65 rfl rfl n rfl o ob V r λ h g=>?_;simp only[au] at g;replace b:=Z g|go_at_call 101;(refine(HD.U _).mono ?_);rintro e X ⟨⟨T,rfl,k⟩,j⟩;obtain⟨n,rfl,o,r⟩:=k.row;have s:=Z k;replace b:=Z (b.U.below j))
  go_ret
  exact⟨rfl,b.U.ak⟩
 |some q=>
  rw[t] at hd p;have HD:=Z hd;have y:=Z p;have z:=Z L
  go_enter func51,ntmps51
  go_upto_region 1 with(refine KB b 106 1 _ λ F h J b=>?_)
  go_upto_region 4 with(first|refine Kl b ?_|refine KA b _ 3 D9 λ G h K b=>?_|refine zH b.U 0 rfl rfl 92 65 rfl rfl n rfl o ob V r λ h g=>?_;simp only[au] at g;replace b:=Z g|go_at_call 101;(refine(HD.U _).mono ?_);rintro e X ⟨⟨T,rfl,k⟩,j⟩;obtain⟨n,rfl,o,r⟩:=k.row;have s:=Z k;replace b:=Z (b.U.below j))
  refine RG b 7 [1] λ a0 b c=>?_;refine VV [0,2001] c ?_;refine W2 2 18 (v:=ae (d.extract 0 32)) rfl rfl (Or.inl ⟨by kernel_rfl,λ l H=>by go_simp⟩) c ?_;refine VV [3,2004] c ?_;refine W2 5 21 (v:=ae (d.extract 32 64)) rfl rfl (Or.inl ⟨by kernel_rfl,λ l H=>by go_simp;(done)⟩) c ?_;refine VV [6] c ?_;refine WT ?_
  go_wp2
  refine RG b 14 [1,0] λ a0 b c=>?_;refine VV [1] c ?_;refine W2 3 25 (v:=aG n) rfl rfl (YA V 1 rfl 92 65 rfl rfl V o) c ?_;refine VV [5,6,2007,8,2009] c ?_;repeat' first
   |refine T2 0 13 ?_ ?_|refine T2 2 13 ?_ ?_|refine T2 4 13 ?_ ?_|refine T2 10 13 ?_ ?_|refine T2 11 13 ?_ ?_|refine T2 12 13 ?_ ?_
   |refine T1 2 ?_|refine T1 4 ?_|refine T1 10 ?_|refine T1 11 ?_|refine T1 12 ?_|refine T1 13 ?_|refine T1 0 ?_
   |refine tp b c (en 35) (CK _) λ a5 i N b c=>?_;have A:=Z N
   |refine tp b c (en 36) (xJ A.U _ _) λ a7 i Q b c=>?_;have C:=Z Q
   |refine tp b c (en 119) (Wq s.U _) λ a8 i R b c=>?_;have D:=Z R.p
   |refine LH b c (en 44) (z.U _ b.U.ak) λ i b c=>?_
   |refine tp b c (en 36) (xJ D.U _ _) λ a6 i P b c=>?_;have B:=Z P
   |refine tp b c (en 103) (CJ C.U B.U _) λ a9 i x b c=>?_;obtain⟨S,rfl,u,M⟩:=x.p.row;have E:=Z x.p
   |refine LP b c D9 λ a1 h a2 b c=>?_
  all_goals
   refine WT ?_
   go_wp2_with(first|(refine zH b.U 0 rfl rfl 92 65 rfl rfl S rfl u ob V M λ h g=>?_;simp only[au] at g;replace b:=Z g)|(refine LI b.U 0 rfl rfl 92 65 rfl rfl V u ?_)|(go_at_call 37;refine KC b (CL E.U _) λ i b=>?_))
   go_ret
   exact⟨by rw[y.U,<-qZ];rfl,b.U.ak⟩
end
section
open PT
def SU(f g h:ab)(w:aa):(Instr.index 107 (aG #[f,g,h]) (O 0)).run prog w= .ok f w:=by kernel_rfl
def SV(f g h:ab)(w:aa):(Instr.index 107 (aG #[f,g,h]) (O 1)).run prog w= .ok g w:=by kernel_rfl
def SW(f g h:ab)(w:aa):(Instr.index 107 (aG #[f,g,h]) (O 2)).run prog w= .ok h w:=by kernel_rfl
def aaw{w:aa}(A:bQ w)(d m b:ag)(B:d.size+m.size<=900000):CB 15 #[ae d,ae m,ae b] w (aF (mK d m b)):=by
 have a:=Z (af.start w []);have v:=Z A
 go_enter func15,ntmps15
 go_upto_region 2 with(first|refine KS a λ D a=>?_|refine KA a _ 7 aaS λ E D F a=>?_)
 go_wp2_with(refine KT a 3 ?_)
 go_loopw [21] (λ c wr=>∃k:Nat,k<=3/\c=O (k:Int)/\af w wr [] []/\(0<k->b.size=64)/\(1<k->qX (b.extract 32 64)=true)/\(2<k->qu d m b=true)) (λ c _=>3-(intOf c).toNat)
 case atStart=>exact⟨0,by omega,rfl,a.U.tail,by omega,by omega,by omega⟩
 case round=>
  obtain⟨k,G,rfl,C,r,t,x⟩:=hrel;have a:=Z C;have j:mK d m b=(decide (b.size=64)&&(qX (b.extract 32 64)&&qu d m b)):=rfl;rcases k with _|_|_|_|k
  ·have y:=λ f g h e=>SU f g h e;by_cases l:b.size=64
   ·have c:=λ e=>HM d m b e;rw[aS l] at c;have i:=Z c;have p:=Z l
    go_wp2_with(go_at_call 49;refine KC a (i.U _) λ q a=>?_)
    exact⟨⟨1,by omega,rfl,a.U,λ _=>(by first|exact p.U|trivial),by omega,by omega⟩,by simp[intOf]⟩
   ·have c:=λ e=>HM d m b e;rw[bu l] at c j;have i:=Z c;have n:ai (mK d m b=false):=Z (by rw[j];simp)
    go_wp2_with(go_at_call 49;refine KC a (i.U _) λ q a=>?_)
    go_ret
    exact⟨by rw[n.U];rfl,a.U.ak⟩
  ·have l:=r W;have y:=λ f g h e=>SV f g h e;have c:=λ(e:aa) (u:BW w e)=>uL (v.U.below u) d m b l;have p:=Z l;rw[aS l] at j;cases o:qX (b.extract 32 64) with
   |true=>
    rw[o] at c;have i:=Z c;have s:=Z o
    go_wp2_with(go_at_call 50;refine KC a (i.U _ a.U.ak) λ q a=>?_)
    exact⟨⟨2,by omega,rfl,a.U,λ _=>(by first|exact p.U|trivial),λ _=>(by first|exact s.U|trivial),by omega⟩,by simp[intOf]⟩
   |false=>
    rw[o] at c j;have i:=Z c;have n:ai (mK d m b=false):=Z (by rw[j];simp)
    go_wp2_with(go_at_call 50;refine KC a (i.U _ a.U.ak) λ q a=>?_)
    go_ret
    exact⟨by rw[n.U];rfl,a.U.ak⟩
  ·have l:=r W;have z:=t W;have y:=λ f g h e=>SW f g h e;have c:=λ(e:aa) (u:BW w e)=>QB (v.U.below u) d m b l B;have p:=Z l;have s:=Z z;rw[aS l,z] at j;cases o:qu d m b with
   |true=>
    rw[o] at c;have i:=Z c;have e:=Z o
    go_wp2_with(go_at_call 51;refine KC a (i.U _ a.U.ak) λ q a=>?_)
    exact⟨⟨3,by omega,rfl,a.U,λ _=>(by first|exact p.U|trivial),λ _=>(by first|exact s.U|trivial),λ _=>(by first|exact e.U|trivial)⟩,by simp[intOf]⟩
   |false=>
    rw[o] at c j;have i:=Z c;have n:ai (mK d m b=false):=Z (by rw[j];simp)
    go_wp2_with(go_at_call 51;refine KC a (i.U _ a.U.ak) λ q a=>?_)
    go_ret
    exact⟨by rw[n.U];rfl,a.U.ak⟩
  ·rw[r W,t W,x W] at j;have n:ai (mK d m b=true):=Z j;clear r t x j
   go_wp2
   go_ret
   exact⟨by rw[n.U];rfl,a.U.ak⟩
  ·omega
end
def HD.KO(h:HD):h.text.size=19+h.aE.size:=by
 unfold HD.text;simp only[gU];have:∀n,(fu n).size=8:=λ n=>rfl;rw[this,this];show 3+8+8+h.aE.size=_;omega
def BU{w:aa}(j:bQ w)(c:ag)(h:HD)(r:c.size<=800000):CB 143 #[ae c,h.val] w (aF (h.check c)):=by
 have a:=Z (af.start w []);have e:h.check c=(h.right&&mK c h.text h.a):=rfl;have f:=λ b=>tV h b;cases d:h.right
 focus
  rw[d] at f e;have k:=Z f;have g:ai (h.check c=false):=Z (by rw[e];rfl);clear f e d j
 rotate_left;focus
  rw[d] at f e;have q:h.aE.size=32:=(ml d).2.2.2.1;have l:h.Ok:=⟨by have:=(ml d).2.1;omega,by have:=(ml d).2.2.1;omega⟩;have m:=λ b=>Hj h l W b;have n:=λ(b:aa) (o:BW w b)=>aaw (j.below o) c h.text h.a (by rw[HD.KO];omega);have k:=Z f;have p:=Z m;have o:=Z n;have g:ai (h.check c=mK c h.text h.a):=Z (by rw[e];simp);generalize mK c h.text h.a=b at*;generalize h.text=s at*;clear f e d m j n q l
 rotate_left;all_goals
  go_enter func143,ntmps143
  go_upto_region 1 with((refine KB a 59 3 (h.cells) λ e l f a=>?_))
  refine RG a 10 [0] λ m a b=>?_;refine WR 0 4 b ?_;refine KW a b 1 (en 153) (k.U _) λ d a b=>?_
 ·refine VV [2,1003,1004,1005,1006,1007,1008,9] b ?_;refine WT ?_
  go_wp2
  go_ret
  exact⟨by rw[g.U];rfl,a.U.ak⟩
 ·refine VV [2,3] b ?_;refine WR 4 4 b ?_;refine VV [6,2007] b ?_;refine az.wm (i:=5) V zD rfl V 10 rfl rfl 213 rfl (en 213) _ rfl ?_;refine KC a (p.U _) λ d a=>?_;refine⟨_,rfl,bo a [0],?_⟩;simp only[aH,au,ay];refine az.wm (i:=8) V zD rfl V 13 rfl rfl 15 rfl (en 15) _ rfl ?_;refine KC a (o.U _ a.U.ak) λ d a=>?_;refine⟨_,rfl,bo a [0],?_⟩;simp only[aH,au,ay];have b:=bo a [0];refine VV [9] b ?_;refine WT ?_
  go_wp2
  go_ret
  exact⟨by rw[g.U];rfl,a.U.ak⟩
def Rb{w:aa}(r:bQ w)(k:KY)(s:k.Ok)(size b:Nat)(v:size<18446744073709551616)(y:b<18446744073709551616)(aE:ag)(F:aE.size=32):Calls prog 297 #[aG #[ae k.a,ae k.pre,ae k.pub],U (size:Int),U (b:Int),ae aE] w λ e a=>
 (match kj k size b aE with|some h=>e=ao (aJ #[h.val,O 0])|none=>e=ao (aJ #[ec.val,O 1]))/\BW w a:=by
 have a:=Z (af.start w [])
 have x:=λ c=>Hj ⟨size,b,aE,⟨#[]⟩⟩ ⟨v,y⟩ (by show aE.size<=_;omega) c
 have G:(HD.text ⟨size,b,aE,⟨#[]⟩⟩).size=51:=by rw[HD.KO];show 19+aE.size=51;omega
 have e:kj k size b aE=if(⟨size,b,aE,k.sign (HD.text ⟨size,b,aE,⟨#[]⟩⟩)⟩:HD).right=true then some ⟨size,b,aE,k.sign (HD.text ⟨size,b,aE,⟨#[]⟩⟩)⟩ else none:=rfl
 generalize HD.text ⟨size,b,aE,⟨#[]⟩⟩=m at*
 have u:=λ(c:aa) (d:BW w c)=>Ya (r.below d) k s m W
 generalize k.sign m=f at*
 have h:=λ c=>tV ⟨size,b,aE,f⟩ c
 have q:=Z x;have o:=Z u
 obtain⟨i,j,l⟩:=k
 simp only at*
 cases t:(⟨size,b,aE,f⟩:HD).right
 all_goals
  rw[t] at h e
  first|have g:kj ⟨i,j,l⟩ size b aE=none:=e|have g:kj ⟨i,j,l⟩ size b aE=some ⟨size,b,aE,f⟩:=e
  rw[g]
  have p:=Z h
  go_enter func297,ntmps297
  go_upto_region 2 with(first|refine KS a λ d a=>?_|refine KA a _ 8 hy λ B d E a=>?_|refine KA a _ 10 hy λ z d C a=>?_|refine KB a 23 4 _ λ A d D a=>?_)
  refine RG a 4 [2,0] λ H a c=>?_
  refine WR 0 3 c ?_
  refine WR 1 4 c ?_
  refine KW a c 2 (en 213) (q.U _) λ n a c=>?_
  refine KW a c 3 (en 7) (o.U _ a.U.ak) λ n a c=>?_
  refine WT ?_
  go_wp2_with(first|refine KT a 4 ?_|refine KS a λ d a=>?_|go_at_call 153;refine KC a (p.U _) λ n a=>?_)
  refine cz a.U 1 rfl 59 4 rfl rfl rfl V rfl rfl ?_
  exact⟨rfl,a.U.ak⟩
