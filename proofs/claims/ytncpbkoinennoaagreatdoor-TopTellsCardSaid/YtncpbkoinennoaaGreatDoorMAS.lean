import Derived.Laws.EntriesVeiled
import Derived.Lib.BitFns
import Derived.Lib.Slices
import Derived.Lib.Small
import Derived.Lib.Walk
import Derived.LoopIn
import Derived.LoopNIn
import Derived.OwnWalkIn
import Derived.RangeFuncBox
import Derived.RangeFuncLeaves
import Derived.RangeFuncNested
import Derived.RangeFuncWrites
import Derived.Shelf.Abstract
import Derived.TacticsInMore
import Derived.Test.YtncpbkoinennoaaGreatDoorMAR
set_option linter.all false
set_option maxRecDepth 100000
set_option maxHeartbeats 0
namespace Go.Proofs.YtncpbkoinennoaaGreatDoor
open Go.RowKit Proofs.Tryz
attribute [local irreducible] wpList Calls
def uR(s:ag):ag:=⟨(ShaM.sum s.data.toList).toArray⟩
def tZ(d:ag):ag:=⟨(HG d.data.toList).toArray⟩
def jA(l r:ag):ag:=⟨(Io l.data.toList r.data.toList).toArray⟩
def adq(s:ag):(uR s).size=32:=by show(ShaM.sum s.data.toList).toArray.size=32;rw[ji];exact ShaM.yp _
def acW(s:ag):(tZ s).size=32:=by show(HG s.data.toList).toArray.size=32;rw[ji];exact ShaM.yp _
def Cw(l r:ag):(jA l r).size=32:=by show(Io l.data.toList r.data.toList).toArray.size=32;rw[ji];exact ShaM.yp _
def Kp:cX false (vl ShaM.mN) (List.replicate 64 0) 0=zeroCells358:=by rfl
def Dc(w:aa):Calls prog 294 #[] w (EH w []):=by
 have b:∀v∈zeroCells358.toList,v.oneCell'=true:=by rw[<-Kp];exact CS
 have f:(prog.info? 358).map (·.size)=some zeroCells358.size:=B4;have a:ah (w.alloc (.cells zeroCells358 358)) w.heap.size 358 zeroCells358:=ah.new _ _ _;have g:=dJ (P:=prog) a zeroCells358 rfl b;have c:ai (BW w ((w.alloc (.cells zeroCells358 358)).setRow w.heap.size zeroCells358)):=Z (bY (bJ w _) (aW _) _);have d:ai (je (aG zeroCells358) []):=Z ⟨false,ShaM.mN,List.replicate 64 0,by rw[<-Kp];rfl,ShaM.aI.start⟩;have e:=Z (a.setRow zeroCells358);clear a b
 go_enter func294,ntmps294
 go_wp2
 exact cq (v:= .agg zeroCells358) (fL results294 _ _ w.heap.size 358 zeroCells358 (0,0) _ rfl e.U tx rfl f) rfl ⟨⟨_,rfl,d.U⟩,c.U⟩
def YP{w:aa}(f:cp w)(s:ag)(k:s.size<=80000000):CB 315 #[ae s] w (ae (uR s)):=by
 go_enter func315,ntmps315
 go_wp2_with fail
 refine(Dc w).mono ?_;rintro e n ⟨⟨l,rfl,d⟩,c⟩;obtain⟨i,rfl,-⟩:=d.form
 go_wp2_with fail
 refine(nZ (f.below c) d s (by simp;omega)).mono ?_;rintro e o ⟨⟨m,rfl,a⟩,g⟩;obtain⟨j,rfl,-⟩:=a.form;rw[fV] at a;have b:=c.trans (g.mono c.size)
 go_wp2_with fail
 refine(Bo (f.below b) a (by simp;omega)).mono ?_;rintro e p ⟨rfl,h⟩
 go_wp2
 go_ret
 exact⟨rfl,b.trans (h.mono b.size)⟩
def Uf{w:aa}(a:cp w)(s:ag)(p:s.size<=80000000):CB 314 #[ae s] w (ae (tZ s)):=by
 go_enter func314,ntmps314
 go_wp2_with fail
 refine(Dc w).mono ?_;rintro e u ⟨⟨q,rfl,f⟩,d⟩;obtain⟨n,rfl,-⟩:=f.form
 go_wp2_with fail
 refine(nZ (a.below d) f ⟨#[0]⟩ (by show 0+1<=_;omega)).mono ?_;rintro e v ⟨⟨r,rfl,g⟩,k⟩;obtain⟨o,rfl,-⟩:=g.form;have b:=d.trans (k.mono d.size)
 go_wp2_with fail
 refine(nZ (a.below b) g s (by show 0+1+s.size<=_;omega)).mono ?_;rintro e x ⟨⟨t,rfl,h⟩,l⟩;obtain⟨i,rfl,-⟩:=h.form;have j:je (aG i) (0::s.data.toList):=h;have c:=b.trans (l.mono b.size)
 go_wp2_with fail
 refine(Bo (a.below c) j (by simp;omega)).mono ?_;rintro e y ⟨rfl,m⟩
 go_wp2
 go_ret
 exact⟨rfl,c.trans (m.mono c.size)⟩
def xu{w:aa}(a:cp w)(l r:ag)(v:l.size<=40000000)(x:r.size<=40000000):CB 267 #[ae l,ae r] w (ae (jA l r)):=by
 go_enter func267,ntmps267
 go_wp2_with fail
 refine(Dc w).mono ?_;rintro e C ⟨⟨y,rfl,g⟩,f⟩;obtain⟨s,rfl,-⟩:=g.form
 go_wp2_with fail
 refine(nZ (a.below f) g ⟨#[1]⟩ (by show 0+1<=_;omega)).mono ?_;rintro e D ⟨⟨z,rfl,h⟩,n⟩;obtain⟨t,rfl,-⟩:=h.form;have b:=f.trans (n.mono f.size)
 go_wp2_with fail
 refine(nZ (a.below b) h l (by show 0+1+l.size<=_;omega)).mono ?_;rintro e E ⟨⟨A,rfl,i⟩,o⟩;obtain⟨u,rfl,-⟩:=i.form;have c:=b.trans (o.mono b.size)
 go_wp2_with fail
 refine(nZ (a.below c) i r (by simp;omega)).mono ?_;rintro e F ⟨⟨B,rfl,j⟩,p⟩;obtain⟨k,rfl,-⟩:=j.form;have m:je (aG k) (1::(l.data.toList++r.data.toList)):=j;have d:=c.trans (p.mono c.size)
 go_wp2_with fail
 refine(Bo (a.below d) m (by simp;omega)).mono ?_;rintro e G ⟨rfl,q⟩
 go_wp2
 go_ret
 exact⟨rfl,d.trans (q.mono d.size)⟩
variable{n:Nat}
namespace TreeM
abbrev B:=ag
def split(n:Nat):Nat:=if n<=1 then 0 else 2^Nat.log2 (n-1)
def uM(h:2<=n):split n=2^Nat.log2 (n-1):=by unfold split;grind
def pr(h:2<=n):1<=split n:=by rw[uM h];grind
def nX(h:2<=n):split n<n:=by
 rw[uM h];have:=Nat.log2_self_le (n:=n-1) W;omega
def Yk(h:2<=n):n<=2*split n:=by
 rw[uM h];have:=Nat.lt_log2_self (n:=n-1);omega
def mD:Nat->List B->B
 |0,l=>match l with
  |[]=>uR ⟨#[]⟩
  |d::_=>tZ d
 |f+1,l=>if l.length<=1 then(match l with
  |[]=>uR ⟨#[]⟩
  |d::_=>tZ d) else jA (mD f (l.take (split l.length))) (mD f (l.drop (split l.length)))
def aE(l:List B):B:=mD l.length l
def xU:∀(f:Nat) (l:List B),l.length<=1->mD f l=mD 0 l
 |0,l,h=>rfl
 |f+1,l,h=>by simp only[mD];grind
def uD:∀(f g:Nat) (l:List B),l.length<=f+1->l.length<=g+1->mD f l=mD g l
 |0,g,l,c,d=>(xU g l W).symm
 |f+1,0,l,c,d=>xU (f+1) l W
 |f+1,g+1,l,c,d=>by
  by_cases h:l.length<=1
  ·exact(xU _ _ h).trans (xU _ _ h).symm
  ·simp only[mD]
   rw[aj h,aj h]
   have a:=nX (n:=l.length) W
   have b:=pr (n:=l.length) W
   rw[uD f g (l.take _) (by grind) (by grind),uD f g (l.drop _) (by grind) (by grind)]
def Xn:aE []=uR ⟨#[]⟩:=rfl
def Xo(d:B):aE [d]=tZ d:=rfl
def JI(l:List B)(h:2<=l.length):aE l=jA (aE (l.take (split l.length))) (aE (l.drop (split l.length))):=by
 have a:=nX h;have b:=pr h
 conv=>lhs;unfold aE;rw[uD l.length (l.length-1+1) l W W]
 simp only[mD];rw[aj W];unfold aE;rw[uD (l.length-1) (l.take (split l.length)).length _ (by grind) W,uD (l.length-1) (l.drop (split l.length)).length _ (by grind) W]
def CX(l:List B):(aE l).size=32:=by
 by_cases h:2<=l.length
 ·rw[JI l h];rfl
 ·match l,h with
   |[],_=>rfl
   |[d],_=>rfl
   |_::_::_,h=>simp at h
end TreeM
section
open TreeM
def Y5:∀(i:Nat) (h:i<Lib.len8tab.size),Lib.len8tab[i].toNat=Lib.bitLen i:=by
 have h:∀n:Fin 256,(Lib.len8tab[n.val]'(by rw[Lib.len8tab_size];exact n.isLt)).toNat=Lib.bitLen n.val:=by decide+kernel
 exact λ i a=>h ⟨i,by rw[Lib.len8tab_size] at a;exact a⟩
def Uk(x:Int)(w:aa)(b:0<=x)(h1:x<=18446744073709551615):
 Calls prog 311 #[U x] w λ e a=>e=ao (O (Lib.bitLen x.toNat))/\a=w:=by
 go_enter func311,ntmps311
 go_wp2
 all_goals first
  |(exfalso;have:=Lib.len8tab_size;omega)
  |(go_ret;refine⟨congrArg Ending.returned (congrArg (Value.int IntKind.i64) ?_),rfl⟩)
 all_goals rw[Y5]
 all_goals first
  |(have e:(x/4294967296/65536/256).toNat=x.toNat/72057594037927936:=W;have l:=Lib.bitLen_le (x.toNat/72057594037927936) 8 W W;have s:=Lib.bitLen_shift56 x.toNat W W;simp only[e] at*;unfold wrap64;omega)
  |(have e:(x/4294967296/65536).toNat=x.toNat/281474976710656:=W;have l:=Lib.bitLen_le (x.toNat/281474976710656) 8 W W;have s:=Lib.bitLen_shift48 x.toNat W W;simp only[e] at*;unfold wrap64;omega)
  |(have e:(x/4294967296/256).toNat=x.toNat/1099511627776:=W;have l:=Lib.bitLen_le (x.toNat/1099511627776) 8 W W;have s:=Lib.bitLen_shift40 x.toNat W W;simp only[e] at*;unfold wrap64;omega)
  |(have e:(x/4294967296).toNat=x.toNat/4294967296:=W;have l:=Lib.bitLen_le (x.toNat/4294967296) 8 W W;have s:=Lib.bitLen_shift32 x.toNat W W;simp only[e] at*;unfold wrap64;omega)
  |(have e:(x/65536/256).toNat=x.toNat/16777216:=W;have l:=Lib.bitLen_le (x.toNat/16777216) 8 W W;have s:=Lib.bitLen_shift24 x.toNat W W;simp only[e] at*;unfold wrap64;omega)
  |(have e:(x/65536).toNat=x.toNat/65536:=W;have l:=Lib.bitLen_le (x.toNat/65536) 8 W W;have s:=Lib.bitLen_shift16 x.toNat W W;simp only[e] at*;unfold wrap64;omega)
  |(have e:(x/256).toNat=x.toNat/256:=W;have l:=Lib.bitLen_le (x.toNat/256) 8 W W;have s:=Lib.bitLen_shift8 x.toNat W W;simp only[e] at*;unfold wrap64;omega)
  |(have l:=Lib.bitLen_le x.toNat 8 W W;unfold wrap64;omega)
def Fi:∀(f x:Nat),x<f->1<=x->x<2^64->Lib.bitLen x=x.log2+1
 |0,x,h,_,_=>by omega
 |f+1,x,h,c,b=>by
  rw[Lib.bitLen_half x W b,Nat.log2_def]
  by_cases a:2<=x
  ·rw[ax a,Fi f (x/2) W W W];omega
  ·rw[aj a,show x/2=0 by omega];rfl
def Ki(n:Nat)(i:n<18446744073709551616)(w:aa):
 Calls prog 293 #[U (n:Int)] w λ e b=>e=ao (U (split n:Int))/\b=w:=by
 by_cases h:n<=1
 ·have a:split n=0:=by unfold split;rw[ax h]
  rw[a]
  have b:(n:Int)<=1:=by omega
  go_enter func293,ntmps293
  go_wp2
  go_ret
  exact⟨rfl,rfl⟩
 ·have b:¬(n:Int)<=1:=by omega
  have a:=uM (n:=n) W
  have f:=Fi n (n-1) W W W
  have g:(n-1).log2<64:=(Nat.log2_lt W).2 W
  have d:((n:Int)-1).toNat=n-1:=by omega
  rw[a]
  generalize(n-1).log2=q at*
  have e1:IntKind.i64.wrap ((q:Int)+1-1)=(q:Int):=by rw[show(q:Int)+1-1=q by omega];exact bd _ W
  have e2:IntKind.u64.wrap ((n:Int)-1)=(n:Int)-1:=by show((n:Int)-1)%18446744073709551616=_;omega
  go_enter func293,ntmps293
  go_wp2_with fail
  refine(Uk _ _ W W).mono ?_
  rintro e k ⟨rfl,rfl⟩
  rw[d,f]
  go_wp2
  go_ret
  have e3:IntKind.u64.wrap (2^q)=((2^q:Nat):Int):=by
   have j:2^q<2^64:=Nat.pow_lt_pow_right zD g
   have c:(2:Int)^q=((2^q:Nat):Int):=(Int.natCast_pow 2 q).symm
   rw[c]
   show((2^q:Nat):Int)%18446744073709551616=_
   omega
  exact⟨congrArg (λ z=>Ending.returned (Value.int .u64 z)) e3,rfl⟩
end
section
open TreeM
def bg.take{w:aa}{A:Option Addr}{l a:Nat}{L:List ag}(h:bg w (ad A l a) L)(k:Nat)(q:k<=L.length):bg w (ad A k a) (L.take k):=by
 obtain⟨m,n,g,r,f⟩:=h;injection g with e1 e2 e3;subst e1 e2 e3;have j:(L.take k).length=k:=by rw[ee];omega
 refine⟨A,a,by rw[j],by omega,λ i p=> ?_⟩;obtain⟨b,o,c,d,e⟩:=f i W;exact⟨b,o,c,⟨d.1,by omega⟩,by rw[List.getElem_take];exact e⟩
def bg.drop{w:aa}{b o:Nat}{l a:Nat}{L:List ag}(h:bg w (ad (some ⟨b,o,none⟩) l a) L)(k:Nat)(r:k<=L.length):bg w (ad (some ⟨b,o+k,none⟩) (L.length-k) (a-k)) (L.drop k):=by
 obtain⟨m,p,g,s,f⟩:=h;injection g with e1 e2 e3;subst e1 e2 e3;have j:(L.drop k).length=L.length-k:=hG;refine⟨some ⟨b,o+k,none⟩,a-k,by rw[j],by omega,λ i q=> ?_⟩;obtain⟨n,t,c,d,e⟩:=f (k+i) W;injection c with c;injection c with e4 e5 _;subst e4 e5;exact⟨b,o+k,rfl,⟨d.1,by omega⟩,by rw[List.getElem_drop,<-e,zx]⟩
end
section
open TreeM
structure tu(w:aa)(g1 g3:Nat)(A:Option Addr)(cap:Nat)(L:List ag):Prop where
 c1:w.cell? ⟨g1,0,none⟩=some (ad A L.length cap)
 c3:w.cell? ⟨g3,0,none⟩=some (.func (.func 313) #[] #[pV g1,pV g3])
 rd:bg w (ad A L.length cap) L
 dP:cp w
def tu.below{w e:aa}{c d:Nat}{A:Option Addr}{b:Nat}{L:List ag}(h:tu w c d A b L)(a:BW w e):tu e c d A b L:=
 ⟨fb a rfl h.c1,fb a rfl h.c3,h.rd.below a rfl,h.dP.below a⟩
def Xp(C D:Nat)(A:Option Addr)(M:Nat)(L:List ag)(y:∀s∈L,s.size<=80000000)(a9:L.length<1000000):∀(f a b:Nat) (w:aa),b-a<=f->a<b->b<=L.length->tu w C D A M L->
 CB 313 #[O (a:Int),O (b:Int),pV C,pV D] w (ae (aE ((L.drop a).take (b-a)))):=by
 intro f
 induction f with
 |zero=>intro a b w a5 p;omega
 |succ f q=>
  intro a b w G a6 a7 g
  have u:=(L.drop a).length_take (i:=b-a)
  have F:(L.drop a).length=L.length-a:=hG
  obtain⟨m,x⟩:∃m,b-a=m:=⟨_,rfl⟩
  have e1:IntKind.i64.wrap ((b:Int)-(a:Int))=(m:Int):=by rw[show(b:Int)-(a:Int)=(m:Int) by omega];exact bd _ W
  by_cases p:2<=m
  ·have e:((L.drop a).take m).length=m:=by rw[<-x,u];omega
   have P:=pr p
   have Q:=nX p
   have c:=JI ((L.drop a).take m) (by rw[e];exact p)
   rw[e] at c
   have k:=Ki m W
   obtain⟨s,t⟩:∃s,split m=s:=⟨_,rfl⟩
   rw[t] at P Q c k
   obtain⟨K,d⟩:∃K,a+s=K:=⟨_,rfl⟩
   have l:((L.drop a).take m).take s=(L.drop a).take (K-a):=by rw[List.take_take];congr 1;omega
   have o:((L.drop a).take m).drop s=(L.drop K).take (b-K):=by rw[List.drop_take,List.drop_drop,d];congr 1;omega
   rw[l,o] at c
   have z:=λ j (h:BW w j)=>q a K j W W W (g.below h)
   have E:=λ j (h:BW w j)=>q K b j W W W (g.below h)
   have I:ai (jA (aE ((L.drop a).take (K-a))) (aE ((L.drop K).take (b-K)))=aE ((L.drop a).take (b-a))):=Z (by rw[x];exact c.symm)
   have s1:(aE ((L.drop a).take (K-a))).size<=40000000:=by rw[CX];decide
   have s2:(aE ((L.drop K).take (b-K))).size<=40000000:=by rw[CX];decide
   have B:=g.c3
   have r:=Z g.dP
   clear q c l o g F u e y t G
   generalize aE ((L.drop a).take (b-a))=R at*
   generalize aE ((L.drop a).take (K-a))=b3 at*
   generalize aE ((L.drop K).take (b-K))=b4 at*
   have G:=Z z;have H:=Z E;have J:=Z k
   clear z E k
   have b1:((m:Int)==1)=false:=by rw[cc];omega
   have e2:IntKind.u64.wrap (m:Int)=(m:Int):=by show(m:Int)%18446744073709551616=_;omega
   have e3:IntKind.i64.wrap (s:Int)=(s:Int):=bd _ W
   have e4:IntKind.i64.wrap ((a:Int)+(s:Int))=(K:Int):=by rw[show(a:Int)+(s:Int)=(K:Int) by omega];exact bd _ W
   go_enter func313,ntmps313
   go_wp2_with fail
   refine(J.U _).mono ?_
   rintro e X ⟨rfl,rfl⟩
   go_wp2_with fail
   rename aa=>w0
   have l:ai (BW w0 w0):=Z (bz _ _)
   refine iE (n:=9) (S:=λ j=>BW w0 j) V V (gp (bz _ _) 1) (λ c=> ?_)
   refine az.take (i:=0) (oi:=_) (v:=?vy1) rfl zD V V (λ _ _ _ h=>h) (Or.inl ⟨by kernel_rfl,?SL⟩) zA ?_
   case SL=>(intro j t;have z:=fb t rfl B;go_simp;try(with_reducible rfl))
   try simp only[Act.put,aH]
   refine VW [1,2] zA ?_
   refine az.take (i:=4) (oi:=_) (v:=?vy4) rfl zD V V (λ _ _ _ h=>h) (Or.inl ⟨by kernel_rfl,?SM⟩) zA ?_
   case SM=>(intro j t;have z:=fb t rfl B;go_simp;try(with_reducible rfl))
   try simp only[Act.put,aH]
   refine VW [5,6] zA ?_
   refine az.one (i:=3) (o:=?oy7) V zD ?Se ?acL
   case Se=>(simp only[sG];exact rfl)
   intro K d
   go_simp
   refine(G.U _ c).mono ?_
   rintro e x3 ⟨rfl,k⟩
   have E:BW w0 x3:=eH c (cP k (dA c))
   clear k c
   go_simp
   refine d.out _ _ E (λ c=> ?_)
   clear E
   clear d K
   try simp only[aH]
   refine az.one (i:=7) (o:=?oy8) V zD ?Sf ?acM
   case Sf=>(simp only[sG];exact rfl)
   intro K d
   go_simp
   refine(H.U _ c).mono ?_
   rintro e x7 ⟨rfl,k⟩
   have E:BW w0 x7:=eH c (cP k (dA c))
   clear k c
   go_simp
   refine d.out _ _ E (λ c=> ?_)
   clear E
   clear d K
   try simp only[aH]
   refine az.one (i:=8) (o:=?oy9) V zD ?Sg ?acN
   case Sg=>(simp only[sG];exact rfl)
   intro K d
   go_simp
   refine(xu (r.U.below (eH l.U (cP c l.U.size))) _ _ s1 s2).mono ?_
   rintro e x8 ⟨rfl,k⟩
   have E:BW w0 x8:=eH c (cP k (dA c))
   clear k c
   go_simp
   refine d.out _ _ E (λ c=> ?_)
   clear E
   clear d K
   try simp only[aH]
   refine az.tail V ?_
   have E:=Z (eH l.U (cP c l.U.size));clear c
   simp only[bU,bC]
   go_wp2
   go_ret
   exact⟨by rw[<-I.U];rfl,E.U⟩
  ·obtain rfl:m=1:=by omega
   have hx:=g.rd
   obtain⟨a0,a4,N,-,c⟩:=hx
   injection N with T b2 z
   subst T z
   obtain⟨bb,o,rfl,-,a8⟩:=c a W
   have k:(L.drop a).take (b-a)=[L[a]]:=by
    rw[x,gE (show a<L.length by omega)];rfl
   rw[k,Xo]
   have b0:=y L[a] (cY _)
   have a3:=g.c1
   have r:=Z g.dP
   generalize L[a]=d at*
   have a1:(0:Int)<=(a:Int):=by omega
   have a2:(a:Int)<(L.length:Int):=by omega
   clear q y c g k F u
   go_enter func313,ntmps313
   go_wp2_with fail
   refine(Uf r.U d W).mono ?_
   rintro e X ⟨rfl,c⟩
   go_wp2
   go_ret
   exact⟨rfl,c⟩
def xV{w:aa}(B:cp w){v:ab}{L:List ag}(h:bg w v L)(t:∀s∈L,s.size<=80000000)(q:L.length<1000000):
 CB 298 #[v] w (ae (aE L)):=by
 obtain⟨A,a,rfl,r,s⟩:=id h
 have m:=bJ w (.cells #[ad A L.length a] 64)
 have l:ah (w.alloc (.cells #[ad A L.length a] 64)) w.heap.size 64 #[ad A L.length a]:=ah.new _ _ _
 have g:=l.cell 0
 simp only[sG] at g
 obtain⟨c,k⟩:∃c,Value.func (.func 313) #[] #[pV w.heap.size,.pointer (some ⟨w.heap.size+1,0,none⟩)]=c:=⟨_,rfl⟩
 obtain⟨b,f⟩:∃b,(w.alloc (.cells #[ad A L.length a] 64)).alloc (.cells #[c] 269)=b:=⟨_,rfl⟩
 have i:BW w b:=by rw[<-f];exact m.trans ((bJ _ _).mono zS)
 have u:b.cell? ⟨w.heap.size,0,none⟩=some (ad A L.length a):=by rw[<-f];exact fb (bJ _ _) rfl g
 have p:b.cell? ⟨w.heap.size+1,0,none⟩=some c:=by
  have d:ah ((w.alloc (.cells #[ad A L.length a] 64)).alloc (.cells #[c] 269)) (w.alloc (.cells #[ad A L.length a] 64)).heap.size 269 #[c]:=ah.new _ _ _
  rw[rJ,f] at d
  exact d.cell 0
 have j:tu b w.heap.size (w.heap.size+1) A a L:=⟨u,by rw[p,k],h.below i rfl,B.below i⟩
 rw[<-k] at p f
 have D:L.length<=9223372036854775807:=r
 by_cases z:L.length=0
 ·obtain rfl:=List.length_eq_zero_iff.1 z
  rw[Xn]
  have d:=Z i;have y:=Z j.dP
  clear j s h t r q m l g k
  simp only[oo] at u p f⊢
  go_enter func298,ntmps298
  go_wp2_with fail
  refine(YP y.U ⟨#[]⟩ zD).mono ?_
  rintro e C ⟨rfl,o⟩
  go_wp2
  go_ret
  exact⟨rfl,d.U.trans (o.mono d.U.size)⟩
 ·have n:=Xp w.heap.size (w.heap.size+1) A a L t q L.length 0 L.length b W W (aW _) j
  rw[jR,zF,cS (aW _),show((0:Nat):Int)=0 from rfl] at n
  have x:=Z n;have d:=Z i
  have E:((L.length:Int)==0)=false:=by rw[cc];omega
  clear j s h t r q m l g k n
  generalize aE L=R at*
  generalize L.length=n at*
  go_enter func298,ntmps298
  go_wp2_with fail
  refine x.U.mono ?_
  rintro e C ⟨rfl,o⟩
  go_wp2
  go_ret
  exact⟨rfl,d.U.trans (o.mono d.U.size)⟩
end
variable{g:Nat}
namespace TreeM
def lC:Nat->Nat->Nat->List (Bool×Nat)
 |0,_,_=>[]
 |f+1,m,n=>if m<n then(if m<=split n then(true,split n)::lC f m (split n) else(false,split n)::lC f (m-split n) (n-split n)) else []
def steps(m n:Nat):List (Bool×Nat):=lC n m n
def sN:∀(f g m n:Nat),1<=m->n<=f->n<=g->lC f m n=lC g m n
 |0,0,m,n,_,_,_=>rfl
 |0,g+1,m,n,d,h,_=>by simp only[lC];grind
 |f+1,0,m,n,d,_,h=>by simp only[lC];grind
 |f+1,g+1,m,n,d,e,i=>by
  simp only[lC]
  by_cases h:m<n
  ·have a:=nX (n:=n) W
   have b:=pr (n:=n) W
   rw[ax h,ax h]
   by_cases c:m<=split n
   ·rw[ax c,ax c,sN f g m (split n) d W W]
   ·rw[aj c,aj c,sN f g (m-split n) (n-split n) W W W]
  grind
def yn(h:n<=g):steps g n=[]:=by
 unfold steps;cases n with
 |zero=>rfl
 |succ n=>simp only[lC];grind
def De(b:1<=g)(h:g<n)(c:g<=split n):steps g n=(true,split n)::steps g (split n):=by
 have a:=nX (n:=n) W;unfold steps;rw[sN n (n-1+1) g n b W W];simp only[lC];rw[ax h,ax c,sN (n-1) (split n) g (split n) b W W]
def Df(h:g<n)(d:split n<g):steps g n=(false,split n)::steps (g-split n) (n-split n):=by
 have a:=nX (n:=n) W;unfold steps;rw[sN n (n-1+1) g n W W W];simp only[lC];by_cases c:2<=n
 ·have b:=pr (n:=n) W;rw[ax h,aj W,sN (n-1) (n-split n) (g-split n) (n-split n) W W W]
 ·omega
def sO:∀(e m n:Nat),n<=2^e->1<=m->(steps m n).length<=e
 |0,m,n,h,d=>by rw[yn W];simp
 |e+1,m,n,h,d=>by
  rw[fk] at h
  by_cases f:m<n
  ·have a:=nX (n:=n) W
   have b:=pr (n:=n) W
   have c:=Yk (n:=n) W
   have i:split n<=2^e:=by
    rw[uM W]
    refine pZ zD ?_
    have:(n-1).log2<e+1:=(Nat.log2_lt W).2 W
    omega
   by_cases g:m<=split n
   ·rw[De d f g,fU]
    have:=sO e m (split n) i d
    omega
   ·rw[Df f W,fU]
    have:=sO e (m-split n) (n-split n) W W
    omega
  ·rw[yn W];simp
def ql:List (Bool×Nat)->List B->List B
 |[],l=>[aE l]
 |(true,k)::a,l=>aE (l.drop k)::ql a (l.take k)
 |(false,k)::a,l=>aE (l.take k)::ql a (l.drop k)
def we(m:Nat)(l:List B):List B:=(ql (steps m l.length) l).reverse
def hd(q:List B):B:=q.headD ⟨#[]⟩
def imp:List (Bool×Nat)->List B->B×B
 |[],q=>(hd q,hd q)
 |(true,_)::a,q=>((imp a q.tail).1,jA (imp a q.tail).2 (hd q))
 |(false,_)::a,q=>(jA (hd q) (imp a q.tail).1,jA (hd q) (imp a q.tail).2)
def own(k:Nat)(l:List B):B×B:=(aE (l.take k),aE (l.drop k))
end TreeM
variable{a:Act}
section
open TreeM
def pt(a:List (Bool×Nat)):List ab:=a.flatMap λ s=>[aF s.1,U (s.2:Int)]
def Kw(a:List (Bool×Nat))(b:Bool)(k:Nat):pt (a++[(b,k)])=pt a++[aF b,U (k:Int)]:=by simp[pt]
def Kv:∀(a:List (Bool×Nat)) (i:Nat) (h:i<a.length),(pt a)[i*2]?=some (aF a[i].1)/\(pt a)[i*2+1]?=some (U (a[i].2:Int))
 |s::a,0,_=>⟨rfl,rfl⟩
 |s::a,i+1,h=>by
  have:=Kv a i (by simpa using h)
  have e:pt (s::a)=aF s.1::U (s.2:Int)::pt a:=rfl
  rw[e,show(i+1)*2=i*2+1+1 by omega]
  simpa using this
def aaE:(prog.info? 328).map (λ i=>(i.zero,i.size,i.bytes))=some (some (aG #[aF false,U 0]),2,16):=by kernel_rfl
def ef(b:Nat)(w:aa)(v:ab)(a:List (Bool×Nat)):Prop:=w.ownsRow b 328 2 v a.length (pt a)
def L0(w:aa)(v:ab)(a:List (Bool×Nat)):Prop:=∃(A:Option Addr) (c:Nat),v=ad A a.length c/\a.length<=maxLen/\∀i (h:i<a.length),∃b o,A=some ⟨b,o,none⟩/\(b<w.heap.size/\a.length<=c)/\w.cell? ⟨b,o+i*2,none⟩=some (aF a[i].1)/\w.cell? ⟨b,o+i*2+1,none⟩=some (U (a[i].2:Int))
def ef.read{base:Nat}{w:aa}{v:ab}{b:List (Bool×Nat)}(h:ef base w v b)(j:b.length<=maxLen):L0 w v b:=by
 rcases h.2 with⟨a,c⟩|⟨g,k,m,a,o,l,c,p,n,q⟩
 ·exact⟨none,0,by rw[a,c],j,λ i f=>by omega⟩
 ·refine⟨some ⟨g,0,none⟩,k,a,j,λ i f=> ?_⟩;obtain⟨e1,e2⟩:=Kv b i f;subst a;have d:=h.cells rfl _ _ e1;have e:=h.cells rfl _ _ e2;rw[iF] at d e;exact⟨g,0,rfl,⟨(lG.1 l).1,c⟩,d,by rw[zx];exact e⟩
def ef.nil(a:Nat)(w:aa):ef a w (ad none 0 0) []:=ct _ _ _ _
def ef.below{w b:aa}{v:ab}{a:List (Bool×Nat)}(h:ef g w v a)(c:BW w b):ef g b v a:=xG h c
def aaP{P:Program}{w:aa}{Q:Exit->Act->aa->Prop}{c rest:Code}(l:Nat)(J:Act->aa->Prop)(μ:Act->aa->Nat)(i:findLabel c l=some (.seq .skip rest))
 (g:∀a w,J a w->rest.wp P (Exit.jump l (λ d f=>J d f/\μ d f<μ a w) Q) a w)
 (first:(∀a w,J a w->rest.wp P (Exit.jump l J Q) a w)->c.wp P (Exit.jump l J Q) a w):(Code.scope c).wp P Q a w:=by
 refine wp_scope_jumps l J μ i (first λ a w h=>wp_mono (g a w h) λ e d f b=> ?_) (λ a w h=>wp_seq (wp_skip (g a w h)))
 cases e with
 |goto j=>exact⟨b.1,b.2.1⟩
 |normal=>exact b
 |exit id=>exact b
 |ret=>exact b
 |panic ch=>exact b
 |outgrown=>exact b
def Ba{w:aa}(m0 g:Nat)(h10:1<=m0)(E:m0<=g)(F:g<=1099511627776):
 Calls prog 266 #[U (m0:Int),U (g:Int)] w λ e p=>(∃v,e=ao v/\ef w.heap.size p v (steps m0 g))/\BW w p:=by
 obtain⟨R,a⟩:∃R,steps m0 g=R:=⟨_,rfl⟩
 rw[a]
 have c:R.length<=64:=by rw[<-a];have:=sO 40 m0 g W h10;omega
 have b:=Z a;have H:=Z c;clear a c
 obtain⟨S,L,N,P,Q⟩:=ki aaE
 go_enter func266,ntmps266
 go_wp2
 refine aaP 0 (λ r p=>∃(m n:Nat) (a:List (Bool×Nat)) (v u2 u3 u4 u6 u7 u8 u9 u10 u11 u12 u13 u14 u15 u16 u17 u18 u19 u20 u21 u22 u23 u24 u25 u26 u27 u28 u29 u30:ab),r={tmps:=#[U (m:Int),U (n:Int),u2,u3,u4,v,u6,u7,u8,u9,u10,u11,u12,u13,u14,u15,u16,u17,u18,u19,u20,u21,u22,u23,u24,u25,u26,u27,u28,u29,u30],defers:=[]}/\1<=m/\m<=n/\n<=1099511627776/\a++steps m n=R/\ef w.heap.size p v a/\BW w p) (λ r _=>(intOf (r.tmps.getD 1 undef)).toNat) rfl ?_ ?_
 rotate_left
 ·intro d
  go_wp2
  go_step3
  rename_i K c
  exact c _ _ (d _ _ ⟨m0,g,[],ad none 0 0,_,_,_,_,_,_,_,_,_,_,_,_,_,_,_,_,_,_,_,_,_,_,_,_,_,_,_,_,rfl,h10,E,F,b.U,ef.nil _ _,bz _ _⟩)
 focus
  rintro r wr ⟨m,n,a,v,u2,u3,u4,u6,u7,u8,u9,u10,u11,u12,u13,u14,u15,u16,u17,u18,u19,u20,u21,u22,u23,u24,u25,u26,u27,u28,u29,u30,rfl,h1,hmn,hnb,hR,BZ,Hh⟩
  have x:ai (a.length<=64):=Z (by have:=H.U;rw[<-hR,bA] at this;omega)
  have u:=Z hR;have j:=Z BZ;have c:=Z Hh
  obtain⟨G,J,rfl,-,-⟩:=id (BZ.read (by have:=x.U;unfold maxLen;omega))
  clear hR BZ Hh b h10 E F
  by_cases z:m<n
  focus
   have C:((m:Int)<(n:Int))=True:=rZ W
   have l:=nX (n:=n) W
   have i:=pr (n:=n) W
   have d:=Ki n W wr
   obtain⟨k,b⟩:∃k,split n=k:=⟨_,rfl⟩
   rw[b] at i l d
   have I:=Z d;clear d
   have M:a.length<=64:=x.U
   by_cases s:m<=split n
   focus
    rw[b] at s
    have y:ai ((a++[(true,k)])++steps m k=R):=Z (by rw[<-u.U,di,De h1 z (by rw[b];exact s),b];rfl)
    have D:((m:Int)<=(k:Int))=True:=rZ W
    have q:=Z (And.intro i (And.intro l b));clear i l b
    have t:=ah.new wr 328 #[aF true,U (k:Int)]
    have o:=xE j.U (.cells #[aF true,U (k:Int)] 328)
    have h:=c.U.alloc c.U.size (.cells #[aF true,U (k:Int)] 328)
   rotate_left
   focus
    rw[b] at s
    obtain⟨d,A⟩:∃d,m-k=d:=⟨_,rfl⟩
    obtain⟨f,B⟩:∃f,n-k=f:=⟨_,rfl⟩
    have e1:IntKind.u64.wrap ((m:Int)-(k:Int))=(d:Int):=by rw[show(m:Int)-(k:Int)=(d:Int) by omega];show(d:Int)%18446744073709551616=_;omega
    have e2:IntKind.u64.wrap ((n:Int)-(k:Int))=(f:Int):=by rw[show(n:Int)-(k:Int)=(f:Int) by omega];show(f:Int)%18446744073709551616=_;omega
    have y:ai ((a++[(false,k)])++steps d f=R):=Z (by rw[<-u.U,di,Df z W,b,A,B];rfl)
    have D:((m:Int)<=(k:Int))=False:=lh W
    have q:=Z (And.intro i (And.intro l b));clear i l b
    have t:=ah.new wr 328 #[aF false,U (k:Int)]
    have o:=xE j.U (.cells #[aF false,U (k:Int)] 328)
    have h:=c.U.alloc c.U.size (.cells #[aF false,U (k:Int)] 328)
   rotate_left
  rotate_left 2
  ·have C:((m:Int)<(n:Int))=False:=lh W
   have b:a=R:=by rw[<-u.U,yn W,pN]
   have i:=Z b;clear b
   go_wp2
   simp only[Exit.jump]
   go_ret
   exact⟨⟨_,rfl,by rw[<-i.U];exact j.U⟩,c.U⟩
 rotate_left 2
 all_goals
  have M:=x.U
  go_wp2_with fail
  refine I.U.mono ?_
  rintro e _ ⟨rfl,rfl⟩
  go_wp2_with(at_builtin;refine Le rfl _ _ 326 rfl w.heap.size 328 S _ 2 16 underlying326 L N P Q rfl zD _ _ _ rfl o _ rfl _ 328 (0,0) t rfl (by intro v G;simp at G;rcases G with rfl|rfl<;>rfl) (by unfold maxLen;omega) W h.size ?_)
  intro C B A u z D
  have l:BW w A:=h.grown z h.size (λ i J=>(World.ownsRow.lt o i J).1)
 ·have b:ef w.heap.size A (ad (some ⟨C,0,none⟩) (a.length+1) B) (a++[(true,k)]):=by unfold ef;rw[bA,Kw];exact u
  have i:=Z (And.intro b l)
  clear l b u z D o h t j c
  go_wp2
  go_step3
  refine⟨rfl,⟨m,k,a++[(true,k)],_,_,_,_,_,_,_,_,_,_,_,_,_,_,_,_,_,_,_,_,_,_,_,_,_,_,_,_,_,rfl,h1,s,by have:=q.U;omega,y.U,i.U⟩,?_⟩
  simp[intOf];have:=q.U;omega
 ·have b:ef w.heap.size A (ad (some ⟨C,0,none⟩) (a.length+1) B) (a++[(false,k)]):=by unfold ef;rw[bA,Kw];exact u
  have i:=Z (And.intro b l)
  clear l b u z D o h t j c
  go_wp2
  go_step3
  refine⟨rfl,⟨d,f,a++[(false,k)],_,_,_,_,_,_,_,_,_,_,_,_,_,_,_,_,_,_,_,_,_,_,_,_,_,_,_,_,_,rfl,by omega,by omega,by omega,y.U,i.U⟩,?_⟩
  simp[intOf];have:=q.U;omega
end
def sT(L:List ag):Bool:=L.all (λ s=>s.size==32)
def VG(s:ag)(w:aa):Calls prog 291 #[ae s] w λ e a=>e=ao (aF (eE s))/\w=a:=by
 have c:((s.size:Int) !=32)=eE s:=by unfold eE;rw[bI];simp;omega
 generalize eE s=b at*
 go_enter func291,ntmps291
 go_wp2
 go_ret
 exact⟨rfl,rfl⟩
def S1{w:aa}{v:ab}{L:List ag}(h:bg w v L):Calls prog 220 #[v,.func (.func 291) #[] #[]] w λ e a=>(∃i:Int,e=ao (O i)/\decide (0<=i)=cu L)/\w=a:=by
 obtain⟨A,l,rfl,d,c⟩:=h;have p:L.length<=9223372036854775807:=d;obtain⟨R,a⟩:∃R,cu L=R:=⟨_,rfl⟩;rw[a];have b:=Z a;have k:=Z c;clear a c d
 go_enter zT,An
 go_wp2
 go_loop [8] (λ a=>∃j:Nat,j<=L.length/\a=O (j:Int)/\cu (L.drop j)=R) (λ a=>L.length-(intOf a).toNat)
 case atStart=>exact⟨0,by omega,rfl,b.U⟩
 case round=>
  clear b;obtain⟨j,n,rfl,a⟩:=hrel;by_cases i:j<L.length
  ·rw[gE i] at a;unfold cu at a;rw[tf] at a;obtain⟨b,o,rfl,d,hx⟩:=k.U j i;have m:(j:Int)<(L.length:Int):=by omega
   have c:=Z a;clear a d;generalize L[j]=x at*;obtain⟨B,g⟩:∃B,eE x=B:=⟨_,rfl⟩;have f:=VG x;rw[g] at f c;clear g;have d:=Z f;clear f
   go_wp2_with fail
   refine(d.U _).mono ?_;rintro e g ⟨rfl,rfl⟩;cases B with
   |true=>
    have f:=Z (show R=true by rw[<-c.U];rfl);clear c d
    go_wp2
    go_ret
    exact⟨⟨_,rfl,by rw[f.U];simp⟩,rfl⟩
   |false=>
    have f:ai (cu (L.drop (j+1))=R):=Z (by rw[<-c.U];rfl);clear c d
    go_wp2
    go_round
    case rel=>exact⟨j+1,by omega,by go_num,f.U⟩
    case measure=>simp[intOf];omega
  ·rw[jQ W] at a;have c:=Z (show R=false from a.symm);clear a
   go_wp2
   go_ret
   exact⟨⟨_,rfl,by rw[c.U];rfl⟩,rfl⟩
def Oi{w:aa}{v:ab}{L:List ag}(h:bg w v L):Calls prog 154 #[v,.func (.func 291) #[] #[]] w λ e c=>e=ao (aF (cu L))/\w=c:=by
 have a:=Z (S1 h);obtain⟨R,b⟩:∃R,cu L=R:=⟨_,rfl⟩;rw[b] at a⊢;clear b h
 go_enter zJ,Ag
 go_wp2_with fail
 refine a.U.mono ?_;rintro e c ⟨⟨i,rfl,b⟩,rfl⟩
 go_wp2
 go_ret
 exact⟨rfl,rfl⟩
def MI(L:List ag):cu L=!sT L:=by
 unfold cu sT eE;induction L with
 |nil=>rfl
 |cons x l a=>rw[tf,te,a];by_cases h:x.size=32<;>simp[h]
def Od{w:aa}{v:ab}{L:List ag}(h:bg w v L):Calls prog 154 #[v,.func (.func 291) #[] #[]] w λ e b=>e=ao (aF (!(sT L)))/\b=w:=by
 rw[<-MI];exact(Oi h).mono λ _ _ ⟨a,b⟩=>⟨a,b.symm⟩
variable{k:Nat}
section
open TreeM
def iz(m n:Nat):Bool:=decide (1<=m)&&decide (m<=n)&&decide (n<=1099511627776)
def H3(h:iz g n=true):1<=g/\g<=n/\n<=1099511627776:=by
 unfold iz at h;simp only[cQ,dx] at h;exact⟨h.1.1,h.1.2,h.2⟩
def kr(m n:Nat):Nat:=if iz m n=true then(steps m n).length+1 else 0
def Kt(h:iz g n=true):kr g n=(steps g n).length+1:=by unfold kr;rw[ax h]
def mL(L:List ag)(k:Nat):Bool:=decide (L.length=k)&&sT L
def aaC{L:List ag}(h:mL L k=true):L.length=k/\∀s∈L,s.size=32:=by
 unfold mL sT at h;simp only[cQ,dx,gC,fB] at h;exact h
def tJ(m n:Nat)(w:aa):Calls prog 262 #[U (m:Int),U (n:Int)] w λ e b=>e=ao (aF (iz m n))/\b=w:=by
 unfold iz;by_cases a:1<=m
 ·have d:((1:Int)<=(m:Int))=True:=rZ W;by_cases b:m<=n
  ·have e:((m:Int)<=(n:Int))=True:=rZ W;by_cases c:n<=1099511627776
   ·have f:((n:Int)<=1099511627776)=True:=rZ W;rw[aS a,aS b,aS c]
    go_enter zY,At
    go_wp2
    go_ret
    exact⟨rfl,rfl⟩
   ·have f:((n:Int)<=1099511627776)=False:=lh W;rw[aS a,aS b,bu c]
    go_enter zY,At
    go_wp2
    go_ret
    exact⟨rfl,rfl⟩
  ·have e:((m:Int)<=(n:Int))=False:=lh W;rw[aS a,bu b]
   go_enter zY,At
   go_wp2
   go_ret
   exact⟨rfl,rfl⟩
 ·have d:((1:Int)<=(m:Int))=False:=lh W;rw[bu a]
  go_enter zY,At
  go_wp2
  go_ret
  exact⟨rfl,rfl⟩
def FW{w:aa}{v:ab}{L:List ag}(h:bg w v L)(k:Nat):
 Calls prog 263 #[v,O (k:Int)] w λ e c=>e=ao (aF (mL L k))/\c=w:=by
 have b:=h
 obtain⟨A,g,rfl,f,a⟩:=h
 clear f a
 unfold mL
 obtain⟨R,c⟩:∃R,sT L=R:=⟨_,rfl⟩
 have d:=Z c
 rw[c]
 clear c
 by_cases a:L.length=k
 ·have c:((L.length:Int)==(k:Int))=true:=by rw[fB];omega
  rw[aS a]
  clear a
  go_enter func263,ntmps263
  go_wp2_with fail
  refine(Od b).mono ?_
  rintro e f ⟨rfl,rfl⟩
  rw[d.U]
  clear b
  cases R
  ·go_wp2
   go_ret
   exact⟨rfl,rfl⟩
  ·go_wp2
   go_ret
   exact⟨rfl,rfl⟩
 ·have c:((L.length:Int)==(k:Int))=false:=by rw[cc];omega
  rw[bu a]
  clear a b
  go_enter func263,ntmps263
  go_wp2
  go_ret
  exact⟨rfl,rfl⟩
def FC{w:aa}(m n:Nat):CB 264 #[U (m:Int),U (n:Int)] w (O (kr m n:Int)):=by
 unfold kr;cases a:iz m n with
 |false=>
  have h82:=tJ m n w;rw[a] at h82;clear a
  go_enter func264,ntmps264
  go_wp2_with fail
  refine h82.mono ?_;rintro e h ⟨rfl,rfl⟩
  go_wp2
  go_ret
  exact⟨rfl,bz _ _⟩
 |true=>
  have h82:=tJ m n w;rw[a] at h82;obtain⟨b,d,f⟩:=H3 a;have k:=sO 40 m n W b;have h79:=Ba (w:=w) m n b d f;have e1:IntKind.i64.wrap (((steps m n).length:Int)+1)=((steps m n).length:Int)+1:=bd _ W;have c:=Z h79;clear a h79
  go_enter func264,ntmps264
  go_wp2_with fail
  refine h82.mono ?_;rintro e h ⟨rfl,rfl⟩
  go_wp2_with fail
  refine c.U.mono ?_;rintro e o ⟨⟨l,rfl,a⟩,g⟩;obtain⟨i,j,rfl,-,-⟩:=id (a.read (by unfold maxLen;omega));clear a
  go_wp2
  go_ret
  exact⟨rfl,g⟩
end
def upto{α:Type}(f:Nat->α)(k:Nat):List α:=(List.range k).map f
def aat{α:Type}(f:Nat->α)(k:Nat):upto f (k+1)=upto f k++[f k]:=by simp[upto,List.range_succ]
def aas{α:Type}(f:Nat->α)(k:Nat):(upto f k).length=k:=by simp[upto]
variable{i:Nat}{A:Option Addr}
section
open Go.Shelf TreeM
attribute [local go_sem] EC
abbrev gW:=Nat×(Bool×Nat)
abbrev ih(p:gW->Prop):={x:gW//p x}
def kQ{p:gW->Prop}(L:List (Bool×Nat))(a:∀q (h:q<L.length),p (q,L[q]))(d:ih p)(k:Nat):ih p:=
 if h:L.length-1-k<L.length then⟨(L.length-1-k,L[L.length-1-k]),a _ h⟩ else d
def MZ{p:gW->Prop}(L:List (Bool×Nat))(a:∀q (h:q<L.length),p (q,L[q]))(d:ih p)(q:Nat)(h:q<L.length):kQ L a d (L.length-(q+1))=⟨(q,L[q]),a q h⟩:=by
 have e:L.length-1-(L.length-(q+1))=q:=by omega
 unfold kQ;grind
def Dy{p:gW->Prop}(L:List (Bool×Nat))(a:∀q (h:q<L.length),p (q,L[q]))(d:ih p)(q:Nat)(h:q<L.length):upto (kQ L a d) (L.length-q)=upto (kQ L a d) (L.length-(q+1))++[⟨(q,L[q]),a q h⟩]:=by
 rw[show L.length-q=(L.length-(q+1))+1 by omega,aat,MZ L a d q h]
def rk(e c d:Nat)(a:aa)(A:Option Addr)(L:List (Bool×Nat)):Prop:=∀i (h:i<L.length),∃b o,A=some ⟨b,o,none⟩/\(b<e/\b≠c/\b≠d)/\a.cell? ⟨b,o+i*2,none⟩=some (aF L[i].1)/\a.cell? ⟨b,o+i*2+1,none⟩=some (U (L[i].2:Int))
def KX(d b c:Nat)(e a:aa):Prop:=∀k,k<d->k≠b->k≠c->a.heap[k]?=e.heap[k]?
def KX.refl(d b c:Nat)(a:aa):KX d b c a a:=λ _ _ _ _=>rfl
def KX.trans{c a b:Nat}{A B C:aa}(h:KX c a b A B)(k:KX c a b B C):KX c a b A C:=λ i d e f=>(k i d e f).trans (h i d e f)
def KX.qI{b a:aa}(h:Below i b a)(d:g<=i):KX g n k b a:=λ e c _ _=>h.block e (lQ c d)
def KX.Kb(a:aa)(v:ab):KX g n k a (a.setCell ⟨n,0,none⟩ v):=λ i _ b _=>ta a ⟨n,0,none⟩ v i b
def KX.yg(a:aa)(v:ab):KX g n k a (a.setCell ⟨k,0,none⟩ v):=λ i _ _ b=>ta a ⟨k,0,none⟩ v i b
def KX.cell{e c d:Nat}{f a:aa}(h:KX e c d f a){b o:Nat}(h1:b<e)(h2:b≠c)(h3:b≠d):a.cell? ⟨b,o,none⟩=f.cell? ⟨b,o,none⟩:=World.oI (h b h1 h2 h3)
def KX.put(a:aa)(l:Nat)(b:Obj)(d:g<=l):KX g n k a (a.putObj l b):=λ i c _ _=>World.putObj_heap_other W
def rk.kept{e c:aa}{L:List (Bool×Nat)}(h:rk g n k e A L)(d:KX g n k e c):rk g n k c A L:=λ i m=>by
 obtain⟨b,o,f,a,j,l⟩:=h i m;exact⟨b,o,f,a,(d.cell a.1 a.2.1 a.2.2).trans j,(d.cell a.1 a.2.1 a.2.2).trans l⟩
def MY{p:gW->Prop}(F:Fence)(n:Nat)(y:F.fn 292)(M:F.round=none)(a4:1<=n)(l g s j r u:Nat)(z:g<s)(B:g≠j)(C:g≠r)(A:Option Addr)(L:List (Bool×Nat))(I:L.length<=maxLen)(f:∀q (h:q<L.length),p (q,L[q]))(d:ih p)(J t:List (ih p)->aa->Prop)
 (E:∀b x a,J b a->b.length<L.length->YieldAt F (n-1) prog l #[O (x.1.1:Int),aG #[aF x.1.2.1,U (x.1.2.2:Int)]] a λ e c=>
  (e=ao (aF true)/\J (b++[x]) c/\KX s j r a c)\/(e=ao (aF false)/\t (b++[x]) c))
 (a:aa) (x:a.cell? ⟨g,0,none⟩=some (ad A L.length u)) (G:rk s j r a A L) (w:J [] a):
 CallsIn F n prog 292 #[.func (.yield l) #[] #[],pV g] a λ e c=>(∃v,e=ao v)/\
  ((∃h,h=upto (kQ L f d) L.length/\J h c)\/(∃b,(∃k,k<=L.length/\b=upto (kQ L f d) k)/\t b c)):=by
 have a3:L.length<=9223372036854775807:=I
 refine callsIn_of_wp func292 rfl y ?_ M
 simp only[ntmps292,ji,fU,oo,Nat.reduceAdd,Nat.reduceSub,Ed,Ee,Et,El,fV,gD]
 have e0:IntKind.i64.wrap ((L.length:Int)-1)=(L.length:Int)-1:=bd _ W
 gi_wp2
 gi_loopw [3] (λ i wr=>∃m:Nat,m<=L.length/\i=O ((m:Int)-1)/\J (upto (kQ L f d) (L.length-m)) wr/\KX s j r a wr)
  (λ i _=>(intOf i+1).toNat)
 case atStart=>exact⟨L.length,aW _,rfl,by rw[qc];exact w,KX.refl _ _ _ _⟩
 case round=>
  obtain⟨m,a2,rfl,k,h⟩:=hrel
  have X:=(h.cell (o:=0) z B C).trans x
  cases m with
  |zero=>
   gi_wp2
   go_end0
   simp_all
  |succ q=>
   have K:((q+1:Nat):Int)-1=(q:Int):=by omega
   rw[K]
   obtain⟨b,o,rfl,c,hx,N⟩:=G q W
   have a0:wr.cell? ⟨b,o+q*2,none⟩=some (aF L[q].1):=(h.cell c.1 c.2.1 c.2.2).trans hx
   have a1:wr.cell? ⟨b,o+q*2+1,none⟩=some (U (L[q].2:Int)):=(h.cell c.1 c.2.1 c.2.2).trans N
   have a5:(0:Int)<=(q:Int):=by omega
   have a6:(q:Int)<(L.length:Int):=by omega
   obtain⟨T,a7,R,S,P,D⟩:=E _ ⟨(q,L[q]),f q W⟩ wr k (by rw[aas];omega)
   dsimp only at P
   gi_wp2
   refine D.mono ?_
   rintro e Q (⟨rfl,i,H⟩|⟨rfl,v⟩)
   ·gi_wp2
    go_roundw
    case rel=>exact⟨q,by omega,by go_num,by rw[Dy L f d q W];exact i,h.trans H⟩
    case measure=>simp[intOf]
   ·gi_wp2
    refine cq (results_none rfl _ _ _) rfl ?_
    exact⟨⟨_,rfl⟩,.inr ⟨_,⟨L.length-q,by omega,(Dy L f d q W).symm⟩,v⟩⟩
def M1(F:Fence)(n:Nat)(h6:F.fn 265)(d:F.round=none)(a:Option Addr)(c b:Nat)(w:aa):
 CallsIn F n prog 265 #[ad a c b] w λ e f=>e=ao (.func (.func 292) #[] #[pV w.heap.size])/\f=w.alloc (.cells #[ad a c b] 326):=by
 refine callsIn_of_wp func265 rfl h6 ?_ d
 simp only[ntmps265,ji,fU,oo,Nat.reduceAdd,Nat.reduceSub,Ed,Ee,Et,El,fV,gD]
 gi_wp2
 go_ret
 simp
def M0{p:gW->Prop}(F:Fence)(n:Nat)(r:F.fn 292)(B:F.round=none)(z:1<=n)(a b c e g:Nat)(i:a<b)(s:a≠c)(t:a≠e)(A:Option Addr)(L:List (Bool×Nat))(y:L.length<=maxLen)(f:∀q (h:q<L.length),p (q,L[q]))(d:ih p)(w:aa)(j:b<=w.heap.size)
 (v:w.cell? ⟨a,0,none⟩=some (ad A L.length g)) (u:rk b c e w A L):
 SeqStopsK F n prog 292 #[pV a] (λ x:ih p=> #[Value.int .i64 (x.1.1:Int),Value.agg #[aF x.1.2.1,U (x.1.2.2:Int)]]) (KX b c e) (λ h=>h=upto (kQ L f d) L.length)
  (λ x=>∃k,k<=L.length/\x=upto (kQ L f d) k) L.length w:=λ l J m C h _ _ q o=>
 MY F n r B z l a b c e g i s t A L y f d J m q C ((h.cell (p:=⟨a,0,none⟩) (lQ i j)).trans v) (u.kept (KX.qI h j)) o
def nB(q:List ag)(a:ag×ag)(x:gW):ag×ag:=
 if x.2.1=true then(a.1,jA a.2 (q.getD x.1 ⟨#[]⟩)) else(jA (q.getD x.1 ⟨#[]⟩) a.1,jA (q.getD x.1 ⟨#[]⟩) a.2)
def foldI{p:gW->Prop}(q:List ag)(a:ag×ag)(b:List (ih p)):ag×ag:=b.foldl (λ a x=>nB q a x.1) a
def GZ{p:gW->Prop}(q:List ag)(b:ag×ag)(a:List (ih p))(x:ih p):foldI q b (a++[x])=nB q (foldI q b a) x.1:=by simp[foldI]
def SS(q:List ag)(a:ag×ag)(x:gW)(h:a.1.size=32/\a.2.size=32):(nB q a x).1.size=32/\(nB q a x).2.size=32:=by
 unfold nB;split
 ·exact⟨h.1,Cw _ _⟩
 ·exact⟨Cw _ _,Cw _ _⟩
def G0{p:gW->Prop}(q:List ag):∀(b:List (ih p)) (a:ag×ag),a.1.size=32/\a.2.size=32->(foldI q a b).1.size=32/\(foldI q a b).2.size=32
 |[],a,h=>h
 |x::b,a,h=>G0 q b _ (SS q a x.1 h)
def QI{p:gW->Prop}(L:List (Bool×Nat))(a:∀q (h:q<L.length),p (q,L[q]))(d:ih p)(q:List ag)(l:q.length=L.length+1)(h:ag)(f:q[L.length]?=some h):foldI q (h,h) (upto (kQ L a d) L.length)=imp L q:=by
 have:∀m,m<=L.length->foldI q (h,h) (upto (kQ L a d) (L.length-m))=imp (L.drop m) (q.drop m):=by
  intro m;generalize j:L.length-m=k;induction k generalizing m with
  |zero=>
   intro g;obtain rfl:m=L.length:=by omega
   rw[jQ (aW _)];have:hd (q.drop L.length)=h:=by unfold hd;rw[List.headD_eq_head?_getD,List.head?_drop,f];rfl
   simp only[imp,this];rfl
  |succ k e=>
   intro g;have c:=e (m+1) W W;have b:=Dy L a d m W;rw[show L.length-m=k+1 by omega,show L.length-(m+1)=k by omega] at b;rw[b,GZ,c,gE (show m<L.length by omega)];have i:q.getD m ⟨#[]⟩=hd (q.drop m):=by unfold hd;rw[List.headD_eq_head?_getD,List.head?_drop,eY]
   have n:q.drop (m+1)=(q.drop m).tail:=by rw[List.tail_drop]
   show nB q (imp (L.drop (m+1)) (q.drop (m+1))) (m,L[m])=_;clear b c e;generalize L[m]=x;obtain⟨b,c⟩:=x;cases b
   ·simp only[nB,imp];grind
   ·simp only[nB,imp];grind
 have h:=this 0 (bh _);grind
end
section
open TreeM
def fF(m n:Nat)(P:List ag):Int:=if iz m n=true then(if mL P (kr m n)=true then 0 else 11) else 1
def iu(m n:Nat)(P:List ag):ag:=if fF m n P=0 then(imp (steps m n) P.reverse).1 else⟨#[]⟩
def hQ(m n:Nat)(P:List ag):ag:=if fF m n P=0 then(imp (steps m n) P.reverse).2 else⟨#[]⟩
def SP{P:List ag}(h:iz g n=false):fF g n P=1/\iu g n P=⟨#[]⟩/\hQ g n P=⟨#[]⟩:=by
 have e:fF g n P=1:=by unfold fF;rw[h];rfl
 refine⟨e,?_,?_⟩
 ·unfold iu;grind
 ·unfold hQ;grind
def SQ{P:List ag}(h:iz g n=true)(h2:mL P (kr g n)=false):fF g n P=11/\iu g n P=⟨#[]⟩/\hQ g n P=⟨#[]⟩:=by
 have e:fF g n P=11:=by unfold fF;rw[h,h2];rfl
 refine⟨e,?_,?_⟩
 ·unfold iu;grind
 ·unfold hQ;grind
def SR{P:List ag}(h:iz g n=true)(h2:mL P (kr g n)=true):fF g n P=0/\iu g n P=(imp (steps g n) P.reverse).1/\hQ g n P=(imp (steps g n) P.reverse).2:=by
 have e:fF g n P=0:=by unfold fF;rw[h,h2];rfl
 refine⟨e,?_,?_⟩
 ·unfold iu;grind
 ·unfold hQ;grind
def tG(m:Int)(n:Nat):Bool:=decide (1<=m)&&decide (m<=(n:Int))
def Fu(m:Int)(n:Nat):Int:=if tG m n=true then 0 else 1
def rP(m:Int)(L:List ag):List ag:=if tG m L.length=true then we m.toNat L else []
end
def bg.slice{w:aa}{v:ab}{L:List ag}(h:bg w v L)(d:L.length=n)(i:1<=n):∃b o a,v=ad (some ⟨b,o,none⟩) n a/\n<=a:=by
 obtain⟨A,a,e,g,c⟩:=h;obtain⟨b,o,rfl,f,-⟩:=c 0 W;exact⟨b,o,a,by rw[e,d],by omega⟩
def bg.any{w:aa}{v:ab}{L:List ag}(h:bg w v L)(b:L.length=n):∃A a,v=ad A n a:=by
 obtain⟨A,a,c,e,d⟩:=h;exact⟨A,a,by rw[c,b]⟩
def KeepsOthers.below{c a:aa}(h:BW c a):KeepsOthers c a:=⟨h.size,λ k o b _=>(h.block k (lG.1 b).1).trans b⟩
