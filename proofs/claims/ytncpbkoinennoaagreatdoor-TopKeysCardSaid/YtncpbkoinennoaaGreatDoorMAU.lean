import Derived.Laws.EntriesVeiled
import Derived.Lib.BitFns
import Derived.Lib.Slices
import Derived.Lib.Small
import Derived.Lib.Walk
import Derived.LoopIn
import Derived.LoopNIn
import Derived.OwnWalkIn
import Derived.RangeFuncBox
import Derived.RangeFuncLeaves
import Derived.RangeFuncWrites
import Derived.Shelf.Abstract
import Derived.TacticsInMore
import Derived.Test.YtncpbkoinennoaaGreatDoorMAT
set_option linter.all false
set_option maxRecDepth 100000
set_option maxHeartbeats 0
namespace Go.Proofs.YtncpbkoinennoaaGreatDoor
open Go.RowKit Proofs.Tryz
attribute [local irreducible] wpList Calls
def od(s:af):af:=⟨(ShaM.sum s.data.toList).toArray⟩
def yy(d:af):af:=⟨(UI d.data.toList).toArray⟩
def rn(l r:af):af:=⟨(V5 l.data.toList r.data.toList).toArray⟩
def Mo(s:af):(od s).size=32:=by show(ShaM.sum s.data.toList).toArray.size=32;rw[oD];exact ShaM.Mp _
def Mf:cM false (vl ShaM.mS) (List.replicate 64 0) 0=zeroCells358:=by rfl
def EN(w:aa):Calls prog 294 #[] w (Gi w []):=by
 have b:∀v∈zeroCells358.toList,v.oneCell'=true:=by rw[<-Mf];exact DW
 have f:(prog.info? 358).map (·.size)=some zeroCells358.size:=CO;have a:ah (w.alloc (.cells zeroCells358 358)) w.heap.size 358 zeroCells358:=ah.new _ _ _;have g:=dI (P:=prog) a zeroCells358 rfl b;have c:ai (BW w ((w.alloc (.cells zeroCells358 358)).setRow w.heap.size zeroCells358)):=Z (bL (bJ w _) (aQ _) _);have d:ai (jx (aG zeroCells358) []):=Z ⟨false,ShaM.mS,List.replicate 64 0,by rw[<-Mf];rfl,ShaM.aI.start⟩;have e:=Z (a.setRow zeroCells358);clear a b
 go_enter func294,ntmps294
 go_wp2
 exact cr (v:= .agg zeroCells358) (fI results294 _ _ w.heap.size 358 zeroCells358 (0,0) _ rfl e.U uC rfl f) rfl ⟨⟨_,rfl,d.U⟩,c.U⟩
def Z8{w:aa}(f:de w)(s:af)(k:s.size<=80000000):CB 315 #[ad s] w (ad (od s)):=by
 go_enter func315,ntmps315
 go_wp2_with fail
 refine(EN w).mono ?_;rintro e n ⟨⟨l,rfl,d⟩,c⟩;obtain⟨i,rfl,-⟩:=d.form
 go_wp2_with fail
 refine(om (f.below c) d s (by simp;omega)).mono ?_;rintro e o ⟨⟨m,rfl,a⟩,g⟩;obtain⟨j,rfl,-⟩:=a.form;rw[jA] at a;have b:=c.trans (g.mono c.size)
 go_wp2_with fail
 refine(Ck (f.below b) a (by simp;omega)).mono ?_;rintro e p ⟨rfl,h⟩
 go_wp2
 go_ret
 exact⟨rfl,b.trans (h.mono b.size)⟩
def UL{w:aa}(a:de w)(s:af)(p:s.size<=80000000):CB 314 #[ad s] w (ad (yy s)):=by
 go_enter func314,ntmps314
 go_wp2_with fail
 refine(EN w).mono ?_;rintro e u ⟨⟨q,rfl,f⟩,d⟩;obtain⟨n,rfl,-⟩:=f.form
 go_wp2_with fail
 refine(om (a.below d) f ⟨#[0]⟩ (by show 0+1<=_;omega)).mono ?_;rintro e v ⟨⟨r,rfl,g⟩,k⟩;obtain⟨o,rfl,-⟩:=g.form;have b:=d.trans (k.mono d.size)
 go_wp2_with fail
 refine(om (a.below b) g s (by show 0+1+s.size<=_;omega)).mono ?_;rintro e x ⟨⟨t,rfl,h⟩,l⟩;obtain⟨i,rfl,-⟩:=h.form;have j:jx (aG i) (0::s.data.toList):=h;have c:=b.trans (l.mono b.size)
 go_wp2_with fail
 refine(Ck (a.below c) j (by simp;omega)).mono ?_;rintro e y ⟨rfl,m⟩
 go_wp2
 go_ret
 exact⟨rfl,c.trans (m.mono c.size)⟩
def V6{w:aa}(a:de w)(l r:af)(v:l.size<=40000000)(x:r.size<=40000000):CB 267 #[ad l,ad r] w (ad (rn l r)):=by
 go_enter func267,ntmps267
 go_wp2_with fail
 refine(EN w).mono ?_;rintro e C ⟨⟨y,rfl,g⟩,f⟩;obtain⟨s,rfl,-⟩:=g.form
 go_wp2_with fail
 refine(om (a.below f) g ⟨#[1]⟩ (by show 0+1<=_;omega)).mono ?_;rintro e D ⟨⟨z,rfl,h⟩,n⟩;obtain⟨t,rfl,-⟩:=h.form;have b:=f.trans (n.mono f.size)
 go_wp2_with fail
 refine(om (a.below b) h l (by show 0+1+l.size<=_;omega)).mono ?_;rintro e E ⟨⟨A,rfl,i⟩,o⟩;obtain⟨u,rfl,-⟩:=i.form;have c:=b.trans (o.mono b.size)
 go_wp2_with fail
 refine(om (a.below c) i r (by simp;omega)).mono ?_;rintro e F ⟨⟨B,rfl,j⟩,p⟩;obtain⟨k,rfl,-⟩:=j.form;have m:jx (aG k) (1::(l.data.toList++r.data.toList)):=j;have d:=c.trans (p.mono c.size)
 go_wp2_with fail
 refine(Ck (a.below d) m (by simp;omega)).mono ?_;rintro e G ⟨rfl,q⟩
 go_wp2
 go_ret
 exact⟨rfl,d.trans (q.mono d.size)⟩
variable{n:Nat}
namespace TreeM
abbrev B:=af
def split(n:Nat):Nat:=if n<=1 then 0 else 2^Nat.log2 (n-1)
def EL(h:2<=n):split n=2^Nat.log2 (n-1):=by unfold split;grind
def EK(h:2<=n):1<=split n:=by rw[EL h];grind
def EJ(h:2<=n):split n<n:=by
 rw[EL h];have:=Nat.log2_self_le (n:=n-1) W;omega
def mH:Nat->List B->B
 |0,l=>match l with
  |[]=>od ⟨#[]⟩
  |d::_=>yy d
 |f+1,l=>if l.length<=1 then(match l with|[]=>od ⟨#[]⟩|d::_=>yy d) else rn (mH f (l.take (split l.length))) (mH f (l.drop (split l.length)))
def aE(l:List B):B:=mH l.length l
def zg:∀(f:Nat) (l:List B),l.length<=1->mH f l=mH 0 l
 |0,l,h=>rfl
 |f+1,l,h=>by simp only[mH];grind
def v7:∀(f g:Nat) (l:List B),l.length<=f+1->l.length<=g+1->mH f l=mH g l
 |0,g,l,c,d=>(zg g l W).symm
 |f+1,0,l,c,d=>zg (f+1) l W
 |f+1,g+1,l,c,d=>by
  by_cases h:l.length<=1
  ·exact(zg _ _ h).trans (zg _ _ h).symm
  ·simp only[mH]
   rw[ar h,ar h]
   have a:=EJ (n:=l.length) W
   have b:=EK (n:=l.length) W
   rw[v7 f g (l.take _) (by grind) (by grind),v7 f g (l.drop _) (by grind) (by grind)]
def YJ:aE []=od ⟨#[]⟩:=rfl
def YK(d:B):aE [d]=yy d:=rfl
def Ly(l:List B)(h:2<=l.length):aE l=rn (aE (l.take (split l.length))) (aE (l.drop (split l.length))):=by
 have a:=EJ h;have b:=EK h
 conv=>lhs;unfold aE;rw[v7 l.length (l.length-1+1) l W W]
 simp only[mH];rw[ar W];unfold aE;rw[v7 (l.length-1) (l.take (split l.length)).length _ (by grind) W,v7 (l.length-1) (l.drop (split l.length)).length _ (by grind) W]
def Ed(l:List B):(aE l).size=32:=by
 by_cases h:2<=l.length
 ·rw[Ly l h];rfl
 ·match l,h with
  |[],_=>rfl
  |[d],_=>rfl
  |_::_::_,h=>simp at h
end TreeM
section
open TreeM
def aan:∀(i:Nat) (h:i<Lib.len8tab.size),Lib.len8tab[i].toNat=Lib.bitLen i:=by
 have h:∀n:Fin 256,(Lib.len8tab[n.val]'(by rw[Lib.len8tab_size];exact n.isLt)).toNat=Lib.bitLen n.val:=by decide+kernel
 exact λ i a=>h ⟨i,by rw[Lib.len8tab_size] at a;exact a⟩
def UP(x:Int)(w:aa)(b:0<=x)(h1:x<=18446744073709551615):
 Calls prog 311 #[U x] w λ e a=>e=ao (O (Lib.bitLen x.toNat))/\a=w:=by
 go_enter func311,ntmps311
 go_wp2
 all_goals first
  |(exfalso;have:=Lib.len8tab_size;omega)
  |(go_ret;refine⟨congrArg Ending.returned (congrArg (Value.int IntKind.i64) ?_),rfl⟩)
 all_goals rw[aan]
 all_goals first
  |(have e:(x/4294967296/65536/256).toNat=x.toNat/72057594037927936:=W;have l:=Lib.bitLen_le (x.toNat/72057594037927936) 8 W W;have s:=Lib.bitLen_shift56 x.toNat W W;simp only[e] at*;unfold wrap64;omega)
  |(have e:(x/4294967296/65536).toNat=x.toNat/281474976710656:=W;have l:=Lib.bitLen_le (x.toNat/281474976710656) 8 W W;have s:=Lib.bitLen_shift48 x.toNat W W;simp only[e] at*;unfold wrap64;omega)
  |(have e:(x/4294967296/256).toNat=x.toNat/1099511627776:=W;have l:=Lib.bitLen_le (x.toNat/1099511627776) 8 W W;have s:=Lib.bitLen_shift40 x.toNat W W;simp only[e] at*;unfold wrap64;omega)
  |(have e:(x/4294967296).toNat=x.toNat/4294967296:=W;have l:=Lib.bitLen_le (x.toNat/4294967296) 8 W W;have s:=Lib.bitLen_shift32 x.toNat W W;simp only[e] at*;unfold wrap64;omega)
  |(have e:(x/65536/256).toNat=x.toNat/16777216:=W;have l:=Lib.bitLen_le (x.toNat/16777216) 8 W W;have s:=Lib.bitLen_shift24 x.toNat W W;simp only[e] at*;unfold wrap64;omega)
  |(have e:(x/65536).toNat=x.toNat/65536:=W;have l:=Lib.bitLen_le (x.toNat/65536) 8 W W;have s:=Lib.bitLen_shift16 x.toNat W W;simp only[e] at*;unfold wrap64;omega)
  |(have e:(x/256).toNat=x.toNat/256:=W;have l:=Lib.bitLen_le (x.toNat/256) 8 W W;have s:=Lib.bitLen_shift8 x.toNat W W;simp only[e] at*;unfold wrap64;omega)
  |(have l:=Lib.bitLen_le x.toNat 8 W W;unfold wrap64;omega)
def GR:∀(f x:Nat),x<f->1<=x->x<2^64->Lib.bitLen x=x.log2+1
 |0,x,h,_,_=>by omega
 |f+1,x,h,c,b=>by
  rw[Lib.bitLen_half x W b,Nat.log2_def]
  by_cases a:2<=x
  ·rw[au a,GR f (x/2) W W W];omega
  ·rw[ar a,show x/2=0 by omega];rfl
def ZL(n:Nat)(i:n<18446744073709551616)(w:aa):
 Calls prog 293 #[U (n:Int)] w λ e b=>e=ao (U (split n:Int))/\b=w:=by
 by_cases h:n<=1
 ·have a:split n=0:=by unfold split;rw[au h]
  rw[a]
  have b:(n:Int)<=1:=by omega
  go_enter func293,ntmps293
  go_wp2
  go_ret
  exact⟨rfl,rfl⟩
 ·have b:¬(n:Int)<=1:=by omega
  have a:=EL (n:=n) W
  have f:=GR n (n-1) W W W
  have g:(n-1).log2<64:=(Nat.log2_lt W).2 W
  have d:((n:Int)-1).toNat=n-1:=by omega
  rw[a]
  generalize(n-1).log2=q at*
  have e1:IntKind.i64.wrap ((q:Int)+1-1)=(q:Int):=by rw[show(q:Int)+1-1=q by omega];exact aO _ W
  have e2:IntKind.u64.wrap ((n:Int)-1)=(n:Int)-1:=by show((n:Int)-1)%18446744073709551616=_;omega
  go_enter func293,ntmps293
  go_wp2_with fail
  refine(UP _ _ W W).mono ?_
  rintro e k ⟨rfl,rfl⟩
  rw[d,f]
  go_wp2
  go_ret
  have e3:IntKind.u64.wrap (2^q)=((2^q:Nat):Int):=by
   have j:2^q<2^64:=Nat.pow_lt_pow_right zD g
   have c:(2:Int)^q=((2^q:Nat):Int):=(qd 2 q).symm
   rw[c]
   show((2^q:Nat):Int)%18446744073709551616=_
   omega
  exact⟨congrArg (λ z=>Ending.returned (Value.int .u64 z)) e3,rfl⟩
end
section
open TreeM
def bq.take{w:aa}{A:Option Addr}{l a:Nat}{L:List af}(h:bq w (ag A l a) L)(k:Nat)(q:k<=L.length):bq w (ag A k a) (L.take k):=by
 obtain⟨m,n,g,r,f⟩:=h;injection g with e1 e2 e3;subst e1 e2 e3;have j:(L.take k).length=k:=by rw[eA];omega
 refine⟨A,a,by rw[j],by omega,λ i p=> ?_⟩;obtain⟨b,o,c,d,e⟩:=f i W;exact⟨b,o,c,⟨d.1,by omega⟩,by rw[FW];exact e⟩
def bq.drop{w:aa}{b o:Nat}{l a:Nat}{L:List af}(h:bq w (ag (some ⟨b,o,none⟩) l a) L)(k:Nat)(r:k<=L.length):bq w (ag (some ⟨b,o+k,none⟩) (L.length-k) (a-k)) (L.drop k):=by
 obtain⟨m,p,g,s,f⟩:=h;injection g with e1 e2 e3;subst e1 e2 e3;have j:(L.drop k).length=L.length-k:=lT;refine⟨some ⟨b,o+k,none⟩,a-k,by rw[j],by omega,λ i q=> ?_⟩;obtain⟨n,t,c,d,e⟩:=f (k+i) W;injection c with c;injection c with e4 e5 _;subst e4 e5;exact⟨b,o+k,rfl,⟨d.1,by omega⟩,by rw[List.getElem_drop,<-e,xb]⟩
end
section
open TreeM
structure uy(w:aa)(g1 g3:Nat)(A:Option Addr)(cap:Nat)(L:List af):Prop where
 c1:w.cell? ⟨g1,0,none⟩=some (ag A L.length cap)
 c3:w.cell? ⟨g3,0,none⟩=some (.func (.func 313) #[] #[pV g1,pV g3])
 rd:bq w (ag A L.length cap) L
 dQ:de w
def uy.below{w e:aa}{c d:Nat}{A:Option Addr}{b:Nat}{L:List af}(h:uy w c d A b L)(a:BW w e):uy e c d A b L:=
 ⟨qH a rfl h.c1,qH a rfl h.c3,h.rd.below a rfl,h.dQ.below a⟩
def YN(B C:Nat)(A:Option Addr)(M:Nat)(L:List af)(y:∀s∈L,s.size<=80000000)(a8:L.length<1000000):∀(f a b:Nat) (w:aa),b-a<=f->a<b->b<=L.length->uy w B C A M L->
 CB 313 #[O (a:Int),O (b:Int),pV B,pV C] w (ad (aE ((L.drop a).take (b-a)))):=by
 intro f
 induction f with
 |zero=>intro a b w a4 p;omega
 |succ f q=>
  intro a b w G a5 a6 g
  have u:=(L.drop a).length_take (i:=b-a)
  have E:(L.drop a).length=L.length-a:=lT
  obtain⟨m,x⟩:∃m,b-a=m:=⟨_,rfl⟩
  have e1:IntKind.i64.wrap ((b:Int)-(a:Int))=(m:Int):=by rw[show(b:Int)-(a:Int)=(m:Int) by omega];exact aO _ W
  by_cases p:2<=m
  ·have e:((L.drop a).take m).length=m:=by rw[<-x,u];omega
   have N:=EK p
   have P:=EJ p
   have c:=Ly ((L.drop a).take m) (by rw[e];exact p)
   rw[e] at c
   have k:=ZL m W
   obtain⟨s,t⟩:∃s,split m=s:=⟨_,rfl⟩
   rw[t] at N P c k
   obtain⟨K,d⟩:∃K,a+s=K:=⟨_,rfl⟩
   have l:((L.drop a).take m).take s=(L.drop a).take (K-a):=by rw[List.take_take];congr 1;omega
   have o:((L.drop a).take m).drop s=(L.drop K).take (b-K):=by rw[List.drop_take,List.drop_drop,d];congr 1;omega
   rw[l,o] at c
   have D:=λ j (h:BW w j)=>q a K j W W W (g.below h)
   have F:=λ j (h:BW w j)=>q K b j W W W (g.below h)
   have I:ai (rn (aE ((L.drop a).take (K-a))) (aE ((L.drop K).take (b-K)))=aE ((L.drop a).take (b-a))):=Z (by rw[x];exact c.symm)
   have s1:(aE ((L.drop a).take (K-a))).size<=40000000:=by rw[Ed];decide
   have s2:(aE ((L.drop K).take (b-K))).size<=40000000:=by rw[Ed];decide
   have z:=g.c3
   have r:=Z g.dQ
   clear q c l o g E u e y t G
   generalize aE ((L.drop a).take (b-a))=R at*
   generalize aE ((L.drop a).take (K-a))=b1 at*
   generalize aE ((L.drop K).take (b-K))=b2 at*
   have G:=Z D;have H:=Z F;have J:=Z k
   clear D F k
   have b0:((m:Int)==1)=false:=by rw[dP];omega
   have e2:IntKind.u64.wrap (m:Int)=(m:Int):=by show(m:Int)%18446744073709551616=_;omega
   have e3:IntKind.i64.wrap (s:Int)=(s:Int):=aO _ W
   have e4:IntKind.i64.wrap ((a:Int)+(s:Int))=(K:Int):=by rw[show(a:Int)+(s:Int)=(K:Int) by omega];exact aO _ W
   go_enter func313,ntmps313
   go_wp2_with fail
   refine(J.U _).mono ?_
   rintro e T ⟨rfl,rfl⟩
   go_wp2_with fail
   rename aa=>w0
   have l:ai (BW w0 w0):=Z (bp _ _)
   refine mN (n:=9) (S:=λ j=>BW w0 j) V V (gv (bp _ _) 1) (λ c=> ?_)
   refine ay.take (i:=0) (oi:=_) (v:=?vy1) rfl zD V V (λ _ _ _ h=>h) (Or.inl ⟨by kernel_rfl,?Tw⟩) zA ?_
   case Tw=>(intro j t;have q3:=qH t rfl z;go_simp;try(with_reducible rfl))
   try simp only[Act.put,aS]
   refine VW [1,2] zA ?_
   refine ay.take (i:=4) (oi:=_) (v:=?vy4) rfl zD V V (λ _ _ _ h=>h) (Or.inl ⟨by kernel_rfl,?Tx⟩) zA ?_
   case Tx=>(intro j t;have q3:=qH t rfl z;go_simp;try(with_reducible rfl))
   try simp only[Act.put,aS]
   refine VW [5,6] zA ?_
   refine ay.one (i:=3) (o:=?oy7) V zD ?Tn ?adN
   case Tn=>(simp only[sG];exact rfl)
   intro K d
   go_simp
   refine(G.U _ c).mono ?_
   rintro e x3 ⟨rfl,k⟩
   have D:BW w0 x3:=fL c (dy k (ee c))
   clear k c
   go_simp
   refine d.out _ _ D (λ c=> ?_)
   clear D
   clear d K
   try simp only[aS]
   refine ay.one (i:=7) (o:=?oy8) V zD ?To ?adO
   case To=>(simp only[sG];exact rfl)
   intro K d
   go_simp
   refine(H.U _ c).mono ?_
   rintro e x7 ⟨rfl,k⟩
   have D:BW w0 x7:=fL c (dy k (ee c))
   clear k c
   go_simp
   refine d.out _ _ D (λ c=> ?_)
   clear D
   clear d K
   try simp only[aS]
   refine ay.one (i:=8) (o:=?oy9) V zD ?Tp ?adP
   case Tp=>(simp only[sG];exact rfl)
   intro K d
   go_simp
   refine(V6 (r.U.below (fL l.U (dy c l.U.size))) _ _ s1 s2).mono ?_
   rintro e x8 ⟨rfl,k⟩
   have D:BW w0 x8:=fL c (dy k (ee c))
   clear k c
   go_simp
   refine d.out _ _ D (λ c=> ?_)
   clear D
   clear d K
   try simp only[aS]
   refine ay.tail V ?_
   have D:=Z (fL l.U (dy c l.U.size));clear c
   simp only[ck,bH]
   go_wp2
   go_ret
   exact⟨by rw[<-I.U];rfl,D.U⟩
  ·obtain rfl:m=1:=by omega
   have hx:=g.rd
   obtain⟨X,a3,F,-,c⟩:=hx
   injection F with Q q2 q3
   subst Q q3
   obtain⟨bb,o,rfl,-,a7⟩:=c a W
   have k:(L.drop a).take (b-a)=[L[a]]:=by
    rw[x,iQ (show a<L.length by omega)];rfl
   rw[k,YK]
   have a9:=y L[a] (eR _)
   have a2:=g.c1
   have r:=Z g.dQ
   generalize L[a]=d at*
   have a0:(0:Int)<=(a:Int):=by omega
   have a1:(a:Int)<(L.length:Int):=by omega
   clear q y c g k E u
   go_enter func313,ntmps313
   go_wp2_with fail
   refine(UL r.U d W).mono ?_
   rintro e T ⟨rfl,c⟩
   go_wp2
   go_ret
   exact⟨rfl,c⟩
def YI{w:aa}(B:de w){v:ab}{L:List af}(h:bq w v L)(t:∀s∈L,s.size<=80000000)(q:L.length<1000000):
 CB 298 #[v] w (ad (aE L)):=by
 obtain⟨A,a,rfl,r,s⟩:=id h
 have m:=bJ w (.cells #[ag A L.length a] 64)
 have l:ah (w.alloc (.cells #[ag A L.length a] 64)) w.heap.size 64 #[ag A L.length a]:=ah.new _ _ _
 have g:=l.cell 0
 simp only[sG] at g
 obtain⟨c,k⟩:∃c,Value.func (.func 313) #[] #[pV w.heap.size,.pointer (some ⟨w.heap.size+1,0,none⟩)]=c:=⟨_,rfl⟩
 obtain⟨b,f⟩:∃b,(w.alloc (.cells #[ag A L.length a] 64)).alloc (.cells #[c] 269)=b:=⟨_,rfl⟩
 have i:BW w b:=by rw[<-f];exact m.trans ((bJ _ _).mono zS)
 have u:b.cell? ⟨w.heap.size,0,none⟩=some (ag A L.length a):=by rw[<-f];exact qH (bJ _ _) rfl g
 have p:b.cell? ⟨w.heap.size+1,0,none⟩=some c:=by
  have d:ah ((w.alloc (.cells #[ag A L.length a] 64)).alloc (.cells #[c] 269)) (w.alloc (.cells #[ag A L.length a] 64)).heap.size 269 #[c]:=ah.new _ _ _
  rw[xx,f] at d
  exact d.cell 0
 have j:uy b w.heap.size (w.heap.size+1) A a L:=⟨u,by rw[p,k],h.below i rfl,B.below i⟩
 rw[<-k] at p f
 have D:L.length<=9223372036854775807:=r
 by_cases z:L.length=0
 ·obtain rfl:=List.length_eq_zero_iff.1 z
  rw[YJ]
  have d:=Z i;have y:=Z j.dQ
  clear j s h t r q m l g k
  simp only[ub] at u p f⊢
  go_enter func298,ntmps298
  go_wp2_with fail
  refine(Z8 y.U ⟨#[]⟩ zD).mono ?_
  rintro e C ⟨rfl,o⟩
  go_wp2
  go_ret
  exact⟨rfl,d.U.trans (o.mono d.U.size)⟩
 ·have n:=YN w.heap.size (w.heap.size+1) A a L t q L.length 0 L.length b W W (aQ _) j
  rw[kd,AX,bK (aQ _),show((0:Nat):Int)=0 from rfl] at n
  have x:=Z n;have d:=Z i
  have E:((L.length:Int)==0)=false:=by rw[dP];omega
  clear j s h t r q m l g k n
  generalize aE L=R at*
  generalize L.length=n at*
  go_enter func298,ntmps298
  go_wp2_with fail
  refine x.U.mono ?_
  rintro e C ⟨rfl,o⟩
  go_wp2
  go_ret
  exact⟨rfl,d.U.trans (o.mono d.U.size)⟩
end
namespace TreeM
def ES:Nat->Nat->Nat->List (Bool×Nat)
 |0,_,_=>[]
 |f+1,m,n=>if m<n then(if m<=split n then(true,split n)::ES f m (split n) else(false,split n)::ES f (m-split n) (n-split n)) else []
def steps(m n:Nat):List (Bool×Nat):=ES n m n
def BI:List (Bool×Nat)->List B->List B
 |[],l=>[aE l]
 |(true,k)::a,l=>aE (l.drop k)::BI a (l.take k)
 |(false,k)::a,l=>aE (l.take k)::BI a (l.drop k)
def O6(m:Nat)(l:List B):List B:=(BI (steps m l.length) l).reverse
def hd(q:List B):B:=q.headD ⟨#[]⟩
def imp:List (Bool×Nat)->List B->B×B
 |[],q=>(hd q,hd q)
 |(true,_)::a,q=>((imp a q.tail).1,rn (imp a q.tail).2 (hd q))
 |(false,_)::a,q=>(rn (hd q) (imp a q.tail).1,rn (hd q) (imp a q.tail).2)
def own(k:Nat)(l:List B):B×B:=(aE (l.take k),aE (l.drop k))
end TreeM
variable{g:Nat}
section
open TreeM
def wy(a:List (Bool×Nat)):List ab:=a.flatMap λ s=>[aK s.1,U (s.2:Int)]
def Mn:∀(a:List (Bool×Nat)) (i:Nat) (h:i<a.length),(wy a)[i*2]?=some (aK a[i].1)/\(wy a)[i*2+1]?=some (U (a[i].2:Int))
 |s::a,0,_=>⟨rfl,rfl⟩
 |s::a,i+1,h=>by
  have:=Mn a i (by simpa using h)
  have e:wy (s::a)=aK s.1::U (s.2:Int)::wy a:=rfl
  rw[e,show(i+1)*2=i*2+1+1 by omega]
  simpa using this
def qx(b:Nat)(w:aa)(v:ab)(a:List (Bool×Nat)):Prop:=w.ownsRow b 328 2 v a.length (wy a)
def NI(w:aa)(v:ab)(a:List (Bool×Nat)):Prop:=∃(A:Option Addr) (c:Nat),v=ag A a.length c/\a.length<=maxLen/\∀i (h:i<a.length),∃b o,A=some ⟨b,o,none⟩/\(b<w.heap.size/\a.length<=c)/\w.cell? ⟨b,o+i*2,none⟩=some (aK a[i].1)/\w.cell? ⟨b,o+i*2+1,none⟩=some (U (a[i].2:Int))
def qx.read{base:Nat}{w:aa}{v:ab}{b:List (Bool×Nat)}(h:qx base w v b)(j:b.length<=maxLen):NI w v b:=by
 rcases h.2 with⟨a,c⟩|⟨g,k,m,a,o,l,c,p,n,q⟩
 ·exact⟨none,0,by rw[a,c],j,λ i f=>by omega⟩
 ·refine⟨some ⟨g,0,none⟩,k,a,j,λ i f=> ?_⟩;obtain⟨e1,e2⟩:=Mn b i f;subst a;have d:=h.cells rfl _ _ e1;have e:=h.cells rfl _ _ e2;rw[gp] at d e;exact⟨g,0,rfl,⟨(mT.1 l).1,c⟩,d,by rw[xb];exact e⟩
def qx.nil(a:Nat)(w:aa):qx a w (ag none 0 0) []:=di _ _ _ _
def qx.below{w b:aa}{v:ab}{a:List (Bool×Nat)}(h:qx g w v a)(c:BW w b):qx g b v a:=DB h c
end
def abV(L:List af):Bool:=L.all (λ s=>s.size==32)
section
open TreeM
def JF(m n:Nat):Bool:=decide (1<=m)&&decide (m<=n)&&decide (n<=1099511627776)
def Z2(m n:Nat):Nat:=if JF m n=true then(steps m n).length+1 else 0
def abU(L:List af)(k:Nat):Bool:=decide (L.length=k)&&abV L
end
variable{k:Nat}{A:Option Addr}
section
open Go.Shelf TreeM
attribute [local go_sem] Oper.semAt_some
def Ar(e c d:Nat)(a:aa)(A:Option Addr)(L:List (Bool×Nat)):Prop:=∀i (h:i<L.length),∃b o,A=some ⟨b,o,none⟩/\(b<e/\b≠c/\b≠d)/\a.cell? ⟨b,o+i*2,none⟩=some (aK L[i].1)/\a.cell? ⟨b,o+i*2+1,none⟩=some (U (L[i].2:Int))
def KX(d b c:Nat)(e a:aa):Prop:=∀k,k<d->k≠b->k≠c->a.heap[k]?=e.heap[k]?
def KX.refl(d b c:Nat)(a:aa):KX d b c a a:=λ _ _ _ _=>rfl
def KX.trans{c a b:Nat}{A B C:aa}(h:KX c a b A B)(k:KX c a b B C):KX c a b A C:=λ i d e f=>(k i d e f).trans (h i d e f)
def KX.cell{e c d:Nat}{f a:aa}(h:KX e c d f a){b o:Nat}(h1:b<e)(h2:b≠c)(h3:b≠d):a.cell? ⟨b,o,none⟩=f.cell? ⟨b,o,none⟩:=World.jI (h b h1 h2 h3)
def KX.put(a:aa)(l:Nat)(b:Obj)(d:g<=l):KX g n k a (a.putObj l b):=λ i c _ _=>World.putObj_heap_other W
def Ar.kept{e c:aa}{L:List (Bool×Nat)}(h:Ar g n k e A L)(d:KX g n k e c):Ar g n k c A L:=λ i m=>by
 obtain⟨b,o,f,a,j,l⟩:=h i m;exact⟨b,o,f,a,(d.cell a.1 a.2.1 a.2.2).trans j,(d.cell a.1 a.2.1 a.2.2).trans l⟩
end
section
open TreeM
def vt(m n:Nat)(P:List af):Int:=if JF m n=true then(if abU P (Z2 m n)=true then 0 else 11) else 1
def CK(m n:Nat)(P:List af):af:=if vt m n P=0 then(imp (steps m n) P.reverse).1 else⟨#[]⟩
def CL(m n:Nat)(P:List af):af:=if vt m n P=0 then(imp (steps m n) P.reverse).2 else⟨#[]⟩
def O5(m:Int)(n:Nat):Bool:=decide (1<=m)&&decide (m<=(n:Int))
def O4(m:Int)(L:List af):List af:=if O5 m L.length=true then O6 m.toNat L else []
end
section
open TreeM
def BD.bX(x:BD):Bool:=
 x.right&&(if x.a.size=x.b.size then(!decide (x.a.aE=x.b.aE)&&(decide (x.e.length=0)&&decide (x.a.ahead x.b<0)))
  else(decide (vt x.a.size x.b.size x.e=0)&&(decide (CL x.a.size x.b.size x.e=x.b.aE)&& !decide (CK x.a.size x.b.size x.e=x.a.aE))))
def rE(a b:af):(a.toList==b.toList)=decide (a=b):=by
 rw[bw,gb,jL,uP]
def wv(a b:af):(a.toList=b.toList)=(decide (a=b)=true):=by rw[ej,uP]
def OL(a b:Int):(a==b)=decide (a=b):=by rw[bw,gb,jL]
def yL(x:BD)(f:ab)(w:aa)(c:x.a.size=x.b.size)(d:bq w f x.e):CB 142 #[x.val f] w (aK x.bX):=by
 have p1:=λ(a:aa) (h:BW w a)=>Cq x f a (d.below h rfl);have p2:=λ(a:aa)=>SO x.a x.b a;obtain⟨A,u,rfl⟩:=d.form;obtain⟨R,b⟩:∃R,x.bX=R:=⟨_,rfl⟩;rw[b];unfold BD.bX at b;rw[au c] at b;have f1:((x.a.size:Int)==(x.b.size:Int))=true:=by rw[c];simp
 have f2:=wv x.a.aE x.b.aE;have r:=rE x.a.aE x.b.aE;have f3:((x.e.length:Int)==0)=decide (x.e.length=0):=by rw[bw];simp
 obtain⟨q,a⟩:∃q,x.a.ahead x.b=q:=⟨_,rfl⟩;rw[a] at b p2;clear a c;generalize x.right=n at*;generalize decide (x.a.aE=x.b.aE)=o at*;generalize decide (x.e.length=0)=p at*;generalize y:decide (q<0)=t at*;have h:=Z p1;have i:=Z p2;have a:=Z (ae.start w []);have e:=Z b;clear p1 p2 b d;obtain⟨⟨j,k,l,m⟩,⟨d1,d2,d3,d4⟩,L⟩:=x;simp only at f1 f2 r f3
 go_enter func142,ntmps142
 cases n
 rotate_left;focus
  cases o
  focus
   simp only[eG] at f2;cases p
  rotate_left 2;focus simp only[vi] at f2
 all_goals
  have g:=e.U;simp only[sB,↓reduceIte,eG] at g;subst g;clear e
  go_wp2_with(first|refine KT a 9 ?_|refine Kl a ?_|refine KT a 4 ?_|refine KB a 66 1 (BD.cells ⟨⟨j,k,l,m⟩,⟨d1,d2,d3,d4⟩,L⟩ _) λ v B z a=>?_|go_at_call 76;(refine(h.U _ a.U.aq).mono ?_);rintro e s ⟨rfl,b⟩;replace a:=Z (a.U.below b);clear b|go_at_call 211;(refine(i.U _).mono ?_);rintro e s ⟨rfl,b⟩;replace a:=Z (a.U.below b);clear b)
  go_ret
  exact⟨rfl,a.U.aq⟩
end
def MG.part(x:MG)(c:Nat):Bool:=
 if c=108 then decide (x.log<8) else if c=109 then(decide (1<=x.m)&&(decide (x.m<=x.n)&&decide (x.n<=1099511627776))) else if c=104 then x.h.right else if c=98 then x.b.bX
 else if c=112 then(decide (x.e.length<=48)&& !dj x.e) else if c=107 then vA x.aP else true
def WX(x:MG)(pB l pM:ab)(w:aa)(o:de w)(d:x.Rd w pB l pM)(k:x.aP.length<=1000000)(c:Nat)(p:qf c)(j:x.b.a.size=x.b.b.size):
 CB 175 #[x.val pB l pM,.int .i32 (c:Int)] w (aK (x.part c)):=by
 have p1:=λ(a:aa)=>vq x.h a
 have p2:=λ(a:aa) (h:BW w a)=>yL x.b pB a j (d.b.below h rfl)
 have p3:=λ(a:aa) (h:BW w a)=>PO (d.p.below h rfl)
 have p4:=λ(a:aa) (h:BW w a)=>Vq x.aP k pM (d.m.below h)
 obtain⟨s,v,rfl⟩:=d.b.form
 obtain⟨u,z,rfl⟩:=d.p.form
 obtain⟨t,y,rfl⟩:=d.m.jN
 have g:=Z p1;have h:=Z p2;have m:=Z p3;have i:=Z p4
 have b:=Z (ae.start w [])
 clear p1 p2 p3 p4 o d k j
 obtain⟨R,a⟩:∃R,x.part c=R:=⟨_,rfl⟩
 rw[a]
 unfold MG.part at a
 rcases p with rfl|rfl|rfl|rfl|rfl|rfl|rfl|rfl
 all_goals simp only[Nat.reduceEqDiff,↓reduceIte] at a
 focus
  have e1:decide ((x.log:Int)<8)=decide (x.log<8):=by rw[bw];simp;omega
  rw[a] at e1
  clear a
 rotate_left
 focus subst a
 rotate_left
 focus
  have e1:decide ((1:Int)<=(x.m:Int))=decide (1<=x.m):=by rw[bw];simp;omega
  have e3:decide ((x.n:Int)<=1099511627776)=decide (x.n<=1099511627776):=by rw[bw];simp;omega
  generalize decide (1<=x.m)=e at*
  generalize q:decide (x.m<=x.n)=f at*
  generalize decide (x.n<=1099511627776)=n at*
  cases e
  focus
   simp only[kH] at a
   subst a
  rotate_left
  focus
   cases f
   focus
    simp only[kH,wM] at a
    subst a
   rotate_left
   focus
    simp only[gW] at a
    subst a
 rotate_left 3
 focus subst a
 rotate_left
 focus
  rw[a] at g
  clear a
 rotate_left
 focus
  rw[a] at h
  clear a
 rotate_left
 focus
  have e1:decide ((x.e.length:Int)<=48)=decide (x.e.length<=48):=by rw[bw];simp;omega
  generalize decide (x.e.length<=48)=e at*
  generalize dj x.e=f at*
  cases e
  focus
   simp only[kH] at a
   subst a
  rotate_left
  focus
   simp only[gW] at a
   subst a
 rotate_left 2
 focus
  rw[a] at i
  clear a
 all_goals
  go_enter func175,ntmps175
  go_wp2_with(first|refine KT b 9 ?_|refine KT b 4 ?_|refine KB b 81 2 (x.cells _ _ _) λ n r q b=>?_|refine Kl b ?_|refine KB b 81 2 (x.cells _ _ _) λ n r q b=>?_|go_at_call 243;(refine(i.U _ b.U.aq).mono ?_);rintro e f ⟨rfl,a⟩;replace b:=Z (b.U.below a);clear a|go_at_call 154;(refine(m.U _ b.U.aq).mono ?_);rintro e f ⟨rfl,rfl⟩|go_at_call 142;(refine(h.U _ b.U.aq).mono ?_);rintro e f ⟨rfl,a⟩;replace b:=Z (b.U.below a);clear a|go_at_call 153;(refine(g.U _).mono ?_);rintro e f ⟨rfl,a⟩;replace b:=Z (b.U.below a);clear a)
  go_ret
  exact⟨rfl,b.U.aq⟩
section
section
variable{P:Program}{Q:Exit->Act->aa->Prop}{S:aa->Prop}{n:Nat}{l:List Oper}{i f:Nat}{o:Oper}{listed:Array Bool}{a:Act}{w:aa}
def ay.xJ(D:Region.ready .any l.toArray listed=[i])(A:i<n)(C:l.toArray[i]?=some o)(F:Region.wanted o (yielded l.toArray a.tmps)=true)(k:Tmp)(hd:o.dst=some k){c:Call}(t:o.op= .call c)(j:FuncId)(z:c.callee= .value (.func j))
 (y:∀d b,(callFunc j d).run P b= .ok (.enter j d) b) (m:List ab) (E:c.args.toList.mapM (fk a)=some m)
 (h:Calls P j m.toArray w λ e b=>∃v,e=ao v/\S b/\ay P l Q S n f (listed.setIfInBounds i true) {a with tmps:=a.tmps.setIfInBounds k v} b):ay P l Q S n (f+1) listed a w:=by
 refine ay.one D A C (λ H s=> ?_)
 rw[au F]
 have B:∀(d:List Operand) (g:List ab),d.mapM (fk a)=some g->d.map a.eval=g:=by
  intro d
  induction d with
  |nil=>intro g h;simp at h;simp[h]
  |cons x d G=>
   intro g h
   rw[AG] at h
   cases hx:fk a x with
   |none=>rw[hx] at h;cases h
   |some u=>
    rw[hx] at h
    cases p:d.mapM (fk a) with
    |none=>rw[p] at h;cases h
    |some q=>
     rw[p] at h
     have r:u::q=g:=by simpa using h
     rw[<-r,bZ,xT hx,G q p]
 refine tL t z (vs:=m.toArray) ?_ y (h.mono ?_)
 ·apply ju
  simpa using B _ _ E
 ·rintro e b ⟨v,rfl,p,q⟩
  refine⟨v,rfl,?_⟩
  refine s _ _ p (λ _=> ?_)
  rw[hd]
  exact q
end
def MG.right(x:MG):Bool:=jf x.c&&(decide (x=x.bare)&&(gh (gD x.c)).all x.part)
def JM(x:MG)(pB u pM:ab)(w:aa)(y:de w)(s:(Y.dQ 0 gC).P w)(r:x.Rd w pB u pM)(A:x.aP.length<=1000000)(z:x.b.a.size=x.b.b.size):
 CB 88 #[x.val pB u pM] w (aK x.right):=by
 have m:=Z r
 have t:=λ(j:aa) (h:BW w j)=>(Y.dQ 0 gC).st w j (λ k q=>h.block k ((Y.dQ 0 gC).lt _ s k q)) s
 have p0:=λ(j:aa)=>J1 x.c j
 have p2:=λ(c:Nat) (p:qf c) (j:aa) (h:BW w j)=>WX x pB u pM j (y.below h) (r.below h) A c p z
 obtain⟨R,g⟩:∃R,x.right=R:=⟨_,rfl⟩
 rw[g]
 unfold MG.right at g
 have k:jf x.c=true->x.c<11:=λ h=>by unfold jf at h;simp at h;exact h.2
 generalize jf x.c=a7 at*
 have d:=Z (ae.start w [])
 cases a7 with
 |false=>
  rw[kH] at g
  subst g
  have v:=Z p0
  clear p0 p2 k t y s r A z
  obtain⟨E,H,rfl⟩:=m.U.b.form
  obtain⟨G,J,rfl⟩:=m.U.p.form
  obtain⟨F,I,rfl⟩:=m.U.m.jN
  go_enter func88,ntmps88
  go_upto_region 1 with((refine KB d 81 1 (x.cells _ _ _) λ K C a8 d=>?_))
  refine RG d 10 [0] λ a9 d b=>?_
  refine VV [0,2001] b ?_
  clear b
  refine KV 2 (en 163) 7 ?_
  refine(v.U _).mono ?_;rintro e B ⟨rfl,rfl⟩
  refine⟨_,rfl,bI d [0],?_⟩
  simp only[aS,av,ax]
  have b:=bI d [0]
  refine VV [3,4,1005,1006,1007,1008,1009] b ?_
  clear b
  refine WT ?_
  go_wp2
  go_ret
  exact⟨rfl,d.U.aq⟩
 |true=>
  rw[gW] at g
  have q:x.c<11:=k rfl
  have p1:=λ(j:aa) (h:BW w j)=>OH x pB u pM j (r.below h) q (t j h)
  have j:=yi x.c q
  have h:=yh x.c
  generalize D:gD x.c=S at*
  have v:=Z p0;have a4:=Z p1;have a5:=Z p2;have a3:=Z t;have a0:=Z j;have N:=Z h
  have b2:(x.c:Int)<11:=by omega
  have b3:decide ((x.c:Int)<11)=true:=by simp;omega
  clear p0 p1 p2 k t y s r A j h D q z
  obtain⟨E,H,rfl⟩:=m.U.b.form
  obtain⟨G,J,rfl⟩:=m.U.p.form
  obtain⟨F,I,rfl⟩:=m.U.m.jN
  generalize p:decide (x=x.bare)=c at g
  have T:=Z p
  clear p
  go_enter func88,ntmps88
  go_upto_region 1 with((refine KB d 81 1 (x.cells _ _ _) λ K C a8 d=>?_))
  refine RG d 10 [0] λ a9 d b=>?_
  refine VV [0,2001] b ?_
  clear b
  refine KV 2 (en 163) 7 ?_
  refine(v.U _).mono ?_;rintro e B ⟨rfl,rfl⟩
  refine⟨_,rfl,bI d [0],?_⟩
  simp only[aS,av,ax]
  have b:=bI d [0]
  refine VV [3,4] b ?_
  refine WR 5 20 b ?_
  refine WR 6 20 b ?_
  clear b
  refine ay.xJ (i:=7) V zD rfl V 12 rfl rfl 174 rfl (en 174) _ rfl ?_
  refine(a4.U _ d.U.aq).mono ?_;rintro e B ⟨b4,b6,b5,rfl,h,j⟩;replace d:=Z (d.U.below h);clear h;have a2:=Z j;clear j
  refine⟨_,rfl,bI d [0],?_⟩
  simp only[aS,av,ax]
  refine ay.xJ (i:=8) V zD rfl V 13 rfl rfl 173 rfl (en 173) _ rfl ?_
  refine(VG x x.bare _ _ _ _ _ _ _ (m.U.below d.U.aq) a2.U).mono ?_;rintro e B ⟨rfl,h⟩;replace d:=Z (d.U.below h);clear h;rw[T.U]
  refine⟨_,rfl,bI d [0],?_⟩
  simp only[aS,av,ax]
  have b:=bI d [0]
  refine VV [9] b ?_
  clear b
  refine WT ?_
  cases c with
  |false=>
   rw[kH] at g
   subst g
   go_wp2
   go_ret
   exact⟨rfl,d.U.aq⟩
  |true=>
   rw[gW] at g
   have k:=Z g
   clear g
   go_wp2_with(first|refine Kl d ?_|refine wW rfl 9 rfl rfl ((zB (a3.U _ d.U.aq) _).trans a0.U) V ?_|(with_reducible show yg);(refine Rg d.U rfl 20 rfl rfl S rfl λ L C b0 g=>?_;replace d:=Z g;clear g))
   try simp only[Act.put,aS,av,ax]
   go_loopw [] (λ wr=>∃(j:Nat),j<=S.size/\ae w wr [] [Y.iter L S j,Y.row K 81 (x.cells (ag E x.b.e.length H) (ag G x.e.length J) (ag F x.aP.length I))]/\((gh S).drop j).all x.part=R) (λ wr=>S.size-iterPos wr L)
   case atStart=>exact⟨0,bf _,d.U,k.U⟩
   case round=>
    clear d k
    obtain⟨j,b1,b,q⟩:=hrel
    have d:=Z b;have k:=Z q
    have a1:=Z (iterPos_of (b.get (i:=0) rfl))
    clear b q
    by_cases q:j<S.size
    ·obtain⟨c,p,b⟩:=yA S q
     have t:=Z (N.U c (cX b))
     have X:=Z p
     have D:ai ((x.part c&&((gh S).drop (j+1)).all x.part)=R):=Z (by
      obtain⟨a6,q2⟩:=cw.1 b
      rw[<-k.U,iQ a6,List.all_cons,q2])
     have M:ai (c<128):=Z (by have:=t.U;unfold qf at this;omega)
     have a6:=Z (a5.U c t.U)
     clear p b k
     generalize h:x.part c=b at*
     clear h
     cases b
     all_goals
      go_wp2_with(first|refine KT d 20 ?_|(with_reducible show fl);(refine Nx d.U 0 rfl rfl rfl rfl q c X.U M.U λ C g=>?_;simp only[av,ax] at g;replace d:=Z g;clear g)|go_at_call 175;(refine(a6.U _ d.U.aq).mono ?_);rintro e p ⟨rfl,h⟩;replace d:=Z (d.U.below h);clear h)
     ·go_ret
      exact⟨by rw[<-D.U];rfl,d.U.aq⟩
     ·go_roundw
      case rel=>exact⟨j+1,by omega,d.U,by rw[<-D.U];rfl⟩
      case measure=>(rw[a1.U,iterPos_of (d.U.get (i:=0) rfl)];omega)
    ·obtain rfl:j=S.size:=by omega
     rw[tX (by rw[vz];exact aQ _)] at k
     have p:R=true:=k.U.symm
     subst p
     go_wp2_with(((with_reducible show fl);(refine xh d.U 0 rfl rfl rfl rfl q ?_)))
     go_ret
     exact⟨rfl,d.U.aq⟩
end
variable{h:HD}{r:Int}{G:MG}
structure MG.Ok(x:MG):Prop where
 id:x.id<18446744073709551616
 m:x.m<18446744073709551616
 n:x.n<18446744073709551616
 h:x.h.Ok
 b:x.b.Ok
 aP:∀k∈x.aP,k.size<18446744073709551616
 len:x.aP.length<=1000000
def MG.lE(x:MG)(z:WS)(c:Nat):WS:=
 if c=108 then z.byte (x.log:Int) else if c=105 then z.num x.id else if c=109 then z.num x.m else if c=110 then z.num x.n
 else if c=104 then z.head x.h else if c=98 then z.lb x.b else if c=112 then(z.num x.e.length).fQ x.e else(z.byte (x.aP.length:Int)).aP x.aP
def MG.enc(x:MG):af:=if x.right=true then((gh (gD x.c)).foldl x.lE ((⟨[],0⟩:WS).byte (x.c:Int))).text else⟨#[]⟩
def IN(k:Nat):(gD k).size<=5:=by
 rcases k with _|_|_|_|_|_|_|_|_|_|_|k;all_goals first|decide|(rw[show gD (k+11)=⟨#[]⟩ by unfold gD;simp];decide)
def Oq{L:List af}(h:dj L=false):∀s∈L,s.size=32:=by
 intro s a;unfold dj at h;rw[List.any_eq_false] at h;have:=h s a;unfold gm at this;simpa using this
def HD.Yv(a:h.right=true):h.aE.size<=100000/\h.a.size<=100000:=by
 unfold HD.right at a;simp only[dL,ej] at a;omega
def R3{k:MK}(h:k.eb r=true):k.aE.size<=1000:=by
 unfold MK.eb at h;simp only[Ag,Bool.or_eq_false_iff,Bool.not_eq_false',Bool.or_eq_true,dL,ej] at h;rcases h.2.2.2.1 with b|⟨_,a⟩
 ·omega
 ·rw[a];decide
def JC:∀(L:List MK) (q:Int),nN q L=true->∀k∈L,k.aE.size<=1000
 |[],_,_,k,a=>by cases a
 |x::L,q,h,k,a=>by
  rw[nN,dL] at h
  rcases bO.1 a with rfl|a
  ·exact R3 h.1
  ·exact JC L _ h.2 k a
structure MG.Nw(x:MG)(c:Nat):Prop where
 h:c=104->x.h.aE.size<=100000/\x.h.a.size<=100000
 b:c=98->x.b.right=true
 p:c=112->x.e.length<=48/\∀s∈x.e,s.size=32
 k:c=107->x.aP.length<=8/\∀k∈x.aP,k.aE.size<=1000
def WY{c:Nat}(h:G.part c=true):G.Nw c:=by
 refine⟨?_,?_,?_,?_⟩<;>rintro rfl<;>simp only[MG.part,Nat.reduceEqDiff,↓reduceIte] at h
 ·exact HD.Yv h
 ·unfold BD.bX at h;rw[dL] at h;exact h.1
 ·simp only[dL,ej,Ag] at h;exact⟨h.1,Oq h.2⟩
 ·unfold vA at h;rw[dL,ej] at h;exact⟨h.2,JC _ _ h.1⟩
def De(x:MG)(hx:x.Ok)(pB B pM:ab)(w:aa)(D:de w)(z:(Y.dQ 0 gC).P w)(A:x.Rd w pB B pM)(F:x.b.a.size=x.b.b.size):
 CB 30 #[x.val pB B pM] w (ad x.enc):=by
 have o:=Z A
 have f:=λ(a:aa) (h:BW w a)=>(Y.dQ 0 gC).st w a (λ k s=>h.block k ((Y.dQ 0 gC).lt _ z k s)) z
 have p1:=λ(a:aa) (h:BW w a)=>JM x pB B pM a (D.below h) (f a h) (A.below h) hx.len F
 have v:=Z hx
 have a:=Z (ae.start w [])
 cases b:x.right with
 |false=>
  have d:x.enc=⟨#[]⟩:=by unfold MG.enc;rw[b];rfl
  rw[d]
  rw[b] at p1
  have C:=Z p1
  clear p1 b d f D z A hx F
  obtain⟨N,R,rfl⟩:=o.U.b.form
  obtain⟨Q,X,rfl⟩:=o.U.p.form
  obtain⟨P,T,rfl⟩:=o.U.m.jN
  go_enter func30,ntmps30
  go_wp2_with(first|refine KT a 20 ?_|refine KB a 81 1 (x.cells _ _ _) λ a0 m b3 a=>?_|go_at_call 88;(refine(C.U _ a.U.aq).mono ?_);rintro e l ⟨rfl,y⟩;replace a:=Z (a.U.below y);clear y)
  go_ret
  exact⟨rfl,a.U.aq⟩
 |true=>
  have d:x.enc=((gh (gD x.c)).foldl x.lE ((⟨[],0⟩:WS).byte (x.c:Int))).text:=by unfold MG.enc;rw[b];rfl
  rw[d]
  rw[b] at p1
  have I:=b
  unfold MG.right at I
  rw[dL,dL,hl] at I
  obtain⟨g,-,n⟩:=I
  have s:x.c<11:=by unfold jf at g;simp at g;exact g.2
  have j:=yi x.c s
  have h:=yh x.c
  have c0:=IN x.c
  generalize p:gD x.c=S at*
  have C:=Z p1;have a9:=Z f;have a6:=Z j;have a4:=Z h;have a8:=Z n
  have b8:(x.c:Int)<11:=by omega
  have b9:decide ((x.c:Int)<11)=true:=by simp;omega
  clear p1 b d f D z A hx g n j h p s F
  have K:=Z (show(Y.sr pB x.b.e).P w from o.U.b)
  have M:=Z (show(Y.sr B x.e).P w from o.U.p)
  have L:=Z (show(Y.er 4 pM (x.aP.map MK.cells)).P w from o.U.m)
  obtain⟨N,R,rfl⟩:=o.U.b.form
  obtain⟨Q,X,rfl⟩:=o.U.p.form
  obtain⟨P,T,rfl⟩:=o.U.m.jN
  go_enter func30,ntmps30
  go_upto_region 4 with(first|refine KT a 20 ?_|refine KA a _ 3 zX λ b2 m b6 a=>?_|refine KB a 81 1 (x.cells _ _ _) λ a0 m b3 a=>?_|go_at_call 88;(refine(C.U _ a.U.aq).mono ?_);rintro e l ⟨rfl,y⟩;replace a:=Z (a.U.below y);clear y)
  replace a:=Z (a.U.yH)
  have d:ai ((⟨[],0⟩:WS).b.length<=0):=Z zS
  go_upto_region 5 with(first|refine Kl a ?_|go_at_call 89;(refine(uH (a.U.in mZ) d.U _ W).mono ?_);rintro e l ⟨rfl,h,g,f⟩;have b:=a.U.rep (by exact .head _) g;clear a d;have a:=Z b;have d:=Z f;clear b g f)
  obtain⟨y0,j⟩:∃y0,(⟨[],0⟩:WS).byte (x.c:Int)=y0:=⟨_,rfl⟩
  rw[j] at a d
  have b1:=Z j
  clear j
  go_wp2_with(first|refine Kl a ?_|refine wW rfl 9 rfl rfl ((zB (a9.U _ a.U.aq) _).trans a6.U) V ?_|(with_reducible show yg);(refine Rg a.U rfl 16 rfl rfl S rfl λ a1 m b5 b=>?_;replace a:=Z b;clear b))
  try simp only[Act.put,aS,av,ax]
  go_loopw [] (λ wr=>∃(j:Nat) (h:ab),j<=S.size/\ae w wr [] [Y.iter a1 S j,Y.wr b2 h (((gh S).take j).foldl x.lE y0),Y.row a0 81 (x.cells (ag N x.b.e.length R) (ag Q x.e.length X) (ag P x.aP.length T))]/\(((gh S).take j).foldl x.lE y0).b.length<=1+500001*j) (λ wr=>S.size-iterPos wr a1)
  case atStart=>exact⟨0,_,bf _,a.U,d.U⟩
  case round=>
   clear a d
   obtain⟨j,h,b7,t,f⟩:=hrel
   have a7:=Z (iterPos_of (t.get (i:=0) rfl))
   by_cases n:j<S.size
   focus
    obtain⟨c,a2,G⟩:=yA S n
    have H:=cX G
    have a5:=Z (a4.U c H)
    have r:=Z (WY (a8.U c H))
    have p:=Z a2
    have u:=Z (Ct x.lE y0 G)
    obtain⟨q,a3⟩:∃q,((gh S).take j).foldl x.lE y0=q:=⟨_,rfl⟩
    rw[a3] at t f u
    obtain⟨J,E⟩:∃J,1+500001*j=J:=⟨_,rfl⟩
    rw[E] at f
    have b4:J<=2500000:=by omega
    have a:=Z t;have d:=Z f;have b0:=Z E
    clear a2 G H t f a3 E
    rcases a5.U with rfl|rfl|rfl|rfl|rfl|rfl|rfl|rfl
   rotate_left 8
   ·obtain rfl:j=S.size:=by omega
    rw[bK (by rw[vz];exact aQ _)] at t f
    have a:=Z t;have d:=Z f
    clear t f
    go_wp2_with(first|(with_reducible show fl);(refine xh a.U 0 rfl rfl rfl rfl n ?_)|go_at_call 11;(refine(zN (a.U.in (by exact mQ mZ))).mono ?_);rintro e l ⟨rfl,rfl⟩)
    go_ret
    rw[b1.U]
    exact⟨rfl,a.U.aq⟩
   all_goals
    have q:=u.U
    simp only[MG.lE,Nat.reduceEqDiff,↓reduceIte] at q
    clear u
    have u:=Z q
    clear q
    go_wp2_with(first|refine KT a 9 ?_|(with_reducible show fl);(refine Nx a.U 0 rfl rfl rfl rfl n 98 p.U zD λ m b=>?_;simp only[av,ax] at b;replace a:=Z b;clear b)|go_at_call 92;(refine(Gq (a.U.in (by exact mQ mZ)) d.U x.b v.U.b (r.U.b rfl) W _ (a.U.zf K.U) (a.U.xW K.U (by exact mQ mZ))).mono ?_);rintro e l ⟨rfl,h,g,f⟩;have b:=a.U.rep (by exact .tail _ (.head _)) g;clear a d;have a:=Z b;have d:=Z f;clear b g f|refine KT a 4 ?_|(with_reducible show fl);(refine Nx a.U 0 rfl rfl rfl rfl n 104 p.U zD λ m b=>?_;simp only[av,ax] at b;replace a:=Z b;clear b)|go_at_call 91;(refine(Br (a.U.in (by exact mQ mZ)) d.U x.h v.U.h W (r.U.h rfl).1 (r.U.h rfl).2).mono ?_);rintro e l ⟨rfl,h,g,f⟩;have b:=a.U.rep (by exact .tail _ (.head _)) g;clear a d;have a:=Z b;have d:=Z f;clear b g f|refine Kl a ?_|(with_reducible show fl);(refine Nx a.U 0 rfl rfl rfl rfl n 107 p.U zD λ m b=>?_;simp only[av,ax] at b;replace a:=Z b;clear b)|go_at_call 94;(refine(NL (a.U.in (by exact mQ mZ)) d.U x.aP (r.U.k rfl).1 (λ k s=>⟨v.U.aP k s,(r.U.k rfl).2 k s⟩) W _ (a.U.zf L.U) (a.U.xW L.U (by exact mQ mZ))).mono ?_);rintro e l ⟨rfl,h,g,f⟩;have b:=a.U.rep (by exact .tail _ (.head _)) g;clear a d;have a:=Z b;have d:=Z f;clear b g f|(with_reducible show fl);(refine Nx a.U 0 rfl rfl rfl rfl n 112 p.U zD λ m b=>?_;simp only[av,ax] at b;replace a:=Z b;clear b)|go_at_call 93;(refine(NK (a.U.in (by exact mQ mZ)) d.U x.e (r.U.p rfl).1 (r.U.p rfl).2 W _ (a.U.zf M.U) (a.U.xW M.U (by exact mQ mZ))).mono ?_);rintro e l ⟨rfl,h,g,f⟩;have b:=a.U.rep (by exact .tail _ (.head _)) g;clear a d;have a:=Z b;have d:=Z f;clear b g f|(with_reducible show fl);(refine Nx a.U 0 rfl rfl rfl rfl n 110 p.U zD λ m b=>?_;simp only[av,ax] at b;replace a:=Z b;clear b)|go_at_call 90;(refine(oQ (a.U.in (by exact mQ mZ)) d.U _ W v.U.n).mono ?_);rintro e l ⟨rfl,h,g,f⟩;have b:=a.U.rep (by exact .tail _ (.head _)) g;clear a d;have a:=Z b;have d:=Z f;clear b g f|(with_reducible show fl);(refine Nx a.U 0 rfl rfl rfl rfl n 109 p.U zD λ m b=>?_;simp only[av,ax] at b;replace a:=Z b;clear b)|go_at_call 90;(refine(oQ (a.U.in (by exact mQ mZ)) d.U _ W v.U.m).mono ?_);rintro e l ⟨rfl,h,g,f⟩;have b:=a.U.rep (by exact .tail _ (.head _)) g;clear a d;have a:=Z b;have d:=Z f;clear b g f|(with_reducible show fl);(refine Nx a.U 0 rfl rfl rfl rfl n 105 p.U zD λ m b=>?_;simp only[av,ax] at b;replace a:=Z b;clear b)|go_at_call 90;(refine(oQ (a.U.in (by exact mQ mZ)) d.U _ W v.U.id).mono ?_);rintro e l ⟨rfl,h,g,f⟩;have b:=a.U.rep (by exact .tail _ (.head _)) g;clear a d;have a:=Z b;have d:=Z f;clear b g f|(with_reducible show fl);(refine Nx a.U 0 rfl rfl rfl rfl n 108 p.U zD λ m b=>?_;simp only[av,ax] at b;replace a:=Z b;clear b)|go_at_call 89;(refine(uH (a.U.in (by exact mQ mZ)) d.U _ W).mono ?_);rintro e l ⟨rfl,h,g,f⟩;have b:=a.U.rep (by exact .tail _ (.head _)) g;clear a d;have a:=Z b;have d:=Z f;clear b g f)
    go_roundw
    case rel=>exact⟨j+1,_,by omega,by rw[u.U];exact a.U,by rw[u.U];exact hy d.U (by have:=b0.U;clear d a;omega)⟩
    case measure=>(rw[a7.U,iterPos_of (a.U.get (i:=0) rfl)];omega)
variable{m:List Nat}
abbrev AP(g d:Nat)(y:MG)(x:RD)(a c b:ab)(rest:List Y):List Y:=
 Y.row g 81 (y.cells a c b)::Y.rd d x::Y.ow 9 1 a y.b.e.length (bh y.b.e)::Y.ow 9 1 c y.e.length (bh y.e)::Y.ow 240 4 b y.aP.length (cR y.aP)::rest
def Ny{p w:aa}{y:MG}{x:RD}{qB qP qM:ab}{rest:List Y}(l:ae p w m (AP g n y x qB qP qM rest))(c:Nat)(q:c=108\/c=105\/c=109\/c=110\/c=104\/c=98\/c=112\/c=107):
 Calls prog 164 #[pV g,pV n,.int .i32 (c:Int)] w λ r d=>r=ao (aM #[])/\∃b f e,ae p d m (AP g n (y.qV c x) (x.Cy c) b f e rest):=by
 have a:=Z l
 clear l
 obtain⟨k0,I,H,m0,K,⟨D,E,F,G⟩,⟨⟨r,s,t,u⟩,⟨v,z,A,B⟩,C⟩,L,J⟩:=y
 simp only[MG.qV,RD.Cy]
 go_enter func164,ntmps164
 rcases q with rfl|rfl|rfl|rfl|rfl|rfl|rfl|rfl
 ·go_wp2_with(first|refine KS a λ f a=>?_|go_at_call 162;(refine(uv (a.U.in (by exact mQ mZ))).mono ?_);rintro e d ⟨rfl,b⟩;replace a:=Z (a.U.rep (by exact .tail _ (.head _)) b);clear b)
  go_end0
  exact⟨rfl,_,_,_,a.U⟩
 ·go_wp2_with(first|refine KS a λ f a=>?_|go_at_call 47;(refine(qp (a.U.in (by exact mQ mZ))).mono ?_);rintro e d ⟨rfl,b⟩;replace a:=Z (a.U.rep (by exact .tail _ (.head _)) b);clear b)
  go_end0
  exact⟨rfl,_,_,_,a.U⟩
 ·go_wp2_with(first|refine KS a λ f a=>?_|go_at_call 47;(refine(qp (a.U.in (by exact mQ mZ))).mono ?_);rintro e d ⟨rfl,b⟩;replace a:=Z (a.U.rep (by exact .tail _ (.head _)) b);clear b)
  go_end0
  exact⟨rfl,_,_,_,a.U⟩
 ·go_wp2_with(first|refine KS a λ f a=>?_|go_at_call 47;(refine(qp (a.U.in (by exact mQ mZ))).mono ?_);rintro e d ⟨rfl,b⟩;replace a:=Z (a.U.rep (by exact .tail _ (.head _)) b);clear b)
  go_end0
  exact⟨rfl,_,_,_,a.U⟩
 ·go_wp2_with(first|refine KS a λ f a=>?_|go_at_call 150;(refine(Gh (a.U.in (by exact mQ mZ))).mono ?_);rintro e d ⟨rfl,b⟩;replace a:=Z (a.U.rep (by exact .tail _ (.head _)) b);clear b)
  go_end0
  exact⟨rfl,_,_,_,a.U⟩
 ·go_wp2_with fail
  refine(Gg (a.U.in (by exact mQ mZ))).mono ?_
  rintro e d ⟨k,rfl,b⟩
  replace a:=Z (a.U.zc (by exact .tail _ (.head _)) b);clear b
  obtain⟨pA,o,j,-⟩:=da (show d.ownsRow 0 9 1 k _ _ from a.U.get (i:=0) rfl)
  subst j
  go_wp2_with(refine KS a λ f a=>?_)
  go_end0
  have h:=(a.U.az 3 rfl).tail
  exact⟨rfl,_,_,_,((h.az 2 rfl).az 2 rfl)⟩
 ·go_wp2_with fail
  refine(Nz (a.U.in (by exact mQ mZ))).mono ?_
  rintro e d ⟨k,rfl,b⟩
  replace a:=Z (a.U.zc (by exact .tail _ (.head _)) b);clear b
  obtain⟨pA,o,j,-⟩:=da (show d.ownsRow 0 9 1 k _ _ from a.U.get (i:=0) rfl)
  subst j
  go_wp2_with(refine KS a λ f a=>?_)
  go_end0
  have h:=(a.U.az 4 rfl).tail
  exact⟨rfl,_,_,_,(((h.az 3 rfl).az 3 rfl).az 3 rfl)⟩
 ·go_wp2_with fail
  refine(NB (a.U.in (by exact mQ mZ))).mono ?_
  rintro e d ⟨k,rfl,b⟩
  replace a:=Z (a.U.zc (by exact .tail _ (.head _)) b);clear b
  obtain⟨pA,o,j,-⟩:=da (show d.ownsRow 0 240 4 k _ _ from a.U.get (i:=0) rfl)
  subst j
  go_wp2_with(refine KS a λ f a=>?_)
  go_end0
  have h:=(a.U.az 5 rfl).tail
  exact⟨rfl,_,_,_,((((h.az 4 rfl).az 4 rfl).az 4 rfl).az 4 rfl)⟩
