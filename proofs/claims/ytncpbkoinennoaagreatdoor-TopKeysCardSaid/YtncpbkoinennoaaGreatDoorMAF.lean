import Derived.Test.YtncpbkoinennoaaGreatDoorMAB
import Derived.Test.YtncpbkoinennoaaGreatDoorMAD
set_option linter.all false
set_option maxRecDepth 100000
set_option maxHeartbeats 0
namespace Go.Proofs.YtncpbkoinennoaaGreatDoor
open Go.RowKit Proofs.Tryz
attribute [local irreducible] wpList Calls
variable{f r:Int}{l:List Int}{g i k n:Nat}
namespace FM
def ev(l:List Int):Prop:=∀x∈l,0<=x/\x<65536
def ev.get(h:ev l)(hx:l[i]?=some r):0<=r/\r<65536:=h r (cX hx)
def ev.snoc(h:ev l){x:Int}(b:0<=x)(h1:x<65536):ev (l++[x]):=λ y a=>by
 rcases eB.1 a with a|a
 ·exact h y a
 ·rw[ud] at a;subst a;exact⟨b,h1⟩
def zI(l:List Int)(x:Int):val (l++[x])=val l+65536^l.length*x:=by
 rw[tI];simp only[val];rw[rR,rQ]
def abF(h:l[i]?=some r):val (l.drop i)=r+65536*val (l.drop (i+1)):=by
 obtain⟨a,rfl⟩:=cw.1 h;rw[iQ a];rfl
def zH{M:Int}:∀(l:List Int),(∀x∈l,x<=65535*M)->val l+M<=M*65536^l.length
 |[],_=>by simp[val]
 |d::a,h=>by
  have b:=h d List.mem_cons_self
  have c:=zH a (λ x hx=>h x (jz _ hx))
  simp only[val,gq,qe]
  rw[<-wU]
  omega
structure lO(d D:List Int):Prop where
 e:ev D
 len:d.length<=D.length
 eq:val D=val d
 min:D.length=d.length\/65536^(D.length-1)<=val d
structure iP(d:List Int)(i:Nat)(c:Int)(o:List Int):Prop where
 len:o.length=i
 e:ev o
 c0:0<=c
 eq:val o+65536^i*(c+val (d.drop i))=val d
 min:i<=d.length\/65536^(i-1)<=val d
def iP.start(d:List Int):iP d 0 0 []:=⟨rfl,λ _ h=>(by cases h),wT _,by simp[val],.inl (bf _)⟩
def DL(i:Nat):(65536:Int)^(i+1)=65536*65536^i:=by rw[qe,mV]
def BU{A v c x q:Int}:v+A*(c%65536)+(65536*A)*(c/65536+q)=v+A*(c+65536*q):=by
 have h:=Int.mul_ediv_add_emod c 65536;have e:A*(c+65536*q)=A*(c%65536)+A*(65536*(c/65536))+A*(65536*q):=by
  rw[<-tU,<-tU];congr 1;omega
 rw[e,tU,show 65536*A*(c/65536)=A*(65536*(c/65536)) by ac_rfl,show 65536*A*q=A*(65536*q) by ac_rfl];omega
def iP.put{o:List Int}{c:Int}(h:iP l i c o)(hx:l[i]?=some r)(a:0<=r):iP l (i+1) ((c+r)/65536) (o++[(c+r)%65536]):=by
 have b:=h.c0;refine⟨by simp[h.len],h.e.snoc W W,by omega,?_,.inl ?_⟩
 ·rw[zI,h.len,DL,BU,<-h.eq,abF hx,Int.add_assoc c];exact 0
 ·have:=(cw.1 hx).1;omega
def iP.more{o:List Int}{c:Int}(h:iP l i c o)(d:l.length<=i)(f:0<c):iP l (i+1) (c/65536) (o++[c%65536]):=by
 have e1:l.drop i=[]:=kc d;have e2:l.drop (i+1)=[]:=kc W;have a:=h.eq;have j:=(jX _ h.e).1;rw[e1] at a;have b:val ([]:List Int)=0:=rfl;rw[b] at a;have e:(0:Int)<65536^i:=Int.pow_pos zD;refine⟨by simp[h.len],h.e.snoc W W,by omega,?_,.inr ?_⟩
 ·rw[zI,h.len,DL,e2,b,BU (x:=0),<-a];rfl
 ·have g:65536^i*1<=65536^i*(c+0):=Int.mul_le_mul_of_nonneg_left W (Int.le_of_lt e);show 65536^i<=_;omega
def iP.done{o:List Int}(h:iP l i 0 o)(c:l.length<=i):lO l o:=by
 have e1:l.drop i=[]:=kc c;have b:=h.eq;rw[e1] at b;refine⟨h.e,by rw[h.len];exact c,by rw[<-b];simp[val],?_⟩;rw[h.len];rcases h.min with a|a
 ·exact .inl W
 ·exact .inr a
def tB:Nat->Int
 |0=>65536^16
 |1=>65536^16-P
 |_=>38
structure oL(rI:Int)(k:Nat)(d:List Int):Prop where
 norm:Norm d
 mod:val d%P=rI%P
 lt:val d<tB k
def fB:Nat->Int
 |0=>65536^32
 |1=>39*65536^16
 |2=>65536^16+1444
 |_=>65536^16
structure kM(rI:Int)(k:Nat)(d:List Int):Prop where
 e:ev d
 hi:d.length<=32
 mod:val d%P=rI%P
 lt:val d<fB k
 min:0<k->d.length=16\/65536^16<=val d
def tq(h:g<=n):(65536:Int)^g<=65536^n:=by
 have:(65536:Nat)^g<=65536^n:=kU zD h;have e:∀a:Nat,((65536^a:Nat):Int)=65536^a:=λ a=>qd 65536 a;rw[<-e,<-e];exact Int.ofNat_le.2 this
def lO.hi{D:List Int}(h:lO l D)(hd:l.length<=32)(c:val l<65536^32):D.length<=32:=by
 rcases h.min with a|a
 ·omega
 ·refine gY λ b=> ?_;have:=tq (show 32<=D.length-1 by omega);omega
def kM.start{D:List Int}(h:lO l D)(h2:l.length<=32)(a:val l<65536^32):kM (val l) 0 D:=
 ⟨h.e,h.hi h2 a,by rw[h.eq],by rw[h.eq];exact a,λ h=>absurd h zD⟩
def kM.Ik(h:kM r k l)(c:3<=k):l.length=16:=by
 have b:=h.lt;have e:fB k=65536^16:=by
  unfold fB;split<;>first|omega|rfl
 rw[e] at b;rcases h.min W with a|a
 ·exact a
 ·omega
def kM.pad(h:kM r k l)(c:l.length<=16):oL r 0 (l++List.replicate (16-l.length) 0):=by
 have e:∀n,val (List.replicate n 0)=0:=λ n=>by
  induction n with
  |zero=>rfl
  |succ n a=>simp only[ff,val,a];rfl
 have b:val (l++List.replicate (16-l.length) 0)=val l:=by rw[tI,e,rR,rQ]
 have hd:ev (l++List.replicate (16-l.length) 0):=λ x hx=>by
  rcases eB.1 hx with hx|hx
  ·exact h.e x hx
  ·rw[(AI.1 hx).2];decide
 have a:Norm (l++List.replicate (16-l.length) 0):=⟨by simp;omega,hd⟩;exact⟨a,by rw[b];exact h.mod,a.bounds.2⟩
structure ou(d:List Int)(i:Nat)(l:List Int):Prop where
 len:l.length=16
 eq:val l=val (d.take 16)+38*(val ((d.drop 16).take (i-16)))
 rest:∀j x,i<=j+16->l[j]?=some x->d[j]?=some x
 a:∀x∈l,0<=x/\x<=65535*39
def ou.start(h:ev l)(a:16<=l.length):ou l 16 (l.take 16):=
 ⟨by simp;omega,by simp[val],λ j x _ hx=>by rw[wZ] at hx;split at hx<;>simp_all,λ x hx=>by have:=h x (oC hx);omega⟩
def ou.step{d:List Int}(h:ou d i l)(b:ev d)(m:16<=i)(h32:i<32)(hx:l[i-16]?=some r)(c:d[i]?=some f):ou d (i+1) (l.set (i-16) (r+38*f)):=by
 obtain⟨e,g⟩:=cw.1 hx;have k:(d.drop 16)[i-16]?=some f:=by rw[wY,show 16+(i-16)=i by omega];exact c
 have p:=b.get c;have o:=b.get (h.rest (i-16) r W hx);refine⟨by simp[h.len],?_,λ j z n a=> ?_,λ z a=> ?_⟩
 ·rw[jq _ _ _ e,g,h.eq,show i+1-16=i-16+1 by omega,oh k,tU,show r+38*f-r=38*f by omega,wU 38 f];omega
 ·rw[hn W] at a;exact h.rest j z W a
 ·rcases nb a with a|rfl
  ·exact h.a z a
  ·omega
def kM.step{d D:List Int}(h:kM r k d)(o:16<d.length)(c:ou d d.length l)(a:lO l D):kM r (k+1) D:=by
 have i:k<3:=gY λ i=>by have:=h.Ik W;omega
 have e1:val l=val (d.take 16)+38*val (d.drop 16):=by
  rw[c.eq,bK (l:=d.drop 16) zS]
 have e2:val d=val (d.take 16)+65536^16*val (d.drop 16):=by
  have:=tI (d.take 16) (d.drop 16);rw[nf,eA,hz W] at this;exact this
 have e:=jX (d.take 16) (λ x hx=>h.e x (oC hx));have f:=(jX (d.drop 16) (λ x hx=>h.e x (uc hx)));rw[eA,hz W] at e;rw[lT] at f;have s:=tq (show d.length-16<=16 by have:=h.hi;omega);have j:=h.lt;have q:=h.min;have m:val l%P=r%P:=by
  rw[<-h.mod,e1,e2,wA];have:val (d.take 16)+(2*P+38)*val (d.drop 16)=val (d.take 16)+38*val (d.drop 16)+P*(2*val (d.drop 16)):=by
   rw[Int.add_mul];have:2*P*val (d.drop 16)=P*(2*val (d.drop 16)):=by ac_rfl
   omega
  rw[this,tT]
 have p:=c.len;have n:val l<fB (k+1):=by
  have b:k=0\/k=1\/k=2:=by omega
  rcases b with rfl|rfl|rfl<;>simp only[fB] at j⊢<;>omega
 have h16:fB (k+1)<=39*65536^16:=by
  have b:k=0\/k=1\/k=2:=by omega
  rcases b with rfl|rfl|rfl<;>simp only[fB]<;>omega
 refine⟨a.e,a.hi W W,by rw[a.eq];exact m,by rw[a.eq];exact n,λ _=> ?_⟩;rcases a.min with b|b
 ·left;omega
 ·have:=a.len;by_cases g:D.length=16
  ·exact .inl g
  ·right;rw[a.eq];have:=tq (show 16<=D.length-1 by omega);omega
def abH(h:Norm l)(c:l[15]?=some r):65536^15*r<=val l/\val l<65536^15*r+65536^15:=by
 have a:=oh c;rw[bK (by rw[h.len];decide)] at a;have b:=jX (l.take 15) (λ x hx=>h.e x (oC hx));rw[eA,h.len] at b;have:min 15 16=15:=rfl;rw[this] at b;rw[mV r] at a;omega
def oL.step{d D:List Int}(h:oL r k d){t:Int}(l:d[0]?=some f)(i:d[15]?=some t)(w:32768<=t)(a:lO ((d.set 15 (t-32768)).set 0 (f+19)) D):oL r (k+1) D/\k<2:=by
 have v:=(abH h.norm i).1;have o:=h.lt;have s:=wA;have g:=h.norm.len;have m:P=57896044618658097711785492504343953926634992332820282019728792003956564819949:=rfl;have iy:(65536:Int)^15=1766847064778384329583297500742918515827483896875618958121606201292619776:=by decide
 have uY:(65536:Int)^16=115792089237316195423570985008687907853269984665640564039457584007913129639936:=by decide
 obtain⟨x,rfl⟩:=cw.1 l;obtain⟨q,rfl⟩:=cw.1 i;have j:val ((d.set 15 (d[15]-32768)).set 0 (d[0]+19))=val d-P:=by
  rw[jq _ _ _ (by simp;omega),kP zD,jq _ _ _ q,m];omega
 have c:k<2:=by
  refine gY λ c=> ?_;have e:tB k=38:=by unfold tB;split<;>first|omega|rfl
  omega
 have p:val d-P<tB (k+1):=by
  have b:k=0\/k=1:=by omega
  rcases b with rfl|rfl<;>simp only[tB] at o⊢<;>omega
 have h38:tB (k+1)<=65536^16-P:=by
  have b:k=0\/k=1:=by omega
  rcases b with rfl|rfl<;>simp only[tB]<;>omega
 have n:D.length=16:=by
  have:=a.len;simp only[fc,g] at this;rcases a.min with b|b
  ·simpa[g] using b
  ·refine gY λ u=> ?_;have:=tq (show 16<=D.length-1 by omega);omega
 refine⟨⟨⟨n,a.e⟩,?_,by rw[a.eq,j];exact p⟩,c⟩;rw[a.eq,j,<-h.mod];have e:val d-P=val d+P*(-1):=by omega
 rw[e,tT]
def iM(d:List Int)(i:Nat):Bool:=((decide (d.getD 15 0=32767)&&decide (65517<=d.getD 0 0))&&(List.range' 1 (i-1)).all λ j=>decide (d.getD j 0=65535))
def aaF(d:List Int)(i:Nat)(h:1<=i):iM d (i+1)=(iM d i&&decide (d.getD i 0=65535)):=by
 obtain⟨j,rfl⟩:∃j,i=j+1:=⟨i-1,by omega⟩;unfold iM;rw[Nat.add_sub_cancel,Nat.add_sub_cancel,List.range'_concat,List.all_append,<-Bool.and_assoc];simp[qk]
def U0(h:l.length=16):∃a b j k m n o p q r c d e f g i,l=[a,b,j,k,m,n,o,p,q,r,c,d,e,f,g,i]:=by
 match l,h with
 |[a,b,j,k,m,n,o,p,q,r,c,d,e,f,g,i],_=>exact⟨a,b,j,k,m,n,o,p,q,r,c,d,e,f,g,i,rfl⟩
def MM(a b i j k l m n o p c d e f g h:Int):iM [a,b,i,j,k,l,m,n,o,p,c,d,e,f,g,h] 15=true↔
 h=32767/\65517<=a/\b=65535/\i=65535/\j=65535/\k=65535/\l=65535/\m=65535/\n=65535/\o=65535/\p=65535/\c=65535/\d=65535/\e=65535/\f=65535/\g=65535:=by
 simp[iM,List.range',and_assoc]
def oL.last(h:oL r k l){t:Int}(z:l[0]?=some f)(B:l[15]?=some t)(H:t<32768):
 (iM l 15=false->val l=((r%P).toNat:Int))/\(iM l 15=true->val ((List.replicate 16 0).set 0 (f-65517))=((r%P).toNat:Int)/\Norm ((List.replicate 16 (0:Int)).set 0 (f-65517))):=by
 obtain⟨a,b,n,o,p,q,s,u,w,y,c,d,g,i,j,m,rfl⟩:=U0 h.norm.len
 have hd:=h.norm.e
 simp only[bO,uf,vK,forall_eq_or_imp,forall_eq] at hd
 simp only[List.getElem?_cons_zero,oA,Option.some.injEq] at z B
 subst z B
 have C:=h.mod
 have A:P=57896044618658097711785492504343953926634992332820282019728792003956564819949:=rfl
 have G:0<=r%P:=Int.emod_nonneg _ (by rw[A];decide)
 have I:val [a,b,n,o,p,q,s,u,w,y,c,d,g,i,j,m]=a+65536*(b+65536*(n+65536*(o+65536*(p+65536*(q+65536*(s+65536*(u+65536*(w+65536*(y+65536*(c+65536*(d+65536*(g+65536*(i+65536*(j+65536*(m+65536*0))))))))))))))):=rfl
 have D:val ((List.replicate 16 (0:Int)).set 0 (a-65517))=a-65517:=by
  show a-65517+65536*_=_
  have:val (List.replicate 15 (0:Int))=0:=by decide
  rw[show val (List.replicate 15 (0:Int))=0 from this];omega
 generalize val [a,b,n,o,p,q,s,u,w,y,c,d,g,i,j,m]=v at*
 constructor
 ·intro e
  have x:¬(m=32767/\65517<=a/\b=65535/\n=65535/\o=65535/\p=65535/\q=65535/\s=65535/\u=65535/\w=65535/\y=65535/\c=65535/\d=65535/\g=65535/\i=65535/\j=65535):=λ E=>by
   rw[(MM a b n o p q s u w y c d g i j m).2 E] at e;cases e
  have F:v<P:=by
   refine gY λ E=>x ?_
   rw[A] at E
   clear x e C D G
   omega
  have z:0<=v:=by omega
  rw[<-C,wS z F];omega
 ·intro B
  obtain⟨iy,e0,e1,e2,e3,e4,e5,e6,e7,e8,e9,iX,iY,iZ,ja,ix⟩:=(MM a b n o p q s u w y c d g i j m).1 B
  have e:v=(a-65517)+P:=by
   rw[A];subst iy e1 e2 e3 e4 e5 e6 e7 e8 e9 iX iY iZ ja ix;omega
  refine⟨?_,by simp,λ x hx=> ?_⟩
  ·rw[D,<-C,e,Int.add_emod_right,wS W (by rw[A];omega)];omega
  ·rcases nb hx with hx|rfl
   ·rw[(AI.1 hx).2];decide
   ·omega
def Norm.abG{m:List Int}(s:Norm l)(t:Norm m)(h:val l=val m):l=m:=by
 obtain⟨f,j⟩:=s;obtain⟨k,o⟩:=t;have v:∀(n:Nat) (a b:List Int),a.length=n->b.length=n->(∀d∈a,0<=d/\d<65536)->(∀d∈b,0<=d/\d<65536)->val a=val b->a=b:=by
  intro n;induction n with
  |zero=>intro a b c e _ _ _;rw[ig c,ig e]
  |succ n u=>
   intro a b c e g i r
   match a,b,c,e with
   |p::a,q::b,c,e=>
    have w:=g p zS;have x:=i q zS;simp only[val] at r;have f:p=q:=by omega
    subst f;rw[u a b (by simpa using c) (by simpa using e) (λ d hd=>g d (jz _ hd)) (λ d hd=>i d (jz _ hd)) W]
 exact v 16 l m f k j o h
def nH(n i:Nat):List UInt8:=((bE 32 n).take (2*i)).map UInt8.ofNat
def Q2(n:Nat):(⟨(nH n 16).toArray⟩:af)=enc n:=by
 unfold nH enc;rw[bK (by rw[iw];exact aQ _)]
def Q5(h:Norm l)(d:val l=(n:Int))(g:i<16)(hx:l[i]?=some r):nH n (i+1)=nH n i++[UInt8.ofNat (r%256).toNat,UInt8.ofNat (r/256).toNat]:=by
 have c:=qQ 32 n (2*i) W;have a:=qQ 32 n (2*i+1) W;have b:=Fg l n i r h.e d hx;have e:65536^i=256^(2*i):=pow_two i;rw[e] at b;rw[ca,<-gM] at a;unfold nH;rw[show 2*(i+1)=2*i+1+1 by omega,AL,AL,c,a,b];generalize n/256^(2*i)=N;have f:(((N%65536:Nat):Int)%256).toNat=N%256:=by omega
 have q2:(((N%65536:Nat):Int)/256).toNat=N/256%256:=by omega
 rw[f,q2];simp
structure kV(a l:List Int)(i:Nat)(c:Int):Prop where
 len:l.length=16
 b:c=0\/c=1
 rest:∀j,i<=j->l[j]?=a[j]?
 e:∀j x,j<i->l[j]?=some x->0<=x/\x<65536
 eq:val (l.take i)=val (pd.take i)-val (a.take i)+c*65536^i
def kV.start(h:l.length=16):kV l l 0 0:=⟨h,.inl rfl,λ _ _=>rfl,λ j x a=>absurd a (ij _),by simp[val]⟩
def kV.step{a:List Int}{c v:Int}(h:kV a l i c)(w:i<16)(p:ev a)(k:pd[i]?=some r)(hx:l[i]?=some f)(u:v=r-f-c):
 (v<0->kV a (l.set i (v+65536)) (i+1) 1)/\(0<=v->kV a (l.set i v) (i+1) 0):=by
 have m:a[i]?=some f:=by rw[<-h.rest i (aQ _)];exact hx
 have A:=p.get m
 have x:0<=r/\r<65536:=(show ev pd by unfold ev;decide).get k
 have t:=h.len
 have e:∀y b:Int,0<=y->y<65536->(b=0\/b=1)->y=v+b*65536->kV a (l.set i y) (i+1) b:=λ y b n o g q=>by
  refine⟨by simp[t],g,λ j s=> ?_,λ j z s d=> ?_,?_⟩
  ·rw[hn W];exact h.rest j W
  ·by_cases g:i=j
   ·subst g
    rw[lS W] at d
    cases d;exact⟨n,o⟩
   ·rw[hn g] at d;exact h.e j z W d
  ·rw[oh (lS W),oh k,oh m,List.take_set_of_le (aQ _),h.eq,qe,q,u]
   generalize(65536:Int)^i=T
   rw[Int.add_mul,Int.sub_mul,Int.sub_mul,wU b,mV 65536 T]
   omega
 rcases h.b with d|d
 ·exact⟨λ b=>e _ 1 W W (.inr rfl) W,λ b=>e _ 0 W W (.inl rfl) W⟩
 ·exact⟨λ b=>e _ 1 W W (.inr rfl) W,λ b=>e _ 0 W W (.inl rfl) W⟩
def kV.done{a:List Int}{c:Int}(h:kV a l 16 c)(f:a.length=16)(k:val a<=P):val l=P-val a/\Norm l:=by
 have e:=h.eq;rw[bK (by rw[h.len];decide),bK zD,Ki,bK (by rw[f];decide)] at e;have d:Norm l:=⟨h.len,λ x hx=>by
  obtain⟨j,g,rfl⟩:=qg.1 hx;exact h.e j _ (by have:=h.len;omega) (aU g)⟩
 have i:=d.bounds;rcases h.b with b|b
 ·subst b;exact⟨by omega,d⟩
 ·subst b;omega
end FM
section
namespace GL
open FM
set_option maxRecDepth 100000
set_option maxHeartbeats 4000000
def fh:0<PN:=by unfold PN;decide
def Kv:Pr PN:=Xn
instance:NeZero PN:=⟨by unfold PN;decide⟩
abbrev K:=Fin PN
def c(n:Nat):K:=Fin.ofNat PN n
def jH:c g=c n↔g%PN=n%PN:=⟨λ h=>congrArg Fin.val h,λ h=>rP h⟩
def nA(m n:Nat):c (m+n)=c m+c n:=rP (rV m n PN)
def dm(m n:Nat):c (m*n)=c m*c n:=rP (nh m n PN)
def gA(n:Nat):c (n%PN)=c n:=rP (rX n PN)
def Pp:c PN=0:=by decide+kernel
def BN:c 0=0:=by decide+kernel
def uQ:c 1=1:=by decide+kernel
def eU(k:K):c k.val=k:=rP (bY k.isLt)
def xH(a:Nat)(h:g<=PN):c (a+(PN-g))=c a-c g:=by
 have b:c (a+(PN-g))+c g=c a:=by rw[<-nA,xb,Nat.sub_add_cancel h,nA,Pp];grind
 grind
def nC(a:g<PN)(b:n<PN)(h:c g=c n):g=n:=by
 have:=jH.1 h;rwa[bY a,bY b] at this
def Ps(h:c g=0):PN∣g:=xd (by have:=congrArg Fin.val h;exact this)
def nz{a b:K}(h:a*b=0):a=0\/b=0:=by
 rw[<-eU a,<-eU b,<-dm] at h;rcases Kv.mul (Ps h) with c|c
 ·left;rw[<-eU a];exact jH.2 (by rw[AS c];rfl)
 ·right;rw[<-eU b];exact jH.2 (by rw[AS c];rfl)
def ec{a b:K}(c:a≠0)(d:b≠0):a*b≠0:=λ h=>(nz h).elim c d
def cancel{a x y:K}(c:a≠0)(h:a*x=a*y):x=y:=by
 have b:a*(x-y)=0:=by grind
 have:=(nz b).resolve_left c;grind
def ZP{t:K}(h:t*t=1):t=1\/t= -1:=by
 have a:(t-1)*(t+1)=0:=by grind
 rcases nz a with b|b
 ·left;grind
 ·right;grind
def sK{a:Nat}(h:c a≠0):c (a^(PN-1))=1:=by
 have:=Kv.sK (b:=a) λ hd=>h (jH.2 (by rw[AS hd];rfl));rw[<-uQ];exact jH.2 (by rw[this];rfl)
def qS(skip:Nat->Bool):Nat->Nat->Nat
 |0,e=>e
 |i+1,e=>qS skip i (cond (skip i) (2*e) (2*e+1))
def yR(skip:Nat->Bool)(a:Nat):∀(i x e:Nat),c x=c (a^e)->c (eW skip a i x)=c (a^qS skip i e)
 |0,x,e,h=>h
 |i+1,x,e,h=>by
  rw[vP]
  unfold qS
  refine yR skip a i _ _ ?_
  cases skip i with
  |true=>rw[au rfl,cond_true,gA,dm,h,<-dm,<-eI,Nat.two_mul]
  |false=>rw[ar zD,cond_false,gA,dm,gA,dm,h,<-dm,<-eI,<-dm,<-ca,Nat.two_mul]
def BP{a:Nat}(h:c a≠0):c a*c (cZ a)=1:=by
 unfold cZ;have e:Nat.succ (qS (λ i=>decide (i=2)||decide (i=4)) 254 1)=PN-1:=by decide+kernel
 rw[yR _ a 254 a 1 (by rw[xg]),<-dm,fg,<-ca,<-sK h,<-e]
def inv(a:K):K:=c (cZ a.val)
def inv_mul{a:K}(h:a≠0):a*inv a=1:=by
 have:=BP (a:=a.val) (by rw[eU];exact h);rwa[eU] at this
def yS(skip:Nat->Bool)(a:Nat):∀(i x:Nat),0<i->eW skip a i x<PN
 |0,x,h=>by omega
 |1,x,h=>by rw[vP];show(if _ then _ else _)<_;split<;>exact cy _ fh
 |i+2,x,h=>by rw[vP];exact yS skip a (i+1) _ W
def D:K:=c 37095705934669439343138083508754565189542113879843219016388785533085940283555
def im:K:=c (pw PN 256 2 ((PN-1)/4))
def IY:im*im+1=0:=by decide+kernel
def FO{a b:K}(h:a*a=D*(b*b)):b=0:=by
 refine gY λ g=> ?_;have k:D≠0:=by decide+kernel
 have l:a≠0:=λ e=>ec k (ec g g) (by grind);have m:∀(x:K) (n:Nat),c (x.val^n)*c (x.val^n)=c (x.val^(2*n)):=λ x n=>by rw[<-dm,<-eI,Nat.two_mul]
 have e2:2*((PN-1)/2)=PN-1:=by decide+kernel
 have f:∀x:K,x≠0->c (x.val^((PN-1)/2))*c (x.val^((PN-1)/2))=1:=λ x hx=>by rw[m,e2];exact sK (by rw[eU];exact hx)
 have e:∀(x y:Nat) (n:Nat),c ((x*y)^n)=c (x^n)*c (y^n):=λ x y n=>by rw[Nat.mul_pow,dm]
 have o:∀(x y n:Nat),c x=c y->c (x^n)=c (y^n):=λ x y n h=>jH.2 (by rw[sb,jH.1 h,<-sb]);have i:c (a.val*a.val)=c (D.val*(b.val*b.val)):=by rw[dm,dm,dm,eU,eU,eU];exact h
 have d:=o _ _ ((PN-1)/2) i;rw[e,e,e,f a l,f b g] at d;have j:c (D.val^((PN-1)/2))= -1:=by
  have e1:c (D.val^((PN-1)/2))=c (pw PN 256 D.val ((PN-1)/2)):=by rw[yX _ _ _ _ (by decide+kernel),gA]
  rw[e1];decide+kernel
 rw[j] at d;exact absurd d (by decide+kernel)
def On(P:K×K):Prop:=P.2*P.2-P.1*P.1-1-D*P.1*P.1*P.2*P.2=0
def fj(P Q:K×K):K:=D*P.1*Q.1*P.2*Q.2
def den{P Q:K×K}(h1:On P)(h2:On Q):fj P Q*fj P Q≠1:=λ c=>by
 obtain⟨x1,y1⟩:=P;obtain⟨x2,y2⟩:=Q;unfold On at h1 h2;unfold fj at c;simp only at h1 h2 c;have g:=IY;have f:D≠0:=by decide+kernel
 generalize im=i at*;have t2:∀y:K,2*y=0->y=0:=λ y h=>(nz h).resolve_left (by decide+kernel);have e:∀a b:K,a*a=D*(b*b)->b=0:=λ a b=>FO;generalize D=d at*;have k1:=e (i*x1+d*x1*x2*y1*y2*y1) (x1*y1*(y2+i*x2)) (by grind);have k2:=e (d*x1*x2*y1*y2*y1-i*x1) (x1*y1*(y2-i*x2)) (by grind);have a:x1*y1≠0:=λ h=>absurd c (by
  have:d*x1*x2*y1*y2=0:=by grind
  rw[this];decide+kernel)
 have k3:=(nz k1).resolve_left a;have k4:=(nz k2).resolve_left a;have b:=t2 y2 (by grind);subst b;exact absurd c (by
  have:d*x1*x2*y1*0=0:=by grind
  rw[this];decide+kernel)
def nF{P Q:K×K}(h1:On P)(h2:On Q):1+fj P Q≠0:=λ h=>den h1 h2 (by grind)
def nE{P Q:K×K}(h1:On P)(h2:On Q):1-fj P Q≠0:=λ h=>den h1 h2 (by grind)
def add(P Q:K×K):K×K:=((P.1*Q.2+Q.1*P.2)*inv (1+fj P Q),(P.2*Q.2+P.1*Q.1)*inv (1-fj P Q))
def oS{P Q:K×K}(h1:On P)(h2:On Q):(add P Q).1*(1+fj P Q)=P.1*Q.2+Q.1*P.2:=by
 have:=inv_mul (nF h1 h2);unfold add;simp only;grind
def oT{P Q:K×K}(h1:On P)(h2:On Q):(add P Q).2*(1-fj P Q)=P.2*Q.2+P.1*Q.1:=by
 have:=inv_mul (nE h1 h2);unfold add;simp only;grind
def Gv{P Q R:K×K}(h1:On P)(h2:On Q)(hx:R.1*(1+fj P Q)=P.1*Q.2+Q.1*P.2)(c:R.2*(1-fj P Q)=P.2*Q.2+P.1*Q.1):add P Q=R:=by
 have a:=oS h1 h2;have b:=oT h1 h2;exact uu (cancel (nF h1 h2) (by grind)) (cancel (nE h1 h2) (by grind))
def rp{P Q:K×K}(h1:On P)(h2:On Q):On (add P Q):=by
 have a:=oS h1 h2;have b:=oT h1 h2;have d1:=nF h1 h2;have d2:=nE h1 h2;generalize add P Q=R at*;obtain⟨x1,y1⟩:=P;obtain⟨x2,y2⟩:=Q;obtain⟨x3,y3⟩:=R;unfold On at*;unfold fj at*;simp only at*;have c:(y1*y2+x1*x2)*(y1*y2+x1*x2)*((1+D*x1*x2*y1*y2)*(1+D*x1*x2*y1*y2))-(x1*y2+x2*y1)*(x1*y2+x2*y1)*((1-D*x1*x2*y1*y2)*(1-D*x1*x2*y1*y2))-((1+D*x1*x2*y1*y2)*(1+D*x1*x2*y1*y2))*((1-D*x1*x2*y1*y2)*(1-D*x1*x2*y1*y2))-D*((x1*y2+x2*y1)*(x1*y2+x2*y1))*((y1*y2+x1*x2)*(y1*y2+x1*x2))=0:=by
  clear a b d1 d2;generalize D=d at*;grind
 rw[<-a,<-b] at c;clear a b h1 h2;generalize 1+D*x1*x2*y1*y2=u at*;generalize 1-D*x1*x2*y1*y2=v at*;have:(u*u)*(v*v)*(y3*y3-x3*x3-1-D*x3*x3*y3*y3)=0:=by grind
 exact(nz this).resolve_left (ec (ec d1 d1) (ec d2 d2))
def add_comm(P Q:K×K):add P Q=add Q P:=by
 have e:fj P Q=fj Q P:=by unfold fj;grind
 unfold add;rw[e];refine uu ?_ ?_
 ·simp only;congr 1;grind
 ·simp only;congr 1;grind
def Oy{d x1 y1 x2 y2 x3 y3:K}(a:y1*y1-x1*x1-1-d*x1*x1*y1*y1=0)(b:y2*y2-x2*x2-1-d*x2*x2*y2*y2=0)(c:y3*y3-x3*x3-1-d*x3*x3*y3*y3=0):
 ((x1*y2+x2*y1)*(1-d*x1*x2*y1*y2)*y3+x3*(y1*y2+x1*x2)*(1+d*x1*x2*y1*y2))*((1+d*x2*x3*y2*y3)*(1-d*x2*x3*y2*y3)+d*x1*y1*(x2*y3+x3*y2)*(y2*y3+x2*x3))=(x1*(y2*y3+x2*x3)*(1+d*x2*x3*y2*y3)+(x2*y3+x3*y2)*(1-d*x2*x3*y2*y3)*y1)*((1+d*x1*x2*y1*y2)*(1-d*x1*x2*y1*y2)+d*x3*y3*(x1*y2+x2*y1)*(y1*y2+x1*x2)):=by grind
def Oz{d x1 y1 x2 y2 x3 y3:K}(a:y1*y1-x1*x1-1-d*x1*x1*y1*y1=0)(b:y2*y2-x2*x2-1-d*x2*x2*y2*y2=0)(c:y3*y3-x3*x3-1-d*x3*x3*y3*y3=0):
 ((y1*y2+x1*x2)*(1+d*x1*x2*y1*y2)*y3+(x1*y2+x2*y1)*(1-d*x1*x2*y1*y2)*x3)*((1+d*x2*x3*y2*y3)*(1-d*x2*x3*y2*y3)-d*x1*y1*(x2*y3+x3*y2)*(y2*y3+x2*x3))=(y1*(y2*y3+x2*x3)*(1+d*x2*x3*y2*y3)+x1*(x2*y3+x3*y2)*(1-d*x2*x3*y2*y3))*((1+d*x1*x2*y1*y2)*(1-d*x1*x2*y1*y2)-d*x3*y3*(x1*y2+x2*y1)*(y1*y2+x1*x2)):=by grind
def Mr{A B l r:K}(h:l*A*B=r*B*A):A*B*l=A*B*r:=by grind
def add_assoc{P Q R:K×K}(h1:On P)(h2:On Q)(h3:On R):add (add P Q) R=add P (add Q R):=by
 have a:=rp h1 h2;have b:=rp h2 h3;have d:=oS h1 h2;have j:=oT h1 h2;have bx:=oS h2 h3;have k:=oT h2 h3;have h:=oS a h3;have i:=oT a h3;have rx:=oS h1 b;have ry:=oT h1 b;have d1:=nF h1 h2;have d2:=nE h1 h2;have d3:=nF h2 h3;have d4:=nE h2 h3;have d5:=nF a h3;have d6:=nE a h3;have d7:=nF h1 b;have d8:=nE h1 b;generalize add P Q=A at*;generalize add Q R=B at*;generalize add A R=L at*;generalize add P B=T at*;obtain⟨x1,y1⟩:=P;obtain⟨x2,y2⟩:=Q;obtain⟨x3,y3⟩:=R;obtain⟨c,f⟩:=A;obtain⟨e,g⟩:=B;obtain⟨n,p⟩:=L;obtain⟨o,q⟩:=T;unfold On fj at*;simp only at*;have l:=Oy h1 h2 h3;have m:=Oz h1 h2 h3;rw[<-d,<-j,<-bx,<-k] at l m;clear h1 h2 h3 a b d j bx k;generalize D=d at*;generalize 1+d*x1*x2*y1*y2=u at*;generalize 1-d*x1*x2*y1*y2=v at*;generalize 1+d*x2*x3*y2*y3=s at*;generalize 1-d*x2*x3*y2*y3=t at*;have e1:(u*v)*(s*t)*((c*y3+x3*f)*(1+d*x1*e*y1*g))=(u*v)*(s*t)*((x1*g+e*y1)*(1+d*c*x3*f*y3)):=by clear h i rx ry;grind
 have e2:(u*v)*(s*t)*((f*y3+c*x3)*(1-d*x1*e*y1*g))=(u*v)*(s*t)*((y1*g+x1*e)*(1-d*c*x3*f*y3)):=by clear h i rx ry;grind
 have f1:=cancel (ec (ec d1 d2) (ec d3 d4)) e1;have f2:=cancel (ec (ec d1 d2) (ec d3 d4)) e2;rw[<-h,<-rx] at f1;rw[<-i,<-ry] at f2;exact uu (cancel (ec d5 d7) (Mr f1)) (cancel (ec d6 d8) (Mr f2))
def cG:K×K:=(0,1)
def td:On cG:=by unfold On cG;decide+kernel
def oR{P:K×K}(h:On P):add P cG=P:=Gv h td (by unfold fj cG;simp only;grind) (by unfold fj cG;simp only;grind)
def neg(P:K×K):K×K:=(-P.1,P.2)
def ku{P:K×K}(h:On P):On (neg P):=by
 unfold On neg at*;simp only;grind
def add_neg{P:K×K}(h:On P):add P (neg P)=cG:=Gv h (ku h) (by unfold fj cG neg;simp only;grind) (by
 unfold On at h;unfold fj cG neg;simp only;grind)
def smul:Nat->K×K->K×K
 |0,_=>cG
 |n+1,P=>add (smul n P) P
def iI{P:K×K}(h:On P):∀n,On (smul n P)
 |0=>td
 |n+1=>rp (iI h n) h
def smul_add{P:K×K}(h:On P)(m:Nat):∀n,smul (m+n) P=add (smul m P) (smul n P)
 |0=>(oR (iI h m)).symm
 |n+1=>by
  show add (smul (m+n) P) P=_
  rw[smul_add h m n,add_assoc (iI h m) (iI h n) h]
  rfl
def A0{P:K×K}(h:On P):add cG P=P:=by rw[add_comm];exact oR h
def ZF{P:K×K}(h:On P):smul 1 P=P:=A0 h
def zv{P:K×K}(h:On P)(m:Nat):∀n,smul n (smul m P)=smul (m*n) P
 |0=>rfl
 |n+1=>by
  show add (smul n (smul m P)) (smul m P)=_
  rw[zv h m n,Nat.mul_succ,smul_add h]
def V0{P Q:K×K}(h1:On P)(h2:On Q)(h:add P Q=cG):Q=neg P:=by
 have e:add (neg P) (add P Q)=neg P:=by rw[h];exact oR (ku h1)
 rw[<-add_assoc (ku h1) h1 h2,add_comm (neg P) P,add_neg h1,A0 h2] at e;exact e
def V1{P:K×K}(h:On P)(n:Nat):smul n (neg P)=neg (smul n P):=by
 refine V0 (iI h n) (iI (ku h) n) ?_;induction n with
 |zero=>exact oR td
 |succ n c=>
  show add (add (smul n P) P) (add (smul n (neg P)) (neg P))=cG;have b:=iI h n;have a:=iI (ku h) n;rw[add_assoc b h (rp a (ku h)),<-add_assoc h a (ku h),add_comm P,add_assoc a h (ku h),add_neg h,oR a,c]
end GL
end
variable{m p:List Nat}{b:List UInt8}
section
namespace SC
open FM
def LQ:Nat:=7237005577332262213973186563042994240857116359379907606001950938285454250989
def vW:List Nat->Nat
 |[]=>0
 |d::l=>d+18446744073709551616*vW l
def cQ(l:List Nat):Prop:=∀d∈l,d<18446744073709551616
def zG:∀(a b:List Nat),vW (a++b)=vW a+18446744073709551616^a.length*vW b
 |[],b=>by simp[vW]
 |x::a,b=>by
  simp only[lR,vW,zG a b,gq,ca]
  grind
def wE{c:Nat}(h:m[k]?=some c):vW (m.take (k+1))=vW (m.take k)+c*18446744073709551616^k:=by
 obtain⟨a,rfl⟩:=cw.1 h;rw[eC a,zG,eA,hz W];simp only[vW,jB,fA];grind
def tH:∀(l:List Nat),cQ l->vW l<18446744073709551616^l.length
 |[],_=>by simp[vW]
 |x::l,h=>by
  have a:=tH l (λ d hd=>h d (mQ hd))
  have hx:=h x mZ
  simp only[vW,gq,ca]
  omega
def Fe:∀(l:List Nat) (k d c:Nat),l[k]?=some c->vW (l.set k d)+c*18446744073709551616^k=vW l+d*18446744073709551616^k
 |[],k,d,c,h=>by simp at h
 |x::l,0,d,c,h=>by simp at h;subst h;simp[vW];omega
 |x::l,k+1,d,c,h=>by
  simp only[oA] at h
  have a:=Fe l k d c h
  simp only[ax,vW,ca]
  grind
def cQ.set{l:List Nat}(h:cQ l)(k:Nat){d:Nat}(hd:d<18446744073709551616):cQ (l.set k d):=λ x hx=>by
 rcases nb hx with hx|rfl
 ·exact h x hx
 omega
def cQ.get(h:cQ m)(hd:m[k]?=some g):g<18446744073709551616:=h g (cX hd)
def cQ.take{l:List Nat}(h:cQ l)(k:Nat):cQ (l.take k):=λ d hd=>h d (oC hd)
def Fc:∀(l:List Nat) (j d:Nat),cQ l->l[j]?=some d->vW l/18446744073709551616^j%18446744073709551616=d
 |[],j,d,_,h=>by simp at h
 |x::l,0,d,a,h=>by
  simp at h;subst h
  have:=a x mZ
  simp only[vW,sd,rW];omega
 |x::l,j+1,d,a,h=>by
  have hx:=a x mZ
  simp only[oA] at h
  have b:=Fc l j d (λ d hd=>a d (mQ hd)) h
  simp only[vW,ca]
  rw[fg (18446744073709551616^j),<-gM,show(x+18446744073709551616*vW l)/18446744073709551616=vW l by omega]
  exact b
structure kZ(a b l:List Nat)(u k:Nat):Prop where
 len:l.length=4
 ok:cQ l
 low:vW (l.take k)+vW (b.take k)=vW (a.take k)+u*18446744073709551616^k
 rest:∀j,k<=j->l[j]?=a[j]?
 u:u<=1
def kZ.start(b:List Nat)(h:m.length=4)(a:cQ m):kZ m b m 0 0:=⟨h,a,by simp[vW],λ _ _=>rfl,by omega⟩
def aaw(l:List Nat)(k d:Nat)(h:k<l.length):(l.set k d).take (k+1)=l.take k++[d]:=by
 rw[List.take_set,eC h,kQ _ _ (by grind)];simp[hz (kR h)]
def MQ(h:k<m.length):vW ((m.set k g).take (k+1))=vW (m.take k)+g*18446744073709551616^k:=by
 rw[aaw m k g h,zG,eA,hz W];simp only[vW,jB,fA];grind
def kZ.step{l:List Nat}(h:kZ m p l g k)(f:k<4){d u':Nat}(hx:l[k]?=some n)(b:p[k]?=some i)(c:d+i+g=n+u'*18446744073709551616)(hd:d<18446744073709551616)(a:u'<=1):kZ m p (l.set k d) u' (k+1):=by
 refine⟨by rw[fc];exact h.len,h.ok.set k hd,?_,λ j e=> ?_,a⟩
 ·rw[MQ (by grind),wE b,wE ((h.rest k (aQ _)).symm.trans hx),ca];have:=h.low;grind
 ·rw[hn W];exact h.rest j W
def kZ.done{l:List Nat}(h:kZ m p l g 4)(a:m.length=4)(b:p.length=4):vW l+vW p=vW m+g*18446744073709551616^4:=by
 have:=h.low;rwa[bK (by rw[h.len];omega),bK W,bK W] at this
def kZ.under{l:List Nat}(h:kZ m p l g 4)(b:m.length=4)(c:p.length=4)(f:cQ p):(g=1↔vW m<vW p)/\(g=0->vW l=vW m-vW p):=by
 have e:=h.done b c;have a:=tH l h.ok;have d:=h.u;rw[h.len] at a;omega
structure kf(b:List UInt8)(n:Nat)(l:List Nat)(k:Nat):Prop where
 len:l.length=n
 small:∀j d,l[j]?=some d->d<256^(min 8 (k-8*j))
 eq:vW l=aH (b.take k)
def Ff:∀n,vW (List.replicate n 0)=0
 |0=>rfl
 |n+1=>by simp[ff,vW,Ff n]
def kf.start(b:List UInt8)(n:Nat):kf b n (List.replicate n 0) 0:=
 ⟨by simp,λ j d hd=>(by
  grind),by simp[Ff,aH]⟩
def kf.ok(h:kf b n m k):cQ m:=λ d hd=>by
 obtain⟨j,a⟩:=List.getElem?_of_mem hd;have c:=h.small j d a;have e:256^(min 8 (k-8*j))<=256^8:=kU zD W;omega
def kf.cell(h:kf b n m k)(d:k<8*n):∃x,m[k/8]?=some x/\x<256^(k%8):=by
 have c:k/8<m.length:=by rw[h.len];omega
 have a:=h.small (k/8) m[k/8] (aU c);rw[show min 8 (k-8*(k/8))=k%8 by omega] at a;simp_all
def kf.step(h:kf b n m k){c:UInt8}(hx:m[k/8]?=some g)(i:b[k]?=some c)(o:g<256^(k%8)):kf b n (m.set (k/8) (g+c.toNat*256^(k%8))) (k+1):=by
 refine⟨by rw[fc];exact h.len,λ j d hd=> ?_,?_⟩
 ·by_cases a:k/8=j
  ·subst a;have e:k/8<m.length:=by grind
   rw[lS e] at hd;injection hd with hd;subst hd;rw[show min 8 (k+1-8*(k/8))=k%8+1 by omega,ca];have f:=c.toNat_lt;have l:c.toNat*256^(k%8)<=255*256^(k%8):=lZ _ W;omega
  ·rw[hn a] at hd;exact kS (h.small j d hd) (kU zD W)
 ·have f:=Fe m (k/8) (g+c.toNat*256^(k%8)) g hx;rw[vy i,<-h.eq];have e:256^k=256^(k%8)*18446744073709551616^(k/8):=by
   rw[show 18446744073709551616=256^8 by decide,<-iT,<-eI];congr 1;omega
  grind
def abZ(h:cQ m)(hd:m[i/8]?=some g):g/256^(i%8)%256=vW m/256^i%256:=by
 have a:=Fc m (i/8) g h hd;have e:256^i=18446744073709551616^(i/8)*256^(i%8):=by
  rw[show 18446744073709551616=256^8 by decide,<-iT,<-eI];congr 1;omega
 rw[e,<-gM,<-a];generalize vW m/18446744073709551616^(i/8)=v;have b:i%8<8:=by omega
 generalize i%8=r at*;have e2:18446744073709551616=256^r*256^(8-r):=by rw[<-eI,show r+(8-r)=8 by omega]
 rw[e2,Nu,Nat.mod_mod_of_dvd _ ⟨256^(7-r),by rw[<-Nat.pow_succ'];grind⟩]
structure qu(a l:List Nat)(bit c k:Nat):Prop where
 len:l.length=4
 ok:cQ l
 low:vW (l.take k)+c*18446744073709551616^k=2*vW (a.take k)+bit
 c:c<=1
 rest:∀j,k<=j->l[j]?=a[j]?
def qu.start(a:Nat)(h:m.length=4)(c:cQ m)(b:a<=1):qu m m a a 0:=⟨h,c,by simp[vW],b,λ _ _=>rfl⟩
def qu.step{c:Nat}(h:qu m p g c k)(a:k<4)(hx:m[k]?=some n)(f:n<18446744073709551616):qu m (p.set k (2*n%18446744073709551616+c)) g (n/9223372036854775808) (k+1):=by
 have b:=h.c;refine⟨by rw[fc];exact h.len,h.ok.set k W,?_,by omega,λ j d=> ?_⟩
 ·rw[MQ (by rw[h.len];exact a),wE hx,ca];have:=h.low;have e:2*n%18446744073709551616+c+n/9223372036854775808*18446744073709551616=2*n+c:=by omega
  grind
 ·rw[hn W];exact h.rest j W
def mr(a i:Nat):Nat:=a/2^i%LQ
def P4(a i:Nat):mr a i=if 2*mr a (i+1)+a/2^i%2<LQ then 2*mr a (i+1)+a/2^i%2 else 2*mr a (i+1)+a/2^i%2-LQ:=by
 unfold mr;have e:a/2^(i+1)=a/2^i/2:=by rw[ca,gM]
 rw[e];generalize a/2^i=v;unfold LQ;grind
def P3(a i:Nat):mr a i<LQ:=cy _ (by unfold LQ;decide)
def P5(h:cQ m):mr (vW m) (64*m.length)=0:=by
 unfold mr;rw[F4]
 ·rfl
 ·have:=tH m h;rwa[show 18446744073709551616=2^64 by decide,<-iT] at this
def P2(h:cQ m)(hd:m[i/64]?=some g):g/2^(i%64)%2=vW m/2^i%2:=by
 have a:=Fc m (i/64) g h hd;have e:2^i=18446744073709551616^(i/64)*2^(i%64):=by
  rw[show 18446744073709551616=2^64 by decide,<-iT,<-eI];congr 1;omega
 rw[e,<-gM,<-a];generalize vW m/18446744073709551616^(i/64)=v;have b:i%64<64:=by omega
 generalize i%64=r at*;have e2:18446744073709551616=2^r*2^(64-r):=by rw[<-eI,show r+(64-r)=64 by omega]
 rw[e2,Nu,Nat.mod_mod_of_dvd _ ⟨2^(63-r),by rw[<-Nat.pow_succ'];grind⟩]
def te:List Nat:=[6346243789798364141,1503914060200516822,0,1152921504606846976]
def Wv:vW te=LQ:=by decide
def Wu:cQ te:=by intro d hd;simp only[te,bO,uf,vK] at hd;omega
structure pW(t:List Nat)(n k c:Nat):Prop where
 len:t.length=9
 ok:cQ t
 a:c<18446744073709551616
 eq:vW t+c*18446744073709551616^k=n
def pW.mul{c z' c' m:Nat}(h:pW p n k c)(a:p[k]?=some g)(b:z'+c'*18446744073709551616=g+c+m)(h1:z'<18446744073709551616)(h2:c'<18446744073709551616):pW (p.set k z') (n+m*18446744073709551616^k) (k+1) c':=by
 refine⟨by rw[fc];exact h.len,h.ok.set k h1,h2,?_⟩;have e1:=Fe p k z' g a;have e2:=h.eq;grind
def mulN(x y c:List Nat)(i j:Nat):Nat:=vW c+vW (x.take i)*vW y+x.getD i 0*vW (y.take j)*18446744073709551616^i
def VO(x y c:List Nat):mulN x y c 0 0=vW c:=by simp[mulN,vW]
def VN{c:List Nat}(a:m[i]?=some n)(b:p[g]?=some k):mulN m p c i g+n*k*18446744073709551616^(i+g)=mulN m p c i (g+1):=by
 unfold mulN;rw[wE b,dc,a,xi,xf,oF,eI,xb (vW c+_)];grind
def VM{c:List Nat}(a:m[i]?=some g)(b:p.length=4):mulN m p c i 4=mulN m p c (i+1) 0:=by
 unfold mulN;rw[bK (by omega:p.length<=4),wE a,dc,a,xi,oE];simp only[vW,jB,qn,fA];grind
def VK{c:List Nat}(hx:m.length=4):mulN m p c 4 0=vW c+vW m*vW p:=by
 unfold mulN;grind
def VL{c:List Nat}(hx:cQ m)(f:cQ p)(d:cQ c)(l:m.length=4)(g:p.length=4)(e:c.length=4):mulN m p c i 0<18446744073709551616^9:=by
 unfold mulN;have h:=tH (m.take i) (hx.take i);have a:=tH p f;have b:=tH c d;have j:18446744073709551616^(m.take i).length<=18446744073709551616^4:=kU zD (by grind);rw[g] at a;rw[e] at b;have k:vW (m.take i)*vW p<=18446744073709551616^4*18446744073709551616^4:=uj W W;simp only[dr,vW,jB,qn,fA];omega
end SC
end
