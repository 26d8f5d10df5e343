import Derived.Test.YtncpbkoinennoaaGreatDoorMAI
import Derived.Test.YtncpbkoinennoaaGreatDoorMAJ
set_option linter.all false
set_option maxRecDepth 100000
set_option maxHeartbeats 0
namespace Go.Proofs.YtncpbkoinennoaaGreatDoor
open Go.RowKit Proofs.Tryz
attribute [local irreducible] wpList Calls
variable{g i k n:Nat}
section
namespace GL
open FM PT
set_option maxRecDepth 100000
set_option maxHeartbeats 4000000
def B9:∀(k n:Nat),bE (k+1) n=bE k n++[n/256^k%256]
 |0,n=>by simp[bE]
 |k+1,n=>by
  show n%256::bE (k+1) (n/256)=(n%256::bE k (n/256))++_
  rw[B9 k (n/256),gM,ca,fg (256^k)]
  rfl
def Hn:∀(k n m:Nat),bE k (n+256^k*m)=bE k n
 |0,n,m=>rfl
 |k+1,n,m=>by
  have e:n+256^(k+1)*m=n+256*(256^k*m):=by rw[ca];ac_rfl
  show(n+256^(k+1)*m)%256::bE k ((n+256^(k+1)*m)/256)=n%256::bE k (n/256)
  rw[e,Nt,Nat.add_mul_div_left _ _ zD,Hn k]
def Jf:∀(k n:Nat),aH ((bE k n).map UInt8.ofNat)=n%256^k
 |0,n=>by simp[bE,aH,AU]
 |k+1,n=>by
  simp only[bE,bZ,aH,Jf k]
  have:(UInt8.ofNat (n%256)).toNat=n%256:=by simp
  rw[this,ca,fg (256^k),AT]
def Cj(n:Nat):(enc n).data.toList=(bE 32 n).map UInt8.ofNat:=by simp[enc]
def qY(n:Nat):aH (enc n).data.toList=n%256^32:=by rw[Cj,Jf]
def Rh(n:Nat):(enc n).data.toList.length=32:=by rw[Cj,cC,iw]
def Mw(n k:Nat)(h:32<=k):(enc n).data.toList.take k=(enc n).data.toList:=bK (by rw[Rh];exact h)
def HT(a:g<256^32)(b:n<256^32)(h:enc g=enc n):g=n:=by
 have:=congrArg (λ s:af=>aH s.data.toList) h;simp only[qY] at this;rwa[bY a,bY b] at this
def Wj(h:g<PN):dq (enc g)=0/\dE (enc g)=g:=by
 have a:aH (enc g).data.toList=g:=by rw[qY,bY];unfold PN at h;omega
 have e:dq (enc g)=0:=by
  unfold dq;rw[a,bY h,ar (by rw[gf];decide),ar (by rw[gf];decide),au rfl]
 refine⟨e,?_⟩;unfold dE;rw[au e,a,bY h]
def mK:Nat:=57896044618658097711785492504343953926634992332820282019728792003956564819968
def abm:mK=256^31*128:=by decide+kernel
def Rj(s:Nat)(f:s<2)(h:g<mK):cN (enc (g+s*mK))=enc g/\iG (enc (g+s*mK))=decide (s=1):=by
 rw[abm] at*;have e1:bE 32 (g+s*(256^31*128))=bE 31 g++[g/256^31+128*s]:=by
  rw[B9,show s*(256^31*128)=256^31*(128*s) by rw[fg,AV],Hn,Nat.add_mul_div_left _ _ zD];have:g/256^31<128:=F5 h;rw[bY W]
 have e2:bE 32 g=bE 31 g++[g/256^31]:=by
  rw[B9];have:g/256^31<128:=F5 h;rw[bY W]
 have e:g/256^31<128:=F5 h;have b:=iw 31 g;generalize g/256^31=t at*;have a:(enc (g+s*(256^31*128))).data.toList=(bE 31 g).map UInt8.ofNat++[UInt8.ofNat (t+128*s)]:=by rw[Cj,e1,jy];rfl
 have c:enc g=⟨((bE 31 g).map UInt8.ofNat++[UInt8.ofNat t]).toArray⟩:=by unfold enc;rw[e2,jy];rfl
 have d:((enc (g+s*(256^31*128))).data.toList.getD 31 0).toNat=t+128*s:=by
  rw[a,dc,iR (by simp[b])];simp[b];clear a c e1 e2 h;omega
 constructor
 ·unfold cN;have e5:(t+128*s)%128=t:=by clear d a c e1 e2 h;omega
  rw[d,a,c,e5,w7 (by simp[b]),bK (by simp[b])]
 ·unfold iG;rw[d];congr 1;exact propext ⟨λ _=>by omega,λ _=>by omega⟩
def YM(hx:g<PN):∃r,eE (g*g%PN)=some r/\r<PN/\r%2=0/\(c r=c g\/c r= -c g):=by
 have t:PN%2=1:=by decide+kernel
 have q:∀r,r<PN->hS r<PN/\hS r%2=0/\(c (hS r)=c r\/c (hS r)= -c r):=λ r f=>by
  unfold hS;by_cases h:r%2=1
  ·rw[au h];refine⟨cy _ fh,by rw[bY (show PN-r<PN by omega)];omega,Or.inr ?_⟩;have:=xH 0 (kR f);rw[BN,dz] at this;rw[gA,this];grind
  ·rw[ar h];exact⟨f,by omega,Or.inl rfl⟩
 have p:∃r,r<PN/\gn (ed (g*g%PN)) (g*g%PN)=r/\c r*c r=c g*c g:=by
  have j:c (ed (g*g%PN))=c ((g*g%PN)^((PN+3)/8)):=by
   unfold ed;have e:Nat.succ (qS (λ i=>decide (i=1)) 251 1)=(PN+3)/8:=by decide+kernel
   rw[gA,dm,yR _ _ 251 _ 1 (by rw[xg]),<-dm,<-ca,e]
  have k:ed (g*g%PN)<PN:=by unfold ed;exact cy _ fh
  have o:∀(g y n:Nat),c g=c y->c (g^n)=c (y^n):=λ g y n h=>jH.2 (by rw[sb,jH.1 h,<-sb]);rw[o _ (g*g) _ (gA _)] at j;have e0:(g*g)^((PN+3)/8)*(g*g)^((PN+3)/8)=g*g*g^((PN-1)/2):=by
   have e:(PN+3)/8+(PN+3)/8+((PN+3)/8+(PN+3)/8)=1+1+(PN-1)/2:=by decide+kernel
   rw[<-eI,Nat.mul_pow,<-eI,e,eI,eI,xg]
  have e1:c (ed (g*g%PN))*c (ed (g*g%PN))=c g*c g*c (g^((PN-1)/2)):=by
   rw[j,<-dm,e0,dm,dm]
  have e2:c (g*g%PN)=c g*c g:=by rw[gA,dm]
  generalize ed (g*g%PN)=a at*;unfold gn;by_cases l:c g=0
  ·have m:c a*c a=c g*c g:=by rw[e1,l];grind
   refine⟨a,k,?_,m⟩;rw[au (nC (cy _ fh) (cy _ fh) (by rw[gA,dm,m,e2]))]
  ·have n:c (g^((PN-1)/2))*c (g^((PN-1)/2))=1:=by
    have e:(PN-1)/2+(PN-1)/2=PN-1:=by decide+kernel
    rw[<-dm,<-eI,e];exact sK l
   by_cases b:a*a%PN=g*g%PN
   ·rw[au b];exact⟨a,k,rfl,by rw[<-dm,<-dm];exact jH.2 b⟩
   ·rw[ar b];rcases ZP n with d|d
    ·exact absurd (nC (cy _ fh) (cy _ fh) (by rw[gA,dm,e1,d,e2];grind)) b
    ·refine⟨_,cy _ fh,rfl,?_⟩;have e:c (eW (λ i=>decide (i=2)) 2 252 2)*c (eW (λ i=>decide (i=2)) 2 252 2)= -1:=by decide+kernel
     rw[gA,dm];rw[d] at e1;generalize c (eW (λ i=>decide (i=2)) 2 252 2)=s at*;clear b d n l e2 e0 j k o;grind
 obtain⟨r,f,a,e⟩:=p;have e2:r*r%PN=g*g%PN:=jH.1 (by rw[dm,dm,e]);obtain⟨k1,k2,k3⟩:=q r f;refine⟨hS r,?_,k1,k2,?_⟩
 ·unfold eE;simp only[a];rw[au e2]
 ·have b:(c r-c g)*(c r+c g)=0:=by clear k3 e2 a;grind
  rcases nz b with d|d
  ·have:c r=c g:=by clear k3 e2 a;grind
   rwa[this] at k3
  ·have:c r= -c g:=by clear k3 e2 a;grind
   rw[this] at k3;rcases k3 with k|k
   ·exact Or.inr k
   ·left;rw[k];clear k e2 a e b d this;grind
structure ik(q:Q4)(P:K×K):Prop where
 on:On P
 z:c q.z≠0
 x:c q.x=P.1*c q.z
 y:c q.y=P.2*c q.z
 t:c q.t=P.1*P.2*c q.z
 a:q.x<PN
 lt:q.t<PN
def wO:c cK=D:=by decide+kernel
def dT(a b:Nat):c (aF a b)=c a*c b:=by unfold aF;rw[gA,dm]
def lh(a b:Nat):c (bt a b)=c a+c b:=by unfold bt;rw[gA,nA]
def mo(a:Nat)(h:g<PN):c (bM a g)=c a-c g:=by unfold bM;rw[gA,xH _ (kR h)]
def BO(h:g<PN):c (ek g)= -c g:=by
 have:=mo 0 h;unfold bM at this;rw[dz,BN] at this;unfold ek;rw[this];grind
def dC(a b:Nat):aF a b<PN:=cy _ fh
def oY(a b:Nat):bt a b<PN:=cy _ fh
def vm(a:Nat):ek a<PN:=cy _ fh
def Yp:ik lM cG:=⟨td,by decide+kernel,by decide+kernel,by decide+kernel,by decide+kernel,by decide+kernel,by decide+kernel⟩
def Lq{x y:Nat}(hx:x<PN)(h:On (c x,c y)):ik (fT x y) (c x,c y):=by
 have a:c 1=1:=uQ;refine⟨h,by show c 1≠0;rw[a];decide+kernel,?_,?_,?_,hx,cy _ fh⟩
 ·show c x=c x*c 1;rw[a];grind
 ·show c y=c y*c 1;rw[a];grind
 ·show c (x*y%PN)=c x*c y*c 1;rw[a,gA,dm];grind
def Oe{x1 y1 x2 y2 z1 z2 d x3:K}(h:x3*(1+d*x1*x2*y1*y2)=x1*y2+x2*y1):
 ((y1*z1+x1*z1)*(y2*z2+x2*z2)-(y1*z1-x1*z1)*(y2*z2-x2*z2))=x3*((z1*z2+z1*z2)+(x1*y1*z1*(x2*y2*z2)*d+x1*y1*z1*(x2*y2*z2)*d)):=by grind
def Of{x1 y1 x2 y2 z1 z2 d y3:K}(h:y3*(1-d*x1*x2*y1*y2)=y1*y2+x1*x2):
 ((y1*z1+x1*z1)*(y2*z2+x2*z2)+(y1*z1-x1*z1)*(y2*z2-x2*z2))=y3*((z1*z2+z1*z2)-(x1*y1*z1*(x2*y2*z2)*d+x1*y1*z1*(x2*y2*z2)*d)):=by grind
def Od{x1 y1 x2 y2 z1 z2 d:K}:((z1*z2+z1*z2)+(x1*y1*z1*(x2*y2*z2)*d+x1*y1*z1*(x2*y2*z2)*d))=(2*(z1*z2))*(1+d*x1*x2*y1*y2):=by grind
def Oc{x1 y1 x2 y2 z1 z2 d:K}:((z1*z2+z1*z2)-(x1*y1*z1*(x2*y2*z2)*d+x1*y1*z1*(x2*y2*z2)*d))=(2*(z1*z2))*(1-d*x1*x2*y1*y2):=by grind
def k1{E F G X:K}(h:E=X*G):E*F=X*(G*F):=by grind
def k2{H G F a:K}(h:H=a*F):H*G=a*(G*F):=by grind
def k3{E F G H X a:K}(h:E=X*G)(h2:H=a*F):E*H=X*a*(G*F):=by grind
def D6{q r:Q4}{P Q:K×K}(a:ik q P)(b:ik r Q):ik (ga q r) (add P Q):=by
 have hx:=oS a.on b.on;have o:=oT a.on b.on;have m:=nF a.on b.on;have l:=nE a.on b.on;have n:=rp a.on b.on;have i:(2:K)≠0:=by decide+kernel
 have f:c (hH q r)=(P.2*c q.z-P.1*c q.z)*(Q.2*c r.z-Q.1*c r.z):=by unfold hH;rw[dT,mo _ a.a,mo _ b.a,a.x,a.y,b.x,b.y]
 have g:c (iq q r)=(P.2*c q.z+P.1*c q.z)*(Q.2*c r.z+Q.1*c r.z):=by unfold iq;rw[dT,lh,lh,a.x,a.y,b.x,b.y]
 have d:c (gO q r)=P.1*P.2*c q.z*(Q.1*Q.2*c r.z)*D+P.1*P.2*c q.z*(Q.1*Q.2*c r.z)*D:=by unfold gO;rw[lh,dT,dT,a.t,b.t,wO]
 have e:c (hI q r)=c q.z*c r.z+c q.z*c r.z:=by unfold hI;rw[lh,dT]
 have p:hH q r<PN:=dC _ _;have h:gO q r<PN:=oY _ _;have E:c (bM (iq q r) (hH q r))=(add P Q).1*c (bt (hI q r) (gO q r)):=by rw[mo _ p,lh,f,g,d,e];exact Oe hx
 have H:c (bt (iq q r) (hH q r))=(add P Q).2*c (bM (hI q r) (gO q r)):=by rw[mo _ h,lh,f,g,d,e];exact Of o
 have k:c (bt (hI q r) (gO q r))≠0:=by rw[lh,d,e,Od];exact ec (ec i (ec a.z b.z)) m
 have j:c (bM (hI q r) (gO q r))≠0:=by rw[mo _ h,d,e,Oc];exact ec (ec i (ec a.z b.z)) l
 unfold ga JH;refine⟨n,?_,?_,?_,?_,dC _ _,dC _ _⟩
 ·simp only[dT];exact ec k j
 ·simp only[dT];exact k1 E
 ·simp only[dT];exact k2 H
 ·simp only[dT];exact k3 E H
def Yn{q:Q4}{P:K×K}(h:ik q P):ik (tb q) (neg P):=by
 refine⟨ku h.on,h.z,?_,h.y,?_,vm _,vm _⟩
 ·show c (ek q.x)= -P.1*c q.z;rw[BO h.a,h.x];grind
 ·show c (ek q.t)= -P.1*P.2*c q.z;rw[BO h.lt,h.t];grind
def Jg:∀(l:List UInt8) (j:Nat),aH l/256^j%256=(l.getD j 0).toNat
 |[],j=>by simp[aH]
 |b::l,0=>by have:=b.toNat_lt;simp[aH]
 |b::l,j+1=>by
  have:=b.toNat_lt
  rw[ca,fg (256^j),<-gM,show aH (b::l)/256=aH l by simp only[aH];omega,Jg l j]
  simp
def xE(s:af)(i:Nat):dt s i=aH s.data.toList/2^i%2:=by
 have a:=Jg s.data.toList (i/8);have e:aH s.data.toList/2^i=aH s.data.toList/256^(i/8)/2^(i%8):=by
  rw[gM,show(256:Nat)=2^8 from rfl,<-iT,<-eI,xc]
 have e2:∀N r:Nat,r<8->N/2^r%2=N%256/2^r%2:=λ N r c=>by
  have b:r=0\/r=1\/r=2\/r=3\/r=4\/r=5\/r=6\/r=7:=by omega
  rcases b with rfl|rfl|rfl|rfl|rfl|rfl|rfl|rfl<;>omega
 rw[e,e2 _ _ (cy _ zD),a];unfold dt;split
 ·rfl
 ·rename_i h;rw[dc,List.getElem?_eq_none (by simpa using h)];simp
def D7(k:af){p:Q4}{P:K×K}(a:ik p P):∀(i:Nat) (r:Q4) (m:Nat),ik r (smul m P)->ik (ps k p i r) (smul (m*2^i+aH k.data.toList%2^i) P)
 |0,r,m,h=>by rw[sd,oG,AU];exact h
 |i+1,r,m,h=>by
  rw[Df]
  have b:=D6 h h
  rw[<-smul_add a.on] at b
  have d:=xE k i
  have f:aH k.data.toList%2^(i+1)=aH k.data.toList%2^i+2^i*(aH k.data.toList/2^i%2):=by rw[ca,AT]
  have l:aH k.data.toList/2^i%2<2:=cy _ zD
  by_cases c:dt k i=1
  ·rw[au c]
   have j:=D6 b a
   have:=D7 k a i _ (m+m+1) j
   rw[c] at d
   rw[f,<-d,ca]
   have e:m*(2^i*2)+(aH k.data.toList%2^i+2^i*1)=(m+m+1)*2^i+aH k.data.toList%2^i:=by grind
   rw[e];exact this
  ·rw[ar c]
   have:=D7 k a i _ (m+m) b
   have g:aH k.data.toList/2^i%2=0:=by omega
   rw[f,g,ca]
   have e:m*(2^i*2)+(aH k.data.toList%2^i+2^i*0)=(m+m)*2^i+aH k.data.toList%2^i:=by grind
   rw[e];exact this
def qZ:∀l:List UInt8,aH l<256^l.length
 |[]=>by simp[aH]
 |b::l=>by
  have:=b.toNat_lt
  have:=qZ l
  simp only[aH,gq,ca]
  omega
def zd{p:Q4}{P:K×K}(c:ik p P){k:af}(b:k.size<=32):ik (fR p k) (smul (aH k.data.toList) P):=by
 have:=D7 k c 256 lM 0 Yp;rw[qn,dz,bY] at this
 ·exact this
 ·have d:=qZ k.data.toList;have a:k.data.toList.length<=32:=by simpa using b
  have e:(256:Nat)^k.data.toList.length<=256^32:=kU zD a;have f:(256:Nat)^32=2^256:=by decide+kernel
  omega
def cL(P:K×K):af:=enc (P.2.val+if P.1.val%2=1 then mK else 0)
def I4{z X:K}(a:c g=X*z)(h:z≠0)(b:z*c n=1):c g*c n=X:=by rw[a];clear a h;grind
def HP{q:Q4}{P:K×K}(h:ik q P):hK q=cL P:=by
 have a:=BP h.z;have c:Ci q=P.2.val:=nC (dC _ _) P.2.isLt (by unfold Ci;rw[dT,eU];exact I4 h.y h.z a);have b:vf q=P.1.val:=nC (dC _ _) P.1.isLt (by unfold vf;rw[dT,eU];exact I4 h.x h.z a);unfold hK cL;rw[c,b];rfl
def Qz{P:K×K}(h:On P):D*(P.2*P.2)+1≠0:=λ a=>by
 have d:=IY;have b:im*im=D*(P.2*P.2):=by clear h;grind
 have c:=FO b;rw[c] at a;exact absurd a (by decide+kernel)
def ZO{x y d n:K}(h:y*y-x*x-1-d*x*x*y*y=0)(a:(d*(y*y)+1)*n=1):(y*y-1)*n=x*x:=by grind
def Qw{P:K×K}(h:On P):aF (bM (aF P.2.val P.2.val) 1) (cZ (bt (aF cK (aF P.2.val P.2.val)) 1))=P.1.val*P.1.val%PN:=by
 refine nC (dC _ _) (cy _ fh) ?_;have hd:c (bt (aF cK (aF P.2.val P.2.val)) 1)=D*(P.2*P.2)+1:=by rw[lh,dT,dT,eU,wO,uQ]
 have b:=BP (a:=bt (aF cK (aF P.2.val P.2.val)) 1) (by rw[hd];exact Qz h);have d:1<PN:=by unfold PN;decide
 rw[dT,mo _ d,dT,eU,uQ,gA,dm,eU];rw[hd] at b;exact ZO h b
def Sh(b:g<PN)(hx:n<PN)(h:c g= -c n):ek g=n/\(n≠0->n=PN-g)/\(n=0->g=0):=by
 have e:ek g=n:=nC (vm _) hx (by rw[BO b,h];grind);refine⟨e,λ a=> ?_,λ a=> ?_⟩
 ·unfold ek at e;by_cases d:g=0
  ·subst d;rw[AX,Nat.mod_self] at e;exact absurd e.symm a
  ·rw[bY (show PN-g<PN by omega)] at e;exact e.symm
 ·subst a;refine nC b fh ?_;rw[h,BN];grind
def Qm{s:af}(a:s.size=32)(h1:dq (cN s)=0)(h2:kj (dE (cN s))=some g):
 cD s=if iG s&&decide (g=0) then none else some (fT (if iG s then ek g else g) (dE (cN s))):=by
 unfold cD
 rw[au a,au h1,h2]
def Hk{P:K×K}(h:On P)(s:Nat)(o:s<2)(w:P.1.val%2=s):cD (enc (P.2.val+s*mK))=some (fT P.1.val P.2.val):=by
 have t:P.2.val<mK:=lY P.2.isLt (by unfold PN mK;decide);obtain⟨b,e⟩:=Rj s o t;obtain⟨i,d⟩:=Wj P.2.isLt;have k:=Qw h;obtain⟨r,n,f,u,m⟩:=YM P.1.isLt;have v:PN%2=1:=by decide+kernel
 have g:=P.1.isLt;have l:=λ a=>Sh f g a;have hd:kj P.2.val=some r:=by
  unfold kj;rw[k,n]
 have j:=gf (P.2.val+s*mK);generalize enc (P.2.val+s*mK)=S at*;rw[Qm j (by rw[b];exact i) (by rw[b,d];exact hd),b,d,e];clear k b e i d n hd j;by_cases q:s=1
 ·have b:r≠P.1.val:=λ e=>by omega
  have k:c r= -c P.1.val:=m.resolve_left λ a=>b (nC f g a);obtain⟨i,d,j⟩:=l k;have n:r≠0:=λ e=>by
   have:=d W;omega
  rw[q];simp only[decide_true,gW,if_true];rw[ar (by simpa using n),i]
 ·have p:s=0:=by omega
  rw[p];simp only[Nat.zero_ne_one,decide_false,kH,eG,if_false];have b:r=P.1.val:=by
   rcases m with a|a
   ·exact nC f g a
   ·obtain⟨i,d,j⟩:=l a;by_cases e:P.1.val=0
    ·have:=j e;omega
    ·have:=d e;omega
  rw[b]
def uU{P:K×K}(h:On P):cD (cL P)=some (fT P.1.val P.2.val):=by
 unfold cL;by_cases a:P.1.val%2=1
 ·rw[au a];have:=Hk h 1 zD a;rwa[sa] at this
 ·rw[ar a];have:=Hk h 0 zD W;rwa[qn] at this
def Wl(h:fT g n=fT k i):g=k/\n=i:=by
 unfold fT at h;injection h with a b c d;exact⟨a,b⟩
def Q6{P Q:K×K}(h1:On P)(h2:On Q)(h:cL P=cL Q):P=Q:=by
 have e1:=uU h1;rw[h,uU h2] at e1;obtain⟨k1,k2⟩:=Wl (hD e1);exact uu (rP k1.symm) (rP k2.symm)
def Yo{P:K×K}(h:On P):ik (fT P.1.val P.2.val) P:=by
 have:=Lq (x:=P.1.val) (y:=P.2.val) P.1.isLt (by rw[eU,eU];exact h);rwa[eU,eU] at this
def B:K×K:=(c dO.x,c dO.y)
def jh:On B:=by unfold On B;decide+kernel
def D5:ik dO B:=by
 have h:=Lq (x:=dO.x) (y:=dO.y) (by decide+kernel) jh;have e:fT dO.x dO.y=dO:=by
  show(⟨_,_,_,_⟩:Q4)=⟨_,_,_,_⟩;congr 1
 rwa[e] at h
def Ww:smul SC.LQ B=cG:=by
 have h:=zd D5 (k:=enc SC.LQ) (by rw[gf];decide);rw[qY,bY (by decide+kernel)] at h;have a:c (fR dO (enc SC.LQ)).x=0:=by decide+kernel
 have b:c (fR dO (enc SC.LQ)).y=c (fR dO (enc SC.LQ)).z:=by decide+kernel
 obtain⟨-,d,hx,f,-,-,-⟩:=h;rw[a] at hx;rw[b] at f;refine uu ?_ ?_
 ·rcases nz hx.symm with e|e
  ·exact e
  ·exact absurd e d
 ·refine(cancel d ?_:_=(1:K));generalize smul SC.LQ B=T at*;generalize c (fR dO (enc SC.LQ)).z=z at*;clear hx a b;grind
def L7:∀n,smul n cG=cG
 |0=>rfl
 |n+1=>by
  show add (smul n cG) cG=cG
  rw[L7 n];exact oR td
def L8(n:Nat):smul (n%SC.LQ) B=smul n B:=by
 have e:smul n B=smul (SC.LQ*(n/SC.LQ)+n%SC.LQ) B:=by rw[xc]
 rw[e,smul_add jh,<-zv jh,Ww,L7,A0 (iI jh _)]
end GL
end
variable{b:List UInt8}
section
open FM PT GL
def nT:List UInt8:=[237,211,245,92,26,99,18,88,214,156,247,162,222,249,222,20,0,0,0,0,0,0,0,0,0,0,0,0,0,0,0,16]
def Ws:aH nT=SC.LQ:=by decide+kernel
def lC(n:Nat):List UInt8:=nT++List.replicate (n-32) 0
def yx:∀n,aH (List.replicate n 0)=0
 |0=>rfl
 |n+1=>by simp only[ff,aH,yx n];rfl
def Du(n:Nat):aH (lC n)=SC.LQ:=by unfold lC;rw[qX,yx,jB,fA,Ws]
def J8(h:32<=n):(lC n).length=n:=by unfold lC;simp[nT];omega
def Wt(a:i<n)(c:32<=n):(lC n)[i]?=some (if i<32 then nT.getD i 0 else 0):=by
 unfold lC;by_cases h:i<32
 ·rw[au h,kO (by simpa[nT] using h),dc,aU (by simpa[nT] using h)];rfl
 ·have b:nT.length=32:=rfl;rw[ar h,iR W,AE,au W]
def yw{x:UInt8}(h:b[i]?=some x):aH b=aH (b.take i)+256^i*(x.toNat+256*aH (b.drop (i+1))):=by
 obtain⟨c,rfl⟩:=cw.1 h;have a:=qX (b.take i) (b.drop i);rw[nf,eA,hz W,iQ c] at a;exact a
def Jh(l:List UInt8)(i:Nat):aH (l.take i)<256^i:=by
 have a:=qZ (l.take i);have b:(256:Nat)^(l.take i).length<=256^i:=kU zD (by rw[eA];omega);omega
def OJ{a:List UInt8}{x y:UInt8}(hx:a[i]?=some x)(g:b[i]?=some y)(e:a.drop (i+1)=b.drop (i+1))(f:x≠y):decide (aH a<aH b)=decide (x.toNat<y.toNat):=by
 rw[yw hx,yw g,e];have j:=Jh a i;have k:=Jh b i;have m:x.toNat≠y.toNat:=λ h=>f (xu.1 h);generalize aH (b.drop (i+1))=T at*;generalize aH (a.take i)=A at*;generalize aH (b.take i)=B at*;generalize(256:Nat)^i=E at*;congr 1;refine propext ⟨λ h=> ?_,λ h=> ?_⟩
 ·refine gY λ l=> ?_;have c:y.toNat+256*T+1<=x.toNat+256*T:=by omega
  have d:=rZ E c;rw[xf,oG] at d;omega
 ·have c:x.toNat+256*T+1<=y.toNat+256*T:=by omega
  have d:=rZ E c;rw[xf,oG] at d;omega
structure kb(d o:List UInt8)(i:Nat)(c:Int)(q:List UInt8):Prop where
 len:q.length=i
 b:c=0\/c=1
 eq:(aH q:Int)=aH (d.take i)-aH (o.take i)+c*256^i
def kb.start(d o:List UInt8):kb d o 0 0 []:=⟨rfl,.inl rfl,by simp[aH]⟩
def kb.step{d q:List UInt8}{c v:Int}{x y:UInt8}(h:kb d b i c q)(hx:d[i]?=some x)(m:b[i]?=some y)(l:v=(x.toNat:Int)-c-y.toNat):
 (v<0->kb d b (i+1) 1 (q++[UInt8.ofNat (v+256).toNat])/\((UInt8.ofNat (v+256).toNat).toNat:Int)=v+256)/\(0<=v->kb d b (i+1) 0 (q++[UInt8.ofNat v.toNat])/\((UInt8.ofNat v.toNat).toNat:Int)=v):=by
 have o:=x.toNat_lt
 have p:=y.toNat_lt
 have e:∀(z a:Int),0<=z->z<256->(a=0\/a=1)->z=v+a*256->kb d b (i+1) a (q++[UInt8.ofNat z.toNat])/\((UInt8.ofNat z.toNat).toNat:Int)=z:=λ z a g n f k=>by
  have j:((UInt8.ofNat z.toNat).toNat:Int)=z:=by simp;omega
  refine⟨⟨by simp[h.len],f,?_⟩,j⟩
  rw[qX,vy hx,vy m,h.len]
  simp only[aH,jB,fA]
  have f:=h.eq
  have g:(256:Int)^i=((256^i:Nat):Int):=by simp
  rw[g] at f
  rw[show(256:Int)^(i+1)=((256^i:Nat):Int)*256 by rw[qe,g]]
  generalize 256^i=E at*
  rw[Aw,Aw,Aw,qc,qc,qc,f,j,k,l]
  rw[tU,Int.mul_sub,Int.mul_sub,show(E:Int)*(a*256)=a*(E*256) by ac_rfl,mV (E:Int) x.toNat,mV (E:Int) y.toNat,mV (E:Int) c]
  omega
 rcases h.b with f|f
 ·exact⟨λ a=>e _ 1 W W (.inr rfl) W,λ a=>e _ 0 W W (.inl rfl) W⟩
 ·exact⟨λ a=>e _ 1 W W (.inr rfl) W,λ a=>e _ 0 W W (.inl rfl) W⟩
def kb.done{q:List UInt8}{c:Int}(h:kb b (lC b.length) b.length c q)(h32:32<=b.length)(g:SC.LQ<=aH b):aH q+SC.LQ=aH b:=by
 have a:=h.eq;rw[bK (aQ _),bK (by rw[J8 h32];exact aQ _),Du] at a;have e:=qZ q;rw[h.len] at e;have f:(256:Int)^b.length=((256^b.length:Nat):Int):=by simp
 rw[f] at a;rcases h.b with d|d<;>subst d<;>omega
def Ho:∀l:List UInt8,(bE l.length (aH l)).map UInt8.ofNat=l
 |[]=>rfl
 |b::l=>by
  have a:=b.toNat_lt
  simp only[gq,bE,aH,bZ]
  rw[show(b.toNat+256*aH l)/256=aH l by omega,Ho l,show(b.toNat+256*aH l)%256=b.toNat by omega]
  simp
def HU(h:b.length=32):(⟨b.toArray⟩:af)=enc (aH b):=by
 have:=Ho b;rw[h] at this;unfold enc;rw[this]
def Ay:SC.LQ<256^32:=by decide+kernel
def VA{r:List UInt8}{x:UInt8}(g:r.length=33)(c:aH r=aH (b.drop (i+1))%SC.LQ)(hx:b[i]?=some x):(x::r.take 32).length=33/\aH (x::r.take 32)%SC.LQ=aH (b.drop i)%SC.LQ:=by
 obtain⟨f,rfl⟩:=cw.1 hx;have l:aH r<SC.LQ:=by rw[c];exact cy _ (by decide+kernel)
 have d:r[32]?=some (r[32]'W):=aU W;have a:=yw d;have j:=Ay;have h:aH (r.take 32)=aH r:=by
  rw[tX (by omega:r.length<=32+1)] at a;simp only[aH,jB,fA] at a;have e:(r[32]'W).toNat=0:=by
   refine gY λ k=> ?_;have:=rZ (256^32) (show 1<=(r[32]'W).toNat by omega);omega
  rw[e,jB,fA] at a;exact a.symm
 refine⟨by simp[g],?_⟩;rw[iQ f];simp only[aH];rw[h,c,rV,nh,rX,<-nh,<-rV]
def ZS{s:af}:hY s=(decide (s.size=32)&&decide (aH s.data.toList<SC.LQ)):=by
 unfold hY;by_cases h:s.size=32
 ·rw[aT h,gW,gW];have b:s.data.toList.length=32:=by simpa using h
  have e:s=enc (aH s.data.toList):=by rw[<-HU b]
  congr 1;unfold db;rw[bK W];have c:=qZ s.data.toList;rw[b] at c;generalize aH s.data.toList=n at*;subst e;refine propext ⟨λ a=> ?_,λ a=>by rw[bY a]⟩;have d:n%SC.LQ<SC.LQ:=cy _ (by decide+kernel);have:=HT (lY d Ay) c a;omega
 ·rw[bm h];rfl
def Xb(c:Nat)(a:c=g^(n/2^(i+1))%PN):(if n/2^i%2=1 then c*c%PN*g%PN else c*c%PN)=g^(n/2^i)%PN:=by
 have e:n/2^(i+1)=n/2^i/2:=by rw[ca,gM]
 rw[e] at a;generalize n/2^i=m at*;have b:c*c%PN=g^(m/2+m/2)%PN:=by rw[a,<-nh,eI]
 rw[b];split
 ·have:m=m/2+m/2+1:=by omega
  rw[this,ca,show(m/2+m/2+1)/2+(m/2+m/2+1)/2=m/2+m/2 by omega,nh,rX,<-nh]
 ·have:m=m/2+m/2:=by omega
  rw[<-this]
def yT(a e:Nat):Nat:=a^e%PN
def DJ(skip:Nat->Bool)(a:Nat)(i e:Nat)(c:0<i)(d:qS skip i 1=e):eW skip a i a=a^e%PN:=by
 have b:=yR skip a i a 1 (by rw[xg]);rw[d] at b;have:=jH.1 b;rwa[bY (yS skip a i a c)] at this
def TT(a:Nat):cZ a=a^(2^255-21)%PN:=by
 have e:qS (λ i=>decide (i=2)||decide (i=4)) 254 1=2^255-21:=by decide+kernel
 rw[<-e];exact DJ _ a 254 _ zD rfl
def YE(a:Nat):ed a=a^(2^252-2)%PN:=by
 unfold ed;have e:Nat.succ (qS (λ i=>decide (i=1)) 251 1)=2^252-2:=by decide+kernel
 rw[DJ _ a 251 _ zD rfl,Nat.mod_mul_mod,<-ca,<-e]
def abo:eW (λ i=>decide (i=2)) 2 252 2=2^(2^253-5)%PN:=by
 have e:qS (λ i=>decide (i=2)) 252 1=2^253-5:=by decide+kernel
 rw[<-e];exact DJ _ 2 252 _ zD rfl
end
variable{t:TypeId}
def jG(a i:Nat):List UInt8:=((FM.bE 32 a).map UInt8.ofNat).take i++List.replicate (32-i) 0
def O8(a i:Nat)(h:i<=32):(jG a i).length=32:=by simp[jG,FM.iw];omega
def Pa(a:Nat):jG a 0=List.replicate 32 0:=by simp[jG]
def O7(a:Nat):jG a 32=(FM.bE 32 a).map UInt8.ofNat:=by
 unfold jG;rw[bK (by simp[FM.iw])];simp
def O9(a i:Nat)(h:i<32):(jG a i).set i (UInt8.ofNat (a/256^i%256))=jG a (i+1):=by
 have e:(((FM.bE 32 a).map UInt8.ofNat).take i).length=i:=by simp[FM.iw];omega
 have d:((FM.bE 32 a).map UInt8.ofNat)[i]?=some (UInt8.ofNat (a/256^i%256)):=by
  rw[ef,FM.qQ 32 a i h];rfl
 obtain⟨b,c⟩:=cw.1 d;unfold jG;rw[kQ _ _ W,e,qm,show 32-i=(32-(i+1))+1 by omega,ff,lW,eC b,c,gK];rfl
def b8(L:List UInt8):Array ab:=(bB L).toArray
def BA(L:List UInt8)(k:Nat)(b:UInt8):(b8 L).setIfInBounds k (.int .u8 (b.toNat:Int))=b8 (L.set k b):=by simp[b8,bB,lU]
def xz{L:List UInt8}{b:UInt8}(h:L[k]?=some b):(b8 L)[k]?=some (.int .u8 (b.toNat:Int)):=by simp[b8,bB,h]
def Na:(#[.int .u8 0,.int .u8 0,.int .u8 0,.int .u8 0,.int .u8 0,.int .u8 0,.int .u8 0,.int .u8 0,.int .u8 0,.int .u8 0,.int .u8 0,.int .u8 0,.int .u8 0,.int .u8 0,.int .u8 0,.int .u8 0,.int .u8 0,.int .u8 0,.int .u8 0,.int .u8 0,.int .u8 0,.int .u8 0,.int .u8 0,.int .u8 0,.int .u8 0,.int .u8 0,.int .u8 0,.int .u8 0,.int .u8 0,.int .u8 0,.int .u8 0,.int .u8 0]:Array ab)=b8 (List.replicate 32 0):=by kernel_rfl
def GM{w:aa}(h:ah w g t (b8 b))(n:Nat)(d:b.length=n)(a:Nat):(convert 29 9 (ag (some ⟨g,0,none⟩) n a)).run prog w= .ok (ad ⟨b.toArray⟩) w:=by
 subst d;exact tz (P:=prog) w 29 9 5 ⟨g,0,none⟩ a b cP eJ df (λ j c=>by
  rw[gp,dz,h.cell];exact xz (aU c))
def pR(n:Int):IntKind.u8.wrap n=n%256:=by simp[IntKind.wrap,IntKind.bits,IntKind.signed]
structure uE(w wr:aa)(B:Nat)(a:List Nat)(L:List UInt8):Prop where
 aJ:BW w wr
 c:w.heap.size<=B
 a:ah wr B 184 (aV a)
 b:ah wr (B+1) 174 (b8 L)
def uE.set{w wr:aa}{B:Nat}{a:List Nat}{L:List UInt8}(h:uE w wr B a L)(k:Nat)(b:UInt8):uE w (wr.setCell ⟨B+1,k,none⟩ (.int .u8 (b.toNat:Int))) B a (L.set k b):=
 ⟨h.aJ.setCell (by have:=h.c;simp;omega) _,h.c,h.a.cE zS _,by rw[<-BA];exact h.b.dx k _⟩
def Ml(a:List Nat)(y:a.length=4)(h:SC.cQ a)(w:aa):CB 114 #[aG (aV a)] w (ad (FM.enc (SC.vW a))):=by
 have p:=Z (And.intro y h)
 go_enter func114,ntmps114
 go_upto_region 2 with fail
 rw[Na];have u:uE w ((w.alloc (.cells (aV a) 184)).alloc (.cells (b8 (List.replicate 32 0)) 174)) w.heap.size a (List.replicate 32 0):=
  ⟨((bp _ _).alloc (aQ _) _).alloc zS _,aQ _,(ah.new w 184 _).alloc _,fD w _ 174 _⟩
 generalize(w.alloc (.cells (aV a) 184)).alloc (.cells (b8 (List.replicate 32 0)) 174)=K at*;have t:=Z u
 go_wp2
 go_loopw [5] (λ i wr=>∃k:Nat,k<=32/\i=O k/\uE w wr w.heap.size a (jG (SC.vW a) k)) (λ i _=>32-(intOf i).toNat)
 case atStart=>exact⟨0,by omega,rfl,by rw[Pa];exact t.U⟩
 case round=>
  obtain⟨k,B,rfl,h⟩:=hrel;by_cases r:k<32
  ·obtain⟨x,hx⟩:∃x,a[k/8]?=some x:=⟨_,aU (by rw[p.U.1];omega)⟩;have z:=SC.abZ p.U.2 hx;have c:=O9 (SC.vW a) k r;have C:=O8 (SC.vW a) k B;rw[<-z] at c;obtain⟨j,A⟩:∃j,k/8=j:=⟨_,rfl⟩;rw[A] at hx;have E:=(h.a.cell j).trans (lB hx);obtain⟨s,D⟩:∃s,(jG (SC.vW a) k)[k]?=some s:=⟨_,aU (by rw[C];exact r)⟩;have F:=(h.b.cell k).trans (xz D);have f1:=h.b.frozen k;have e1:(k:Int).tdiv 8=(j:Int):=by rw[ov W];omega
   have L:IntKind.i64.wrap (j:Int)=(j:Int):=aO _ W;have G:(0:Int)<=(j:Int):=by omega
   have H:(j:Int)<4:=by omega
   have I:(0:Int)<=(k:Int):=by omega
   have J:(k:Int)<32:=by omega
   have l:=Z h;obtain⟨L2,q⟩:∃L2,jG (SC.vW a) (k+1)=L2:=⟨_,rfl⟩;rw[q] at c;have i:=Z q;generalize jG (SC.vW a) k=m at*;have v:k%8=0\/k%8=1\/k%8=2\/k%8=3\/k%8=4\/k%8=5\/k%8=6\/k%8=7:=by omega
   rcases v with e|e|e|e|e|e|e|e
   ·rw[e] at c;have e2:(k:Int).tmod 8=0:=by rw[fz W];omega
    have o:IntKind.i64.wrap 0=0:=by decide
    have f:m.set k (UInt8.ofNat (x/1%256))=L2:=c;have g:(x:Int)%256=((UInt8.ofNat (x/1%256)).toNat:Int):=by rw[qz];omega
    have n:IntKind.u8.wrap ((x:Int))=((UInt8.ofNat (x/1%256)).toNat:Int):=by rw[pR];exact g
    generalize UInt8.ofNat (x/1%256)=b at*;have d:=Z f
    go_wp2
    go_roundw
    case rel=>exact⟨k+1,by omega,by go_num,by have:=l.U.set k b;rw[d.U,<-i.U] at this;exact this⟩
    case measure=>simp[intOf];omega
   ·rw[e] at c;have e2:(k:Int).tmod 8=1:=by rw[fz W];omega
    have o:IntKind.i64.wrap 8=8:=by decide
    have f:m.set k (UInt8.ofNat (x/256%256))=L2:=c;have g:(x:Int)/256%256=((UInt8.ofNat (x/256%256)).toNat:Int):=by rw[qz];omega
    have n:IntKind.u8.wrap ((x:Int)/256)=((UInt8.ofNat (x/256%256)).toNat:Int):=by rw[pR];exact g
    generalize UInt8.ofNat (x/256%256)=b at*;have d:=Z f
    go_wp2
    go_roundw
    case rel=>exact⟨k+1,by omega,by go_num,by have:=l.U.set k b;rw[d.U,<-i.U] at this;exact this⟩
    case measure=>simp[intOf];omega
   ·rw[e] at c;have e2:(k:Int).tmod 8=2:=by rw[fz W];omega
    have o:IntKind.i64.wrap 16=16:=by decide
    have f:m.set k (UInt8.ofNat (x/65536%256))=L2:=c;have g:(x:Int)/65536%256=((UInt8.ofNat (x/65536%256)).toNat:Int):=by rw[qz];omega
    have n:IntKind.u8.wrap ((x:Int)/65536)=((UInt8.ofNat (x/65536%256)).toNat:Int):=by rw[pR];exact g
    generalize UInt8.ofNat (x/65536%256)=b at*;have d:=Z f
    go_wp2
    go_roundw
    case rel=>exact⟨k+1,by omega,by go_num,by have:=l.U.set k b;rw[d.U,<-i.U] at this;exact this⟩
    case measure=>simp[intOf];omega
   ·rw[e] at c;have e2:(k:Int).tmod 8=3:=by rw[fz W];omega
    have o:IntKind.i64.wrap 24=24:=by decide
    have f:m.set k (UInt8.ofNat (x/16777216%256))=L2:=c;have g:(x:Int)/16777216%256=((UInt8.ofNat (x/16777216%256)).toNat:Int):=by rw[qz];omega
    have n:IntKind.u8.wrap ((x:Int)/16777216)=((UInt8.ofNat (x/16777216%256)).toNat:Int):=by rw[pR];exact g
    generalize UInt8.ofNat (x/16777216%256)=b at*;have d:=Z f
    go_wp2
    go_roundw
    case rel=>exact⟨k+1,by omega,by go_num,by have:=l.U.set k b;rw[d.U,<-i.U] at this;exact this⟩
    case measure=>simp[intOf];omega
   ·rw[e] at c;have e2:(k:Int).tmod 8=4:=by rw[fz W];omega
    have o:IntKind.i64.wrap 32=32:=by decide
    have f:m.set k (UInt8.ofNat (x/4294967296%256))=L2:=c;have g:(x:Int)/4294967296%256=((UInt8.ofNat (x/4294967296%256)).toNat:Int):=by rw[qz];omega
    have n:IntKind.u8.wrap ((x:Int)/4294967296)=((UInt8.ofNat (x/4294967296%256)).toNat:Int):=by rw[pR];exact g
    generalize UInt8.ofNat (x/4294967296%256)=b at*;have d:=Z f
    go_wp2
    go_roundw
    case rel=>exact⟨k+1,by omega,by go_num,by have:=l.U.set k b;rw[d.U,<-i.U] at this;exact this⟩
    case measure=>simp[intOf];omega
   ·rw[e] at c;have e2:(k:Int).tmod 8=5:=by rw[fz W];omega
    have o:IntKind.i64.wrap 40=40:=by decide
    have f:m.set k (UInt8.ofNat (x/1099511627776%256))=L2:=c;have g:(x:Int)/1099511627776%256=((UInt8.ofNat (x/1099511627776%256)).toNat:Int):=by rw[qz];omega
    have n:IntKind.u8.wrap ((x:Int)/1099511627776)=((UInt8.ofNat (x/1099511627776%256)).toNat:Int):=by rw[pR];exact g
    generalize UInt8.ofNat (x/1099511627776%256)=b at*;have d:=Z f
    go_wp2
    go_roundw
    case rel=>exact⟨k+1,by omega,by go_num,by have:=l.U.set k b;rw[d.U,<-i.U] at this;exact this⟩
    case measure=>simp[intOf];omega
   ·rw[e] at c;have e2:(k:Int).tmod 8=6:=by rw[fz W];omega
    have o:IntKind.i64.wrap 48=48:=by decide
    have f:m.set k (UInt8.ofNat (x/281474976710656%256))=L2:=c;have g:(x:Int)/281474976710656%256=((UInt8.ofNat (x/281474976710656%256)).toNat:Int):=by rw[qz];omega
    have n:IntKind.u8.wrap ((x:Int)/281474976710656)=((UInt8.ofNat (x/281474976710656%256)).toNat:Int):=by rw[pR];exact g
    generalize UInt8.ofNat (x/281474976710656%256)=b at*;have d:=Z f
    go_wp2
    go_roundw
    case rel=>exact⟨k+1,by omega,by go_num,by have:=l.U.set k b;rw[d.U,<-i.U] at this;exact this⟩
    case measure=>simp[intOf];omega
   ·rw[e] at c;have e2:(k:Int).tmod 8=7:=by rw[fz W];omega
    have o:IntKind.i64.wrap 56=56:=by decide
    have f:m.set k (UInt8.ofNat (x/72057594037927936%256))=L2:=c;have g:(x:Int)/72057594037927936%256=((UInt8.ofNat (x/72057594037927936%256)).toNat:Int):=by rw[qz];omega
    have n:IntKind.u8.wrap ((x:Int)/72057594037927936)=((UInt8.ofNat (x/72057594037927936%256)).toNat:Int):=by rw[pR];exact g
    generalize UInt8.ofNat (x/72057594037927936%256)=b at*;have d:=Z f
    go_wp2
    go_roundw
    case rel=>exact⟨k+1,by omega,by go_num,by have:=l.U.set k b;rw[d.U,<-i.U] at this;exact this⟩
    case measure=>simp[intOf];omega
  ·obtain rfl:k=32:=by omega
   rw[O7] at h;have f:=GM h.b 32 (by simp[FM.iw]) 32;have d:ai (FM.enc (SC.vW a)=⟨((FM.bE 32 (SC.vW a)).map UInt8.ofNat).toArray⟩):=Z rfl;have b:=Z h.aJ
   go_wp2
   go_ret
   exact⟨by rw[d.U];rfl,b.U⟩
variable{m:List Nat}
def la(w:aa):Prop:=∃t b,w.heap[3]?=some (.cells (aV SC.te) t b)
def la.lt{w:aa}(h:la w):3<w.heap.size:=by
 obtain⟨t,b,h⟩:=h;exact(mT.1 h).1
def la.below{w b:aa}(h:la w)(d:Below n w b)(e:3<n):la b:=by
 obtain⟨t,c,h⟩:=h;exact⟨t,c,(d.block 3 e).trans h⟩
section
variable{ops:Array Oper}{rest:List Oper}{op:Oper}{a:Act}{Q:Exit->Act->aa->Prop}{w:aa}
def Az(q:Region.wanted op (yielded ops a.tmps)=true)(c n:Nat){x:Operand}(u:op.op= .load c x)(hx:a.eval x=pV g){e:Nat×Nat}{b:Array ab}(p:w.heap[g]?=some (.cells b t e))
 (k:hU c n=true) (s:b.size=n) (m:wpList prog ops Q rest (a.put op.dst (aG b)) w):wpList prog ops Q (op::rest) a w:=by
 obtain⟨⟨d,f,h⟩,i⟩:=pK k
 have o:wpList prog ops Q rest (a.put op.dst (aG b.toList.toArray)) w:=by simpa using m
 refine eF q λ _ l=>Fo c x u g 0 hx b.toList d (λ j v r=> ?_) f h (by rw[i];simp[s]) (l _ _ o)
 unfold World.cell?
 rw[p]
 simpa using r
end
structure jZ(w wr:aa)(B:Nat)(l:List Nat):Prop where
 aJ:BW w wr
 c:w.heap.size<=B
 z:ah wr B 184 (aV [0,0,0,0])
 a:ah wr (B+1) 184 (aV l)
def jZ.set{w wr:aa}{B:Nat}{l:List Nat}(h:jZ w wr B l)(k x:Nat):jZ w (wr.setCell ⟨B+1,k,none⟩ (U (x:Int))) B (l.set k x):=
 ⟨h.aJ.setCell (by have:=h.c;simp;omega) _,h.c,h.z.cE zS _,by rw[<-yK];exact h.a.dx k _⟩
def jZ.below{w wr c:aa}{B:Nat}(h:jZ w wr B m)(b:BW wr c):jZ w c B m:=
 ⟨h.aJ.trans (b.mono h.aJ.size),h.c,(b.block _ (ah.lt h.z)).trans h.z,(b.block _ (ah.lt h.a)).trans h.a⟩
def aby(x c:Nat)(hx:x<18446744073709551616)(f:c<=1):bits .or .u64 ((x:Int)*2%18446744073709551616) (c:Int)=((2*x%18446744073709551616+c:Nat):Int):=by
 have b:((x:Int)*2%18446744073709551616)=((2*x%18446744073709551616:Nat):Int):=by omega
 have d:=wC (2*x%18446744073709551616) c W W;rw[b,d];congr 1;rw[uk,qk];have e:2*x%18446744073709551616=(x%9223372036854775808)*2^1:=by omega
 rw[e];have:=pt 1 (x%9223372036854775808*2^1) c zS W;rw[uk] at this;omega
def jZ.row{w b:aa}{B:Nat}(h:jZ w b B m)(e:B+2<=b.heap.size)(z c:Array ab)(t:TypeId):jZ w ((b.alloc (.cells z t)).setRow b.heap.size c) B m:=by
 have d:=h.below ((bp b.heap.size b).alloc (aQ _) (.cells z t));exact⟨bL d.aJ h.aJ.size c,h.c,d.z.cH c W,d.a.cH c W⟩
def TR:(prog.info? 46).isSome=true:=by kernel_rfl
def Px:prog.cellsOf 46=1:=by kernel_rfl
def TF{cs:Array ab}{v:ab}(w:aa)(b:i<4)(c:cs[i]?=some v):(Instr.index 184 (aG cs) (O (i:Int))).run prog w= .ok v w:=
 Eh w oM oN TR Px b c
def LN{w:aa}(a1:la w)(E:Nat)(f:List Nat)(n:Nat)(c6:f.length=n)(e6:n<=1000)(b8:ah w E 46 (aV f))(b9:SC.cQ f)(b3:Nat):
 Calls prog 112 #[ag (some ⟨E,0,none⟩) n b3] w λ e b=>∃l,e=ao (aG (aV l))/\BW w b/\l.length=4/\SC.cQ l/\SC.vW l=SC.vW f%SC.LQ:=by
 have a9:=Z a1;have S:=Z b8;have J:=Z b9
 have R:=Z c6
 have b6:=a1.lt
 have f6:IntKind.i64.wrap (64*(n:Int))=64*(n:Int):=aO _ W
 have D:IntKind.i64.wrap (64*(n:Int)-1)=64*(n:Int)-1:=aO _ W
 go_enter func112,ntmps112
 go_wp2
 go_step3
 go_wp2
 go_step3
 go_wp2
 rw[J0]
 have b4:jZ w ((w.alloc (.cells (aV [0,0,0,0]) 184)).alloc (.cells (aV [0,0,0,0]) 184)) w.heap.size [0,0,0,0]:=
  ⟨((bp _ _).alloc (aQ _) _).alloc zS _,aQ _,(ah.new w 184 _).alloc _,fD w _ 184 _⟩
 generalize(w.alloc (.cells (aV [0,0,0,0]) 184)).alloc (.cells (aV [0,0,0,0]) 184)=f9 at*
 have a6:=Z b4
 go_loopw [4] (λ i wr=>∃(k:Nat) (l:List Nat),k<=64*n/\i=O ((k:Int)-1)/\jZ w wr w.heap.size l/\l.length=4/\SC.cQ l/\SC.vW l=SC.mr (SC.vW f) k) (λ i _=>(intOf i+1).toNat)
 case atStart=>
  refine⟨64*n,[0,0,0,0],aQ _,rfl,a6.U,rfl,?_,?_⟩
  ·intro d hd;simp at hd;omega
  ·rw[<-R.U,SC.P5 J.U];rfl
 case round=>
  obtain⟨k,l,e4,rfl,s,c4,c5,C⟩:=hrel
  have g:=Z s;have d:=Z (And.intro c4 (And.intro c5 C))
  rcases k with _|k
  ·have C:=d.U.2.2
   have c1:SC.vW l=SC.vW f%SC.LQ:=by rw[C];unfold SC.mr;simp
   have HD:=Z c1
   have B:=g.U.a
   have t:(prog.info? 184).map (·.size)=some (aV l).size:=by rw[pq d.U.1];exact vx
   have F:=dI (P:=prog) g.U.z (aV l) (by rw[pq d.U.1];rfl) (vG _)
   have a7:=Z (g.U.z.setRow (aV l))
   have b1:=Z (bL g.U.aJ (aQ _) (aV l))
   have G:(aV l).size=4:=pq d.U.1
   go_wp2_with(refine bD rfl 184 (Operand.tmp 3) rfl (w.heap.size+1) rfl 184 (aV l) (0,0) _ B oM rfl t ?_)
   try rw[kL]
   exact cr (v:= .agg (aV l)) (fI results112 _ _ w.heap.size 184 (aV l) (0,0) _ rfl a7.U oM rfl t) rfl ⟨l,rfl,b1.U,d.U.1,d.U.2.1,HD.U⟩
  ·obtain⟨j,c3⟩:∃j,k/64=j:=⟨_,rfl⟩
   obtain⟨r,c8⟩:∃r,k%64=r:=⟨_,rfl⟩
   obtain⟨x,hx⟩:∃x,f[j]?=some x:=⟨_,aU (by rw[R.U];omega)⟩
   have f3:=J.U.get hx
   have d6:wr.cell? ⟨E,j,none⟩=some (U (x:Int)):=((show ah wr E 46 (aV f) from(g.U.aJ.block _ (ah.lt S.U)).trans S.U).cell j).trans (lB hx)
   obtain⟨b,a2⟩:∃b,x/2^r%2=b:=⟨_,rfl⟩
   have a8:=Z (show SC.vW f/2^k%2=b by rw[<-a2,<-c8];exact(SC.P2 J.U (by rw[c3];exact hx)).symm)
   have K:b<=1:=by omega
   have e5:x/2^r<=x:=ng _ _
   have d9:bits .and .u64 ((x:Int)/2^r) 1=(b:Int):=by
    have e:((x:Int)/2^r)=((x/2^r:Nat):Int):=by push_cast;rfl
    have h:=u64_and_nat (x/2^r) 1 W W
    rw[yF,a2] at h
    rw[e];exact h
   have e1:(k:Int).tdiv 64=(j:Int):=by rw[ov W];omega
   have e2:(k:Int).tmod 64=(r:Int):=by rw[fz W];omega
   have e3:((k+1:Nat):Int)-1=(k:Int):=by omega
   have f7:IntKind.i64.wrap (j:Int)=(j:Int):=aO _ W
   have f8:IntKind.i64.wrap (r:Int)=(r:Int):=aO _ W
   have d4:(0:Int)<=(j:Int):=by omega
   have d5:(j:Int)<(n:Int):=by omega
   have f4:(0:Int)<=(k:Int):=by omega
   rw[e3]
   have B:=g.U.a
   have t:(prog.info? 184).map (·.size)=some (aV l).size:=by rw[pq d.U.1];exact vx
   go_wp2_with(refine bD rfl 184 (Operand.tmp 3) rfl (w.heap.size+1) rfl 184 (aV l) (0,0) _ B oM rfl t ?_)
   go_loopw [28,5] (λ o p u=>∃(q:Nat) (m:List Nat) (c:Nat),q<=4/\o=O (q:Int)/\p=U (c:Int)/\jZ w u w.heap.size m/\SC.qu l m b c q) (λ o _ _=>4-(intOf o).toNat)
   case atStart=>exact⟨0,l,b,by omega,rfl,rfl,g.U,SC.qu.start b d.U.1 d.U.2.1 K⟩
   case round=>
    obtain⟨q,m,c,e7,rfl,rfl,s,p⟩:=hrel
    have g:=Z s
    by_cases o:q<4
    ·obtain⟨y,N⟩:∃y,l[q]?=some y:=⟨_,aU (by rw[d.U.1];exact o)⟩
     have a4:=d.U.2.1.get N
     have L:=p.c
     obtain⟨z,d2⟩:∃z,m[q]?=some z:=⟨_,aU (by rw[p.len];exact o)⟩
     have d7:=(s.a.cell q).trans (lB d2)
     have f1:=s.a.frozen q
     have e0:=λ u=>TF (cs:=aV l) (i:=q) u o (lB N)
     have c7:bits .or .u64 (IntKind.u64.wrap ((y:Int)*2)) (c:Int)=((2*y%18446744073709551616+c:Nat):Int):=by rw[rL];exact aby y c a4 L
     have F:=p.step o N a4
     have e9:((y:Int)/9223372036854775808)=((y/9223372036854775808:Nat):Int):=by omega
     obtain⟨v,C⟩:∃v,2*y%18446744073709551616+c=v:=⟨_,rfl⟩
     obtain⟨u,d0⟩:∃u,y/9223372036854775808=u:=⟨_,rfl⟩
     rw[C] at c7 F
     rw[d0] at e9 F
     have d4:(0:Int)<=(q:Int):=by omega
     have d5:(q:Int)<4:=by omega
     have b2:=Z F
     go_wp2
     refine⟨⟨q+1,_,u,by omega,by go_num,rfl,g.U.set q v,b2.U⟩,?_⟩
     simp[intOf];omega
    ·obtain rfl:q=4:=by omega
     have M:=p.low
     rw[bK (by rw[p.len];exact aQ _),bK (by rw[d.U.1];exact aQ _),d.U.2.2] at M
     have e8:=SC.P3 (SC.vW f) (k+1)
     have c0:c=0:=by
      have i:SC.LQ<18446744073709551616^4/4:=by decide
      have:=p.c
      have L:c=0\/c=1:=by omega
      rcases L with h|h
      ·exact h
      ·subst h;omega
     subst c0
     rw[qn,fA] at M
     have a3:=SC.P4 (SC.vW f) k
     rw[a8.U,<-M] at a3
     have i:=Z (And.intro p.len (And.intro p.ok a3))
     have b0:ai (la wr):=Z (a9.U.below s.aJ b6)
     have B:=s.a
     have t:(prog.info? 184).map (·.size)=some (aV m).size:=by rw[pq p.len];exact vx
     obtain⟨f5,d8,b7⟩:=b0.U
     go_wp2_with(first|refine bD rfl 184 (Operand.tmp 3) rfl (w.heap.size+1) rfl 184 (aV m) (0,0) _ B oM rfl t ?_|refine Az rfl 184 4 rfl (x:= .global 3) rfl b7 V rfl ?_)
     refine(ZT m SC.te i.U.1 rfl i.U.2.1 SC.Wu _).mono ?_
     rintro e D ⟨h,rfl,K,X,b5,a0⟩
     rw[SC.Wv] at a0⊢
     have d1:=g.U.below K
     have T:=Z d1
     have H:=Z (And.intro X (And.intro b5 a0))
     have G:(aV h).size=4:=pq X
     have c2:(prog.info? 184).map (·.size)=some (aV h).size:=by rw[G];exact vx
     have a5:ah (D.alloc (.cells #[U 0,U 0,U 0,U 0] 184)) D.heap.size 184 #[U 0,U 0,U 0,U 0]:=ah.new _ _ _
     have f0:=dI (P:=prog) a5 (aV h) (by rw[G];rfl) (vG _)
     have c9:w.heap.size+2<=D.heap.size:=by have:=ah.lt T.U.a;omega
     have A:=Z (T.U.row c9 #[U 0,U 0,U 0,U 0] (aV h) 184)
     have d3:=a5.setRow (aV h)
     by_cases o:SC.vW m<SC.LQ
     ·have hd:decide (SC.vW m<SC.LQ)=true:=aT o
      have hcut:=i.U.2.2
      rw[au o] at hcut
      have I:=Z hcut
      rw[hd]
      go_wp2
      exact⟨⟨k,m,by omega,rfl,A.U,i.U.1,i.U.2.1,I.U.symm⟩,by simp[intOf]⟩
     ·have hd:decide (SC.vW m<SC.LQ)=false:=bm o
      have hcut:=i.U.2.2
      rw[ar o,<-H.U.2.2 o] at hcut
      have I:=Z hcut
      rw[hd]
      have f2:=dI (P:=prog) A.U.a (aV h) (by rw[G,pq i.U.1]) (vG _)
      go_wp2_with(refine bD rfl 184 (Operand.tmp 8) rfl D.heap.size rfl 184 (aV h) (0,0) _ d3 oM rfl c2 ?_)
      refine⟨⟨k,h,by omega,rfl,?_,H.U.1,H.U.2.1,I.U.symm⟩,by simp[intOf]⟩
      exact⟨bL A.U.aJ (Nat.le_add_right _ 1) (aV h),aQ _,A.U.z.cH _ W,A.U.a.setRow _⟩
