import Derived.Test.YtncpbkoinennoaaGreatDoorMAL
set_option linter.all false
set_option maxRecDepth 100000
set_option maxHeartbeats 0
namespace Go.Proofs.YtncpbkoinennoaaGreatDoor
open Go.RowKit Proofs.Tryz
attribute [local irreducible] wpList Calls
variable{g i k n:Nat}
section
namespace GL
open FM PT
set_option maxRecDepth 100000
set_option maxHeartbeats 4000000
def rD(s:af):(db s).size=32:=gf _
def zo(s:af):(lG s).size<=32:=by
 show((sy (s.data.toList.take 32)).toArray).size<=32;simp[sy];omega
def EV{s:af}(h:s.size<=32):s.data.toList.take 32=s.data.toList:=bK (by simpa using h)
def P7{a b:af}(h:a.size=32):(a++b).extract 0 32=a:=by
 apply pZ;have c:a.data.size=32:=h;rw[Aq,rN];apply ju;simp[List.take_append,c];exact bK (by simp[c])
def P8{a b:af}(h:a.size=32)(e:b.size=32):(a++b).extract 32 64=b:=by
 apply pZ;have c:a.data.size=32:=h;have d:b.data.size=32:=e;rw[Aq,rN];apply ju;simp[List.drop_append,c];exact bK (by simp[d])
def Kz(k:af)(a:k.size<=32):hK (fR dO k)=cL (smul (aH k.data.toList) B):=HP (zd D5 a)
def Gw{P Q R:K×K}(h1:On P)(h2:On Q)(h3:On R):add P (neg Q)=R↔P=add R Q:=by
 constructor
 ·intro h;rw[<-h,add_assoc h1 (ku h2) h2,add_comm (neg Q),add_neg h2,oR h1]
 ·intro h;rw[h,add_assoc h3 h2 (ku h2),add_neg h2,oR h3]
def Sc{m a:af}(h:a.extract 0 32=cL (smul n B))(l:(a.extract 32 64).size<=32):
 nI (cL (smul g B)) m a=decide (smul (aH (a.extract 32 64).data.toList) B=add (smul n B) (smul (g*aH (gE (cL (smul n B)) (cL (smul g B)) m).data.toList) B)):=by
 have e:=iI jh g
 unfold nI
 rw[uU e,h]
 simp only
 have j:=zd D5 l
 have i:=zd (Yn (Yo e)) (k:=gE (cL (smul n B)) (cL (smul g B)) m) (by rw[gE,rD];decide)
 rw[V1 e,zv jh] at i
 rw[HP (D6 j i)]
 have d:=iI jh (g*aH (gE (cL (smul n B)) (cL (smul g B)) m).data.toList)
 have c:=iI jh (aH (a.extract 32 64).data.toList)
 have b:=iI jh n
 congr 1
 refine propext ⟨λ f=>(Gw c d b).1 (Q6 (rp c (ku d)) b f),λ f=> ?_⟩
 rw[(Gw c d b).2 f]
def Dk(s:af):∃a,(bC s).pub=cL (smul a B)/\a=aH (bC s).a.data.toList/\(bC s).a.size<=32:=
 ⟨_,Kz _ (zo _),rfl,zo _⟩
def Mc(n:Nat):hY (enc (n%SC.LQ))=true:=by
 have b:n%SC.LQ<SC.LQ:=cy _ (by decide+kernel);have a:n%SC.LQ<256^32:=lY b (by decide+kernel);unfold hY;rw[aT (gf _),gW];refine aT ?_;unfold db;rw[Mw _ _ zD,qY,bY a,rX]
def EH(s m:af):∃r S,((bC s).sign m).size=64/\((bC s).sign m).extract 0 32=cL (smul r B)/\((bC s).sign m).extract 32 64=enc (S%SC.LQ)/\
 smul S B=add (smul r B) (smul (aH (bC s).a.data.toList*aH (gE (cL (smul r B)) (bC s).pub m).data.toList) B):=by
 obtain⟨a,f,i,g⟩:=Dk s
 have d:(bC s).first m=cL (smul (aH (db (cB ((bC s).pre++m))).data.toList) B):=Kz _ (by rw[rD];decide)
 have e:(bC s).pub≠⟨#[]⟩:=λ h=>by
  have:=congrArg ByteArray.size h
  rw[f] at this
  unfold cL at this
  rw[gf] at this
  exact absurd this zD
 have b:(bC s).sign m=cL (smul (aH (db (cB ((bC s).pre++m))).data.toList) B)++lI (gE (cL (smul (aH (db (cB ((bC s).pre++m))).data.toList) B)) (bC s).pub m) (bC s).a (db (cB ((bC s).pre++m))):=by
  unfold KY.sign
  rw[ar e,d]
 have h:=rD (cB ((bC s).pre++m))
 generalize db (cB ((bC s).pre++m))=c at*
 have h32:∀P:K×K,(cL P).size=32:=λ P=>gf _
 refine⟨aH c.data.toList,aH c.data.toList+aH (gE (cL (smul (aH c.data.toList) B)) (bC s).pub m).data.toList*aH (bC s).a.data.toList,?_,?_,?_,?_⟩
 ·rw[b,gX,h32]
  unfold lI
  rw[gf]
 ·rw[b,P7 (h32 _)]
 ·rw[b,P8 (h32 _) (by unfold lI;exact gf _)]
  unfold lI
  rw[EV W,EV (by rw[gE,rD];decide),EV g]
 ·rw[smul_add jh,fg]
def MT{m a:af}(c:a.size=64)(h:a.extract 0 32=cL (smul n B))(b:a.extract 32 64=enc (k%SC.LQ)):
 hZ (cL (smul g B)) m a=decide (smul k B=add (smul n B) (smul (g*aH (gE (cL (smul n B)) (cL (smul g B)) m).data.toList) B)):=by
 unfold hZ
 rw[aT c,gW,b,Mc,gW,Sc h (by rw[b,gf];decide),b,qY,bY,L8]
 exact lY (cy _ (by decide+kernel)) (by decide+kernel:SC.LQ<256^32)
def abL{b m a:af}(c:a.size=64)(h:a.extract 0 32=cL (smul n B))(e:a.extract 32 64=enc (k%SC.LQ))(d:b=cL (smul g B))
 (h3:smul k B=add (smul n B) (smul (g*aH (gE (cL (smul n B)) b m).data.toList) B)):hZ b m a=true:=by
 subst d
 rw[MT c h e]
 exact aT h3
def ZA(s m:af):hZ (bC s).pub m ((bC s).sign m)=true:=by
 obtain⟨r,S,c,d,e,b⟩:=EH s m;obtain⟨a,g,f,-⟩:=Dk s;rw[<-f] at b;exact abL c d e g b
structure Q3 where
 x:Nat
 y:Nat
 z:Nat
def kg(p q:Q3):Q3:=
 ⟨aF (aF (aF p.z q.z) (bM (aF (aF p.z q.z) (aF p.z q.z)) (aF cK (aF (aF p.x q.x) (aF p.y q.y))))) (bM (bM (aF (bt p.x p.y) (bt q.x q.y)) (aF p.x q.x)) (aF p.y q.y)),
  aF (aF (aF p.z q.z) (bt (aF (aF p.z q.z) (aF p.z q.z)) (aF cK (aF (aF p.x q.x) (aF p.y q.y))))) (bt (aF p.y q.y) (aF p.x q.x)),
  aF (bM (aF (aF p.z q.z) (aF p.z q.z)) (aF cK (aF (aF p.x q.x) (aF p.y q.y)))) (bt (aF (aF p.z q.z) (aF p.z q.z)) (aF cK (aF (aF p.x q.x) (aF p.y q.y))))⟩
def eZ:Q3:=⟨0,1,1⟩
def rC(p q:Q3):Bool:=decide (aF p.x q.z=aF q.x p.z)&&decide (aF p.y q.z=aF q.y p.z)
def gU(k:af):Nat->Q3×Q3->Q3×Q3
 |0,s=>s
 |i+1,s=>let t:=gU k i s;(if dt k i=1 then kg t.1 t.2 else t.1,kg t.2 t.2)
def mulR(p:Q3)(k:af):Q3:=(gU k (min 256 (8*k.size)) (eZ,p)).1
structure jD(q:Q3)(P:K×K):Prop where
 on:On P
 z:c q.z≠0
 x:c q.x=P.1*c q.z
 y:c q.y=P.2*c q.z
def N8{x1 y1 x2 y2 z1 z2:K}:(x1*z1+y1*z1)*(x2*z2+y2*z2)-x1*z1*(x2*z2)-y1*z1*(y2*z2)=(z1*z2)*(x1*y2+x2*y1):=by grind
def N9{x1 y1 x2 y2 z1 z2:K}:y1*z1*(y2*z2)+x1*z1*(x2*z2)=(z1*z2)*(y1*y2+x1*x2):=by grind
def Ob{x1 y1 x2 y2 z1 z2 d:K}:z1*z2*(z1*z2)+d*(x1*z1*(x2*z2)*(y1*z1*(y2*z2)))=(z1*z2)*(z1*z2)*(1+d*x1*x2*y1*y2):=by grind
def Oa{x1 y1 x2 y2 z1 z2 d:K}:z1*z2*(z1*z2)-d*(x1*z1*(x2*z2)*(y1*z1*(y2*z2)))=(z1*z2)*(z1*z2)*(1-d*x1*x2*y1*y2):=by grind
def Ue{a u v X n:K}(h:X*u=n):a*(a*a*v)*(a*n)=X*(a*a*v*(a*a*u)):=by grind
def Uf{a u v b n:K}(h:b*v=n):a*(a*a*u)*(a*n)=b*(a*a*v*(a*a*u)):=by grind
def D4{q r:Q3}{P Q:K×K}(a:jD q P)(b:jD r Q):jD (kg q r) (add P Q):=by
 have hx:=oS a.on b.on;have k:=oT a.on b.on;have h:=nF a.on b.on;have g:=nE a.on b.on;have l:aF cK (aF (aF q.x r.x) (aF q.y r.y))<PN:=dC _ _;have m:aF q.x r.x<PN:=dC _ _;have n:aF q.y r.y<PN:=dC _ _;have d:c (bM (aF (aF q.z r.z) (aF q.z r.z)) (aF cK (aF (aF q.x r.x) (aF q.y r.y))))=(c q.z*c r.z)*(c q.z*c r.z)*(1-fj P Q):=by
  rw[mo _ l];simp only[dT];rw[a.x,a.y,b.x,b.y,wO];exact Oa
 have e:c (bt (aF (aF q.z r.z) (aF q.z r.z)) (aF cK (aF (aF q.x r.x) (aF q.y r.y))))=(c q.z*c r.z)*(c q.z*c r.z)*(1+fj P Q):=by
  rw[lh];simp only[dT];rw[a.x,a.y,b.x,b.y,wO];exact Ob
 have i:c (bM (bM (aF (bt q.x q.y) (bt r.x r.y)) (aF q.x r.x)) (aF q.y r.y))=(c q.z*c r.z)*(P.1*Q.2+Q.1*P.2):=by
  rw[mo _ n,mo _ m];simp only[dT,lh];rw[a.x,a.y,b.x,b.y];exact N8
 have j:c (bt (aF q.y r.y) (aF q.x r.x))=(c q.z*c r.z)*(P.2*Q.2+P.1*Q.1):=by
  simp only[dT,lh];rw[a.x,a.y,b.x,b.y];exact N9
 have f:=ec a.z b.z;unfold kg;refine⟨rp a.on b.on,?_,?_,?_⟩
 ·simp only[dT] at d e⊢;rw[d,e];exact ec (ec (ec f f) g) (ec (ec f f) h)
 ·rw[dT,dT,dT q.z,dT,d,e,i];exact Ue hx
 ·rw[dT,dT,dT q.z,dT,d,e,j];exact Uf k
def Yl:jD eZ cG:=⟨td,by decide+kernel,by decide+kernel,by decide+kernel⟩
def Lo{x y:Nat}(h:On (c x,c y)):jD ⟨x,y,1⟩ (c x,c y):=by
 have a:c 1=1:=uQ;refine⟨h,by show c 1≠0;rw[a];decide+kernel,?_,?_⟩
 ·show c x=c x*c 1;rw[a];grind
 ·show c y=c y*c 1;rw[a];grind
def Lp(k:af){p:Q3}{P:K×K}(a:jD p P):∀i,jD (gU k i (eZ,p)).1 (smul (aH k.data.toList%2^i) P)/\jD (gU k i (eZ,p)).2 (smul (2^i) P)
 |0=>by
  rw[sd,AU,ZF a.on]
  exact⟨Yl,a⟩
 |i+1=>by
  obtain⟨d,b⟩:=Lp k a i
  have e:=D4 b b
  rw[<-smul_add a.on] at e
  have f:=xE k i
  have g:aH k.data.toList%2^(i+1)=aH k.data.toList%2^i+2^i*(aH k.data.toList/2^i%2):=by rw[ca,AT]
  have h:aH k.data.toList/2^i%2<2:=cy _ zD
  unfold gU
  refine⟨?_,by rw[ca,Nat.mul_two];exact e⟩
  simp only
  by_cases c:dt k i=1
  ·rw[au c,g,<-f,c,oG,smul_add a.on]
   exact D4 d b
  ·rw[ar c,g,<-f,show dt k i=0 by omega,jB,fA]
   exact d
def Ln{p:Q3}{P:K×K}(c:jD p P){k:af}(d:k.size<=32):jD (mulR p k) (smul (aH k.data.toList) P):=by
 have h:=(Lp k c (min 256 (8*k.size))).1;rw[bY] at h
 ·exact h
 ·have a:=qZ k.data.toList;have b:k.data.toList.length=k.size:=by simp
  rw[b,show(256:Nat)=2^8 from rfl,<-iT] at a;rw[AR W];exact a
def LK{x1 z1 x2 z2 X c:K}(h1:x1=X*z1)(h2:x2=c*z2)(a:z1≠0)(b:z2≠0):x1*z2=x2*z1↔X=c:=by
 constructor
 ·intro h;refine cancel (ec a b) ?_;clear a b;grind
 ·intro h;subst h;clear a b;grind
def Ze{p q:Q3}{P Q:K×K}(f:jD p P)(g:jD q Q):rC p q=decide (P=Q):=by
 have i:∀a b d e:Nat,aF a b=aF d e↔c a*c b=c d*c e:=λ a b d e=>by
  rw[<-dm,<-dm];exact jH.symm
 unfold rC;rw[<-Bool.decide_and];congr 1;rw[i,i,LK f.x g.x f.z g.z,LK f.y g.y f.z g.z];exact propext ⟨λ h=>uu h.1 h.2,λ h=>by rw[h];exact⟨rfl,rfl⟩⟩
def mj:Q3:=⟨dO.x,dO.y,1⟩
def lK(c m b:af):Bool:=
 if b.size=64/\hY (b.extract 32 64)=true then
  match cD c,cD (b.extract 0 32) with
  |some a,some r=>rC (mulR mj (b.extract 32 64)) (kg ⟨r.x,r.y,1⟩ (mulR ⟨a.x,a.y,1⟩ (db (cB (b.extract 0 32++(c++m))))))
  |_,_=>false
 else false
def Zf{b m a:af}(d:a.size=64)(h1:a.extract 0 32=cL (smul n B))(h2:a.extract 32 64=enc (i%SC.LQ))(j:b=cL (smul g B)):hZ b m a=lK b m a:=by
 subst j;rw[MT d h1 h2];unfold lK;have e:=iI jh g;have f:=iI jh n;rw[au ⟨d,by rw[h2];exact Mc _⟩,h1,uU e,uU f,h2];simp only;have v:∀{P:K×K},On P->jD ⟨(fT P.1.val P.2.val).x,(fT P.1.val P.2.val).y,1⟩ P:=λ{P} h=>by
  have:=Lo (x:=P.1.val) (y:=P.2.val) (by rw[eU,eU];exact h);rwa[eU,eU] at this
 have e1:=Ln (Lo (x:=dO.x) (y:=dO.y) jh) (k:=enc (i%SC.LQ)) (by rw[gf];decide);have e2:=Ln (v e) (k:=db (cB (cL (smul n B)++(cL (smul g B)++m)))) (by rw[rD];decide);have e3:=D4 (v f) e2;rw[qY,bY (lY (cy _ (by decide+kernel)) (by decide+kernel:SC.LQ<256^32))] at e1;have e4:=Ze e1 e3;rw[show smul (i%SC.LQ) (c dO.x,c dO.y)=smul i B from L8 i,zv jh] at e4;exact e4.symm
def abM(s t m:af):hZ (bC t).pub m ((bC s).sign m)=lK (bC t).pub m ((bC s).sign m):=by
 obtain⟨r,S,b,c,d,-⟩:=EH s m;obtain⟨a,e,-,-⟩:=Dk t;exact Zf b c d e
end GL
end
