import Derived.Test.YtncpbkoinennoaaGreatDoorMAA
set_option linter.all false
set_option maxRecDepth 100000
set_option maxHeartbeats 0
namespace Go.Proofs.YtncpbkoinennoaaGreatDoor
open Go.RowKit Proofs.Tryz
attribute [local irreducible] wpList Calls
variable{m p:List Nat}{g i k n:Nat}
namespace GL
def Pr(p:Nat):Prop:=1<p/\∀m,m∣p->m=1\/m=p
def Pr.coprime(h:Pr g)(b:¬g∣n):Nat.Coprime g n:=by
 rcases h.2 (Nat.gcd g n) (Nat.gcd_dvd_left g n) with a|a
 ·exact a
 ·exact absurd (a▸Nat.gcd_dvd_right g n) b
def Pr.mul(h:Pr g)(hd:g∣n*k):g∣n\/g∣k:=by
 by_cases a:g∣n
 ·exact Or.inl a
 ·exact Or.inr ((h.coprime a).dvd_of_dvd_mul_left hd)
def least{Q:Nat->Prop}(h:Q n):∃n,Q n/\∀m,m<n->¬Q m:=by
 induction n using Nat.strongRecOn with
 |ind n f=>
  by_cases a:∃m,m<n/\Q m
  ·obtain⟨m,b,c⟩:=a;exact f m b c
  ·exact⟨n,h,λ m d e=>a ⟨m,d,e⟩⟩
def Ii(h:1<n)(o:¬Pr n):∃r,Pr r/\r∣n/\r*r<=n:=by
 have:∃m,m∣n/\m≠1/\m≠n:=gY λ a=>o ⟨h,λ m c=>gY λ b=>a ⟨m,c,λ e=>b (Or.inl e),λ e=>b (Or.inr e)⟩⟩;obtain⟨m,c,i,s⟩:=this;obtain⟨r,⟨f,u⟩,l⟩:=least (Q:=λ r=>r∣n/\r≠1) (n:=m) ⟨c,i⟩;have t:r≠0:=λ e=>by subst e;have:=Nat.eq_zero_of_zero_dvd f;omega
 have g:∀k,k∣n->k≠1->r<=k:=λ k d b=>Nat.le_of_not_lt λ j=>l k j ⟨d,b⟩;refine⟨r,⟨by omega,λ k a=> ?_⟩,f,?_⟩
 ·by_cases d:k=1
  ·exact Or.inl d
  ·have b:=g k (Nat.dvd_trans a f) d;have p:=ql W a;exact Or.inr W
 ·obtain⟨k,a⟩:=f;have v:=g m c i;have q:=ql W c;have j:k≠1:=λ e=>by rw[e,oG] at a;omega
  have:=g k ⟨r,by rw[a,fg]⟩ j;rw[a];exact rZ r this
def Kn:∀(b c:List Nat),b.Nodup->(∀a∈b,a∈c)->c.length<=b.length->b.Perm c
 |[],c,_,_,h=>by have:=ig (Nat.le_zero.1 h);subst this;exact .refl _
 |a::t,c,hd,g,h=>by
  have d:=g a zS
  rw[ue] at hd
  have i:=Kn t (c.erase a) hd.2 (λ b f=>by
   have j:b≠a:=λ e=>hd.1 (e▸f)
   exact(List.mem_erase_of_ne j).2 (g b (jz _ f))) (by rw[FZ d];simp at h;omega)
  exact(i.cons a).trans (List.perm_cons_erase d).symm
def prod:List Nat->Nat
 |[]=>1
 |a::l=>a*prod l
def Xo(h:m.Perm p):prod m=prod p:=by
 induction h with
 |nil=>rfl
 |cons x _ c=>simp only[prod,c]
 |swap x y l=>simp only[prod];rw[Nat.mul_left_comm]
 |trans _ _ a b=>exact a.trans b
def Kx(b r:Nat):∀l:List Nat,prod (l.map λ x=>b*x%r)%r=b^l.length*prod l%r
 |[]=>by simp[prod]
 |x::l=>by
  have a:=Kx b r l
  simp only[bZ,prod,gq]
  rw[nh,a,rX,<-nh,ca]
  congr 1
  ac_rfl
def Pr.Dn{r:Nat}(h:Pr r):∀l:List Nat,(∀x∈l,¬r∣x)->¬r∣prod l
 |[],_=>λ hd=>by have a:=ql zD hd;have:=h.1;change r<=1 at a;omega
 |x::l,hx=>λ hd=>by
  rcases h.mul hd with a|a
  ·exact hx x zS a
  ·exact Pr.Dn h l (λ y b=>hx y (jz _ b)) a
def RS(hx:n<g)(a:k<g)(h1:g∣n-k)(h2:g∣k-n):n=k:=by
 rcases F6 n k with h|h|h
 ·have:=ql W h2;omega
 ·exact h
 ·have:=ql W h1;omega
def Hx(h:n%g=k%g):g∣n-k:=xd (Nat.sub_mod_eq_zero_of_mod_eq h)
def Pr.cancel(h:Pr g)(a:¬g∣n)(b:n*k%g=n*i%g):g∣k-i:=by
 have:=Hx b;rw[<-Nat.mul_sub] at this;exact(h.mul this).resolve_left a
def Pr.sK{b:Nat}(h:Pr g)(i:¬g∣b):b^(g-1)%g=1:=by
 have r:=h.1;have f:∀x,x∈(List.range (g-1)).map (·+1)↔0<x/\x<g:=λ x=>by
  simp only[eH,List.mem_range];exact⟨λ⟨a,c,d⟩=>by omega,λ h=>⟨x-1,by omega,by omega⟩⟩
 have j:((List.range (g-1)).map (·+1)).Nodup:=List.Pairwise.map _ (λ a b (h:a≠b)=>by omega) F2;have m:((List.range (g-1)).map (·+1)).length=g-1:=by simp
 generalize(List.range (g-1)).map (·+1)=l at f j m;have n:∀x∈l,¬g∣x:=λ x hx hd=>by
  have:=(f x).1 hx;have:=ql this.1 hd;omega
 have q:(l.map λ x=>b*x%g).Perm l:=by
  refine Kn _ _ ?_ ?_ zS
  ·refine List.pairwise_map.2 (List.Pairwise.imp_of_mem (λ{x y} hx p o e=>o ?_) j);have c:=(f x).1 hx;have d:=(f y).1 p;exact RS c.2 d.2 (h.cancel i e) (h.cancel i e.symm)
  ·intro a k;obtain⟨x,hx,rfl⟩:=eH.1 k;refine(f _).2 ⟨Nat.pos_of_ne_zero λ e=> ?_,cy _ W⟩;rcases h.mul (xd e) with c|c
   ·exact i c
   ·exact n x hx c
 have c:=Kx b g l;rw[Xo q,m] at c;have d:g∣b^(g-1)*prod l-prod l:=Hx c.symm;have o:b^(g-1)*prod l-prod l=(b^(g-1)-1)*prod l:=by rw[Nat.sub_mul,sa]
 rw[o] at d;have p:=(h.mul d).resolve_right (h.Dn l n);have t:0<b^(g-1):=Nat.pow_pos (Nat.pos_of_ne_zero λ e=>i (e▸Nat.dvd_zero g));obtain⟨k,s⟩:=p;rw[show b^(g-1)=1+g*k by omega,Nt,bY r]
def pow_one(h:g%n=1%n)(a:Nat):g^a%n=1%n:=by rw[sb,h,<-sb,Nat.one_pow]
def Pr.ord{b:Nat}(h:Pr g)(f:Pr n)(h1:b^n%g=1%g)(h2:b%g≠1%g):n∣g-1:=by
 have k:¬g∣b:=λ hd=>by
  have a:=f.1;obtain⟨c,rfl⟩:=hd;obtain⟨j,rfl⟩:∃j,n=j+1:=⟨n-1,by omega⟩;rw[ca,<-AV,Nat.mul_right_comm,fg,Nat.mul_mod_right,bY h.1] at h1;omega
 have l:=h.sK k;obtain⟨o,⟨p,d⟩,m⟩:=least (Q:=λ o=>0<o/\b^o%g=1%g) (n:=n) ⟨by have:=f.1;omega,h1⟩;have j:∀a,b^a%g=1%g->o∣a:=λ a i=>by
  have q:b^(a%o)%g=1%g:=by
   have e:a=o*(a/o)+a%o:=(xc a o).symm;rw[e,eI,nh,iT,pow_one d,<-nh,sa] at i;exact i
  refine xd (gY λ i=> ?_);exact m (a%o) (cy _ p) ⟨by omega,q⟩
 have e:=j (g-1) (by rw[l,bY h.1]);rcases f.2 o (j n h1) with a|a
 ·subst a;rw[xg] at d;exact absurd d h2
 ·exact a▸e
def pw(n:Nat):Nat->Nat->Nat->Nat
 |0,_,_=>1%n
 |f+1,a,e=>cond (e%2==1) (a*pw n f (a*a%n) (e/2)%n) (pw n f (a*a%n) (e/2))
def yX(n:Nat):∀(f a e:Nat),e<2^f->pw n f a e=a^e%n
 |0,a,e,h=>by
  have:e=0:=by simpa using h
  subst this;rfl
 |f+1,a,e,h=>by
  have c:=yX n f (a*a%n) (e/2) (by rw[ca] at h;omega)
  have e1:(a*a%n)^(e/2)%n=a^(2*(e/2))%n:=by rw[<-sb,<-Nat.pow_two,<-iT]
  have d:=xc e 2
  unfold pw
  by_cases b:e%2=1
  ·rw[show(e%2==1)=true by simpa using b,cond_true,c,e1,<-Nat.mul_mod_mod,rX,Nat.mul_mod_mod,fg,<-ca]
   congr 2
   omega
  ·rw[show(e%2==1)=false by simpa using b,cond_false,c,e1]
   congr 2
   omega
def test(n:Nat)(Q:List Nat)(a:Nat):Bool:=
 decide (1<n)&&decide (n<2^256)&&decide (n<prod Q*prod Q)&&decide (pw n 256 a (n-1)=1)&&Q.all λ q=>decide ((n-1)%q=0)&&decide (Nat.gcd (pw n 256 a ((n-1)/q)+(n-1)) n=1)
def Kw{m:Nat}:∀Q:List Nat,Q.Nodup->(∀q∈Q,Pr q)->(∀q∈Q,q∣m)->prod Q∣m
 |[],_,_,_=>Nat.one_dvd m
 |q::Q,hd,a,h=>by
  rw[ue] at hd
  have c:=Kw Q hd.2 (λ x hx=>a x (jz _ hx)) (λ x hx=>h x (jz _ hx))
  have b:=a q zS
  have d:¬q∣prod Q:=b.Dn Q λ x hx e=>by
   rcases(a x (jz _ hx)).2 q e with h|h
   ·have:=b.1;omega
   ·exact hd.1 (h▸hx)
  exact(b.coprime d).mul_dvd_of_dvd_of_dvd (h q zS) c
def Ku(f:∀q∈m,Pr q)(hd:m.Nodup)(h:test n m g=true):Pr n:=by
 unfold test at h;simp only[dL,ej,hl] at h;obtain⟨⟨⟨⟨l,z⟩,y⟩,i⟩,t⟩:=h;refine gY λ a=> ?_;obtain⟨r,d,v,A⟩:=Ii l a;rw[yX n _ _ _ W] at i;have o:∀q∈m,q∣r-1:=λ q j=>by
  obtain⟨w,e⟩:=t q j;have u:(n-1)/q<2^256:=ui (ng _ _) W;rw[yX n _ _ _ u] at e;have s:q*((n-1)/q)=n-1:=by have:=xc (n-1) q;omega
  obtain⟨c,a⟩:=v;have k:∀x,x%n%r=x%r:=λ x=>by rw[a];exact Nat.mod_mul_right_mod x r c
  refine d.ord (f q j) (b:=g^((n-1)/q)) ?_ λ p=> ?_
  ·rw[<-iT,fg,s,<-k,i]
  ·have hx:r∣g^((n-1)/q)%n+(n-1):=by
    refine xd ?_;have:(g^((n-1)/q)%n+(n-1))%r=(1+(n-1))%r:=by rw[rV,k,p,<-rV]
    rw[this,show 1+(n-1)=n by omega,a,Nat.mul_mod_right]
   have j:=Nat.dvd_gcd hx ⟨c,a⟩;rw[e] at j;have:=ql zD j;have:=d.1;omega
 have k:=ql (by have:=d.1;omega) (Kw m hd f o);have e:prod m<r:=by have:=d.1;omega
 have j:=uj (kR e) (kR e);omega
def small(n:Nat):Nat->Bool
 |0=>true
 |k+1=>(decide (k<2)||decide (n%k≠0))&&small n k
def L6{n:Nat}:∀k,small n k=true->∀m,1<m->m<k->¬m∣n
 |0,_,m,_,h=>by omega
 |k+1,h,m,b,d=>by
  unfold small at h
  simp only[dL,Bool.or_eq_true,ej] at h
  by_cases c:m=k
  ·subst c
   rcases h.1 with a|a
   ·omega
   ·exact λ hd=>a (AS hd)
  ·exact L6 k h.2 m b W
def tr(k:Nat)(h:small n k=true)(h1:1<n)(e:n<k*k):Pr n:=by
 refine gY λ b=> ?_;obtain⟨r,c,d,f⟩:=Ii h1 b;refine L6 k h r c.1 (xe λ a=> ?_) d;have:=uj a a;omega
def DM{a:Nat}(b:Pr g)(h:test n [g] a=true):Pr n:=Ku (λ x hx=>by simp at hx;subst hx;exact b) zS h
def vQ{a:Nat}(c:Pr g)(d:Pr k)(b:g≠k)(h:test n [g,k] a=true):Pr n:=
 Ku (λ x hx=>by simp at hx;rcases hx with rfl|rfl;exact c;exact d) (by simp[b]) h
def Xe:Pr 430751:=tr 657 (by decide+kernel) zD zD
def Xd:Pr 4153:=tr 65 (by decide+kernel) zD zD
def Xf:Pr 569003:=tr 755 (by decide+kernel) zD zD
def Xg:Pr 8574133:=vQ (tr 32 (by decide+kernel) zD zD:Pr 991) (tr 11 (by decide+kernel) zD zD:Pr 103) zD (a:=2) (by decide+kernel)
def Xc:Pr 127:=tr 12 (by decide+kernel) zD zD
def Xh:Pr 2773320623:=DM Xf (a:=2) (by decide+kernel)
def Xi:Pr 72106336199:=DM Xh (a:=2) (by decide+kernel)
def Xj:Pr 1919519569386763:=vQ Xg Xc zD (a:=2) (by decide+kernel)
def Xk:Pr 31757755568855353:=vQ Xe Xd zD (a:=2) (by decide+kernel)
def Xl:Pr 75445702479781427272750846543864801:=vQ Xj Xi zD (a:=2) (by decide+kernel)
def Xm:Pr 74058212732561358302231226437062788676166966415465897661863160754340907:=vQ Xl Xk zD (a:=2) (by decide+kernel)
def Xn:Pr 57896044618658097711785492504343953926634992332820282019728792003956564819949:=DM Xm (a:=2) (by decide+kernel)
end GL
