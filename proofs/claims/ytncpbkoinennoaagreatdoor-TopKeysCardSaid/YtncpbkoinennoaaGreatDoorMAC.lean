import Derived.Ground.NamesProg
import Derived.Shelf.Lay
import Derived.Shelf.Strings.Repeat
import Derived.Test.YtncpbkoinennoaaGreatDoorMAA
set_option linter.all false
set_option maxRecDepth 100000
set_option maxHeartbeats 0
namespace Go.Proofs.YtncpbkoinennoaaGreatDoor
open Go.RowKit Proofs.Tryz
attribute [local irreducible] wpList Calls
variable{a:Act}{B:Array Bool}{m p:List Nat}{g i k:Nat}{o:Oper}
section
section
variable{P:Program}{Q:Exit->Act->aa->Prop}{T:aa->Prop}{E:aa->aa->Prop}{R:Nat->ab->aa->Prop}{n:Nat}{l:List Oper}
def bQ(l:List Oper)(i:Nat):Option Tmp:=(l.toArray[i]?).bind (·.dst)
structure Fit(l:List Oper)(todo:List Nat)(a0:Act)(vs:Nat->ab)(listed:Array Bool)(a:Act):Prop where
 defers:a.defers=a0.defers
 size:a.tmps.size=a0.tmps.size
 U:∀k,(∀i∈todo,bQ l i≠some k)->a.tmps[k]?=a0.tmps[k]?
 put:∀i∈todo,listed.getD i false=true->∀k,bQ l i=some k->k<a0.tmps.size->a.tmps[k]?=some (vs i)
def qR(l:List Oper)(a:List Nat):Bool:=a.all λ i=>a.all λ j=>decide (i=j)||decide (bQ l i=none)|| !decide (bQ l i=bQ l j)
def QH(h:qR l m=true)(a:i∈m)(b:g∈m)(c:i≠g){k:Tmp}(h1:bQ l i=some k):bQ l g≠some k:=by
 unfold qR at h;grind
def KK(a:Act)(d:Option Tmp)(v:ab)(k:Nat):(a.put d v).tmps[k]?=if d=some k/\k<a.tmps.size then some v else a.tmps[k]?:=by
 cases d with
 |none=>rfl
 |some d=>
  simp only[Act.put,Array.getElem?_setIfInBounds];grind
def put_defers(a:Act)(d:Option Tmp)(v:ab):(a.put d v).defers=a.defers:=by cases d<;>rfl
def Xs(a:Act)(d:Option Tmp)(v:ab):(a.put d v).tmps.size=a.tmps.size:=by cases d<;>simp[Act.put]
def Fit.start{b:Nat->ab}(h:∀i∈m,B.getD i false=false):Fit l m a b B a:=
 ⟨rfl,rfl,λ _ _=>rfl,λ i c d=>by grind⟩
def vn(h:i<B.size):(B.setIfInBounds i true).getD i false=true:=by simp[h]
def Fit.next{e:Act}{o:Nat->ab}(h:Fit l m e o B a)(hd:qR l m=true)(f:i∈m)(v:ab):
 Fit l m e (λ j=>if j=i then v else o j) (B.setIfInBounds i true) (a.put (bQ l i) v):=by
 refine⟨by rw[put_defers];exact h.defers,by rw[Xs];exact h.size,λ k b=> ?_,λ j g q k b p=> ?_⟩
 ·rw[KK,ar (λ c=>b i f c.1)];exact h.U k b
 ·rw[KK,h.size]
  by_cases d:j=i
  ·grind
  ·rw[ar (λ c=>QH hd f g (gr d) c.1 b),ar d]
   exact h.put j g (by rwa[lr false (gr d)] at q) k b p
def N2{b:Act}(h1:a.defers=b.defers)(h2:a.tmps=b.tmps):a=b:=by
 cases a;simp_all
def Fit.all{d b:Act}{p:Nat->ab}{o:Array Bool}(h:Fit l m d p B a)(g:Fit l m d p o b)(h1:∀i∈m,B.getD i false=true)(h2:∀i∈m,o.getD i false=true):a=b:=by
 refine N2 (h.defers.trans g.defers.symm) (Array.ext_getElem? λ k=> ?_);by_cases q:∃i∈m,bQ l i=some k
 ·obtain⟨i,c,f⟩:=q;by_cases e:k<d.tmps.size
  ·rw[h.put i c (h1 i c) k f e,g.put i c (h2 i c) k f e]
  ·rw[FK (by rw[h.size];omega),FK (by rw[g.size];omega)]
 ·have j:∀i∈m,bQ l i≠some k:=by grind
  rw[h.U k j,g.U k j]
def pD(l:List Oper)(b:Nat->ab):List Nat->Act->Act
 |[],a=>a
 |i::t,a=>pD l b t (a.put (bQ l i) (b i))
def DP(b:Nat->ab):∀(t:List Nat) (d:List Nat) (g a:Act) (f:Array Bool),qR l d=true->(∀i∈t,i∈d/\i<f.size)->Fit l d g b f a->
 ∃c,Fit l d g b c (pD l b t a)/\(∀i,f.getD i false=true->c.getD i false=true)/\(∀i∈t,c.getD i false=true)
 |[],d,g,a,f,hd,m,h=>⟨f,h,λ _ h=>h,λ i c=>by cases c⟩
 |i::t,d,g,a,f,hd,m,h=>by
  have k:=h.next hd (m i zS).1 (b i)
  have e:(λ j=>if j=i then b i else b j)=b:=by
   funext j
   by_cases c:j=i
   ·grind
   ·simp[c]
  rw[e] at k
  obtain⟨L,k1,k2,k3⟩:=DP b t d g _ _ hd (λ j c=>by grind) k
  refine⟨L,k1,λ j c=>k2 j (sO c),λ j c=> ?_⟩
  rcases bO.1 c with rfl|c
  ·simp_all
  grind
def waits(o:Oper)(j:Nat):Bool:=o.after.any λ e=>Region.binds .any e&&decide (e.on=j)
def Fk(h:waits o g=true):∃e∈o.after,Region.binds .any e=true/\e.on=g:=by
 unfold waits at h;grind
def dA(P:Program)(l:List Oper)(Q:Exit->Act->aa->Prop)(T:aa->Prop)(E:aa->aa->Prop)(R:Nat->ab->aa->Prop)(al d:List Nat)(c:Act)(i:Nat)(o:Oper):Prop:=
 ∀(a:Act) (w:aa) (K:Act->aa->Prop),(∀k,d.all (λ j=> !decide (bQ l j=some k))=true->a.tmps[k]?=c.tmps[k]?)->
  (∀j k,d.contains j=true->waits o j=true->bQ l j=some k->k<c.tmps.size->∃v,a.tmps[k]?=some v/\R j v w)->T w->
  (∀v b,R i v b->E w b->T b->(i∈al->∀j u,j∈al->R j u w->u≠v)->K (a.put o.dst v) b)->if Region.wanted o (yielded l.toArray a.tmps)=true then Oper.wp P o a w K Q else K (a.put o.dst undef) w
def fa.inv{al c:List Nat}{a0:Act}(c6:Region.sinkB .any l.toArray n=true)(b6:Region.chainB .any l.toArray n=true)(c2:n<l.length)
 (hd:qR l c=true) (a6:∀i∈c,∀o,l.toArray[i]?=some o->∀e∈o.after,Region.binds .any e=true->e.on<i) (C:∀i∈c,i<n)
 (c1:∀i v w F,R i v w->E w F->R i v F) (c4:∀i∈c,∀o,l.toArray[i]?=some o->dA P l Q T E R al c a0 i o) {L:Array Bool->Act->aa->Prop}
 (b8:∀b a w p,HeadInv .any l.toArray n b->(∀i,i<n->b.getD i false=true)->Fit l c a0 p b a->T w->(∀i∈c,R i (p i) w)->(∀i∈c,∀j∈c,i∈al->j∈al->i≠j->p i≠p j)->L b a w):
 ∀(f:Nat) (b:Array Bool) (a:Act) (w:aa) (p:Nat->ab),HeadInv .any l.toArray n b->(∀i,i<n->b.getD i false=false->i∈c)->(c.filter λ i=> !b.getD i false).length=f->
  c.Nodup->Fit l c a0 p b a->T w->(∀i∈c,b.getD i false=true->R i (p i) w)->(∀i∈c,∀j∈c,b.getD i false=true->b.getD j false=true->i∈al->j∈al->i≠j->p i≠p j)->fa P .any l.toArray Q T n L f b a w:=by
 intro f
 induction f with
 |zero=>
  intro b a w p inv A y X z H x G
  have h:∀i∈c,b.getD i false=true:=by
   intro i d
   have:=ig y
   rw[List.filter_eq_nil_iff] at this
   have:=this i d
   simpa using this
  exact b8 b a w p inv (λ i d=>by
   grind) z H (λ i d=>x i d (h i d)) (λ i d j g=>G i d j g (h i d) (h j g))
 |succ f d1=>
  intro b a w p inv A y X z H x G
  have a8:b.size=l.length:=by have:=inv.size;simpa using this
  obtain⟨D,a4,b0⟩:∃i∈c,b.getD i false=false:=by
   have:(c.filter λ i=> !b.getD i false)≠[]:=by intro h;rw[h] at y;cases y
   simp_all
  have b9:=C D a4
  have c5:∃j,j∈Region.ready .any l.toArray b:=by
   have K:∀m i,i<=m->i∈c->b.getD i false=false->∃j,j∈Region.ready .any l.toArray b:=by
    intro m
    induction m with
    |zero=>
     intro i B d t
     have k:i<l.toArray.size:=by have:=C i d;simp;omega
     have q:i<b.size:=by rw[a8];simpa using k
     refine⟨i,lz.2 ⟨oZ q t,l.toArray[i],lN k,λ e r s=> ?_⟩⟩
     have:=a6 i d _ (lN k) e r s
     omega
    |succ m J=>
     intro i B d t
     have k:i<l.toArray.size:=by have:=C i d;simp;omega
     by_cases u:∀e∈(l.toArray[i]).after,Region.binds .any e=true->b.getD e.on false=true
     ·exact⟨i,lz.2 ⟨oZ (by rw[a8];simpa using k) t,l.toArray[i],lN k,u⟩⟩
     ·have:∃e∈(l.toArray[i]).after,Region.binds .any e=true/\b.getD e.on false=false:=by
       refine gY λ I=>u λ e r s=> ?_
       cases q:b.getD e.on false with
       |true=>rfl
       |false=>exact absurd ⟨e,r,s,q⟩ I
      obtain⟨e,r,s,q⟩:=this
      have I:=a6 i d _ (lN k) e r s
      exact J e.on W (A e.on (by have:=C i d;omega) q) q
   exact K D D (aQ _) a4 b0
  refine⟨λ h=>(by obtain⟨j,g⟩:=c5;rw[h] at g;cases g),λ i d=> ?_⟩
  have M:i<n:=xe λ h=>absurd d (EU c6 b6 (by simpa using c2) inv _ D rfl b9 (oZ W b0) i h)
  refine⟨M,?_⟩
  obtain⟨c8,o,a1,b4⟩:=lz.1 d
  have a9:=getD_both c8
  have N:=A i M a9
  have b7:bQ l i=o.dst:=by unfold bQ;rw[a1];rfl
  refine zQ a1 (λ b1 b3=> ?_)
  refine c4 i N o a1 a w b1 (λ k t=>z.U k (λ j g r=> ?_)) (λ j k g d0 t s=> ?_) H (λ v F c9 b2 a3 a2=>b3 _ _ ⟨a3,?_⟩)
  ·rw[hl] at t
   have:=t j g
   rw[r] at this
   simp at this
  ·have a5:j∈c:=by simpa using g
   obtain⟨e,r,b5,c3⟩:=Fk d0
   have u:=b4 e r b5
   rw[c3] at u
   exact⟨p j,z.put j a5 u k t s,x j a5 u⟩
  ·have a7:=z.next hd N v
   rw[b7] at a7
   refine d1 _ _ _ (λ j=>if j=i then v else p j) (inv.set d M) (λ j g q=> ?_) ?_ X a7 a3 (λ j g q=> ?_) (λ j g k t u B I J S=> ?_)
   ·by_cases m:i=j
    ·subst m;rw[vn W] at q;cases q
    ·rw[lr false m] at q;exact A j g q
   ·have c7:(c.filter λ j=> !(b.setIfInBounds i true).getD j false)=(c.filter λ j=> !b.getD j false).erase i:=by
     rw[No (X.filter _),List.filter_filter]
     refine List.filter_congr λ j g=> ?_
     by_cases m:i=j
     ·subst m;rw[vn W];simp
     ·rw[lr false m]
      have:(j !=i)=true:=by simpa using λ h=>m h.symm
      rw[this];simp
    rw[c7,FZ (by rw[List.mem_filter];exact⟨N,by simp[a9]⟩),y]
    rfl
   ·by_cases m:j=i
    ·subst m;simp only[au];exact c9
    ·rw[lr false (gr m)] at q
     simp only[ar m]
     exact c1 j _ w F (x j g q) b2
   ·by_cases m:j=i
    ·subst m
     have c0:¬k=j:=λ h=>S h.symm
     rw[lr false S] at B
     simp only[ar c0,if_true]
     exact λ r=>a2 I k _ J (x k t B) r.symm
    ·rw[lr false (gr m)] at u
     by_cases K:k=i
     ·subst K
      simp only[ar m,if_true]
      exact a2 J j _ I (x j g u)
     ·rw[lr false (gr K)] at B
      simp only[ar m,ar K]
      exact G j g k t u B I J S
def rr(l:List Oper)(n:Nat)(b:Array Bool)(a:List Nat):Bool:=
 decide (a=(List.range n).filter λ i=> !b.getD i true)&&qR l a&&(a.all λ i=>((l.toArray[i]?).map λ o=>o.after.all λ e=> !Region.binds .any e||decide (e.on<i)).getD true)&&decide (b.size=l.length)
def Jj(inv:HeadInv .any l.toArray n B)(e:n<l.length)(h:∀i,i<n->B.getD i false=true):B=(List.replicate n true++List.replicate (l.length-n) false).toArray:=by
 have f:B.size=l.length:=by have:=inv.size;simpa using this
 refine Array.ext_getElem? λ k=> ?_;by_cases c:k<n
 ·have b:=h k c;have a:k<B.size:=by omega
  rw[lN a];simp[a] at b;grind
 ·by_cases d:k<l.length
  ·have b:=inv.tail k W W;have a:k<B.size:=by omega
   rw[lN a];simp[a] at b;grind
  grind
def ay.inv{listed:Array Bool}{a0:Act}{w0:aa}(al b:List Nat)(T:aa->Prop)(E:aa->aa->Prop)(R:Nat->ab->aa->Prop)
 (g:rr l n listed b=true) (t:Region.seqB .any l.toArray (l.length-n) n (List.replicate n true++List.replicate (l.length-n) false).toArray=true)
 (C:∀i v w a,R i v w->E w a->R i v a) (x:T w0) (G:∀i∈b,∀o,l.toArray[i]?=some o->dA P l Q T E R al b a0 i o)
 (z:∀(d:Nat->ab) (w:aa),T w->(∀i∈b,R i (d i) w)->(∀i∈b,∀j∈b,i∈al->j∈al->i≠j->d i≠d j)->wpList P l.toArray Q (l.drop n) (pD l d b a0) w):
 ay P l Q T n b.length listed a0 w0:=λ c a e s inv=>by
 unfold rr at g
 simp only[dL,ej] at g
 obtain⟨⟨⟨H,hd⟩,q⟩,M⟩:=g
 have r:∀i,i∈b↔i<n/\listed.getD i true=false:=by grind
 have k:∀i∈b,listed.getD i false=false:=by grind
 have D:b.Nodup:=by rw[H];exact F2.filter _
 refine fa.inv (a0:=a0) c a s hd ?_ (λ i c=>((r i).1 c).1) C G ?_ b.length listed a0 w0 (λ _=>undef) inv (λ i c h=>(r i).2 ⟨c,oZ W h⟩) ?_ D (Fit.start k) x (λ i c h=>by grind) (λ i c j K h=>by grind)
 ·intro i c o F e p J
  rw[hl] at q
  have f:=q i c
  rw[F] at f
  simp only[A1,xi] at f
  rw[Array.all_eq_true'] at f
  grind
 ·intro N a w d I m A y v u
  have B:∀i∈b,i<n:=by grind
  obtain⟨L,k1,-,k3⟩:=DP (l:=l) d b b a0 a0 listed hd (λ i c=>⟨c,by grind⟩) (Fit.start k)
  have p:=A.all k1 (λ i c=>m i (B i c)) k3
  subst p
  refine⟨?_,z d w y v u⟩
  rw[Jj I s m]
  exact t
 ·rw[List.filter_eq_self.2 (λ i c=>by simp[k i c])]
def ay.fK{S:aa->Prop}{oi:Oper}{v:ab}{w:aa}(k:Tmp)(f:l.toArray[i]?=some oi)(m:oi.dst=some k)(j:i<n)
 (e:Region.free .any l.toArray B i=true) (o:(Region.ready .any l.toArray B).contains i=true)
 (b:∀c a w,Q (.panic c) (a.put oi.dst v) w->Q (.panic c) a w) (p:YieldsIf P l.toArray S oi v a) (d:S w)
 (h:ay P l Q S n g (B.setIfInBounds i true) {a with tmps:=a.tmps.setIfInBounds k v} w):ay P l Q S n (g+1) B a w:=
 ay.take f j e o b p d (by rw[m];exact h)
def uq(l:List Oper)(F:Nat->Oper->Prop):List Nat->Prop
 |[]=>True
 |i::t=>(∀o,l.toArray[i]?=some o->F i o)/\uq l F t
def uq.all{F:Nat->Oper->Prop}:∀{t:List Nat},uq l F t->∀i∈t,∀o,l.toArray[i]?=some o->F i o
 |[],_,i,a=>by cases a
 |j::t,h,i,a=>by
  rcases bO.1 a with rfl|a
  ·exact h.1
  ·exact h.2.all i a
def sI{k:Tmp}{v:ab}(h:a.tmps[k]?=some v):a.eval (.tmp k)=v:=by simp[Act.eval,h]
def bc(k:Option Nat)(g:Nat):ab:=match k with
 |none=>pV g
 |some c=>ag (some ⟨g,0,none⟩) c c
def yc{a k':Option Nat}(h:bc a g=bc k' k):g=k:=by
 cases a<;>cases k'<;>simp[bc] at h
 ·exact h
 omega
def RA(d:Nat)(c:Nat->ab->Prop)(al:List (Nat×TypeId×Array ab×Option Nat))(i:Nat)(v:ab)(w:aa):Prop:=
 c i v/\∀b a k,(b,a,k)∈al.lookup i->∃g,d<=g/\v=bc k g/\ah w g b a
def RA.mono{a:Nat->ab->Prop}{al:List (Nat×TypeId×Array ab×Option Nat)}{v:ab}{w c:aa}(h:RA g a al i v w)(m:BW w c):RA g a al i v c:=
 ⟨h.1,λ p d k o=>by obtain⟨e,f,j,b⟩:=h.2 p d k o;exact⟨e,f,j,(dR m _ (ah.lt b)).trans b⟩⟩
abbrev BT(a w:aa):Prop:=BW a w
abbrev BE(w a:aa):Prop:=BW w a
def dA.mk{c:aa}{f:Nat->ab->Prop}{al:List (Nat×TypeId×Array ab×Option Nat)}(z:o.guard=none)
 (h:∀(b:Act) (w:aa) (K:Act->aa->Prop),(∀k v,p.all (λ j=> !decide (bQ l j=some k))=true->a.tmps[k]?=some v->b.eval (.tmp k)=v)->
  (∀j k,(p.contains j&&waits o j&&decide (bQ l j=some k)&&decide (k<a.tmps.size))=true->∃v,b.eval (.tmp k)=v/\RA c.heap.size f al j v w)->BW c w->
  (∀v e,RA c.heap.size f al i v e->BW w e->(i∈m->∀j u,j∈m->RA c.heap.size f al j u w->u≠v)->K (b.put o.dst v) e)->Oper.wp P o b w K Q):
 dA P l Q (BT c) BE (RA c.heap.size f al) m p a i o:=by
 intro b w K B y g u
 have D:Region.wanted o (yielded l.toArray b.tmps)=true:=by unfold Region.wanted;rw[z]
 rw[au D]
 refine h b w K (λ k v A r=>sI ((B k A).trans r)) (λ j k d=> ?_) g (λ v e C q x=>u v e C q (fL g (dy q (ee g))) x)
 simp only[dL,ej] at d
 obtain⟨v,s,t⟩:=y j k d.1.1.1 d.1.1.2 d.1.2 d.2
 exact⟨v,sI s,t⟩
def tL{w:aa}{K:Act->aa->Prop}{c:Call}{f:FuncId}{vs:Array ab}(j:o.op= .call c)(g:c.callee= .value (.func f))(k:c.args.map a.eval=vs)
 (i:∀d b,(callFunc f d).run P b= .ok (.enter f d) b) (h:Calls P f vs w λ e b=>∃v,e=ao v/\K (a.put o.dst v) b):o.wp P a w K Q:=by
 have m:vs++ #[]=vs:=by rfl
 have:∃b,b=w/\(execOp a.eval o).run P w= .ok (.enter f vs) b:=⟨w,rfl,by
  unfold execOp resolve
  simp[j,g,k,Act.eval,Deferred.ofValue,invoke,i,m]⟩
 obtain⟨b,rfl,d⟩:=this
 unfold Oper.wp
 rw[d,Oper.upon_enter]
 refine h.mono ?_
 grind
def dA.call{d:aa}{g:Nat->ab->Prop}{al:List (Nat×TypeId×Array ab×Option Nat)}{q p:List Nat}{m:Act}{i:Nat}{o:Oper}{c:Call}(f:FuncId)(y:o.guard=none)(A:o.op= .call c)(t:c.callee= .value (.func f))
 (x:∀a b,(callFunc f a).run P b= .ok (.enter f a) b) (z:i∉q) (F:al.lookup i=none)
 (h:∀(a:Act) (w:aa),(∀k v,p.all (λ j=> !decide (bQ l j=some k))=true->m.tmps[k]?=some v->a.eval (.tmp k)=v)->
  (∀j k,(p.contains j&&waits o j&&decide (bQ l j=some k)&&decide (k<m.tmps.size))=true->∃v,a.eval (.tmp k)=v/\RA d.heap.size g al j v w)->BW d w->
  Calls P f (c.args.map a.eval) w λ e b=>(∃v,e=ao v/\g i v)/\BW w b):
 dA P l Q (BT d) BE (RA d.heap.size g al) q p m i o:=by
 refine dA.mk y λ a w K B u r j=>tL A t rfl x ((h a w B u r).mono ?_)
 rintro e b ⟨⟨v,rfl,C⟩,s⟩
 exact⟨v,rfl,j v b ⟨C,λ G D k k=>by grind⟩ s (λ h=>absurd h z)⟩
def dA.value{b:aa}{c:Nat->ab->Prop}{al:List (Nat×TypeId×Array ab×Option Nat)}{f e:List Nat}{d:Act}{i:Nat}{o:Oper}(p:o.guard=none)(q:i∉f)(x:al.lookup i=none)
 (h:∀(a:Act) (w:aa),(∀k v,e.all (λ j=> !decide (bQ l j=some k))=true->d.tmps[k]?=some v->a.eval (.tmp k)=v)->
  (∀j k,(e.contains j&&waits o j&&decide (bQ l j=some k)&&decide (k<d.tmps.size))=true->∃v,a.eval (.tmp k)=v/\RA b.heap.size c al j v w)->BW b w->
  ∃v,(execOp a.eval o).run P w= .ok (.value v) w/\c i v):
 dA P l Q (BT b) BE (RA b.heap.size c al) f e d i o:=by
 refine dA.mk p λ a w K r m j g=> ?_
 obtain⟨v,s,t⟩:=h a w r m j
 unfold Oper.wp
 rw[s,jC]
 exact g v w ⟨t,λ y u k k=>by grind⟩ (bp _ _) (λ h=>absurd h q)
def eval_const(a:Act)(v:ab):a.eval (.const v)=v:=rfl
def dA.build{b:aa}{c:Nat->ab->Prop}{al:List (Nat×TypeId×Array ab×Option Nat)}{f e:List Nat}{d:Act}{i:Nat}{o:Oper}{t:TypeId}{parts:Array (Nat×Operand)}(p:o.guard=none)(s:o.op= .build t parts)(q:i∉f)(r:al.lookup i=none)
 (h:∀(a:Act) (w:aa),(∀k v,e.all (λ j=> !decide (bQ l j=some k))=true->d.tmps[k]?=some v->a.eval (.tmp k)=v)->
  (∀j k,(e.contains j&&waits o j&&decide (bQ l j=some k)&&decide (k<d.tmps.size))=true->∃v,a.eval (.tmp k)=v/\RA b.heap.size c al j v w)->BW b w->
  ∃cells,P.built t (parts.toList.map λ(i,x)=>(i,a.eval x))=some cells/\c i (aG cells)):
 dA P l Q (BT b) BE (RA b.heap.size c al) f e d i o:=by
 refine dA.value p q r λ a w u m g=> ?_
 obtain⟨cells,j,v⟩:=h a w u m g
 refine⟨_,?_,v⟩
 have k:P.built t (parts.map λ(i,x)=>(i,a.eval x)).toList=some cells:=by rw[FL];exact j
 unfold execOp
 simp only[s,cO,run_build w t _ cells k,dd]
 rfl
def dA.alloc{c:aa}{d:Nat->ab->Prop}{al:List (Nat×TypeId×Array ab×Option Nat)}{e G:List Nat}{m:Act}{i:Nat}{o:Oper}{b:TypeId}{f:Array ab}(y:o.guard=none)(B:o.op= .alloc b)(A:al.lookup i=some (b,f,none))(D:∀j∈e,(al.lookup j).isSome=true)
 (C:∀w,(Instr.alloc b true (aM #[])).run P w= .ok (pV w.heap.size) (w.alloc (.cells f b))) (t:∀g,c.heap.size<=g->d i (pV g)):
 dA P l Q (BT c) BE (RA c.heap.size d al) e G m i o:=by
 refine dA.mk y λ a w K M J h s=> ?_
 unfold Oper.wp execOp
 simp only[B,cO,C,dd,dN,jC]
 refine s _ _ ⟨t _ (ee h),λ S H F k=> ?_⟩ (bJ w _) (λ L j u z v=> ?_)
 ·rw[A] at k
  cases k
  exact⟨_,ee h,rfl,ah.new _ _ _⟩
 ·have:=D j z
  cases N:al.lookup j with
  |none=>grind
  |some x=>
   obtain⟨g,-,p,q⟩:=v.2 x.1 x.2.1 x.2.2 (by grind)
   rw[p]
   intro r
   have I:g=w.heap.size:=yc (k':=none) r
   have:=ah.lt q
   omega
def ky(b:Nat->ab):List (Nat×Tmp)->Act->Act
 |[],a=>a
 |(i,k)::t,a=>ky b t {a with tmps:=a.tmps.setIfInBounds k (b i)}
def KD(c:Nat->ab):∀(b:List (Nat×Tmp)) (a:Act),(∀p∈b,bQ l p.1=some p.2)->pD l c (b.map (·.1)) a=ky c b a
 |[],a,_=>rfl
 |(i,k)::t,a,h=>by
  simp only[bZ,pD,ky]
  rw[show bQ l i=some k from h (i,k) zS]
  exact KD c t _ λ p b=>h p (jz _ b)
def ay.free{w0 wc:aa}(b:List (Nat×Tmp))(al:List (Nat×TypeId×Array ab×Option Nat))(d:Nat->ab->Prop)
 (e:(rr l n B (b.map (·.1))&&b.all λ p=>decide (bQ l p.1=some p.2))=true) (k:Region.seqB .any l.toArray (l.length-n) n (List.replicate n true++List.replicate (l.length-n) false).toArray=true) (m:BW w0 wc)
 (p:uq l (dA P l Q (BT w0) BE (RA w0.heap.size d al) (al.map (·.1)) (b.map (·.1)) a) (b.map (·.1)))
 (o:∀(c:Nat->ab) (w:aa),BW w0 w->(∀i∈b.map (·.1),RA w0.heap.size d al i (c i) w)->(∀i∈b.map (·.1),∀j∈b.map (·.1),i∈al.map (·.1)->j∈al.map (·.1)->i≠j->c i≠c j)->wpList P l.toArray Q (l.drop n) (ky c b a) w):
 ay P l Q (BT w0) n b.length B a wc:=by
 simp only[dL,hl,ej] at e
 have h:=ay.inv (listed:=B) (w0:=wc) (al.map (·.1)) (b.map (·.1)) (BT w0) BE (RA w0.heap.size d al) e.1 k (λ i v w q h j=>h.mono j) m p.all (λ c w f g i=>by
  rw[KD c b a e.2]
  exact o c w f g i)
 rw[cC] at h
 exact h
end
end
section
section
variable{Q:Exit->Act->aa->Prop}{l:List Oper}{n f:Nat}{S:aa->Prop}{L L':List Bool}{M M':List ab}{d:List Deferred}{w:aa}{oi:Oper}{v:ab}
def V2(i:Nat)(k:Tmp)(g:S w)(h:ay prog l Q S n f L'.toArray ⟨M'.toArray,d⟩ w)
 (m:l.toArray[i]?=some oi:=by exact rfl) (hd:oi.dst=some k:=by exact rfl)
 (j:YieldsIf prog l.toArray S oi v ⟨M.toArray,d⟩:=by exact Or.inl ⟨by kernel_rfl,by intro p o;go_simp;try(with_reducible rfl)⟩)
 (b:L.set i true=L':=by first|(simp only[av,ax];exact rfl)|(simp only[ff,hq,av,ax];exact rfl)|exact rfl) (e:M.set k v=M':=by first|(simp only[av,ax,bH,ck,dJ,dr];exact rfl)|exact rfl)
 (h1:i<n:=by decide) (h2:Region.free Region.Mode.any l.toArray L.toArray i=true:=by kernel_rfl) (h3:(Region.ready Region.Mode.any l.toArray L.toArray).contains i=true:=by kernel_rfl)
 (h4:∀(c:List PanicEntry) (a:Act) (w:aa),Q (Exit.panic c) (a.put oi.dst v) w->Q (Exit.panic c) a w:=by exact λ _ _ _ h=>h):
 ay prog l Q S n (f+1) L.toArray ⟨M.toArray,d⟩ w:=
 ay.fK k m hd h1 h2 h3 h4 j g (by subst b;subst e;simpa only[aS] using h)
def W2(i:Nat)(k:Tmp)(m:l.toArray[i]?=some oi)(hd:oi.dst=some k)(j:YieldsIf prog l.toArray S oi v ⟨M.toArray,d⟩)(g:S w)(h:ay prog l Q S n f L'.toArray ⟨M'.toArray,d⟩ w)
 (b:L.set i true=L':=by first|(simp only[av,ax];exact rfl)|(simp only[ff,hq,av,ax];exact rfl)|exact rfl) (e:M.set k v=M':=by first|(simp only[av,ax,bH,ck,dJ,dr];exact rfl)|exact rfl)
 (h1:i<n:=by decide) (h2:Region.free Region.Mode.any l.toArray L.toArray i=true:=by kernel_rfl) (h3:(Region.ready Region.Mode.any l.toArray L.toArray).contains i=true:=by kernel_rfl)
 (h4:∀(c:List PanicEntry) (a:Act) (w:aa),Q (Exit.panic c) (a.put oi.dst v) w->Q (Exit.panic c) a w:=by exact λ _ _ _ h=>h):
 ay prog l Q S n (f+1) L.toArray ⟨M.toArray,d⟩ w:=
 ay.fK k m hd h1 h2 h3 h4 j g (by subst b;subst e;simpa only[aS] using h)
def U2(i:Nat)(k:Tmp)(g:S w)(h:ay prog l Q S n f L'.toArray ⟨M'.toArray,d⟩ w)
 (m:l.toArray[i]?=some oi:=by exact rfl) (hd:oi.dst=some k:=by exact rfl)
 (j:YieldsIf prog l.toArray S oi undef ⟨M.toArray,d⟩:=by exact Or.inr ⟨by kernel_rfl,rfl⟩)
 (b:L.set i true=L':=by first|(simp only[av,ax];exact rfl)|(simp only[ff,hq,av,ax];exact rfl)|exact rfl) (e:M.set k undef=M':=by first|(simp only[av,ax,bH,ck,dJ,dr];exact rfl)|exact rfl)
 (h1:i<n:=by decide) (h2:Region.free Region.Mode.any l.toArray L.toArray i=true:=by kernel_rfl) (h3:(Region.ready Region.Mode.any l.toArray L.toArray).contains i=true:=by kernel_rfl)
 (h4:∀(c:List PanicEntry) (a:Act) (w:aa),Q (Exit.panic c) (a.put oi.dst undef) w->Q (Exit.panic c) a w:=by exact λ _ _ _ h=>h):
 ay prog l Q S n (f+1) L.toArray ⟨M.toArray,d⟩ w:=
 ay.fK k m hd h1 h2 h3 h4 j g (by subst b;subst e;simpa only[aS] using h)
end
end
section
section
variable{Q:Exit->Act->aa->Prop}{l:List Oper}{n f:Nat}{S:aa->Prop}{L L':List Bool}{M M':List ab}{d:List Deferred}{w:aa}{oi:Oper}{v:ab}
def Take(_:List Nat)(p:Prop):Prop:=p
def Take.nil{p:Prop}(h:p):Take [] p:=h
def Take.va(k:Tmp)(g:S w)(h:Take m (ay prog l Q S n f L'.toArray ⟨M'.toArray,d⟩ w))
 (o:l.toArray[i]?=some oi:=by exact rfl) (hd:oi.dst=some k:=by exact rfl)
 (j:YieldsIf prog l.toArray S oi v ⟨M.toArray,d⟩:=by exact Or.inl ⟨by kernel_rfl,by intro q p;go_simp;try(with_reducible rfl)⟩)
 (b:L.set i true=L':=by first|(simp only[av,ax];exact rfl)|(simp only[ff,hq,av,ax];exact rfl)|exact rfl) (e:M.set k v=M':=by first|(simp only[av,ax,bH,ck,dJ,dr];exact rfl)|exact rfl)
 (h1:i<n:=by decide) (h2:Region.free Region.Mode.any l.toArray L.toArray i=true:=by kernel_rfl) (h3:(Region.ready Region.Mode.any l.toArray L.toArray).contains i=true:=by kernel_rfl)
 (h4:∀(c:List PanicEntry) (a:Act) (w:aa),Q (Exit.panic c) (a.put oi.dst v) w->Q (Exit.panic c) a w:=by exact λ _ _ _ h=>h):
 Take (i::m) (ay prog l Q S n (f+1) L.toArray ⟨M.toArray,d⟩ w):=V2 i k g h o hd j b e h1 h2 h3 h4
def Take.un(k:Tmp)(g:S w)(h:Take m (ay prog l Q S n f L'.toArray ⟨M'.toArray,d⟩ w))
 (o:l.toArray[i]?=some oi:=by exact rfl) (p:oi.guard.isSome=true:=by exact rfl) (hd:oi.dst=some k:=by exact rfl)
 (j:Region.wanted oi (yielded l.toArray M.toArray)=false:=by exact rfl)
 (b:L.set i true=L':=by first|(simp only[av,ax];exact rfl)|(simp only[ff,hq,av,ax];exact rfl)|exact rfl) (e:M.set k undef=M':=by first|(simp only[av,ax,bH,ck,dJ,dr];exact rfl)|exact rfl)
 (h1:i<n:=by decide) (h2:Region.free Region.Mode.any l.toArray L.toArray i=true:=by kernel_rfl) (h3:(Region.ready Region.Mode.any l.toArray L.toArray).contains i=true:=by kernel_rfl)
 (h4:∀(c:List PanicEntry) (a:Act) (w:aa),Q (Exit.panic c) (a.put oi.dst undef) w->Q (Exit.panic c) a w:=by exact λ _ _ _ h=>h):
 Take ((i+1000)::m) (ay prog l Q S n (f+1) L.toArray ⟨M.toArray,d⟩ w):=U2 i k g h o hd (Or.inr ⟨j,rfl⟩) b e h1 h2 h3 h4
def VW(i:List Nat)(b:S w)(h:ay prog l Q S n g L'.toArray ⟨M'.toArray,d⟩ w)
 (e:S w->ay prog l Q S n g L'.toArray ⟨M'.toArray,d⟩ w->Take i (ay prog l Q S n f L.toArray ⟨M.toArray,d⟩ w):=by
  intro a c
  repeat first|refine Take.un _ a ?_|refine Take.va _ a ?_
  exact Take.nil c):ay prog l Q S n f L.toArray ⟨M.toArray,d⟩ w:=e b h
end
end
section
section
variable{P:Program}{Q:Exit->Act->aa->Prop}{T:aa->Prop}{n:Nat}{l:List Oper}
def ni(P:Program)(l:List Oper)(Q:Exit->Act->aa->Prop)(T:aa->Prop)(J:Array Bool->(Nat->ab)->aa->Prop)(f:List Nat)(e:Act)(i:Nat)(o:Oper):Prop:=
 ∀(a:Act) (w:aa) (K:Act->aa->Prop) (b:Array Bool) (c:Nat->ab),i<b.size->b.getD i false=false->(∀k,f.all (λ j=> !decide (bQ l j=some k))=true->a.tmps[k]?=e.tmps[k]?)->
  (∀j,waits o j=true->b.getD j false=true)->(∀j k,f.contains j=true->waits o j=true->bQ l j=some k->k<e.tmps.size->a.tmps[k]?=some (c j))->T w->J b c w->
  (∀v d,J (b.setIfInBounds i true) (λ j=>if j=i then v else c j) d->T d->K (a.put o.dst v) d)->if Region.wanted o (yielded l.toArray a.tmps)=true then Oper.wp P o a w K Q else K (a.put o.dst undef) w
def fa.Cz{J:Array Bool->(Nat->ab)->aa->Prop}{a0:Act}(b2:Region.sinkB .any l.toArray n=true)(a6:Region.chainB .any l.toArray n=true)(b8:n<l.length)
 (hd:qR l m=true) (b7:∀i∈m,∀o,l.toArray[i]?=some o->∀e∈o.after,Region.binds .any e=true->e.on<i) (I:∀i∈m,i<n)
 (b1:∀i∈m,∀o,l.toArray[i]?=some o->ni P l Q T J m a0 i o) {L:Array Bool->Act->aa->Prop}
 (a8:∀b a w d,HeadInv .any l.toArray n b->(∀i,i<n->b.getD i false=true)->Fit l m a0 d b a->T w->J b d w->L b a w):
 ∀(f:Nat) (b:Array Bool) (a:Act) (w:aa) (d:Nat->ab),HeadInv .any l.toArray n b->(∀i,i<n->b.getD i false=false->i∈m)->(m.filter λ i=> !b.getD i false).length=f->
  m.Nodup->Fit l m a0 d b a->T w->J b d w->fa P .any l.toArray Q T n L f b a w:=by
 intro f
 induction f with
 |zero=>
  intro b a w d inv B r F s A z
  have g:∀i∈m,b.getD i false=true:=by
   intro i c
   have:=ig r
   rw[List.filter_eq_nil_iff] at this
   have:=this i c
   simpa using this
  exact a8 b a w d inv (λ i c=>by
   grind) s A z
 |succ f b6=>
  intro b a w d inv B r F s A z
  have b4:b.size=l.length:=by have:=inv.size;simpa using this
  obtain⟨y,X,a2⟩:∃i∈m,b.getD i false=false:=by
   have:(m.filter λ i=> !b.getD i false)≠[]:=by intro h;rw[h] at r;cases r
   simp_all
  have a9:=I y X
  have b9:∃j,j∈Region.ready .any l.toArray b:=by
   have v:∀p i,i<=p->i∈m->b.getD i false=false->∃j,j∈Region.ready .any l.toArray b:=by
    intro p
    induction p with
    |zero=>
     intro i u c q
     have k:i<l.toArray.size:=by have:=I i c;simp;omega
     have t:i<b.size:=by rw[b4];simpa using k
     refine⟨i,lz.2 ⟨oZ t q,l.toArray[i],lN k,λ e g S=> ?_⟩⟩
     grind
    |succ p x=>
     intro i u c q
     have k:i<l.toArray.size:=by have:=I i c;simp;omega
     by_cases t:∀e∈(l.toArray[i]).after,Region.binds .any e=true->b.getD e.on false=true
     ·exact⟨i,lz.2 ⟨oZ (by grind) q,l.toArray[i],lN k,t⟩⟩
     grind
   exact v y y (aQ _) X a2
  refine⟨λ h=>(by grind),λ i c=> ?_⟩
  have D:i<n:=xe λ h=>absurd c (EU b2 a6 W inv _ y rfl a9 (oZ W a2) i h)
  refine⟨D,?_⟩
  obtain⟨b5,o,G,R⟩:=lz.1 c
  have K:=getD_both b5
  have E:=B i D K
  have a7:bQ l i=o.dst:=by unfold bQ;rw[G];rfl
  refine zQ G (λ a3 a5=> ?_)
  refine b1 i E o G a w a3 b d W K (λ k t=>s.U k (λ j q g=> ?_)) (λ j M=> ?_) (λ j k q M t S=> ?_) A z (λ v c0 a4 N=>a5 _ _ ⟨N,?_⟩)
  ·rw[hl] at t
   have:=t j q
   rw[g] at this
   simp at this
  ·obtain⟨e,g,C,H⟩:=Fk M
   have x:=R e g C
   rwa[H] at x
  ·have b0:j∈m:=by simpa using q
   obtain⟨e,g,C,H⟩:=Fk M
   have x:=R e g C
   rw[H] at x
   exact s.put j b0 x k t S
  ·have a1:=s.next hd E v
   rw[a7] at a1
   refine b6 _ _ _ (λ j=>if j=i then v else d j) (inv.set c D) (λ j q u=> ?_) ?_ F a1 N a4
   ·by_cases p:i=j
    ·subst p;rw[vn W] at u;cases u
    ·rw[lr false p] at u;exact B j q u
   ·have b3:(m.filter λ j=> !(b.setIfInBounds i true).getD j false)=(m.filter λ j=> !b.getD j false).erase i:=by
     rw[No (F.filter _),List.filter_filter]
     refine List.filter_congr λ j q=> ?_
     by_cases p:i=j
     ·subst p;rw[vn W];simp
     ·rw[lr false p]
      have:(j !=i)=true:=by simpa using λ h=>p h.symm
      rw[this];simp
    rw[b3,FZ (by rw[List.mem_filter];exact⟨E,by simp[K]⟩),r]
    rfl
def ay.Cz{listed:Array Bool}{a0:Act}{w0:aa}(b:List Nat)(T:aa->Prop)(J:Array Bool->(Nat->ab)->aa->Prop)
 (h:rr l n listed b=true) (s:Region.seqB .any l.toArray (l.length-n) n (List.replicate n true++List.replicate (l.length-n) false).toArray=true)
 (v:T w0) (t:∀d,J listed d w0) (E:∀i∈b,∀o,l.toArray[i]?=some o->ni P l Q T J b a0 i o)
 (y:∀(d:Nat->ab) (w:aa),T w->(∃f:Array Bool,(∀i,i<n->f.getD i false=true)/\J f d w)->wpList P l.toArray Q (l.drop n) (pD l d b a0) w):
 ay P l Q T n b.length listed a0 w0:=λ c a e r inv=>by
 unfold rr at h
 simp only[dL,ej] at h
 obtain⟨⟨⟨F,hd⟩,p⟩,I⟩:=h
 have q:∀i,i∈b↔i<n/\listed.getD i true=false:=by grind
 have k:∀i∈b,listed.getD i false=false:=by grind
 have C:b.Nodup:=by rw[F];exact F2.filter _
 refine fa.Cz (a0:=a0) c a r hd ?_ (λ i c=>((q i).1 c).1) E ?_ b.length listed a0 w0 (λ _=>undef) inv (λ i c B=>(q i).2 ⟨c,oZ W B⟩) ?_ C (Fit.start k) v (t _)
 ·intro i c o D e m H
  rw[hl] at p
  have g:=p i c
  rw[D] at g
  simp only[A1,xi] at g
  rw[Array.all_eq_true'] at g
  grind
 ·intro f a w d G j z x u
  have A:∀i∈b,i<n:=by grind
  obtain⟨L,k1,-,k3⟩:=DP (l:=l) d b b a0 a0 listed hd (λ i c=>⟨c,by grind⟩) (Fit.start k)
  have m:=z.all k1 (λ i c=>j i (A i c)) k3
  subst m
  refine⟨?_,y d w x ⟨f,j,u⟩⟩
  rw[Jj G r j]
  exact s
 ·rw[List.filter_eq_self.2 (λ i c=>by simp[k i c])]
end
end
variable{t:TypeId}
section
section
variable{P:Program}{Q:Exit->Act->aa->Prop}{n:Nat}{l:List Oper}
def jJ(lt:List (Nat×Nat×Nat))(b:Array Bool)(e:Nat->ab)(i:Nat)(a:Array ab):Array ab:=match lt.lookup i with
 |some (c,d)=>if b.getD c false=true then(e d).cells else a
 |none=>a
structure LJ(todo:List Nat)(g0:Nat)(Pv:Nat->ab->Prop)(al:List (Nat×TypeId×Array ab×Option Nat))(lt:List (Nat×Nat×Nat))(listed:Array Bool)(vs:Nat->ab)(w:aa):Prop where
 val:∀i∈todo,listed.getD i false=true->Pv i (vs i)
 a:∀i∈todo,listed.getD i false=true->∀ty cs k,al.lookup i=some (ty,cs,k)->∃g,g0<=g/\vs i=bc k g/\ah w g ty (jJ lt listed vs i cs)
 cE:∀i∈todo,∀j∈todo,listed.getD i false=true->listed.getD j false=true->i≠j->(al.lookup i).isSome=true->(al.lookup j).isSome=true->∀k k' g g',vs i=bc k g->vs j=bc k' g'->g≠g'
 dep:∀p st vo,lt.lookup p=some (st,vo)->listed.getD st false=true->listed.getD vo false=true/\listed.getD p false=true
def Ha{lt:List (Nat×Nat×Nat)}{d:Nat->ab}{v:ab}{c:Array ab}(j:B.getD i false=false)
 (h:∀p a b,lt.lookup p=some (a,b)->B.getD a false=true->B.getD b false=true/\B.getD p false=true)
 (e:∀a b,lt.lookup g=some (a,b)->a≠i):jJ lt (B.setIfInBounds i true) (λ k=>if k=i then v else d k) g c=jJ lt B d g c:=by
 unfold jJ
 cases f:lt.lookup g with
 |none=>rfl
 |some x=>
  obtain⟨a,b⟩:=x
  simp only[]
  rw[lr false (gr (e a b f))]
  grind
def LJ.step{E:Nat->ab->Prop}{al:List (Nat×TypeId×Array ab×Option Nat)}{lt:List (Nat×Nat×Nat)}{D:Nat->ab}{w G:aa}(h:LJ m g E al lt B D w)
 {v:ab} (a2:i<B.size) (a0:B.getD i false=false) (K:∀p f r,lt.lookup p=some (f,r)->f≠i) (S:BW w G) (a5:E i v)
  (J:∀C s k,al.lookup i=some (C,s,k)->∃c,g<=c/\w.heap.size<=c/\v=bc k c/\ah G c C s):
  LJ m g E al lt (B.setIfInBounds i true) (λ k=>if k=i then v else D k) G:=by
 have A:∀j,j≠i->(B.setIfInBounds i true).getD j false=B.getD j false:=λ j u=>lr false (gr u)
 have a3:∀j∈m,B.getD j false=true->(al.lookup j).isSome=true->∀k c,D j=bc k c->c<w.heap.size:=λ j u d y k c a=>by
  cases e:al.lookup j with
  |none=>grind
  |some x=>
   obtain⟨F,t,o,q⟩:=h.a j u d x.1 x.2.1 x.2.2 e
   rw[a] at o
   rw[yc o]
   exact ah.lt q
 have a4:(al.lookup i).isSome=true->∀k c,v=bc k c->w.heap.size<=c:=λ y k c a=>by
  cases e:al.lookup i with
  |none=>grind
  |some x=>
   obtain⟨F,t,o,q,L⟩:=J x.1 x.2.1 x.2.2 e
   rw[a] at q
   rw[yc q]
   exact o
 refine⟨λ j u d=> ?_,λ j u d C s k y=> ?_,λ a y b T H I N M R k a1 c F e1 e2=> ?_,λ p f r e d=> ?_⟩
 ·by_cases z:j=i
  ·grind
  ·rw[A j z] at d
   simp only[ar z]
   exact h.val j u d
 ·rw[Ha a0 h.dep (λ f r e=>K j f r e)]
  by_cases z:j=i
  ·subst z
   obtain⟨c,t,o,q,L⟩:=J C s k y
   refine⟨c,t,by grind,?_⟩
   have:jJ lt B D j s=s:=by
    unfold jJ
    cases e:lt.lookup j with
    |none=>rfl
    |some x=>
     obtain⟨f,r⟩:=x
     simp only[]
     refine ar λ X=> ?_
     have:=(h.dep j f r e X).2
     grind
   grind
  ·rw[A j z] at d
   obtain⟨c,t,o,q⟩:=h.a j u d C s k y
   exact⟨c,t,by grind,(dR S _ (ah.lt q)).trans q⟩
 ·by_cases q:a=i
  ·grind
  ·rw[A a q] at H
   simp only[ar q] at e1
   by_cases x:b=i
   ·grind
   ·rw[A b x] at I
    simp only[ar x] at e2
    exact h.cE a y b T H I N M R k a1 c F e1 e2
 ·rw[A f (K p f r e)] at d
  obtain⟨t,o⟩:=h.dep p f r e d
  exact⟨sO t,sO o⟩
def LJ.store{D:Nat->ab->Prop}{al:List (Nat×TypeId×Array ab×Option Nat)}{lt:List (Nat×Nat×Nat)}{x:Nat->ab}{w:aa}(h:LJ m k D al lt B x w)
 {p z:Nat} {v:ab} {k0:Option Nat} {J:Array ab} (a9:i<B.size) (b3:B.getD i false=false) (b1:p∈m) (a0:B.getD p false=true) (a2:B.getD z false=true) (a1:lt.lookup p=some (i,z)) (a3:∀q f u,lt.lookup q=some (f,u)->f=i->q=p)
 (M:al.lookup i=none) (N:al.lookup p=some (t,J,k0)) (S:x p=bc k0 g) (b6:D i v):
 LJ m k D al lt (B.setIfInBounds i true) (λ c=>if c=i then v else x c) (w.setRow g (x z).cells):=by
 have y:∀j,j≠i->(B.setIfInBounds i true).getD j false=B.getD j false:=λ j r=>lr false (gr r)
 have b0:∀j,B.getD j false=true->j≠i:=by grind
 refine⟨λ j r d=> ?_,λ j r d b5 a4 c o=> ?_,λ a o b a8 T X a7 G H c b4 a5 a6 e1 e2=> ?_,λ q f u s d=> ?_⟩
 ·by_cases C:j=i
  ·grind
  ·rw[y j C] at d
   simp only[ar C]
   exact h.val j r d
 ·have C:j≠i:=by grind
  rw[y j C] at d
  obtain⟨E,F,A,K⟩:=h.a j r d b5 a4 c o
  refine⟨E,F,by grind,?_⟩
  by_cases I:j=p
  ·subst I
   rw[N] at o
   cases o
   have L:E=g:=yc (A.symm.trans S)
   subst L
   have:jJ lt (B.setIfInBounds i true) (λ c=>if c=i then v else x c) j J=(x z).cells:=by
    unfold jJ
    rw[a1]
    simp only[]
    rw[au (vn a9),ar (b0 z a2)]
   rw[this]
   exact ah.setRow K _
  ·rw[Ha b3 h.dep (λ f u s e=>I (a3 j f u s e))]
   exact K.cH _ (h.cE j r p b1 d a0 I (by rw[o];rfl) (by rw[N];rfl) c k0 E g A S)
 ·have L:a≠i:=λ e=>by rw[e,M] at G;cases G
  have R:b≠i:=λ e=>by rw[e,M] at H;cases H
  rw[y a L] at T
  rw[y b R] at X
  simp only[ar L] at e1
  simp only[ar R] at e2
  exact h.cE a o b a8 T X a7 G H c b4 a5 a6 e1 e2
 ·by_cases e:f=i
  ·subst e
   have b2:=a3 q f u s rfl
   subst b2
   rw[a1] at s
   cases s
   exact⟨sO a2,sO a0⟩
  ·rw[y f e] at d
   obtain⟨F,A⟩:=h.dep q f u s d
   exact⟨sO F,sO A⟩
structure wR(g0:Nat)(Pv:Nat->ab->Prop)(al:List (Nat×TypeId×Array ab×Option Nat))(lt:List (Nat×Nat×Nat))(j:Nat)(v:ab)(w:aa):Prop where
 val:Pv j v
 a:∀ty cs k,al.lookup j=some (ty,cs,k)->lt.lookup j=none->∃g,g0<=g/\v=bc k g/\ah w g ty cs
def dB.mk{q:aa}{r:Nat->ab->Prop}{al:List (Nat×TypeId×Array ab×Option Nat)}{lt:List (Nat×Nat×Nat)}(H:o.guard=none)(L:∀p c d,lt.lookup p=some (c,d)->c≠i)
 (h:∀(b:Act) (w:aa) (K:Act->aa->Prop),(∀k v,m.all (λ j=> !decide (bQ l j=some k))=true->a.tmps[k]?=some v->b.eval (.tmp k)=v)->
  (∀j k,(m.contains j&&waits o j&&decide (bQ l j=some k)&&decide (k<a.tmps.size))=true->∃v,b.eval (.tmp k)=v/\wR q.heap.size r al lt j v w)->BW q w->
  (∀v f,r i v->(∀e d k,al.lookup i=some (e,d,k)->∃g,w.heap.size<=g/\v=bc k g/\ah f g e d)->BW w f->K (b.put o.dst v) f)->Oper.wp P o b w K Q):
 ni P l Q (BT q) (LJ m q.heap.size r al lt) m a i o:=by
 intro b w K X T I N M G F p x E
 have S:Region.wanted o (yielded l.toArray b.tmps)=true:=by unfold Region.wanted;rw[H]
 rw[au S]
 refine h b w K (λ k v J D=>sI ((M k J).trans D)) (λ j k c=> ?_) p (λ v f R C z=>E v f (x.step I N L z R λ e d k y=> ?_) (fL p (dy z (ee p))))
 ·simp only[dL,ej] at c
  have A:j∈m:=by simpa using c.1.1.1
  have B:=G j c.1.1.2
  refine⟨T j,sI (F j k c.1.1.1 c.1.1.2 c.1.2 c.2),x.val j A B,λ e d k y C=> ?_⟩
  obtain⟨g,s,t,u⟩:=x.a j A B e d k y
  refine⟨g,s,t,?_⟩
  unfold jJ at u
  grind
 ·obtain⟨g,s,t,u⟩:=C e d k y
  have:=ee p
  exact⟨g,by omega,s,t,u⟩
def dB.call{g:aa}{m:Nat->ab->Prop}{al:List (Nat×TypeId×Array ab×Option Nat)}{lt:List (Nat×Nat×Nat)}{b:List Nat}{q:Act}{i:Nat}{o:Oper}{c:Call}(f:FuncId)(t:o.guard=none)(x:o.op= .call c)(r:c.callee= .value (.func f))
 (s:∀a d,(callFunc f a).run P d= .ok (.enter f a) d) (u:∀p e j,lt.lookup p=some (e,j)->e≠i) (y:al.lookup i=none)
 (h:∀(a:Act) (w:aa),(∀k v,b.all (λ j=> !decide (bQ l j=some k))=true->q.tmps[k]?=some v->a.eval (.tmp k)=v)->
  (∀j k,(b.contains j&&waits o j&&decide (bQ l j=some k)&&decide (k<q.tmps.size))=true->∃v,a.eval (.tmp k)=v/\wR g.heap.size m al lt j v w)->BW g w->
  Calls P f (c.args.map a.eval) w λ e d=>(∃v,e=ao v/\m i v)/\BW w d):
 ni P l Q (BT g) (LJ b g.heap.size m al lt) b q i o:=by
 refine dB.mk t u λ a w K j e d k=>tL x r rfl s ((h a w j e d).mono ?_)
 grind
def dB.value{c:aa}{d:Nat->ab->Prop}{al:List (Nat×TypeId×Array ab×Option Nat)}{lt:List (Nat×Nat×Nat)}{b:List Nat}{e:Act}{i:Nat}{o:Oper}(m:o.guard=none)(q:∀p f g,lt.lookup p=some (f,g)->f≠i)(u:al.lookup i=none)
 (h:∀(a:Act) (w:aa),(∀k v,b.all (λ j=> !decide (bQ l j=some k))=true->e.tmps[k]?=some v->a.eval (.tmp k)=v)->
  (∀j k,(b.contains j&&waits o j&&decide (bQ l j=some k)&&decide (k<e.tmps.size))=true->∃v,a.eval (.tmp k)=v/\wR c.heap.size d al lt j v w)->BW c w->
  ∃v,(execOp a.eval o).run P w= .ok (.value v) w/\d i v):
 ni P l Q (BT c) (LJ b c.heap.size d al lt) b e i o:=by
 refine dB.mk m q λ a w K p j g f=> ?_
 obtain⟨v,r,s⟩:=h a w p j g
 unfold Oper.wp
 rw[r,jC]
 exact f v w s (λ x t k k=>by grind) (bp _ _)
def dB.make{c:aa}{d:Nat->ab->Prop}{al:List (Nat×TypeId×Array ab×Option Nat)}{lt:List (Nat×Nat×Nat)}{e:Array ab}{k:Option Nat}(r:o.guard=none)(u:∀p b f,lt.lookup p=some (b,f)->b≠i)(s:al.lookup i=some (t,e,k))
 (h:∀(b:Act) (w:aa),(∀k v,m.all (λ j=> !decide (bQ l j=some k))=true->a.tmps[k]?=some v->b.eval (.tmp k)=v)->
  (∀j k,(m.contains j&&waits o j&&decide (bQ l j=some k)&&decide (k<a.tmps.size))=true->∃v,b.eval (.tmp k)=v/\wR c.heap.size d al lt j v w)->BW c w->
  (execOp b.eval o).run P w= .ok (.value (bc k w.heap.size)) (w.alloc (.cells e t))) (p:∀g,c.heap.size<=g->d i (bc k g)):
 ni P l Q (BT c) (LJ m c.heap.size d al lt) m a i o:=by
 refine dB.mk r u λ b w K v q f j=> ?_
 unfold Oper.wp
 rw[h b w v q f,jC]
 refine j _ _ (p _ (ee f)) (λ z x y g=> ?_) (bJ w _)
 rw[s] at g
 cases g
 exact⟨_,aQ _,rfl,ah.new _ _ _⟩
def dB.alloc{c:aa}{d:Nat->ab->Prop}{al:List (Nat×TypeId×Array ab×Option Nat)}{lt:List (Nat×Nat×Nat)}{f:List Nat}{h:Act}{i:Nat}{o:Oper}{b:TypeId}{e:Array ab}(k:o.guard=none)(r:o.op= .alloc b)(q:∀p a g,lt.lookup p=some (a,g)->a≠i)(m:al.lookup i=some (b,e,none))
 (s:∀w,(Instr.alloc b true (aM #[])).run P w= .ok (pV w.heap.size) (w.alloc (.cells e b))) (j:∀g,c.heap.size<=g->d i (bc none g)):
 ni P l Q (BT c) (LJ f c.heap.size d al lt) f h i o:=by
 refine dB.make k q m (λ a w _ _ _=> ?_) j
 unfold execOp
 simp only[r,cO,s,dd,dN,bc]
def yC{β:Type}{f:Nat×β->Bool}:∀{lt:List (Nat×β)},lt.all f=true->∀p y,lt.lookup p=some y->f (p,y)=true
 |[],_,p,y,h=>by cases h
 |(q,z)::t,a,p,y,h=>by
  rw[List.all_cons,dL] at a
  rw[List.lookup_cons] at h
  by_cases b:p=q
  ·grind
  ·have:(p==q)=false:=by simpa using b
   rw[this] at h
   exact yC a.2 p y h
def gl{lt:List (Nat×Nat×Nat)}(h:(lt.all λ x=> !decide (x.2.1=i))=true):∀p a b,lt.lookup p=some (a,b)->a≠i:=λ p a b c=>by
 have:=yC h p (a,b) c;grind
def dB.store{M:aa}{j:Nat->ab->Prop}{al:List (Nat×TypeId×Array ab×Option Nat)}{lt:List (Nat×Nat×Nat)}{f:List Nat}{k:Act}{i:Nat}{o:Oper}{h:TypeId}{c:Array ab}{d e:Tmp}(p b:Nat)(a9:o.guard=none)(b2:o.op= .store h (.tmp d) (.tmp e))(c3:o.dst=none)
 (A:(f.contains p&&f.contains b&&waits o p&&waits o b&&decide (bQ l p=some d)&&decide (bQ l b=some e)&&decide (d<k.tmps.size)&&decide (e<k.tmps.size)&&(lt.all λ x=> !decide (x.2.1=i)||decide (x.1=p)))=true)
 (E:lt.lookup p=some (i,b)) (a5:al.lookup i=none) (B:al.lookup p=some (h,c,none)) (a3:j i undef)
 (b4:∀v,j b v->∃r:Array ab,v=aG r/\(P.info? h).map (·.size)=some r.size/\c.size=r.size/\r.all (·.oneCell')=true):
 ni P l Q (BT M) (LJ f M.heap.size j al lt) f k i o:=by
 intro a w K c0 L b0 b6 c4 D C a4 m a2
 have b9:Region.wanted o (yielded l.toArray a.tmps)=true:=by unfold Region.wanted;rw[a9]
 rw[au b9]
 simp only[dL,ej] at A
 obtain⟨⟨⟨⟨⟨⟨⟨⟨s,t⟩,u⟩,x⟩,N⟩,R⟩,S⟩,b8⟩,T⟩:=A
 have F:p∈f:=by simpa using s
 have b7:b∈f:=by simpa using t
 have I:=D p u
 have J:=D b x
 obtain⟨g,a1,y,z⟩:=m.a p F I h c none B
 have a7:jJ lt c0 L p c=c:=by
  unfold jJ
  rw[E]
  simp only[]
  exact ar (by grind)
 rw[a7] at z
 obtain⟨r,G,b1,b5,a6⟩:=b4 _ (m.val b b7 J)
 have X:a.eval (.tmp d)=pV g:=(sI (C p d s u N S)).trans y
 have a0:a.eval (.tmp e)=aG r:=(sI (C b e t x R b8)).trans G
 have a8:(L b).cells=r:=by rw[G];rfl
 have H:=m.store (v:=undef) b0 b6 F I J E (λ q c1 c2 b3 v=>by
  have:=yC T q (c1,c2) b3
  rw[v] at this
  simpa using this) a5 B y a3
 rw[a8] at H
 refine wp_store_row h (.tmp d) (.tmp e) b2 g r X a0 h c z b1 b5 a6 ?_
 exact a2 undef _ H (bL a4 a1 r)
def nW(b:Nat->ab):List (Nat×Option Tmp)->Act->Act
 |[],a=>a
 |(i,some k)::t,a=>nW b t {a with tmps:=a.tmps.setIfInBounds k (b i)}
 |(i,none)::t,a=>nW b t a
def DQ(b:Nat->ab):∀(c:List (Nat×Option Tmp)) (a:Act),(∀p∈c,bQ l p.1=p.2)->pD l b (c.map (·.1)) a=nW b c a
 |[],a,_=>rfl
 |(i,k)::t,a,h=>by
  simp only[bZ,pD]
  rw[show bQ l i=k from h (i,k) zS]
  cases k with
  |none=>exact DQ b t _ λ p c=>h p (mQ c)
  |some k=>exact DQ b t _ λ p c=>h p (mQ c)
def vg(lt:List (Nat×Nat×Nat))(c:Nat->ab)(i:Nat)(a:Array ab):Array ab:=match lt.lookup i with
 |some (d,b)=>(c b).cells
 |none=>a
def ay.late{w0 wc:aa}(b:List (Nat×Option Tmp))(al:List (Nat×TypeId×Array ab×Option Nat))(lt:List (Nat×Nat×Nat))(r:Nat->ab->Prop)
 (v:(rr l n B (b.map (·.1))&&(b.all λ p=>decide (bQ l p.1=p.2))&&lt.all λ x=>decide (x.2.1<n)&& !B.getD x.2.1 true)=true) (F:Region.seqB .any l.toArray (l.length-n) n (List.replicate n true++List.replicate (l.length-n) false).toArray=true) (I:BW w0 wc)
 (N:uq l (ni P l Q (BT w0) (LJ (b.map (·.1)) w0.heap.size r al lt) (b.map (·.1)) a) (b.map (·.1)))
 (K:∀(c:Nat->ab) (w:aa),BW w0 w->(∀i∈b.map (·.1),r i (c i))->(∀i∈b.map (·.1),∀o e k,al.lookup i=some (o,e,k)->∃g,w0.heap.size<=g/\c i=bc k g/\ah w g o (vg lt c i e))->
  (∀i∈b.map (·.1),∀j∈b.map (·.1),i≠j->(al.lookup i).isSome=true->(al.lookup j).isSome=true->∀k f g d,c i=bc k g->c j=bc f d->g≠d)->wpList P l.toArray Q (l.drop n) (nW c b a) w):
 ay P l Q (BT w0) n b.length B a wc:=by
 simp only[dL] at v
 obtain⟨⟨y,G⟩,H⟩:=v
 have M:∀p∈b,bQ l p.1=p.2:=by
  rw[hl] at G
  exact λ p d=>by grind
 have z:=y
 unfold rr at z
 simp only[dL,ej] at z
 have m:∀i∈b.map (·.1),i<n/\B.getD i false=false:=by grind
 have T:∀p f q,lt.lookup p=some (f,q)->f<n/\B.getD f false=false:=λ p f q u=>by
  have:=yC H p (f,q) u
  grind
 have h:=ay.Cz (listed:=B) (w0:=wc) (b.map (·.1)) (BT w0) (LJ (b.map (·.1)) w0.heap.size r al lt) y F I (λ c=>⟨(λ i d t=>by grind),λ i d t=>(by grind),λ i d j s t=>(by grind),λ p f q u t=>(by grind)⟩) N.all (λ c w A C=>by
  obtain⟨R,f,p⟩:=C
  rw[DQ c b a M]
  refine K c w A (λ i d=>p.val i d (f i (m i d).1)) (λ i d o e k J=> ?_) (λ i d j s L D E=>p.cE i d j s (f i (m i d).1) (f j (m j s).1) L D E)
  obtain⟨g,q,t,S⟩:=p.a i d (f i (m i d).1) o e k J
  refine⟨g,q,t,?_⟩
  have:jJ lt R c i e=vg lt c i e:=by
   unfold jJ vg
   cases u:lt.lookup i with|none=>rfl|some x=>
    grind
  grind)
 rw[cC] at h
 exact h
end
end
section
open Go.Shelf
def Tryz.yv:Go.Shelf.Ren:=⟨λ|105=>98|212=>179|99=>180|165=>176|166=>177|170=>181|169=>178|263=>246|264=>115|206=>247|240=>244|241=>245|276=>284|277=>285|n=>n,λ|9=>9|3=>3|4=>4|20=>20|0=>0|46=>191|109=>248|5=>5|72=>243|76=>246|51=>95|146=>309|53=>46|148=>188|70=>241|37=>29|75=>245|127=>308|164=>347|80=>36|n=>n,λ|n=>n⟩
def Tryz.nM:Go.Proofs.Lays.n105 prog Tryz.yv:=⟨by kernel_rfl,dW func180,dW func98,dW func176,dW func177,dW func178,dW func181,dW func247,dW func179,dW func244,dW func245,dW func246,dW func115,dW func284,dW func285,underlying0,Tryz.isAgg0,Tryz.sizeOf0,Tryz.zeroValue0,Gk,Tryz.isAgg3,Tryz.sizeOf3,Gn,underlying4,Tryz.isAgg4,Tryz.sizeOf4,Tryz.zeroValue4,eJ,Tryz.isAgg5,Tryz.sizeOf5,Tryz.zeroValue5,df,Tryz.isAgg9,Tryz.sizeOf9,Gp,underlying20,Tryz.isAgg20,Tryz.sizeOf20,Tryz.zeroValue20,cP,Tryz.isAgg29,Tryz.sizeOf29,Tryz.zeroValue29,underlying191,Tryz.isAgg191,Tryz.sizeOf191,Tryz.zeroValue191,Gm,Tryz.isAgg95,Tryz.sizeOf95,Tryz.zeroValue95,oN,Bf,Bo,Bq,underlying241,Tryz.isAgg241,Tryz.sizeOf241,Tryz.zeroValue241,underlying243,Tryz.isAgg243,Tryz.sizeOf243,Tryz.zeroValue243,underlying245,Tryz.isAgg245,Tryz.sizeOf245,Tryz.zeroValue245,underlying246,Tryz.isAgg246,Tryz.sizeOf246,Tryz.zeroValue246,underlying248,Tryz.isAgg248,Tryz.sizeOf248,Tryz.zeroValue248,underlying308,Tryz.isAgg308,Tryz.sizeOf308,Tryz.zeroValue308,underlying309,Tryz.isAgg309,Tryz.sizeOf309,Tryz.zeroValue309,underlying188,Tryz.isAgg188,Tryz.sizeOf188,Tryz.zeroValue188,underlying347,Tryz.isAgg347,Tryz.sizeOf347,Tryz.zeroValue347⟩
def Ys:Builder.Extra prog Tryz.yv where
 sizeBuilder:=by kernel_rfl
 liesBuilder:=by kernel_rfl
 t5:=Tryz.nM.t5
 a5:=Tryz.nM.a5
 z5:=Tryz.nM.z5
 v5:=Tryz.nM.v5
 infoByte:=by kernel_rfl
 cellsByte:=by kernel_rfl
 sizeByte:=by kernel_rfl
 neB5:=by decide
def Yt:Tryz.yv.f 105=98:=by kernel_rfl
def Lr(s:af)(c:Nat)(w:aa)(a:c<=9223372036854775807)(b:s.size*c<=140737488355328):
 CB 98 #[ad s,O c] w (ad ⟨(Lib.repeatL s.data.toList c).toArray⟩):=by
 have h:=Any.strings_Repeat Tryz.nM Ys s c w a b
 rw[Yt] at h
 exact h
end
