import Derived.Ground.NamesProg
import Derived.JoinedOf
import Derived.KernelRfl
import Derived.Shelf.Lay
import Derived.Shelf.Strings.OnBuilder
import Derived.Shelf.Strings.Prefix
import Derived.Shelf.Strings.Repeat
import Derived.Test.YtncpbkoinennoaaGreatDoorMAA
set_option linter.all false
set_option maxRecDepth 100000
set_option maxHeartbeats 0
namespace Go.Proofs.YtncpbkoinennoaaGreatDoor
open Go.RowKit Proofs.Tryz
attribute [local irreducible] wpList Calls
variable{a:Act}{B:Array Bool}{m p:List Nat}{g i k:Nat}{o:Oper}
section
section
variable{P:Program}{Q:Exit->Act->aa->Prop}{T:aa->Prop}{E:aa->aa->Prop}{R:Nat->ab->aa->Prop}{n:Nat}{l:List Oper}
def cb(l:List Oper)(i:Nat):Option Tmp:=(l.toArray[i]?).bind (·.dst)
structure Fit(l:List Oper)(todo:List Nat)(a0:Act)(vs:Nat->ab)(listed:Array Bool)(a:Act):Prop where
 defers:a.defers=a0.defers
 size:a.tmps.size=a0.tmps.size
 U:∀k,(∀i∈todo,cb l i≠some k)->a.tmps[k]?=a0.tmps[k]?
 put:∀i∈todo,listed.getD i false=true->∀k,cb l i=some k->k<a0.tmps.size->a.tmps[k]?=some (vs i)
def qq(l:List Oper)(a:List Nat):Bool:=a.all λ i=>a.all λ j=>decide (i=j)||decide (cb l i=none)|| !decide (cb l i=cb l j)
def O6(h:qq l m=true)(a:i∈m)(b:g∈m)(c:i≠g){k:Tmp}(h1:cb l i=some k):cb l g≠some k:=by
 unfold qq at h;grind
def Jf(a:Act)(d:Option Tmp)(v:ab)(k:Nat):(a.put d v).tmps[k]?=if d=some k/\k<a.tmps.size then some v else a.tmps[k]?:=by
 cases d with
 |none=>rfl
 |some d=>
  simp only[Act.put,Array.getElem?_setIfInBounds];grind
def put_defers(a:Act)(d:Option Tmp)(v:ab):(a.put d v).defers=a.defers:=by cases d<;>rfl
def Ww(a:Act)(d:Option Tmp)(v:ab):(a.put d v).tmps.size=a.tmps.size:=by cases d<;>simp[Act.put]
def Fit.start{b:Nat->ab}(h:∀i∈m,B.getD i false=false):Fit l m a b B a:=
 ⟨rfl,rfl,λ _ _=>rfl,λ i c d=>by grind⟩
def tT(h:i<B.size):(B.setIfInBounds i true).getD i false=true:=by simp[h]
def Fit.next{e:Act}{o:Nat->ab}(h:Fit l m e o B a)(hd:qq l m=true)(f:i∈m)(v:ab):
 Fit l m e (λ j=>if j=i then v else o j) (B.setIfInBounds i true) (a.put (cb l i) v):=by
 refine⟨by rw[put_defers];exact h.defers,by rw[Ww];exact h.size,λ k b=> ?_,λ j g q k b p=> ?_⟩
 ·rw[Jf,aj (λ c=>b i f c.1)];exact h.U k b
 ·rw[Jf,h.size]
  by_cases d:j=i
  ·grind
  ·rw[aj (λ c=>O6 hd f g (dY d) c.1 b),aj d]
   exact h.put j g (by rwa[ll false (dY d)] at q) k b p
def Ml{b:Act}(h1:a.defers=b.defers)(h2:a.tmps=b.tmps):a=b:=by
 cases a;simp_all
def Fit.all{d b:Act}{p:Nat->ab}{o:Array Bool}(h:Fit l m d p B a)(g:Fit l m d p o b)(h1:∀i∈m,B.getD i false=true)(h2:∀i∈m,o.getD i false=true):a=b:=by
 refine Ml (h.defers.trans g.defers.symm) (Array.ext_getElem? λ k=> ?_);by_cases q:∃i∈m,cb l i=some k
 ·obtain⟨i,c,f⟩:=q;by_cases e:k<d.tmps.size
  ·rw[h.put i c (h1 i c) k f e,g.put i c (h2 i c) k f e]
  ·rw[yP (by rw[h.size];omega),yP (by rw[g.size];omega)]
 ·have j:∀i∈m,cb l i≠some k:=by grind
  rw[h.U k j,g.U k j]
def pe(l:List Oper)(b:Nat->ab):List Nat->Act->Act
 |[],a=>a
 |i::t,a=>pe l b t (a.put (cb l i) (b i))
def CN(b:Nat->ab):∀(t:List Nat) (d:List Nat) (g a:Act) (f:Array Bool),qq l d=true->(∀i∈t,i∈d/\i<f.size)->Fit l d g b f a->
 ∃c,Fit l d g b c (pe l b t a)/\(∀i,f.getD i false=true->c.getD i false=true)/\(∀i∈t,c.getD i false=true)
 |[],d,g,a,f,hd,m,h=>⟨f,h,λ _ h=>h,λ i c=>by cases c⟩
 |i::t,d,g,a,f,hd,m,h=>by
  have k:=h.next hd (m i zS).1 (b i)
  have e:(λ j=>if j=i then b i else b j)=b:=by
   funext j
   by_cases c:j=i
   ·grind
   ·simp[c]
  rw[e] at k
  obtain⟨L,k1,k2,k3⟩:=CN b t d g _ _ hd (λ j c=>by grind) k
  refine⟨L,k1,λ j c=>k2 j (si c),λ j c=> ?_⟩
  rcases bV.1 c with rfl|c
  ·simp_all
  grind
def waits(o:Oper)(j:Nat):Bool:=o.after.any λ e=>Region.binds .any e&&decide (e.on=j)
def DI(h:waits o g=true):∃e∈o.after,Region.binds .any e=true/\e.on=g:=by
 unfold waits at h;grind
def dD(P:Program)(l:List Oper)(Q:Exit->Act->aa->Prop)(T:aa->Prop)(E:aa->aa->Prop)(R:Nat->ab->aa->Prop)(al d:List Nat)(c:Act)(i:Nat)(o:Oper):Prop:=
 ∀(a:Act) (w:aa) (K:Act->aa->Prop),(∀k,d.all (λ j=> !decide (cb l j=some k))=true->a.tmps[k]?=c.tmps[k]?)->
  (∀j k,d.contains j=true->waits o j=true->cb l j=some k->k<c.tmps.size->∃v,a.tmps[k]?=some v/\R j v w)->T w->
  (∀v b,R i v b->E w b->T b->(i∈al->∀j u,j∈al->R j u w->u≠v)->K (a.put o.dst v) b)->if Region.wanted o (yielded l.toArray a.tmps)=true then Oper.wp P o a w K Q else K (a.put o.dst undef) w
def eX.inv{al c:List Nat}{a0:Act}(c7:Region.sinkB .any l.toArray n=true)(b7:Region.chainB .any l.toArray n=true)(c3:n<l.length)
 (hd:qq l c=true) (a7:∀i∈c,∀o,l.toArray[i]?=some o->∀e∈o.after,Region.binds .any e=true->e.on<i) (D:∀i∈c,i<n)
 (c2:∀i v w G,R i v w->E w G->R i v G) (c5:∀i∈c,∀o,l.toArray[i]?=some o->dD P l Q T E R al c a0 i o) {L:Array Bool->Act->aa->Prop}
 (b9:∀b a w p,HeadInv .any l.toArray n b->(∀i,i<n->b.getD i false=true)->Fit l c a0 p b a->T w->(∀i∈c,R i (p i) w)->(∀i∈c,∀j∈c,i∈al->j∈al->i≠j->p i≠p j)->L b a w):
 ∀(f:Nat) (b:Array Bool) (a:Act) (w:aa) (p:Nat->ab),HeadInv .any l.toArray n b->(∀i,i<n->b.getD i false=false->i∈c)->(c.filter λ i=> !b.getD i false).length=f->
  c.Nodup->Fit l c a0 p b a->T w->(∀i∈c,b.getD i false=true->R i (p i) w)->(∀i∈c,∀j∈c,b.getD i false=true->b.getD j false=true->i∈al->j∈al->i≠j->p i≠p j)->eX P .any l.toArray Q T n L f b a w:=by
 intro f
 induction f with
 |zero=>
  intro b a w p A B y a1 z I x H
  have h:∀i∈c,b.getD i false=true:=by
   intro i d
   have:=kC y
   rw[List.filter_eq_nil_iff] at this
   have:=this i d
   simpa using this
  exact b9 b a w p A (λ i d=>by
   grind) z I (λ i d=>x i d (h i d)) (λ i d j g=>H i d j g (h i d) (h j g))
 |succ f d2=>
  intro b a w p A B y a1 z I x H
  have a9:b.size=l.length:=by have:=A.size;simpa using this
  obtain⟨F,a5,b1⟩:∃i∈c,b.getD i false=false:=by
   have:(c.filter λ i=> !b.getD i false)≠[]:=by intro h;rw[h] at y;cases y
   simp_all
  have c0:=D F a5
  have c6:∃j,j∈Region.ready .any l.toArray b:=by
   have M:∀m i,i<=m->i∈c->b.getD i false=false->∃j,j∈Region.ready .any l.toArray b:=by
    intro m
    induction m with
    |zero=>
     intro i C d t
     have k:i<l.toArray.size:=by have:=D i d;simp;omega
     have q:i<b.size:=by rw[a9];simpa using k
     refine⟨i,lr.2 ⟨nz q t,l.toArray[i],lF k,λ e r s=> ?_⟩⟩
     have:=a7 i d _ (lF k) e r s
     omega
    |succ m K=>
     intro i C d t
     have k:i<l.toArray.size:=by have:=D i d;simp;omega
     by_cases u:∀e∈(l.toArray[i]).after,Region.binds .any e=true->b.getD e.on false=true
     ·exact⟨i,lr.2 ⟨nz (by rw[a9];simpa using k) t,l.toArray[i],lF k,u⟩⟩
     ·have:∃e∈(l.toArray[i]).after,Region.binds .any e=true/\b.getD e.on false=false:=by
       refine Classical.byContradiction λ J=>u λ e r s=> ?_
       cases q:b.getD e.on false with
       |true=>rfl
       |false=>exact absurd ⟨e,r,s,q⟩ J
      obtain⟨e,r,s,q⟩:=this
      have J:=a7 i d _ (lF k) e r s
      exact K e.on W (B e.on (by have:=D i d;omega) q) q
   exact M F F (aW _) a5 b1
  refine⟨λ h=>(by obtain⟨j,g⟩:=c6;rw[h] at g;cases g),λ i d=> ?_⟩
  have N:i<n:=vB λ h=>absurd d (Dg c7 b7 (by simpa using c3) A _ F rfl c0 (nz W b1) i h)
  refine⟨N,?_⟩
  obtain⟨c9,o,a2,b5⟩:=lr.1 d
  have b0:=getD_both c9
  have S:=B i N b0
  have b8:cb l i=o.dst:=by unfold cb;rw[a2];rfl
  refine yF a2 (λ b2 b4=> ?_)
  refine c5 i S o a2 a w b2 (λ k t=>z.U k (λ j g r=> ?_)) (λ j k g d1 t s=> ?_) I (λ v G d0 b3 a4 a3=>b4 _ _ ⟨a4,?_⟩)
  ·rw[gC] at t
   have:=t j g
   rw[r] at this
   simp at this
  ·have a6:j∈c:=by simpa using g
   obtain⟨e,r,b6,c4⟩:=DI d1
   have u:=b5 e r b6
   rw[c4] at u
   exact⟨p j,z.put j a6 u k t s,x j a6 u⟩
  ·have a8:=z.next hd S v
   rw[b8] at a8
   refine d2 _ _ _ (λ j=>if j=i then v else p j) (A.set d N) (λ j g q=> ?_) ?_ a1 a8 a4 (λ j g q=> ?_) (λ j g k t u C J K X=> ?_)
   ·by_cases m:i=j
    ·subst m;rw[tT W] at q;cases q
    ·rw[ll false m] at q;exact B j g q
   ·have c8:(c.filter λ j=> !(b.setIfInBounds i true).getD j false)=(c.filter λ j=> !b.getD j false).erase i:=by
     rw[LL (a1.filter _),List.filter_filter]
     refine List.filter_congr λ j g=> ?_
     by_cases m:i=j
     ·subst m;rw[tT W];simp
     ·rw[ll false m]
      have:(j !=i)=true:=by simpa using λ h=>m h.symm
      rw[this];simp
    rw[c8,List.length_erase_of_mem (by rw[List.mem_filter];exact⟨S,by simp[b0]⟩),y]
    rfl
   ·by_cases m:j=i
    ·subst m;simp only[ax];exact d0
    ·rw[ll false (dY m)] at q
     simp only[aj m]
     exact c2 j _ w G (x j g q) b3
   ·by_cases m:j=i
    ·subst m
     have c1:¬k=j:=λ h=>X h.symm
     rw[ll false X] at C
     simp only[aj c1,if_true]
     exact λ r=>a3 J k _ K (x k t C) r.symm
    ·rw[ll false (dY m)] at u
     by_cases M:k=i
     ·subst M
      simp only[aj m,if_true]
      exact a3 K j _ J (x j g u)
     ·rw[ll false (dY M)] at C
      simp only[aj m,aj M]
      exact H j g k t u C J K X
def qK(l:List Oper)(n:Nat)(b:Array Bool)(a:List Nat):Bool:=
 decide (a=(List.range n).filter λ i=> !b.getD i true)&&qq l a&&(a.all λ i=>((l.toArray[i]?).map λ o=>o.after.all λ e=> !Region.binds .any e||decide (e.on<i)).getD true)&&decide (b.size=l.length)
def HL(c:HeadInv .any l.toArray n B)(f:n<l.length)(h:∀i,i<n->B.getD i false=true):B=(List.replicate n true++List.replicate (l.length-n) false).toArray:=by
 have g:B.size=l.length:=by have:=c.size;simpa using this
 refine Array.ext_getElem? λ k=> ?_;by_cases d:k<n
 ·have b:=h k d;have a:k<B.size:=by omega
  rw[lF a];simp[a] at b;grind
 ·by_cases e:k<l.length
  ·have b:=c.tail k W W;have a:k<B.size:=by omega
   rw[lF a];simp[a] at b;grind
  grind
def az.inv{listed:Array Bool}{a0:Act}{w0:aa}(al b:List Nat)(T:aa->Prop)(E:aa->aa->Prop)(R:Nat->ab->aa->Prop)
 (g:qK l n listed b=true) (t:Region.seqB .any l.toArray (l.length-n) n (List.replicate n true++List.replicate (l.length-n) false).toArray=true)
 (C:∀i v w a,R i v w->E w a->R i v a) (x:T w0) (G:∀i∈b,∀o,l.toArray[i]?=some o->dD P l Q T E R al b a0 i o)
 (z:∀(d:Nat->ab) (w:aa),T w->(∀i∈b,R i (d i) w)->(∀i∈b,∀j∈b,i∈al->j∈al->i≠j->d i≠d j)->wpList P l.toArray Q (l.drop n) (pe l d b a0) w):
 az P l Q T n b.length listed a0 w0:=λ c a f s e=>by
 unfold qK at g
 simp only[cQ,dx] at g
 obtain⟨⟨⟨H,hd⟩,q⟩,M⟩:=g
 have r:∀i,i∈b↔i<n/\listed.getD i true=false:=by grind
 have k:∀i∈b,listed.getD i false=false:=by grind
 have D:b.Nodup:=by rw[H];exact List.nodup_range.filter _
 refine eX.inv (a0:=a0) c a s hd ?_ (λ i c=>((r i).1 c).1) C G ?_ b.length listed a0 w0 (λ _=>undef) e (λ i c h=>(r i).2 ⟨c,nz W h⟩) ?_ D (Fit.start k) x (λ i c h=>by grind) (λ i c j K h=>by grind)
 ·intro i c o F e p J
  rw[gC] at q
  have f:=q i c
  rw[F] at f
  simp only[vF,vE] at f
  rw[Array.all_eq_true'] at f
  grind
 ·intro N a w d I m A y v u
  have B:∀i∈b,i<n:=by grind
  obtain⟨L,k1,-,k3⟩:=CN (l:=l) d b b a0 a0 listed hd (λ i c=>⟨c,by grind⟩) (Fit.start k)
  have p:=A.all k1 (λ i c=>m i (B i c)) k3
  subst p
  refine⟨?_,z d w y v u⟩
  rw[HL I s m]
  exact t
 ·rw[List.filter_eq_self.2 (λ i c=>by simp[k i c])]
def az.dt{S:aa->Prop}{oi:Oper}{v:ab}{w:aa}(k:Tmp)(e:l.toArray[i]?=some oi)(j:oi.dst=some k)(f:i<n)
 (d:Region.free .any l.toArray B i=true) (m:(Region.ready .any l.toArray B).contains i=true)
 (b:∀c a w,Q (.panic c) (a.put oi.dst v) w->Q (.panic c) a w) (o:YieldsIf P l.toArray S oi v a) (c:S w)
 (h:az P l Q S n g (B.setIfInBounds i true) {a with tmps:=a.tmps.setIfInBounds k v} w):az P l Q S n (g+1) B a w:=
 az.take e f d m b o c (by rw[j];exact h)
def tq(l:List Oper)(F:Nat->Oper->Prop):List Nat->Prop
 |[]=>True
 |i::t=>(∀o,l.toArray[i]?=some o->F i o)/\tq l F t
def tq.all{F:Nat->Oper->Prop}:∀{t:List Nat},tq l F t->∀i∈t,∀o,l.toArray[i]?=some o->F i o
 |[],_,i,a=>by cases a
 |j::t,h,i,a=>by
  rcases bV.1 a with rfl|a
  ·exact h.1
  ·exact h.2.all i a
def sa{k:Tmp}{v:ab}(h:a.tmps[k]?=some v):a.eval (.tmp k)=v:=by simp[Act.eval,h]
def bk(k:Option Nat)(g:Nat):ab:=match k with
 |none=>pV g
 |some c=>ad (some ⟨g,0,none⟩) c c
def wR{a k':Option Nat}(h:bk a g=bk k' k):g=k:=by
 cases a<;>cases k'<;>simp[bk] at h
 ·exact h
 omega
def RA(d:Nat)(c:Nat->ab->Prop)(al:List (Nat×TypeId×Array ab×Option Nat))(i:Nat)(v:ab)(w:aa):Prop:=
 c i v/\∀b a k,(b,a,k)∈al.lookup i->∃g,d<=g/\v=bk k g/\ah w g b a
def RA.mono{a:Nat->ab->Prop}{al:List (Nat×TypeId×Array ab×Option Nat)}{v:ab}{w c:aa}(h:RA g a al i v w)(m:BW w c):RA g a al i v c:=
 ⟨h.1,λ p d k o=>by obtain⟨e,f,j,b⟩:=h.2 p d k o;exact⟨e,f,j,(dQ m _ (ah.lt b)).trans b⟩⟩
abbrev BT(a w:aa):Prop:=BW a w
abbrev BE(w a:aa):Prop:=BW w a
def dD.mk{c:aa}{f:Nat->ab->Prop}{al:List (Nat×TypeId×Array ab×Option Nat)}(z:o.guard=none)
 (h:∀(b:Act) (w:aa) (K:Act->aa->Prop),(∀k v,p.all (λ j=> !decide (cb l j=some k))=true->a.tmps[k]?=some v->b.eval (.tmp k)=v)->
  (∀j k,(p.contains j&&waits o j&&decide (cb l j=some k)&&decide (k<a.tmps.size))=true->∃v,b.eval (.tmp k)=v/\RA c.heap.size f al j v w)->BW c w->
  (∀v e,RA c.heap.size f al i v e->BW w e->(i∈m->∀j u,j∈m->RA c.heap.size f al j u w->u≠v)->K (b.put o.dst v) e)->Oper.wp P o b w K Q):
 dD P l Q (BT c) BE (RA c.heap.size f al) m p a i o:=by
 intro b w K B y g u
 have D:Region.wanted o (yielded l.toArray b.tmps)=true:=by unfold Region.wanted;rw[z]
 rw[ax D]
 refine h b w K (λ k v A r=>sa ((B k A).trans r)) (λ j k d=> ?_) g (λ v e C q x=>u v e C q (eH g (cP q (dA g))) x)
 simp only[cQ,dx] at d
 obtain⟨v,s,t⟩:=y j k d.1.1.1 d.1.1.2 d.1.2 d.2
 exact⟨v,sa s,t⟩
def sU{w:aa}{K:Act->aa->Prop}{c:Call}{f:FuncId}{vs:Array ab}(j:o.op= .call c)(g:c.callee= .value (.func f))(k:c.args.map a.eval=vs)
 (i:∀d b,(callFunc f d).run P b= .ok (.enter f d) b) (h:Calls P f vs w λ e b=>∃v,e=ao v/\K (a.put o.dst v) b):o.wp P a w K Q:=by
 have m:vs++ #[]=vs:=by rfl
 have:∃b,b=w/\(execOp a.eval o).run P w= .ok (.enter f vs) b:=⟨w,rfl,by
  unfold execOp resolve
  simp[j,g,k,Act.eval,Deferred.ofValue,invoke,i,m]⟩
 obtain⟨b,rfl,d⟩:=this
 unfold Oper.wp
 rw[d,Oper.upon_enter]
 refine h.mono ?_
 grind
def dD.call{d:aa}{g:Nat->ab->Prop}{al:List (Nat×TypeId×Array ab×Option Nat)}{q p:List Nat}{m:Act}{i:Nat}{o:Oper}{c:Call}(f:FuncId)(y:o.guard=none)(A:o.op= .call c)(t:c.callee= .value (.func f))
 (x:∀a b,(callFunc f a).run P b= .ok (.enter f a) b) (z:i∉q) (F:al.lookup i=none)
 (h:∀(a:Act) (w:aa),(∀k v,p.all (λ j=> !decide (cb l j=some k))=true->m.tmps[k]?=some v->a.eval (.tmp k)=v)->
  (∀j k,(p.contains j&&waits o j&&decide (cb l j=some k)&&decide (k<m.tmps.size))=true->∃v,a.eval (.tmp k)=v/\RA d.heap.size g al j v w)->BW d w->
  Calls P f (c.args.map a.eval) w λ e b=>(∃v,e=ao v/\g i v)/\BW w b):
 dD P l Q (BT d) BE (RA d.heap.size g al) q p m i o:=by
 refine dD.mk y λ a w K B u r j=>sU A t rfl x ((h a w B u r).mono ?_)
 rintro e b ⟨⟨v,rfl,C⟩,s⟩
 exact⟨v,rfl,j v b ⟨C,λ G D k k=>by grind⟩ s (λ h=>absurd h z)⟩
def dD.value{b:aa}{c:Nat->ab->Prop}{al:List (Nat×TypeId×Array ab×Option Nat)}{f e:List Nat}{d:Act}{i:Nat}{o:Oper}(p:o.guard=none)(q:i∉f)(x:al.lookup i=none)
 (h:∀(a:Act) (w:aa),(∀k v,e.all (λ j=> !decide (cb l j=some k))=true->d.tmps[k]?=some v->a.eval (.tmp k)=v)->
  (∀j k,(e.contains j&&waits o j&&decide (cb l j=some k)&&decide (k<d.tmps.size))=true->∃v,a.eval (.tmp k)=v/\RA b.heap.size c al j v w)->BW b w->
  ∃v,(execOp a.eval o).run P w= .ok (.value v) w/\c i v):
 dD P l Q (BT b) BE (RA b.heap.size c al) f e d i o:=by
 refine dD.mk p λ a w K r m j g=> ?_
 obtain⟨v,s,t⟩:=h a w r m j
 unfold Oper.wp
 rw[s,jV]
 exact g v w ⟨t,λ y u k k=>by grind⟩ (bz _ _) (λ h=>absurd h q)
def eval_const(a:Act)(v:ab):a.eval (.const v)=v:=rfl
def dD.build{b:aa}{c:Nat->ab->Prop}{al:List (Nat×TypeId×Array ab×Option Nat)}{f e:List Nat}{d:Act}{i:Nat}{o:Oper}{t:TypeId}{parts:Array (Nat×Operand)}(p:o.guard=none)(s:o.op= .build t parts)(q:i∉f)(r:al.lookup i=none)
 (h:∀(a:Act) (w:aa),(∀k v,e.all (λ j=> !decide (cb l j=some k))=true->d.tmps[k]?=some v->a.eval (.tmp k)=v)->
  (∀j k,(e.contains j&&waits o j&&decide (cb l j=some k)&&decide (k<d.tmps.size))=true->∃v,a.eval (.tmp k)=v/\RA b.heap.size c al j v w)->BW b w->
  ∃cells,P.built t (parts.toList.map λ(i,x)=>(i,a.eval x))=some cells/\c i (aG cells)):
 dD P l Q (BT b) BE (RA b.heap.size c al) f e d i o:=by
 refine dD.value p q r λ a w u m g=> ?_
 obtain⟨cells,j,v⟩:=h a w u m g
 refine⟨_,?_,v⟩
 have k:P.built t (parts.map λ(i,x)=>(i,a.eval x)).toList=some cells:=by rw[yS];exact j
 unfold execOp
 simp only[s,cL,run_build w t _ cells k,cZ]
 rfl
def dD.alloc{c:aa}{d:Nat->ab->Prop}{al:List (Nat×TypeId×Array ab×Option Nat)}{e G:List Nat}{m:Act}{i:Nat}{o:Oper}{b:TypeId}{f:Array ab}(y:o.guard=none)(B:o.op= .alloc b)(A:al.lookup i=some (b,f,none))(D:∀j∈e,(al.lookup j).isSome=true)
 (C:∀w,(Instr.alloc b true (aJ #[])).run P w= .ok (pV w.heap.size) (w.alloc (.cells f b))) (t:∀g,c.heap.size<=g->d i (pV g)):
 dD P l Q (BT c) BE (RA c.heap.size d al) e G m i o:=by
 refine dD.mk y λ a w K M J h s=> ?_
 unfold Oper.wp execOp
 simp only[B,cL,C,cZ,dw,jV]
 refine s _ _ ⟨t _ (dA h),λ S H F k=> ?_⟩ (bJ w _) (λ L j u z v=> ?_)
 ·rw[A] at k
  cases k
  exact⟨_,dA h,rfl,ah.new _ _ _⟩
 ·have:=D j z
  cases N:al.lookup j with
  |none=>grind
  |some x=>
   obtain⟨g,-,p,q⟩:=v.2 x.1 x.2.1 x.2.2 (by grind)
   rw[p]
   intro r
   have I:g=w.heap.size:=wR (k':=none) r
   have:=ah.lt q
   omega
def kp(b:Nat->ab):List (Nat×Tmp)->Act->Act
 |[],a=>a
 |(i,k)::t,a=>kp b t {a with tmps:=a.tmps.setIfInBounds k (b i)}
def Jb(c:Nat->ab):∀(b:List (Nat×Tmp)) (a:Act),(∀p∈b,cb l p.1=some p.2)->pe l c (b.map (·.1)) a=kp c b a
 |[],a,_=>rfl
 |(i,k)::t,a,h=>by
  simp only[cw,pe,kp]
  rw[show cb l i=some k from h (i,k) zS]
  exact Jb c t _ λ p b=>h p (tj _ b)
def az.free{w0 wc:aa}(b:List (Nat×Tmp))(al:List (Nat×TypeId×Array ab×Option Nat))(d:Nat->ab->Prop)
 (e:(qK l n B (b.map (·.1))&&b.all λ p=>decide (cb l p.1=some p.2))=true) (k:Region.seqB .any l.toArray (l.length-n) n (List.replicate n true++List.replicate (l.length-n) false).toArray=true) (m:BW w0 wc)
 (p:tq l (dD P l Q (BT w0) BE (RA w0.heap.size d al) (al.map (·.1)) (b.map (·.1)) a) (b.map (·.1)))
 (o:∀(c:Nat->ab) (w:aa),BW w0 w->(∀i∈b.map (·.1),RA w0.heap.size d al i (c i) w)->(∀i∈b.map (·.1),∀j∈b.map (·.1),i∈al.map (·.1)->j∈al.map (·.1)->i≠j->c i≠c j)->wpList P l.toArray Q (l.drop n) (kp c b a) w):
 az P l Q (BT w0) n b.length B a wc:=by
 simp only[cQ,gC,dx] at e
 have h:=az.inv (listed:=B) (w0:=wc) (al.map (·.1)) (b.map (·.1)) (BT w0) BE (RA w0.heap.size d al) e.1 k (λ i v w q h j=>h.mono j) m p.all (λ c w f g i=>by
  rw[Jb c b a e.2]
  exact o c w f g i)
 rw[cR] at h
 exact h
end
end
section
variable{Q:Exit->Act->aa->Prop}{l:List Oper}{n f:Nat}{S:aa->Prop}{L L':List Bool}{M M':List ab}{d:List Deferred}{w:aa}{oi:Oper}{v:ab}
def V2(i:Nat)(k:Tmp)(g:S w)(h:az prog l Q S n f L'.toArray ⟨M'.toArray,d⟩ w)
 (m:l.toArray[i]?=some oi:=by exact rfl) (hd:oi.dst=some k:=by exact rfl)
 (j:YieldsIf prog l.toArray S oi v ⟨M.toArray,d⟩:=by exact Or.inl ⟨by kernel_rfl,by intro p o;go_simp;try(with_reducible rfl)⟩)
 (b:L.set i true=L':=by first|(simp only[au,ay];exact rfl)|(simp only[gF,jh,au,ay];exact rfl)|exact rfl) (e:M.set k v=M':=by first|(simp only[au,ay,bC,bU,dc,cO];exact rfl)|exact rfl)
 (h1:i<n:=by decide) (h2:Region.free Region.Mode.any l.toArray L.toArray i=true:=by kernel_rfl) (h3:(Region.ready Region.Mode.any l.toArray L.toArray).contains i=true:=by kernel_rfl)
 (h4:∀(c:List PanicEntry) (a:Act) (w:aa),Q (Exit.panic c) (a.put oi.dst v) w->Q (Exit.panic c) a w:=by exact λ _ _ _ h=>h):
 az prog l Q S n (f+1) L.toArray ⟨M.toArray,d⟩ w:=
 az.dt k m hd h1 h2 h3 h4 j g (by subst b;subst e;simpa only[aH] using h)
def W2(i:Nat)(k:Tmp)(m:l.toArray[i]?=some oi)(hd:oi.dst=some k)(j:YieldsIf prog l.toArray S oi v ⟨M.toArray,d⟩)(g:S w)(h:az prog l Q S n f L'.toArray ⟨M'.toArray,d⟩ w)
 (b:L.set i true=L':=by first|(simp only[au,ay];exact rfl)|(simp only[gF,jh,au,ay];exact rfl)|exact rfl) (e:M.set k v=M':=by first|(simp only[au,ay,bC,bU,dc,cO];exact rfl)|exact rfl)
 (h1:i<n:=by decide) (h2:Region.free Region.Mode.any l.toArray L.toArray i=true:=by kernel_rfl) (h3:(Region.ready Region.Mode.any l.toArray L.toArray).contains i=true:=by kernel_rfl)
 (h4:∀(c:List PanicEntry) (a:Act) (w:aa),Q (Exit.panic c) (a.put oi.dst v) w->Q (Exit.panic c) a w:=by exact λ _ _ _ h=>h):
 az prog l Q S n (f+1) L.toArray ⟨M.toArray,d⟩ w:=
 az.dt k m hd h1 h2 h3 h4 j g (by subst b;subst e;simpa only[aH] using h)
def U2(i:Nat)(k:Tmp)(g:S w)(h:az prog l Q S n f L'.toArray ⟨M'.toArray,d⟩ w)
 (m:l.toArray[i]?=some oi:=by exact rfl) (hd:oi.dst=some k:=by exact rfl)
 (j:YieldsIf prog l.toArray S oi undef ⟨M.toArray,d⟩:=by exact Or.inr ⟨by kernel_rfl,rfl⟩)
 (b:L.set i true=L':=by first|(simp only[au,ay];exact rfl)|(simp only[gF,jh,au,ay];exact rfl)|exact rfl) (e:M.set k undef=M':=by first|(simp only[au,ay,bC,bU,dc,cO];exact rfl)|exact rfl)
 (h1:i<n:=by decide) (h2:Region.free Region.Mode.any l.toArray L.toArray i=true:=by kernel_rfl) (h3:(Region.ready Region.Mode.any l.toArray L.toArray).contains i=true:=by kernel_rfl)
 (h4:∀(c:List PanicEntry) (a:Act) (w:aa),Q (Exit.panic c) (a.put oi.dst undef) w->Q (Exit.panic c) a w:=by exact λ _ _ _ h=>h):
 az prog l Q S n (f+1) L.toArray ⟨M.toArray,d⟩ w:=
 az.dt k m hd h1 h2 h3 h4 j g (by subst b;subst e;simpa only[aH] using h)
end
section
variable{Q:Exit->Act->aa->Prop}{l:List Oper}{n f:Nat}{S:aa->Prop}{L L':List Bool}{M M':List ab}{d:List Deferred}{w:aa}{oi:Oper}{v:ab}
def Take(_:List Nat)(p:Prop):Prop:=p
def Take.nil{p:Prop}(h:p):Take [] p:=h
def Take.va(k:Tmp)(g:S w)(h:Take m (az prog l Q S n f L'.toArray ⟨M'.toArray,d⟩ w))
 (o:l.toArray[i]?=some oi:=by exact rfl) (hd:oi.dst=some k:=by exact rfl)
 (j:YieldsIf prog l.toArray S oi v ⟨M.toArray,d⟩:=by exact Or.inl ⟨by kernel_rfl,by intro q p;go_simp;try(with_reducible rfl)⟩)
 (b:L.set i true=L':=by first|(simp only[au,ay];exact rfl)|(simp only[gF,jh,au,ay];exact rfl)|exact rfl) (e:M.set k v=M':=by first|(simp only[au,ay,bC,bU,dc,cO];exact rfl)|exact rfl)
 (h1:i<n:=by decide) (h2:Region.free Region.Mode.any l.toArray L.toArray i=true:=by kernel_rfl) (h3:(Region.ready Region.Mode.any l.toArray L.toArray).contains i=true:=by kernel_rfl)
 (h4:∀(c:List PanicEntry) (a:Act) (w:aa),Q (Exit.panic c) (a.put oi.dst v) w->Q (Exit.panic c) a w:=by exact λ _ _ _ h=>h):
 Take (i::m) (az prog l Q S n (f+1) L.toArray ⟨M.toArray,d⟩ w):=V2 i k g h o hd j b e h1 h2 h3 h4
def Take.un(k:Tmp)(g:S w)(h:Take m (az prog l Q S n f L'.toArray ⟨M'.toArray,d⟩ w))
 (o:l.toArray[i]?=some oi:=by exact rfl) (p:oi.guard.isSome=true:=by exact rfl) (hd:oi.dst=some k:=by exact rfl)
 (j:Region.wanted oi (yielded l.toArray M.toArray)=false:=by exact rfl)
 (b:L.set i true=L':=by first|(simp only[au,ay];exact rfl)|(simp only[gF,jh,au,ay];exact rfl)|exact rfl) (e:M.set k undef=M':=by first|(simp only[au,ay,bC,bU,dc,cO];exact rfl)|exact rfl)
 (h1:i<n:=by decide) (h2:Region.free Region.Mode.any l.toArray L.toArray i=true:=by kernel_rfl) (h3:(Region.ready Region.Mode.any l.toArray L.toArray).contains i=true:=by kernel_rfl)
 (h4:∀(c:List PanicEntry) (a:Act) (w:aa),Q (Exit.panic c) (a.put oi.dst undef) w->Q (Exit.panic c) a w:=by exact λ _ _ _ h=>h):
 Take ((i+1000)::m) (az prog l Q S n (f+1) L.toArray ⟨M.toArray,d⟩ w):=U2 i k g h o hd (Or.inr ⟨j,rfl⟩) b e h1 h2 h3 h4
def VW(i:List Nat)(b:S w)(h:az prog l Q S n g L'.toArray ⟨M'.toArray,d⟩ w)
 (e:S w->az prog l Q S n g L'.toArray ⟨M'.toArray,d⟩ w->Take i (az prog l Q S n f L.toArray ⟨M.toArray,d⟩ w):=by
  intro a c
  repeat first|refine Take.un _ a ?_|refine Take.va _ a ?_
  exact Take.nil c):az prog l Q S n f L.toArray ⟨M.toArray,d⟩ w:=e b h
end
variable{t:TypeId}
section
variable{l:List Oper}{Q:Exit->Act->aa->Prop}{w0:aa}{Pv:Nat->ab->Prop}{al:List (Nat×TypeId×Array ab×Option Nat)}{rL todo:List Nat}{a0:Act}{i:Nat}{o0:Oper}{c:Call}{f:FuncId}{vs:List ab}
def wJ(a:Act):Operand->Option ab
 | .tmp k=>a.tmps.toList[k]?
 | .const v=>some v
 |_=>none
def Ri(l:List Oper)(todo:List Nat)(c:Call):Bool:=c.args.toList.all λ x=>match x with
 | .tmp k=>todo.all λ j=> !decide (cb l j=some k)
 | .const _=>true
 |_=>false
def K9{a:Act}:∀(b:List Operand) (vs:List ab),b.mapM (wJ a0)=some vs->(b.all λ x=>match x with| .tmp k=>todo.all λ j=> !decide (cb l j=some k)| .const _=>true|_=>false)=true->
 (∀k v,todo.all (λ j=> !decide (cb l j=some k))=true->a0.tmps[k]?=some v->a.eval (.tmp k)=v)->b.map a.eval=vs
 |[],vs,h,_,_=>by simp at h;simp[h]
 |x::b,vs,h,d,j=>by
  rw[zq] at h
  rw[te,cQ] at d
  cases hx:wJ a0 x with
  |none=>rw[hx] at h;cases h
  |some u=>
   rw[hx] at h
   cases e:b.mapM (wJ a0) with
   |none=>rw[e] at h;cases h
   |some m=>
    rw[e] at h
    have n:u::m=vs:=by simpa using h
    rw[<-n,cw,K9 b m e d.2 j]
    congr 1
    cases x with
    |tmp k=>
     refine j k u d.1 ?_
     have o:a0.tmps.toList[k]?=some u:=hx
     simpa using o
    |const v=>exact hK hx
    |global g=>cases hx
    |func f=>cases hx
def OC(g:∀a,Calls prog f vs.toArray a λ e b=>(∃v,e=ao v/\Pv i v)/\BW a b)(m:l.toArray[i]?=some o0:=by exact rfl)(k:o0.guard=none:=by exact rfl)(p:o0.op= .call c:=by exact rfl)(e:c.callee= .value (.func f):=by exact rfl)
 (j:wE f=true:=by kernel_rfl) (q:i∉rL:=by decide) (n:al.lookup i=none:=by exact rfl) (r:c.args.toList.mapM (wJ a0)=some vs:=by exact rfl) (d:Ri l todo c=true:=by kernel_rfl):
 ∀o,l.toArray[i]?=some o->dD prog l Q (BT w0) BE (RA w0.heap.size Pv al) rL todo a0 i o:=λ o h=>by
 rw[m] at h
 injection h with h
 subst h
 refine dD.call f k p e (en f j) q n (λ a w o _ _=> ?_)
 have b:c.args.map a.eval=vs.toArray:=by
  apply kx
  rw[yS]
  exact K9 _ _ r d o
 rw[b]
 exact g w
def OA{a:Array ab}(n:∀w,(Instr.alloc t true (aJ #[])).run prog w= .ok (pV w.heap.size) (w.alloc (.cells a t)))(e:l.toArray[i]?=some o0:=by exact rfl)(b:o0.guard=none:=by exact rfl)(m:o0.op= .alloc t:=by exact rfl)(k:al.lookup i=some (t,a,none):=by exact rfl)
 (p:∀j∈rL,(al.lookup j).isSome=true:=by decide) (d:∀g,w0.heap.size<=g->Pv i (pV g):=by exact λ g b=>trivial):
 ∀o,l.toArray[i]?=some o->dD prog l Q (BT w0) BE (RA w0.heap.size Pv al) rL todo a0 i o:=λ o h=>by
 rw[e] at h
 injection h with h
 subst h
 exact dD.alloc b m k p n d
def EB(j1 j2:Nat){k1 k2:Nat}{t1 t2:TypeId}(d:∀u v a,Pv j1 u->Pv j2 v->Calls prog f #[u,v] a λ e b=>(∃v,e=ao v/\Pv i v)/\BW a b)(j:l.toArray[i]?=some o0:=by exact rfl)(g:o0.guard=none:=by exact rfl)(m:o0.op= .call {callee:= .value (.func f),args:=#[.tmp k1,.tmp k2],argTypes:=#[t1,t2]}:=by exact rfl)
 (e:wE f=true:=by kernel_rfl) (n:i∉rL:=by decide) (k:al.lookup i=none:=by exact rfl) (h1:(todo.contains j1&&waits o0 j1&&decide (cb l j1=some k1)&&decide (k1<a0.tmps.size))=true:=by kernel_rfl) (h2:(todo.contains j2&&waits o0 j2&&decide (cb l j2=some k2)&&decide (k2<a0.tmps.size))=true:=by kernel_rfl):
 ∀o,l.toArray[i]?=some o->dD prog l Q (BT w0) BE (RA w0.heap.size Pv al) rL todo a0 i o:=λ o h=>by
 rw[j] at h
 injection h with h
 subst h
 refine dD.call f g m rfl (en f e) n k (λ a w _ b _=> ?_)
 obtain⟨u,e1,o⟩:=b j1 k1 h1
 obtain⟨v,e2,p⟩:=b j2 k2 h2
 simp only[jf,cw,ek,e1,e2]
 exact d u v w o.1 p.1
def kI{id:Nat}{w:aa}(n:Nat)(h:BW w w.drew->az prog l Q (λ e=>BW w e) n n (Array.replicate l.length false) a w.drew)
 (d:prog.follows .mixedOrders=true:=by kernel_rfl) (b:(Region.noSelect l.toArray&&decide (n<l.length)&&Region.sinkB .any l.toArray n&&Region.chainB .any l.toArray n)=true:=by kernel_rfl):(Code.region id l.toArray true).wp prog Q a w:=
 iE n _ d b (gp (bz _ _) 1) h
end
section
section
variable{P:Program}{Q:Exit->Act->aa->Prop}{T:aa->Prop}{n:Nat}{l:List Oper}
def mY(P:Program)(l:List Oper)(Q:Exit->Act->aa->Prop)(T:aa->Prop)(J:Array Bool->(Nat->ab)->aa->Prop)(f:List Nat)(e:Act)(i:Nat)(o:Oper):Prop:=
 ∀(a:Act) (w:aa) (K:Act->aa->Prop) (b:Array Bool) (c:Nat->ab),i<b.size->b.getD i false=false->(∀k,f.all (λ j=> !decide (cb l j=some k))=true->a.tmps[k]?=e.tmps[k]?)->
  (∀j,waits o j=true->b.getD j false=true)->(∀j k,f.contains j=true->waits o j=true->cb l j=some k->k<e.tmps.size->a.tmps[k]?=some (c j))->T w->J b c w->
  (∀v d,J (b.setIfInBounds i true) (λ j=>if j=i then v else c j) d->T d->K (a.put o.dst v) d)->if Region.wanted o (yielded l.toArray a.tmps)=true then Oper.wp P o a w K Q else K (a.put o.dst undef) w
def eX.BP{J:Array Bool->(Nat->ab)->aa->Prop}{a0:Act}(b3:Region.sinkB .any l.toArray n=true)(a7:Region.chainB .any l.toArray n=true)(b9:n<l.length)
 (hd:qq l m=true) (b8:∀i∈m,∀o,l.toArray[i]?=some o->∀e∈o.after,Region.binds .any e=true->e.on<i) (K:∀i∈m,i<n)
 (b2:∀i∈m,∀o,l.toArray[i]?=some o->mY P l Q T J m a0 i o) {L:Array Bool->Act->aa->Prop}
 (a9:∀b a w d,HeadInv .any l.toArray n b->(∀i,i<n->b.getD i false=true)->Fit l m a0 d b a->T w->J b d w->L b a w):
 ∀(f:Nat) (b:Array Bool) (a:Act) (w:aa) (d:Nat->ab),HeadInv .any l.toArray n b->(∀i,i<n->b.getD i false=false->i∈m)->(m.filter λ i=> !b.getD i false).length=f->
  m.Nodup->Fit l m a0 d b a->T w->J b d w->eX P .any l.toArray Q T n L f b a w:=by
 intro f
 induction f with
 |zero=>
  intro b a w d t C r G s B A
  have g:∀i∈m,b.getD i false=true:=by
   intro i c
   have:=kC r
   rw[List.filter_eq_nil_iff] at this
   have:=this i c
   simpa using this
  exact a9 b a w d t (λ i c=>by
   grind) s B A
 |succ f b7=>
  intro b a w d t C r G s B A
  have b5:b.size=l.length:=by have:=t.size;simpa using this
  obtain⟨z,a1,a3⟩:∃i∈m,b.getD i false=false:=by
   have:(m.filter λ i=> !b.getD i false)≠[]:=by intro h;rw[h] at r;cases r
   simp_all
  have b0:=K z a1
  have c0:∃j,j∈Region.ready .any l.toArray b:=by
   have x:∀p i,i<=p->i∈m->b.getD i false=false->∃j,j∈Region.ready .any l.toArray b:=by
    intro p
    induction p with
    |zero=>
     intro i v c q
     have k:i<l.toArray.size:=by have:=K i c;simp;omega
     have u:i<b.size:=by rw[b5];simpa using k
     refine⟨i,lr.2 ⟨nz u q,l.toArray[i],lF k,λ e g X=> ?_⟩⟩
     grind
    |succ p y=>
     intro i v c q
     have k:i<l.toArray.size:=by have:=K i c;simp;omega
     by_cases u:∀e∈(l.toArray[i]).after,Region.binds .any e=true->b.getD e.on false=true
     ·exact⟨i,lr.2 ⟨nz (by grind) q,l.toArray[i],lF k,u⟩⟩
     grind
   exact x z z (aW _) a1 a3
  refine⟨λ h=>(by grind),λ i c=> ?_⟩
  have E:i<n:=vB λ h=>absurd c (Dg b3 a7 W t _ z rfl b0 (nz W a3) i h)
  refine⟨E,?_⟩
  obtain⟨b6,o,H,S⟩:=lr.1 c
  have M:=getD_both b6
  have F:=C i E M
  have a8:cb l i=o.dst:=by unfold cb;rw[H];rfl
  refine yF H (λ a4 a6=> ?_)
  refine b2 i F o H a w a4 b d W M (λ k u=>s.U k (λ j q g=> ?_)) (λ j N=> ?_) (λ j k q N u X=> ?_) B A (λ v c1 a5 R=>a6 _ _ ⟨R,?_⟩)
  ·rw[gC] at u
   have:=u j q
   rw[g] at this
   simp at this
  ·obtain⟨e,g,D,I⟩:=DI N
   have y:=S e g D
   rwa[I] at y
  ·have b1:j∈m:=by simpa using q
   obtain⟨e,g,D,I⟩:=DI N
   have y:=S e g D
   rw[I] at y
   exact s.put j b1 y k u X
  ·have a2:=s.next hd F v
   rw[a8] at a2
   refine b7 _ _ _ (λ j=>if j=i then v else d j) (t.set c E) (λ j q x=> ?_) ?_ G a2 R a5
   ·by_cases p:i=j
    ·subst p;rw[tT W] at x;cases x
    ·rw[ll false p] at x;exact C j q x
   ·have b4:(m.filter λ j=> !(b.setIfInBounds i true).getD j false)=(m.filter λ j=> !b.getD j false).erase i:=by
     rw[LL (G.filter _),List.filter_filter]
     refine List.filter_congr λ j q=> ?_
     by_cases p:i=j
     ·subst p;rw[tT W];simp
     ·rw[ll false p]
      have:(j !=i)=true:=by simpa using λ h=>p h.symm
      rw[this];simp
    rw[b4,List.length_erase_of_mem (by rw[List.mem_filter];exact⟨F,by simp[M]⟩),r]
    rfl
def az.BP{listed:Array Bool}{a0:Act}{w0:aa}(b:List Nat)(T:aa->Prop)(J:Array Bool->(Nat->ab)->aa->Prop)
 (h:qK l n listed b=true) (s:Region.seqB .any l.toArray (l.length-n) n (List.replicate n true++List.replicate (l.length-n) false).toArray=true)
 (v:T w0) (t:∀d,J listed d w0) (E:∀i∈b,∀o,l.toArray[i]?=some o->mY P l Q T J b a0 i o)
 (y:∀(d:Nat->ab) (w:aa),T w->(∃f:Array Bool,(∀i,i<n->f.getD i false=true)/\J f d w)->wpList P l.toArray Q (l.drop n) (pe l d b a0) w):
 az P l Q T n b.length listed a0 w0:=λ c a g r e=>by
 unfold qK at h
 simp only[cQ,dx] at h
 obtain⟨⟨⟨F,hd⟩,p⟩,I⟩:=h
 have q:∀i,i∈b↔i<n/\listed.getD i true=false:=by grind
 have k:∀i∈b,listed.getD i false=false:=by grind
 have C:b.Nodup:=by rw[F];exact List.nodup_range.filter _
 refine eX.BP (a0:=a0) c a r hd ?_ (λ i c=>((q i).1 c).1) E ?_ b.length listed a0 w0 (λ _=>undef) e (λ i c B=>(q i).2 ⟨c,nz W B⟩) ?_ C (Fit.start k) v (t _)
 ·intro i c o D e m H
  rw[gC] at p
  have g:=p i c
  rw[D] at g
  simp only[vF,vE] at g
  rw[Array.all_eq_true'] at g
  grind
 ·intro f a w d G j z x u
  have A:∀i∈b,i<n:=by grind
  obtain⟨L,k1,-,k3⟩:=CN (l:=l) d b b a0 a0 listed hd (λ i c=>⟨c,by grind⟩) (Fit.start k)
  have m:=z.all k1 (λ i c=>j i (A i c)) k3
  subst m
  refine⟨?_,y d w x ⟨f,j,u⟩⟩
  rw[HL G r j]
  exact s
 ·rw[List.filter_eq_self.2 (λ i c=>by simp[k i c])]
end
end
section
open Go.Shelf
def Tryz.xe:Go.Shelf.Ren:=⟨λ|105=>98|212=>179|99=>180|165=>176|166=>177|170=>181|169=>178|263=>246|264=>115|206=>247|240=>244|241=>245|276=>284|277=>285|n=>n,λ|9=>9|3=>3|4=>4|20=>20|0=>0|46=>191|109=>248|5=>5|72=>243|76=>246|51=>95|146=>309|53=>46|148=>188|70=>241|37=>29|75=>245|127=>308|164=>347|80=>36|n=>n,λ|n=>n⟩
def Tryz.nE:Go.Proofs.Lays.n105 prog Tryz.xe:=⟨by kernel_rfl,dH func180,dH func98,dH func176,dH func177,dH func178,dH func181,dH func247,dH func179,dH func244,dH func245,dH func246,dH func115,dH func284,dH func285,underlying0,Tryz.isAgg0,Tryz.sizeOf0,Tryz.zeroValue0,oB,Ad,Ay,AD,EM,Tryz.isAgg4,Tryz.sizeOf4,EO,gi,Tryz.isAgg5,Tryz.sizeOf5,Tryz.zeroValue5,dO,Af,AA,AF,underlying20,Tryz.isAgg20,Tryz.sizeOf20,Tryz.zeroValue20,dZ,Tryz.isAgg29,Tryz.sizeOf29,Tryz.zeroValue29,underlying191,Tryz.isAgg191,Tryz.sizeOf191,Tryz.zeroValue191,EN,Tryz.isAgg95,Tryz.sizeOf95,Tryz.zeroValue95,nn,Ae,Az,AE,underlying241,Tryz.isAgg241,Tryz.sizeOf241,Tryz.zeroValue241,underlying243,Tryz.isAgg243,Tryz.sizeOf243,Tryz.zeroValue243,underlying245,Tryz.isAgg245,Tryz.sizeOf245,Tryz.zeroValue245,underlying246,Tryz.isAgg246,Tryz.sizeOf246,Tryz.zeroValue246,underlying248,Tryz.isAgg248,Tryz.sizeOf248,Tryz.zeroValue248,underlying308,Tryz.isAgg308,Tryz.sizeOf308,Tryz.zeroValue308,underlying309,Tryz.isAgg309,Tryz.sizeOf309,Tryz.zeroValue309,underlying188,Tryz.isAgg188,Tryz.sizeOf188,Tryz.zeroValue188,underlying347,Tryz.isAgg347,Tryz.sizeOf347,Tryz.zeroValue347⟩
def Xh:Builder.Extra prog Tryz.xe where
 sizeBuilder:=by kernel_rfl
 liesBuilder:=by kernel_rfl
 t5:=Tryz.nE.t5
 a5:=Tryz.nE.a5
 z5:=Tryz.nE.z5
 v5:=Tryz.nE.v5
 infoByte:=by kernel_rfl
 cellsByte:=by kernel_rfl
 sizeByte:=by kernel_rfl
 neB5:=by decide
def Xi:Tryz.xe.f 105=98:=by kernel_rfl
def JH(s:ag)(c:Nat)(w:aa)(a:c<=9223372036854775807)(b:s.size*c<=140737488355328):
 CB 98 #[ae s,O c] w (ae ⟨(Lib.repeatL s.data.toList c).toArray⟩):=by
 have h:=Any.strings_Repeat Tryz.nE Xh s c w a b
 rw[Xi] at h
 exact h
end
namespace WM
structure V8 where
 a:UInt64
 b:UInt64
 c:UInt64
 d:UInt64
 e:UInt64
 f:UInt64
 g:UInt64
 h:UInt64
def K:List UInt64:=[0x428a2f98d728ae22,0x7137449123ef65cd,0xb5c0fbcfec4d3b2f,0xe9b5dba58189dbbc,0x3956c25bf348b538,0x59f111f1b605d019,0x923f82a4af194f9b,0xab1c5ed5da6d8118,0xd807aa98a3030242,0x12835b0145706fbe,0x243185be4ee4b28c,0x550c7dc3d5ffb4e2,0x72be5d74f27b896f,0x80deb1fe3b1696b1,0x9bdc06a725c71235,0xc19bf174cf692694,0xe49b69c19ef14ad2,0xefbe4786384f25e3,0x0fc19dc68b8cd5b5,0x240ca1cc77ac9c65,0x2de92c6f592b0275,0x4a7484aa6ea6e483,0x5cb0a9dcbd41fbd4,0x76f988da831153b5,0x983e5152ee66dfab,0xa831c66d2db43210,0xb00327c898fb213f,0xbf597fc7beef0ee4,0xc6e00bf33da88fc2,0xd5a79147930aa725,0x06ca6351e003826f,0x142929670a0e6e70,0x27b70a8546d22ffc,0x2e1b21385c26c926,0x4d2c6dfc5ac42aed,0x53380d139d95b3df,0x650a73548baf63de,0x766a0abb3c77b2a8,0x81c2c92e47edaee6,0x92722c851482353b,0xa2bfe8a14cf10364,0xa81a664bbc423001,0xc24b8b70d0f89791,0xc76c51a30654be30,0xd192e819d6ef5218,0xd69906245565a910,0xf40e35855771202a,0x106aa07032bbd1b8,0x19a4c116b8d2d0c8,0x1e376c085141ab53,0x2748774cdf8eeb99,0x34b0bcb5e19b48a8,0x391c0cb3c5c95a63,0x4ed8aa4ae3418acb,0x5b9cca4f7763e373,0x682e6ff3d6b2b8a3,0x748f82ee5defb2fc,0x78a5636f43172f60,0x84c87814a1f0ab72,0x8cc702081a6439ec,0x90befffa23631e28,0xa4506cebde82bde9,0xbef9a3f7b2c67915,0xc67178f2e372532b,0xca273eceea26619c,0xd186b8c721c0c207,0xeada7dd6cde0eb1e,0xf57d4f7fee6ed178,0x06f067aa72176fba,0x0a637dc5a2c898a6,0x113f9804bef90dae,0x1b710b35131c471b,0x28db77f523047d84,0x32caab7b40c72493,0x3c9ebe0a15c9bebc,0x431d67c49c100d4c,0x4cc5d4becb3e42b6,0x597f299cfc657e2a,0x5fcb6fab3ad6faec,0x6c44198c4a475817]
def fl:V8:=⟨0x6a09e667f3bcc908,0xbb67ae8584caa73b,0x3c6ef372fe94f82b,0xa54ff53a5f1d36f1,0x510e527fade682d1,0x9b05688c2b3e6c1f,0x1f83d9abfb41bd6b,0x5be0cd19137e2179⟩
def aN(n:Nat)(x:UInt64):UInt64:=UInt64.ofNat (x.toNat/2^n+x.toNat%2^n*2^(64-n))
def shr(n:Nat)(x:UInt64):UInt64:=UInt64.ofNat (x.toNat/2^n)
def iO(l:List UInt8):Nat:=l.foldl (λ n c=>n*256+c.toNat) 0
def uI(x:UInt64):UInt64:=aN 1 x^^^aN 8 x^^^shr 7 x
def uJ(x:UInt64):UInt64:=aN 19 x^^^aN 61 x^^^shr 6 x
def hl(b:List UInt8)(w:List UInt64):UInt64:=
 if w.length<16 then UInt64.ofNat (iO ((b.drop (8*w.length)).take 8))
 else w.getD (w.length-16) 0+w.getD (w.length-7) 0+uI (w.getD (w.length-15) 0)+uJ (w.getD (w.length-2) 0)
def wl(b:List UInt8):Nat->List UInt64
 |0=>[]
 |i+1=>wl b i++[hl b (wl b i)]
def bx(e:UInt64):UInt64:=aN 14 e^^^aN 18 e^^^aN 41 e
def A4(a:UInt64):UInt64:=aN 28 a^^^aN 34 a^^^aN 39 a
def ch(e f g:UInt64):UInt64:=(e&&&f)^^^(~~~e&&&g)
def Ck(a b c:UInt64):UInt64:=(a&&&b)^^^(a&&&c)^^^(b&&&c)
def rx(v:V8)(k w:UInt64):UInt64:=v.h+bx v.e+ch v.e v.f v.g+k+w
def ry(v:V8):UInt64:=A4 v.a+Ck v.a v.b v.c
def mB(v:V8)(k w:UInt64):V8:=⟨rx v k w+ry v,v.a,v.b,v.c,v.d+rx v k w,v.e,v.f,v.g⟩
def rounds(w:List UInt64)(h:V8):Nat->V8
 |0=>h
 |i+1=>mB (rounds w h i) (K.getD i 0) (w.getD i 0)
def gX(x y:V8):V8:=⟨x.a+y.a,x.b+y.b,x.c+y.c,x.d+y.d,x.e+y.e,x.f+y.f,x.g+y.g,x.h+y.h⟩
def compress(h:V8)(b:List UInt8):V8:=gX h (rounds (wl b 80) h 80)
def chain(l:List UInt8):Nat->V8
 |0=>fl
 |k+1=>compress (chain l k) ((l.drop (128*k)).take 128)
def cA(n:Nat):Nat:=(247-n%128)%128
def len8(n:Nat):List UInt8:=[UInt8.ofNat (n/72057594037927936),UInt8.ofNat (n/281474976710656),UInt8.ofNat (n/1099511627776),UInt8.ofNat (n/4294967296),UInt8.ofNat (n/16777216),UInt8.ofNat (n/65536),UInt8.ofNat (n/256),UInt8.ofNat n]
def fq(l:List UInt8):List UInt8:=l++[128]++List.replicate (cA l.length) 0++(if cA l.length<8 then List.replicate 128 0 else [])++len8 (l.length*8)
def U(v:V8):List UInt8:=len8 v.a.toNat++len8 v.b.toNat++len8 v.c.toNat++len8 v.d.toNat++len8 v.e.toNat++len8 v.f.toNat++len8 v.g.toNat++len8 v.h.toNat
def sum(l:List UInt8):List UInt8:=U (chain (fq l) ((fq l).length/128))
def dK(b:List UInt8):∀i,(wl b i).length=i
 |0=>rfl
 |i+1=>by simp[wl,dK b i]
def ua(n:Nat):(len8 n).length=8:=rfl
def V1(v:V8):(U v).length=64:=rfl
def yp(l:List UInt8):(sum l).length=64:=rfl
def uq(l:List UInt8):(fq l).length%128=0:=by
 unfold fq;split<;>simp[ua]<;>unfold cA at* <;>omega
def AT:∀(l:List UInt8) (k:Nat),k<=l.length->iO (l.take k)<256^k
 |l,0,_=>by simp[iO]
 |l,k+1,h=>by
  have a:=AT l k W
  unfold iO at*
  rw[dC W,ti]
  have:=(l[k]).toNat_lt
  simp only[List.foldl_cons,List.foldl_nil]
  rw[fk];omega
def Nd(l:List UInt8)(k:Nat)(h:k<l.length):iO (l.take (k+1))=iO (l.take k)*256+(l[k]).toNat:=by
 unfold iO;rw[dC h,ti];rfl
end WM
section
open Go.Shelf
def Tryz.xd:Go.Shelf.Ren:=⟨λ|156=>97|165=>176|166=>177|169=>178|240=>244|241=>245|276=>284|277=>285|n=>n,λ|31=>64|9=>9|3=>3|4=>4|0=>0|20=>20|72=>243|76=>246|70=>241|37=>29|75=>245|127=>308|164=>347|5=>5|80=>36|n=>n,λ|n=>n⟩
def Tryz.T7:Go.Proofs.Lays.n156 prog Tryz.xd:=⟨by kernel_rfl,dH func97,dH func176,dH func177,dH func178,dH func244,dH func245,dH func284,dH func285,underlying0,Tryz.isAgg0,Tryz.sizeOf0,Tryz.zeroValue0,oB,Ad,Ay,AD,EM,Tryz.isAgg4,Tryz.sizeOf4,EO,dO,Af,AA,AF,underlying20,Tryz.isAgg20,Tryz.sizeOf20,Tryz.zeroValue20,lU,Tryz.isAgg64,Tryz.sizeOf64,Tryz.zeroValue64,dZ,Tryz.isAgg29,Tryz.sizeOf29,Tryz.zeroValue29,underlying241,Tryz.isAgg241,Tryz.sizeOf241,Tryz.zeroValue241,underlying243,Tryz.isAgg243,Tryz.sizeOf243,Tryz.zeroValue243,underlying245,Tryz.isAgg245,Tryz.sizeOf245,Tryz.zeroValue245,underlying246,Tryz.isAgg246,Tryz.sizeOf246,Tryz.zeroValue246,underlying308,Tryz.isAgg308,Tryz.sizeOf308,Tryz.zeroValue308,underlying347,Tryz.isAgg347,Tryz.sizeOf347,Tryz.zeroValue347⟩
def Tryz.T9:Go.Shelf.Ren:=⟨λ|99=>180|206=>247|n=>n,λ|9=>9|4=>4|3=>3|n=>n,λ|n=>n⟩
def Tryz.acV:Go.Proofs.Lays.n99 prog Tryz.T9:=⟨by kernel_rfl,dH func180,dH func247,oB,Ad,Ay,AD,EM,Tryz.isAgg4,Tryz.sizeOf4,EO,dO,Af,AA,AF⟩
def w8:Tryz.xd.t 5=Tryz.xe.t 5:=by kernel_rfl
def TD:Builder.Extra prog Tryz.xd where
 sizeBuilder:=by kernel_rfl
 liesBuilder:=by kernel_rfl
 t5:=by rw[w8];exact Tryz.nE.t5
 a5:=by rw[w8];exact Tryz.nE.a5
 z5:=by rw[w8];exact Tryz.nE.z5
 v5:=by rw[w8];exact Tryz.nE.v5
 infoByte:=by kernel_rfl
 cellsByte:=by kernel_rfl
 sizeByte:=by kernel_rfl
 neB5:=by decide
def TE:Tryz.xd.f 156=97:=by kernel_rfl
def TC(b o c:Nat)(a:List ag)(d:ag)(w:aa)
 (i:∀(j:Nat) x,a[j]?=some x->w.cell? ⟨b,o+j,none⟩=some (ae x))
 (f:b<w.heap.size) (e:a.length<=140737488355328) (g:a.length<=c)
 (j:(Lib.join (a.map (·.data.toList)) d.data.toList).length<=140737488355328):
 CB 97 #[ad (some ⟨b,o,none⟩) a.length c,ae d] w (ae ⟨(Lib.join (a.map (·.data.toList)) d.data.toList).toArray⟩):=by
 have h:=Any.strings_Join Tryz.T7 TD b o c a d w i f e g j
 rw[TE] at h
 exact h
end
def sm:List Nat:=[104,97,114,110,101,115,115,32,51,99,102,49,51,101,50,102,98,50,52,99,54,102,97,56,54,49,52,51,99,51,57,99,56,49,53,98,48,98,100,50,49,102,56,101,57,48,55,98,51,50,53,51,57,51,51,53,56,100,49,98,102,99,99,98,53,50,100,48,54,97,56,49,32,99,117,116,32,97,116,32,115,121,110,103,114,97,112,104,47,115,121,110,103,114,97,112,104,116,111,112,46,84,111,112,75,101,121,115,32,115,121,110,103,114,97,112,104,47,115,121,110,103,114,97,112,104,116,111,112,46,84,111,112,84,101,108,108,115]
def Rc:prog.initOrder.toList=sm.map Char.ofNat:=by
 have h:prog.initOrder=String.ofList (sm.map Char.ofNat):=by kernel_rfl
 rw[h];exact String.toList_ofList
def P3(s:String)(h:s.toList=sm.map Char.ofNat):Program.mayEnter {toTables:={Tryz.progTables with initOrder:=s},funcs:=funcs}=true:=by
 unfold Program.mayEnter;dsimp only;rw[h];kernel_rfl
def Uq(s:String)(h:s.toList=sm.map Char.ofNat):Program.liftsFinal {toTables:={Tryz.progTables with initOrder:=s},funcs:=funcs}=false:=by
 unfold Program.liftsFinal Program.headLifts;dsimp only;rw[h];kernel_rfl
def UT(s:String)(h:s.toList=sm.map Char.ofNat):Program.make {toTables:={Tryz.progTables with initOrder:=s},funcs:=funcs}=some .cut:=by
 unfold Program.make;dsimp only;rw[h];kernel_rfl
