import Derived.Test.YtncpbkoinennoaaGreatDoorMAB
import Derived.Test.YtncpbkoinennoaaGreatDoorMAC
set_option linter.all false
set_option maxRecDepth 100000
set_option maxHeartbeats 0
namespace Go.Proofs.YtncpbkoinennoaaGreatDoor
open Go.RowKit Proofs.Tryz
attribute [local irreducible] wpList Calls
variable{a:Act}{B:Array Bool}{m:List Nat}{g i k:Nat}{o:Oper}{t:TypeId}
section
section
variable{P:Program}{Q:Exit->Act->aa->Prop}{n:Nat}{l:List Oper}
def jt(lt:List (Nat×Nat×Nat))(b:Array Bool)(e:Nat->ab)(i:Nat)(a:Array ab):Array ab:=match lt.lookup i with
 |some (c,d)=>if b.getD c false=true then(e d).cells else a
 |none=>a
structure LJ(todo:List Nat)(g0:Nat)(Pv:Nat->ab->Prop)(al:List (Nat×TypeId×Array ab×Option Nat))(lt:List (Nat×Nat×Nat))(listed:Array Bool)(vs:Nat->ab)(w:aa):Prop where
 val:∀i∈todo,listed.getD i false=true->Pv i (vs i)
 a:∀i∈todo,listed.getD i false=true->∀ty cs k,al.lookup i=some (ty,cs,k)->∃g,g0<=g/\vs i=bk k g/\ah w g ty (jt lt listed vs i cs)
 cG:∀i∈todo,∀j∈todo,listed.getD i false=true->listed.getD j false=true->i≠j->(al.lookup i).isSome=true->(al.lookup j).isSome=true->∀k k' g g',vs i=bk k g->vs j=bk k' g'->g≠g'
 dep:∀p st vo,lt.lookup p=some (st,vo)->listed.getD st false=true->listed.getD vo false=true/\listed.getD p false=true
def FO{lt:List (Nat×Nat×Nat)}{d:Nat->ab}{v:ab}{c:Array ab}(j:B.getD i false=false)
 (h:∀p a b,lt.lookup p=some (a,b)->B.getD a false=true->B.getD b false=true/\B.getD p false=true)
 (e:∀a b,lt.lookup g=some (a,b)->a≠i):jt lt (B.setIfInBounds i true) (λ k=>if k=i then v else d k) g c=jt lt B d g c:=by
 unfold jt
 cases f:lt.lookup g with
 |none=>rfl
 |some x=>
  obtain⟨a,b⟩:=x
  simp only[]
  rw[ll false (dY (e a b f))]
  grind
def LJ.step{E:Nat->ab->Prop}{al:List (Nat×TypeId×Array ab×Option Nat)}{lt:List (Nat×Nat×Nat)}{D:Nat->ab}{w G:aa}(h:LJ m g E al lt B D w)
 {v:ab} (a2:i<B.size) (a0:B.getD i false=false) (K:∀p f r,lt.lookup p=some (f,r)->f≠i) (S:BW w G) (a5:E i v)
  (J:∀C s k,al.lookup i=some (C,s,k)->∃c,g<=c/\w.heap.size<=c/\v=bk k c/\ah G c C s):
  LJ m g E al lt (B.setIfInBounds i true) (λ k=>if k=i then v else D k) G:=by
 have A:∀j,j≠i->(B.setIfInBounds i true).getD j false=B.getD j false:=λ j u=>ll false (dY u)
 have a3:∀j∈m,B.getD j false=true->(al.lookup j).isSome=true->∀k c,D j=bk k c->c<w.heap.size:=λ j u d y k c a=>by
  cases e:al.lookup j with
  |none=>grind
  |some x=>
   obtain⟨F,t,o,q⟩:=h.a j u d x.1 x.2.1 x.2.2 e
   rw[a] at o
   rw[wR o]
   exact ah.lt q
 have a4:(al.lookup i).isSome=true->∀k c,v=bk k c->w.heap.size<=c:=λ y k c a=>by
  cases e:al.lookup i with
  |none=>grind
  |some x=>
   obtain⟨F,t,o,q,L⟩:=J x.1 x.2.1 x.2.2 e
   rw[a] at q
   rw[wR q]
   exact o
 refine⟨λ j u d=> ?_,λ j u d C s k y=> ?_,λ a y b T H I N M R k a1 c F e1 e2=> ?_,λ p f r e d=> ?_⟩
 ·by_cases z:j=i
  ·grind
  ·rw[A j z] at d
   simp only[aj z]
   exact h.val j u d
 ·rw[FO a0 h.dep (λ f r e=>K j f r e)]
  by_cases z:j=i
  ·subst z
   obtain⟨c,t,o,q,L⟩:=J C s k y
   refine⟨c,t,by grind,?_⟩
   have:jt lt B D j s=s:=by
    unfold jt
    cases e:lt.lookup j with
    |none=>rfl
    |some x=>
     obtain⟨f,r⟩:=x
     simp only[]
     refine aj λ X=> ?_
     have:=(h.dep j f r e X).2
     grind
   grind
  ·rw[A j z] at d
   obtain⟨c,t,o,q⟩:=h.a j u d C s k y
   exact⟨c,t,by grind,(dQ S _ (ah.lt q)).trans q⟩
 ·by_cases q:a=i
  ·grind
  ·rw[A a q] at H
   simp only[aj q] at e1
   by_cases x:b=i
   ·grind
   ·rw[A b x] at I
    simp only[aj x] at e2
    exact h.cG a y b T H I N M R k a1 c F e1 e2
 ·rw[A f (K p f r e)] at d
  obtain⟨t,o⟩:=h.dep p f r e d
  exact⟨si t,si o⟩
def LJ.store{D:Nat->ab->Prop}{al:List (Nat×TypeId×Array ab×Option Nat)}{lt:List (Nat×Nat×Nat)}{x:Nat->ab}{w:aa}(h:LJ m k D al lt B x w)
 {p z:Nat} {v:ab} {k0:Option Nat} {J:Array ab} (a9:i<B.size) (b3:B.getD i false=false) (b1:p∈m) (a0:B.getD p false=true) (a2:B.getD z false=true) (a1:lt.lookup p=some (i,z)) (a3:∀q f u,lt.lookup q=some (f,u)->f=i->q=p)
 (M:al.lookup i=none) (N:al.lookup p=some (t,J,k0)) (S:x p=bk k0 g) (b6:D i v):
 LJ m k D al lt (B.setIfInBounds i true) (λ c=>if c=i then v else x c) (w.setRow g (x z).cells):=by
 have y:∀j,j≠i->(B.setIfInBounds i true).getD j false=B.getD j false:=λ j r=>ll false (dY r)
 have b0:∀j,B.getD j false=true->j≠i:=by grind
 refine⟨λ j r d=> ?_,λ j r d b5 a4 c o=> ?_,λ a o b a8 T X a7 G H c b4 a5 a6 e1 e2=> ?_,λ q f u s d=> ?_⟩
 ·by_cases C:j=i
  ·grind
  ·rw[y j C] at d
   simp only[aj C]
   exact h.val j r d
 ·have C:j≠i:=by grind
  rw[y j C] at d
  obtain⟨E,F,A,K⟩:=h.a j r d b5 a4 c o
  refine⟨E,F,by grind,?_⟩
  by_cases I:j=p
  ·subst I
   rw[N] at o
   cases o
   have L:E=g:=wR (A.symm.trans S)
   subst L
   have:jt lt (B.setIfInBounds i true) (λ c=>if c=i then v else x c) j J=(x z).cells:=by
    unfold jt
    rw[a1]
    simp only[]
    rw[ax (tT a9),aj (b0 z a2)]
   rw[this]
   exact ah.setRow K _
  ·rw[FO b3 h.dep (λ f u s e=>I (a3 j f u s e))]
   exact K.cJ _ (h.cG j r p b1 d a0 I (by rw[o];rfl) (by rw[N];rfl) c k0 E g A S)
 ·have L:a≠i:=λ e=>by rw[e,M] at G;cases G
  have R:b≠i:=λ e=>by rw[e,M] at H;cases H
  rw[y a L] at T
  rw[y b R] at X
  simp only[aj L] at e1
  simp only[aj R] at e2
  exact h.cG a o b a8 T X a7 G H c b4 a5 a6 e1 e2
 ·by_cases e:f=i
  ·subst e
   have b2:=a3 q f u s rfl
   subst b2
   rw[a1] at s
   cases s
   exact⟨si a2,si a0⟩
  ·rw[y f e] at d
   obtain⟨F,A⟩:=h.dep q f u s d
   exact⟨si F,si A⟩
structure vk(g0:Nat)(Pv:Nat->ab->Prop)(al:List (Nat×TypeId×Array ab×Option Nat))(lt:List (Nat×Nat×Nat))(j:Nat)(v:ab)(w:aa):Prop where
 val:Pv j v
 a:∀ty cs k,al.lookup j=some (ty,cs,k)->lt.lookup j=none->∃g,g0<=g/\v=bk k g/\ah w g ty cs
def dF.mk{q:aa}{r:Nat->ab->Prop}{al:List (Nat×TypeId×Array ab×Option Nat)}{lt:List (Nat×Nat×Nat)}(H:o.guard=none)(L:∀p c d,lt.lookup p=some (c,d)->c≠i)
 (h:∀(b:Act) (w:aa) (K:Act->aa->Prop),(∀k v,m.all (λ j=> !decide (cb l j=some k))=true->a.tmps[k]?=some v->b.eval (.tmp k)=v)->
  (∀j k,(m.contains j&&waits o j&&decide (cb l j=some k)&&decide (k<a.tmps.size))=true->∃v,b.eval (.tmp k)=v/\vk q.heap.size r al lt j v w)->BW q w->
  (∀v f,r i v->(∀e d k,al.lookup i=some (e,d,k)->∃g,w.heap.size<=g/\v=bk k g/\ah f g e d)->BW w f->K (b.put o.dst v) f)->Oper.wp P o b w K Q):
 mY P l Q (BT q) (LJ m q.heap.size r al lt) m a i o:=by
 intro b w K X T I N M G F p x E
 have S:Region.wanted o (yielded l.toArray b.tmps)=true:=by unfold Region.wanted;rw[H]
 rw[ax S]
 refine h b w K (λ k v J D=>sa ((M k J).trans D)) (λ j k c=> ?_) p (λ v f R C z=>E v f (x.step I N L z R λ e d k y=> ?_) (eH p (cP z (dA p))))
 ·simp only[cQ,dx] at c
  have A:j∈m:=by simpa using c.1.1.1
  have B:=G j c.1.1.2
  refine⟨T j,sa (F j k c.1.1.1 c.1.1.2 c.1.2 c.2),x.val j A B,λ e d k y C=> ?_⟩
  obtain⟨g,s,t,u⟩:=x.a j A B e d k y
  refine⟨g,s,t,?_⟩
  unfold jt at u
  grind
 ·obtain⟨g,s,t,u⟩:=C e d k y
  have:=dA p
  exact⟨g,by omega,s,t,u⟩
def dF.call{g:aa}{m:Nat->ab->Prop}{al:List (Nat×TypeId×Array ab×Option Nat)}{lt:List (Nat×Nat×Nat)}{b:List Nat}{q:Act}{i:Nat}{o:Oper}{c:Call}(f:FuncId)(t:o.guard=none)(x:o.op= .call c)(r:c.callee= .value (.func f))
 (s:∀a d,(callFunc f a).run P d= .ok (.enter f a) d) (u:∀p e j,lt.lookup p=some (e,j)->e≠i) (y:al.lookup i=none)
 (h:∀(a:Act) (w:aa),(∀k v,b.all (λ j=> !decide (cb l j=some k))=true->q.tmps[k]?=some v->a.eval (.tmp k)=v)->
  (∀j k,(b.contains j&&waits o j&&decide (cb l j=some k)&&decide (k<q.tmps.size))=true->∃v,a.eval (.tmp k)=v/\vk g.heap.size m al lt j v w)->BW g w->
  Calls P f (c.args.map a.eval) w λ e d=>(∃v,e=ao v/\m i v)/\BW w d):
 mY P l Q (BT g) (LJ b g.heap.size m al lt) b q i o:=by
 refine dF.mk t u λ a w K j e d k=>sU x r rfl s ((h a w j e d).mono ?_)
 grind
def dF.value{c:aa}{d:Nat->ab->Prop}{al:List (Nat×TypeId×Array ab×Option Nat)}{lt:List (Nat×Nat×Nat)}{b:List Nat}{e:Act}{i:Nat}{o:Oper}(m:o.guard=none)(q:∀p f g,lt.lookup p=some (f,g)->f≠i)(u:al.lookup i=none)
 (h:∀(a:Act) (w:aa),(∀k v,b.all (λ j=> !decide (cb l j=some k))=true->e.tmps[k]?=some v->a.eval (.tmp k)=v)->
  (∀j k,(b.contains j&&waits o j&&decide (cb l j=some k)&&decide (k<e.tmps.size))=true->∃v,a.eval (.tmp k)=v/\vk c.heap.size d al lt j v w)->BW c w->
  ∃v,(execOp a.eval o).run P w= .ok (.value v) w/\d i v):
 mY P l Q (BT c) (LJ b c.heap.size d al lt) b e i o:=by
 refine dF.mk m q λ a w K p j g f=> ?_
 obtain⟨v,r,s⟩:=h a w p j g
 unfold Oper.wp
 rw[r,jV]
 exact f v w s (λ x t k k=>by grind) (bz _ _)
def dF.make{c:aa}{d:Nat->ab->Prop}{al:List (Nat×TypeId×Array ab×Option Nat)}{lt:List (Nat×Nat×Nat)}{e:Array ab}{k:Option Nat}(r:o.guard=none)(u:∀p b f,lt.lookup p=some (b,f)->b≠i)(s:al.lookup i=some (t,e,k))
 (h:∀(b:Act) (w:aa),(∀k v,m.all (λ j=> !decide (cb l j=some k))=true->a.tmps[k]?=some v->b.eval (.tmp k)=v)->
  (∀j k,(m.contains j&&waits o j&&decide (cb l j=some k)&&decide (k<a.tmps.size))=true->∃v,b.eval (.tmp k)=v/\vk c.heap.size d al lt j v w)->BW c w->
  (execOp b.eval o).run P w= .ok (.value (bk k w.heap.size)) (w.alloc (.cells e t))) (p:∀g,c.heap.size<=g->d i (bk k g)):
 mY P l Q (BT c) (LJ m c.heap.size d al lt) m a i o:=by
 refine dF.mk r u λ b w K v q f j=> ?_
 unfold Oper.wp
 rw[h b w v q f,jV]
 refine j _ _ (p _ (dA f)) (λ z x y g=> ?_) (bJ w _)
 rw[s] at g
 cases g
 exact⟨_,aW _,rfl,ah.new _ _ _⟩
def dF.alloc{c:aa}{d:Nat->ab->Prop}{al:List (Nat×TypeId×Array ab×Option Nat)}{lt:List (Nat×Nat×Nat)}{f:List Nat}{h:Act}{i:Nat}{o:Oper}{b:TypeId}{e:Array ab}(k:o.guard=none)(r:o.op= .alloc b)(q:∀p a g,lt.lookup p=some (a,g)->a≠i)(m:al.lookup i=some (b,e,none))
 (s:∀w,(Instr.alloc b true (aJ #[])).run P w= .ok (pV w.heap.size) (w.alloc (.cells e b))) (j:∀g,c.heap.size<=g->d i (bk none g)):
 mY P l Q (BT c) (LJ f c.heap.size d al lt) f h i o:=by
 refine dF.make k q m (λ a w _ _ _=> ?_) j
 unfold execOp
 simp only[r,cL,s,cZ,dw,bk]
def xj{β:Type}{f:Nat×β->Bool}:∀{lt:List (Nat×β)},lt.all f=true->∀p y,lt.lookup p=some y->f (p,y)=true
 |[],_,p,y,h=>by cases h
 |(q,z)::t,a,p,y,h=>by
  rw[te,cQ] at a
  rw[List.lookup_cons] at h
  by_cases b:p=q
  ·grind
  ·have:(p==q)=false:=by simpa using b
   rw[this] at h
   exact xj a.2 p y h
def gz{lt:List (Nat×Nat×Nat)}(h:(lt.all λ x=> !decide (x.2.1=i))=true):∀p a b,lt.lookup p=some (a,b)->a≠i:=λ p a b c=>by
 have:=xj h p (a,b) c;grind
def dF.store{M:aa}{j:Nat->ab->Prop}{al:List (Nat×TypeId×Array ab×Option Nat)}{lt:List (Nat×Nat×Nat)}{f:List Nat}{k:Act}{i:Nat}{o:Oper}{h:TypeId}{c:Array ab}{d e:Tmp}(p b:Nat)(a9:o.guard=none)(b2:o.op= .store h (.tmp d) (.tmp e))(c3:o.dst=none)
 (A:(f.contains p&&f.contains b&&waits o p&&waits o b&&decide (cb l p=some d)&&decide (cb l b=some e)&&decide (d<k.tmps.size)&&decide (e<k.tmps.size)&&(lt.all λ x=> !decide (x.2.1=i)||decide (x.1=p)))=true)
 (E:lt.lookup p=some (i,b)) (a5:al.lookup i=none) (B:al.lookup p=some (h,c,none)) (a3:j i undef)
 (b4:∀v,j b v->∃r:Array ab,v=aG r/\(P.info? h).map (·.size)=some r.size/\c.size=r.size/\r.all (·.oneCell')=true):
 mY P l Q (BT M) (LJ f M.heap.size j al lt) f k i o:=by
 intro a w K c0 L b0 b6 c4 D C a4 m a2
 have b9:Region.wanted o (yielded l.toArray a.tmps)=true:=by unfold Region.wanted;rw[a9]
 rw[ax b9]
 simp only[cQ,dx] at A
 obtain⟨⟨⟨⟨⟨⟨⟨⟨s,t⟩,u⟩,x⟩,N⟩,R⟩,S⟩,b8⟩,T⟩:=A
 have F:p∈f:=by simpa using s
 have b7:b∈f:=by simpa using t
 have I:=D p u
 have J:=D b x
 obtain⟨g,a1,y,z⟩:=m.a p F I h c none B
 have a7:jt lt c0 L p c=c:=by
  unfold jt
  rw[E]
  simp only[]
  exact aj (by grind)
 rw[a7] at z
 obtain⟨r,G,b1,b5,a6⟩:=b4 _ (m.val b b7 J)
 have X:a.eval (.tmp d)=pV g:=(sa (C p d s u N S)).trans y
 have a0:a.eval (.tmp e)=aG r:=(sa (C b e t x R b8)).trans G
 have a8:(L b).cells=r:=by rw[G];rfl
 have H:=m.store (v:=undef) b0 b6 F I J E (λ q c1 c2 b3 v=>by
  have:=xj T q (c1,c2) b3
  rw[v] at this
  simpa using this) a5 B y a3
 rw[a8] at H
 refine wp_store_row h (.tmp d) (.tmp e) b2 g r X a0 h c z b1 b5 a6 ?_
 exact a2 undef _ H (bY a4 a1 r)
def nO(b:Nat->ab):List (Nat×Option Tmp)->Act->Act
 |[],a=>a
 |(i,some k)::t,a=>nO b t {a with tmps:=a.tmps.setIfInBounds k (b i)}
 |(i,none)::t,a=>nO b t a
def CO(b:Nat->ab):∀(c:List (Nat×Option Tmp)) (a:Act),(∀p∈c,cb l p.1=p.2)->pe l b (c.map (·.1)) a=nO b c a
 |[],a,_=>rfl
 |(i,k)::t,a,h=>by
  simp only[cw,pe]
  rw[show cb l i=k from h (i,k) zS]
  cases k with
  |none=>exact CO b t _ λ p c=>h p (mQ c)
  |some k=>exact CO b t _ λ p c=>h p (mQ c)
def tP(lt:List (Nat×Nat×Nat))(c:Nat->ab)(i:Nat)(a:Array ab):Array ab:=match lt.lookup i with
 |some (d,b)=>(c b).cells
 |none=>a
def az.late{w0 wc:aa}(b:List (Nat×Option Tmp))(al:List (Nat×TypeId×Array ab×Option Nat))(lt:List (Nat×Nat×Nat))(r:Nat->ab->Prop)
 (v:(qK l n B (b.map (·.1))&&(b.all λ p=>decide (cb l p.1=p.2))&&lt.all λ x=>decide (x.2.1<n)&& !B.getD x.2.1 true)=true) (F:Region.seqB .any l.toArray (l.length-n) n (List.replicate n true++List.replicate (l.length-n) false).toArray=true) (I:BW w0 wc)
 (N:tq l (mY P l Q (BT w0) (LJ (b.map (·.1)) w0.heap.size r al lt) (b.map (·.1)) a) (b.map (·.1)))
 (K:∀(c:Nat->ab) (w:aa),BW w0 w->(∀i∈b.map (·.1),r i (c i))->(∀i∈b.map (·.1),∀o e k,al.lookup i=some (o,e,k)->∃g,w0.heap.size<=g/\c i=bk k g/\ah w g o (tP lt c i e))->
  (∀i∈b.map (·.1),∀j∈b.map (·.1),i≠j->(al.lookup i).isSome=true->(al.lookup j).isSome=true->∀k f g d,c i=bk k g->c j=bk f d->g≠d)->wpList P l.toArray Q (l.drop n) (nO c b a) w):
 az P l Q (BT w0) n b.length B a wc:=by
 simp only[cQ] at v
 obtain⟨⟨y,G⟩,H⟩:=v
 have M:∀p∈b,cb l p.1=p.2:=by
  rw[gC] at G
  exact λ p d=>by grind
 have z:=y
 unfold qK at z
 simp only[cQ,dx] at z
 have m:∀i∈b.map (·.1),i<n/\B.getD i false=false:=by grind
 have T:∀p f q,lt.lookup p=some (f,q)->f<n/\B.getD f false=false:=λ p f q u=>by
  have:=xj H p (f,q) u
  grind
 have h:=az.BP (listed:=B) (w0:=wc) (b.map (·.1)) (BT w0) (LJ (b.map (·.1)) w0.heap.size r al lt) y F I (λ c=>⟨(λ i d t=>by grind),λ i d t=>(by grind),λ i d j s t=>(by grind),λ p f q u t=>(by grind)⟩) N.all (λ c w A C=>by
  obtain⟨R,f,p⟩:=C
  rw[CO c b a M]
  refine K c w A (λ i d=>p.val i d (f i (m i d).1)) (λ i d o e k J=> ?_) (λ i d j s L D E=>p.cG i d j s (f i (m i d).1) (f j (m j s).1) L D E)
  obtain⟨g,q,t,S⟩:=p.a i d (f i (m i d).1) o e k J
  refine⟨g,q,t,?_⟩
  have:jt lt R c i e=tP lt c i e:=by
   unfold jt tP
   cases u:lt.lookup i with
   |none=>rfl
   |some x=>
    grind
  grind)
 rw[cR] at h
 exact h
end
end
variable{p:List Nat}{b:List UInt8}{n:Nat}
section
namespace SC
open FM
def LQ:Nat:=7237005577332262213973186563042994240857116359379907606001950938285454250989
def vW:List Nat->Nat
 |[]=>0
 |d::l=>d+18446744073709551616*vW l
def da(l:List Nat):Prop:=∀d∈l,d<18446744073709551616
def yy:∀(a b:List Nat),vW (a++b)=vW a+18446744073709551616^a.length*vW b
 |[],b=>by simp[vW]
 |x::a,b=>by
  simp only[gD,vW,yy a b,fU,fk]
  grind
def uW(h:m[k]?=some g):vW (m.take (k+1))=vW (m.take k)+g*18446744073709551616^k:=by
 obtain⟨a,rfl⟩:=ed.1 h;rw[dC a,yy,ee,jT W];simp only[vW,vC,hJ];grind
def sR:∀(l:List Nat),da l->vW l<18446744073709551616^l.length
 |[],_=>by simp[vW]
 |x::l,h=>by
  have a:=sR l (λ d hd=>h d (mQ hd))
  have hx:=h x mZ
  simp only[vW,fU,fk]
  omega
def DB:∀(l:List Nat) (k d c:Nat),l[k]?=some c->vW (l.set k d)+c*18446744073709551616^k=vW l+d*18446744073709551616^k
 |[],k,d,c,h=>by simp at h
 |x::l,0,d,c,h=>by simp at h;subst h;simp[vW];omega
 |x::l,k+1,d,c,h=>by
  simp only[mV] at h
  have a:=DB l k d c h
  simp only[ay,vW,fk]
  grind
def da.set{l:List Nat}(h:da l)(k:Nat){d:Nat}(hd:d<18446744073709551616):da (l.set k d):=λ x hx=>by
 rcases vu hx with hx|rfl
 ·exact h x hx
 omega
def da.get(h:da m)(hd:m[k]?=some g):g<18446744073709551616:=h g (dB hd)
def da.take{l:List Nat}(h:da l)(k:Nat):da (l.take k):=λ d hd=>h d (oq hd)
def Dz:∀(l:List Nat) (j d:Nat),da l->l[j]?=some d->vW l/18446744073709551616^j%18446744073709551616=d
 |[],j,d,_,h=>by simp at h
 |x::l,0,d,a,h=>by
  simp at h;subst h
  have:=a x mZ
  simp only[vW,Nat.pow_zero,tm];omega
 |x::l,j+1,d,a,h=>by
  have hx:=a x mZ
  simp only[mV] at h
  have b:=Dz l j d (λ d hd=>a d (mQ hd)) h
  simp only[vW,fk]
  rw[jU (18446744073709551616^j),<-lP,show(x+18446744073709551616*vW l)/18446744073709551616=vW l by omega]
  exact b
structure kL(a b l:List Nat)(u k:Nat):Prop where
 len:l.length=4
 ok:da l
 low:vW (l.take k)+vW (b.take k)=vW (a.take k)+u*18446744073709551616^k
 rest:∀j,k<=j->l[j]?=a[j]?
 u:u<=1
def kL.start(b:List Nat)(h:m.length=4)(a:da m):kL m b m 0 0:=⟨h,a,by simp[vW],λ _ _=>rfl,by omega⟩
def Zk(l:List Nat)(k d:Nat)(h:k<l.length):(l.set k d).take (k+1)=l.take k++[d]:=by
 rw[zu,dC h,kE _ _ (by grind)];simp[jT (vz h)]
def K5(h:k<m.length):vW ((m.set k g).take (k+1))=vW (m.take k)+g*18446744073709551616^k:=by
 rw[Zk m k g h,yy,ee,jT W];simp only[vW,vC,hJ];grind
def kL.step{l:List Nat}(h:kL m p l g k)(f:k<4){d u':Nat}(hx:l[k]?=some n)(b:p[k]?=some i)(c:d+i+g=n+u'*18446744073709551616)(hd:d<18446744073709551616)(a:u'<=1):kL m p (l.set k d) u' (k+1):=by
 refine⟨by rw[hH];exact h.len,h.ok.set k hd,?_,λ j e=> ?_,a⟩
 ·rw[K5 (by grind),uW b,uW ((h.rest k (aW _)).symm.trans hx),fk];have:=h.low;grind
 ·rw[iK W];exact h.rest j W
def kL.done{l:List Nat}(h:kL m p l g 4)(a:m.length=4)(b:p.length=4):vW l+vW p=vW m+g*18446744073709551616^4:=by
 have:=h.low;rwa[cS (by rw[h.len];omega),cS W,cS W] at this
def kL.under{l:List Nat}(h:kL m p l g 4)(b:m.length=4)(c:p.length=4)(f:da p):(g=1↔vW m<vW p)/\(g=0->vW l=vW m-vW p):=by
 have e:=h.done b c;have a:=sR l h.ok;have d:=h.u;rw[h.len] at a;omega
structure jS(b:List UInt8)(n:Nat)(l:List Nat)(k:Nat):Prop where
 len:l.length=n
 small:∀j d,l[j]?=some d->d<256^(min 8 (k-8*j))
 eq:vW l=eB (b.take k)
def DC:∀n,vW (List.replicate n 0)=0
 |0=>rfl
 |n+1=>by simp[gF,vW,DC n]
def jS.start(b:List UInt8)(n:Nat):jS b n (List.replicate n 0) 0:=
 ⟨by simp,λ j d hd=>(by
  grind),by simp[DC,eB]⟩
def jS.ok(h:jS b n m k):da m:=λ d hd=>by
 obtain⟨j,a⟩:=List.getElem?_of_mem hd;have c:=h.small j d a;have e:256^(min 8 (k-8*j))<=256^8:=pZ zD W;omega
def jS.cell(h:jS b n m k)(d:k<8*n):∃x,m[k/8]?=some x/\x<256^(k%8):=by
 have c:k/8<m.length:=by rw[h.len];omega
 have a:=h.small (k/8) m[k/8] (ba c);rw[show min 8 (k-8*(k/8))=k%8 by omega] at a;simp_all
def jS.step(h:jS b n m k){c:UInt8}(hx:m[k/8]?=some g)(i:b[k]?=some c)(o:g<256^(k%8)):jS b n (m.set (k/8) (g+c.toNat*256^(k%8))) (k+1):=by
 refine⟨by rw[hH];exact h.len,λ j d hd=> ?_,?_⟩
 ·by_cases a:k/8=j
  ·subst a;have e:k/8<m.length:=by grind
   rw[om e] at hd;injection hd with hd;subst hd;rw[show min 8 (k+1-8*(k/8))=k%8+1 by omega,fk];have f:=c.toNat_lt;have l:c.toNat*256^(k%8)<=255*256^(k%8):=lR _ W;omega
  ·rw[iK a] at hd;exact lQ (h.small j d hd) (pZ zD W)
 ·have f:=DB m (k/8) (g+c.toNat*256^(k%8)) g hx;rw[Ce i,<-h.eq];have e:256^k=256^(k%8)*18446744073709551616^(k/8):=by
   rw[show 18446744073709551616=256^8 by decide,<-qb,<-kH];congr 1;omega
  grind
def aaF(h:da m)(hd:m[i/8]?=some g):g/256^(i%8)%256=vW m/256^i%256:=by
 have a:=Dz m (i/8) g h hd;have e:256^i=18446744073709551616^(i/8)*256^(i%8):=by
  rw[show 18446744073709551616=256^8 by decide,<-qb,<-kH];congr 1;omega
 rw[e,<-lP,<-a];generalize vW m/18446744073709551616^(i/8)=v;have b:i%8<8:=by omega
 generalize i%8=r at*;have e2:18446744073709551616=256^r*256^(8-r):=by rw[<-kH,show r+(8-r)=8 by omega]
 rw[e2,LO,Nat.mod_mod_of_dvd _ ⟨256^(7-r),by rw[<-Nat.pow_succ'];grind⟩]
structure qg(a l:List Nat)(bit c k:Nat):Prop where
 len:l.length=4
 ok:da l
 low:vW (l.take k)+c*18446744073709551616^k=2*vW (a.take k)+bit
 c:c<=1
 rest:∀j,k<=j->l[j]?=a[j]?
def qg.start(a:Nat)(h:m.length=4)(c:da m)(b:a<=1):qg m m a a 0:=⟨h,c,by simp[vW],b,λ _ _=>rfl⟩
def qg.step(h:qg m p g n k)(a:k<4)(hx:m[k]?=some i)(d:i<18446744073709551616):qg m (p.set k (2*i%18446744073709551616+n)) g (i/9223372036854775808) (k+1):=by
 have b:=h.c;refine⟨by rw[hH];exact h.len,h.ok.set k W,?_,by omega,λ j c=> ?_⟩
 ·rw[K5 (by rw[h.len];exact a),uW hx,fk];have:=h.low;have e:2*i%18446744073709551616+n+i/9223372036854775808*18446744073709551616=2*i+n:=by omega
  grind
 ·rw[iK W];exact h.rest j W
def mf(a i:Nat):Nat:=a/2^i%LQ
def OB(a i:Nat):mf a i=if 2*mf a (i+1)+a/2^i%2<LQ then 2*mf a (i+1)+a/2^i%2 else 2*mf a (i+1)+a/2^i%2-LQ:=by
 unfold mf;have e:a/2^(i+1)=a/2^i/2:=by rw[fk,lP]
 rw[e];generalize a/2^i=v;unfold LQ;grind
def Oz(a i:Nat):mf a i<LQ:=pY _ (by unfold LQ;decide)
def OD(h:da m):mf (vW m) (64*m.length)=0:=by
 unfold mf;rw[Nat.div_eq_of_lt]
 ·rfl
 ·have:=sR m h;rwa[show 18446744073709551616=2^64 by decide,<-qb] at this
def Oy(h:da m)(hd:m[i/64]?=some g):g/2^(i%64)%2=vW m/2^i%2:=by
 have a:=Dz m (i/64) g h hd;have e:2^i=18446744073709551616^(i/64)*2^(i%64):=by
  rw[show 18446744073709551616=2^64 by decide,<-qb,<-kH];congr 1;omega
 rw[e,<-lP,<-a];generalize vW m/18446744073709551616^(i/64)=v;have b:i%64<64:=by omega
 generalize i%64=r at*;have e2:18446744073709551616=2^r*2^(64-r):=by rw[<-kH,show r+(64-r)=64 by omega]
 rw[e2,LO,Nat.mod_mod_of_dvd _ ⟨2^(63-r),by rw[<-Nat.pow_succ'];grind⟩]
def sA:List Nat:=[6346243789798364141,1503914060200516822,0,1152921504606846976]
def VU:vW sA=LQ:=by decide
def VT:da sA:=by intro d hd;simp only[sA,bV,rz,sz] at hd;omega
structure pG(t:List Nat)(n k c:Nat):Prop where
 len:t.length=9
 ok:da t
 a:c<18446744073709551616
 eq:vW t+c*18446744073709551616^k=n
def pG.mul{z' c' m:Nat}(h:pG p n k g)(a:p[k]?=some i)(b:z'+c'*18446744073709551616=i+g+m)(h1:z'<18446744073709551616)(h2:c'<18446744073709551616):pG (p.set k z') (n+m*18446744073709551616^k) (k+1) c':=by
 refine⟨by rw[hH];exact h.len,h.ok.set k h1,h2,?_⟩;have e1:=DB p k z' i a;have e2:=h.eq;grind
def mulN(x y c:List Nat)(i j:Nat):Nat:=vW c+vW (x.take i)*vW y+x.getD i 0*vW (y.take j)*18446744073709551616^i
def Vj(x y c:List Nat):mulN x y c 0 0=vW c:=by simp[mulN,vW]
def Vi{c:List Nat}(a:m[i]?=some n)(b:p[g]?=some k):mulN m p c i g+n*k*18446744073709551616^(i+g)=mulN m p c i (g+1):=by
 unfold mulN;rw[uW b,eY,a,vE,Nat.mul_add,kG,kH,zx (vW c+_)];grind
def Vh{c:List Nat}(a:m[i]?=some g)(b:p.length=4):mulN m p c i 4=mulN m p c (i+1) 0:=by
 unfold mulN;rw[cS (by omega:p.length<=4),uW a,eY,a,vE,pU];simp only[vW,vC,tn,hJ];grind
def Vf{c:List Nat}(hx:m.length=4):mulN m p c 4 0=vW c+vW m*vW p:=by
 unfold mulN;grind
def Vg{c:List Nat}(hx:da m)(f:da p)(d:da c)(l:m.length=4)(g:p.length=4)(e:c.length=4):mulN m p c i 0<18446744073709551616^9:=by
 unfold mulN;have h:=sR (m.take i) (hx.take i);have a:=sR p f;have b:=sR c d;have j:18446744073709551616^(m.take i).length<=18446744073709551616^4:=pZ zD (by grind);rw[g] at a;rw[e] at b;have k:vW (m.take i)*vW p<=18446744073709551616^4*18446744073709551616^4:=zC W W;simp only[cO,vW,vC,tn,hJ];omega
end SC
end
