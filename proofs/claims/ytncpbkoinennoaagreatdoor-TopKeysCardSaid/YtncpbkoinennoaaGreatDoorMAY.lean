import Derived.ChangeMaps5
import Derived.Lib.LaidTab
import Derived.MapKept
import Derived.Stop.LaidErr
import Derived.Test.YtncpbkoinennoaaGreatDoorCards
import Derived.Test.YtncpbkoinennoaaGreatDoorTie
import Derived.Test.YtncpbkoinennoaaGreatDoorMAW
set_option linter.all false
set_option maxRecDepth 100000
set_option maxHeartbeats 0
namespace Go.Proofs.YtncpbkoinennoaaGreatDoor
open Go.RowKit Proofs.Tryz
attribute [local irreducible] wpList Calls
variable{a:Act}{B:Array Bool}{I:List Y}{m:List Nat}{g i:Nat}{o:Oper}
section
section
variable{P:Program}{Q:Exit->Act->aa->Prop}{S:aa->Prop}{l:List Oper}
def Av(l:List Oper)(Q:Exit->Act->aa->Prop)(b:Array Bool)(a:Act)(w:aa):Prop:=Region.ready .any l.toArray b=[]/\Q .normal a w
def dh(P:Program)(l:List Oper)(Q:Exit->Act->aa->Prop)(S:aa->Prop)(f:Nat)(b:Array Bool)(a:Act)(w:aa):Prop:=
 Region.noSelect l.toArray=true->fa P .any l.toArray Q S l.length (Av l Q) f b a w
def Ll{ops:Array Oper}(h:g∈Region.ready .any ops B):g<ops.size:=by
 obtain⟨_,o,a,_⟩:=lz.1 h;grind
def fa.R4{v:ab}(s:l.toArray[i]?=some o)(y:∀(j:Nat) (d:Oper) k b,l.toArray[j]?=some d->d.op≠ .select k b)
 (A:∀c a w,Q (.panic c) (a.put o.dst v) w->Q (.panic c) a w):
 ∀(f:Nat) (g:Array Bool) (a:Act) (w:aa),
  (∀j m,l.toArray[j]?=some m->j≠i->g.getD j true=false->(∀e∈m.after,Region.binds .any e=true->e.on≠i)->o.apart l.toArray m=true)->
  i∈Region.ready .any l.toArray g->YieldsIf P l.toArray S o v a->S w->
  fa P .any l.toArray Q S l.length (Av l Q) f (g.setIfInBounds i true) (a.put o.dst v) w->fa P .any l.toArray Q S l.length (Av l Q) (f+1) g a w:=by
 intro f
 induction f with
 |zero=>
  intro g a w _ u r p H
  refine⟨λ h=>(by grind),λ j n=>⟨by simpa using Ll n,?_⟩⟩
  by_cases d:j=i
  ·subst d;exact r.wpOp s p ⟨p,H⟩
  ·have q:=vX n d
   rw[H.1] at q;cases q
 |succ f I=>
  intro g a w x u r p H
  have M:=(lz.1 u).1
  refine⟨λ h=>(by grind),λ j n=>⟨by simpa using Ll n,?_⟩⟩
  by_cases d:j=i
  ·subst d;exact r.wpOp s p ⟨p,H⟩
  ·have q:=(H.2 j (vX n d)).2
   obtain⟨C,m,t,J⟩:=lz.1 n
   have G:∀e∈m.after,Region.binds .any e=true->e.on≠i:=by grind
   have z:=wpOp_putIf t (x j m t d C G) (λ k b=>y i o k b s) (λ k b=>y j m k b t) A r q
   have B:∀k ok,l.toArray[k]?=some ok->k≠i->(g.setIfInBounds j true).getD k true=false->
    (∀e∈ok.after,Region.binds .any e=true->e.on≠i)->o.apart l.toArray ok=true:=λ k ok D E L F=>by
    refine x k ok D E ?_ F
    by_cases K:j=k
    ·grind
    simp_all
   refine wpOp_mono (λ e k b=>⟨b.2.1,I (g.setIfInBounds j true) e k B (vX u (gr d)) b.1 b.2.1 ?_⟩) z
   rw[Array.setIfInBounds_comm _ _ d]
   grind
def dh.fK{oi:Oper}{v:ab}{w:aa}(k:Tmp)(d:l.toArray[i]?=some oi)(m:oi.dst=some k)
 (j:Region.free .any l.toArray B i=true) (n:(Region.ready .any l.toArray B).contains i=true)
 (e:∀c a w,Q (.panic c) (a.put oi.dst v) w->Q (.panic c) a w) (p:YieldsIf P l.toArray S oi v a) (f:S w)
 (h:dh P l Q S g (B.setIfInBounds i true) {a with tmps:=a.tmps.setIfInBounds k v} w):dh P l Q S (g+1) B a w:=λ b=>by
 have o:i∈Region.ready .any l.toArray B:=by simpa using n
 refine fa.R4 d (Region.noSelect_spec b) e g B a w (Region.free_spec d j) o p f ?_
 rw[m];exact h b
def dh.one{w:aa}(d:Region.ready .any l.toArray B=[i])(m:l.toArray[i]?=some o)
 (h:∀b:Act->aa->Prop,Shut (∀a w,S w->(S w->dh P l Q S g (B.setIfInBounds i true) a w)->b a w)->if Region.wanted o (yielded l.toArray a.tmps)=true then Oper.wp P o a w b Q else b (a.put o.dst undef) w):
 dh P l Q S (g+1) B a w:=λ e=>by
 have n:i∈Region.ready .any l.toArray B:=by rw[d];simp
 refine⟨by grind,λ j c=> ?_⟩
 rw[d,ud] at c
 subst c
 exact⟨by grind,zQ m (λ b f=>h b (λ a w b k=>f a w ⟨b,k b e⟩))⟩
def dh.done{w:aa}(b:Region.ready .any l.toArray B=[])(h:Q .normal a w):dh P l Q S 0 B a w:=λ _=>⟨b,h⟩
def dh.eL{w:aa}(u:Region.ready .any l.toArray B=[i])(t:l.toArray[i]?=some o)(s:o.guard=none)(k:Tmp)(hd:o.dst=some k){c:Call}(p:o.op= .call c)(d:FuncId)(r:c.callee= .value (.func d))
 (q:∀e b,(callFunc d e).run P b= .ok (.enter d e) b) (f:List ab) (x:c.args.toList.mapM (fk a)=some f)
 (h:Calls P d f.toArray w λ e b=>∃v,e=ao v/\S b/\dh P l Q S g (B.setIfInBounds i true) {a with tmps:=a.tmps.setIfInBounds k v} b):dh P l Q S (g+1) B a w:=by
 refine dh.one u t (λ z j=> ?_)
 have y:Region.wanted o (yielded l.toArray a.tmps)=true:=by unfold Region.wanted;rw[s]
 rw[au y]
 refine tL p r (vs:=f.toArray) ?_ q (h.mono ?_)
 ·apply ju
  simpa using Jv _ _ x
 ·rintro e b ⟨v,rfl,m,n⟩
  refine⟨v,rfl,?_⟩
  refine j _ _ m (λ _=> ?_)
  rw[hd]
  exact n
end
def ae.Ye{Q:Exit->Act->aa->Prop}{l:List Oper}{w b:aa}{id:Nat}(i:ae b w m I)(S:aa->Prop)(f:prog.follows .mixedOrders=true)(d:Region.noSelect l.toArray=true)
 (h:∀c,ae b c m I->dh prog l Q S l.length (Array.replicate l.length false) a c):(Code.region id l.toArray true).wp prog Q a w:=by
 refine wp_region_any f ?_
 have:=fa.any (Q:=Q) (g:=0) (λ j c k e=>(show wpAny prog .any l.toArray Q 0 j c k from e)) _ _ _ _ (h _ i.drew d)
 rw[oD]
 exact this
end
variable{r:Int}{X:Operand}
def eu:List (Int×ab)->Int->Option (Nat×ab)
 |[],_=>none
 |p::l,x=>if x=p.1 then some (0,p.2) else(eu l x).map λ q=>(q.1+1,q.2)
def je(z:ab)(es:List (Int×ab))(x:Int):ab:=match eu es x with|none=>z|some p=>p.2
def pr(es:List (Int×ab))(x:Int)(v:ab):List (Int×ab):=match eu es x with|none=>es++[(x,v)]|some p=>es.set p.1 (x,v)
def rf(es:List (Int×ab))(x:Int):List (Int×ab):=match eu es x with|none=>es|some p=>es.eraseIdx p.1
def kt(p:Int×ab):ab×ab:=(O p.1,p.2)
def lo(e:MapEntry):ab×ab:=(e.key,e.val)
def Io:∀(L:List MapEntry) (es:List (Int×ab)) (x:Int) (i:Nat),L.map lo=es.map kt->Instr.findNow (.int .i64) (O x) L i=some ((eu es x).map λ p=>(i+p.1,p.2))
 |[],[],x,i,h=>rfl
 |[],_::_,x,i,h=>by simp at h
 |_::_,[],x,i,h=>by simp at h
 |e::L,p::es,x,i,h=>by
  simp only[bZ,List.cons.injEq] at h
  obtain⟨c,d⟩:=h
  have j:e.key=O p.1:=congrArg Prod.fst c
  have q:e.val=p.2:=congrArg Prod.snd c
  unfold Instr.findNow eu
  rw[j]
  have r:=Io L es x (i+1) d
  by_cases hx:x=p.1
  ·have b:(x==p.1)=true:=by simp[hx]
   rw[au hx]
   simp[Instr.sameNow,b,q]
  ·have b:(x==p.1)=false:=by simp[hx]
   rw[ar hx]
   simp only[Instr.sameNow,b,↓reduceIte,r]
   cases eu es x<;>simp<;>omega
def Da:∀(es:List (Int×ab)) (x:Int) (p:Nat×ab),eu es x=some p->es[p.1]?=some (x,p.2)
 |[],x,p,h=>by cases h
 |q::es,x,p,h=>by
  unfold eu at h
  by_cases hx:x=q.1
  ·grind
  ·rw[ar hx] at h
   cases b:eu es x with
   |none=>grind
   |some r=>
    rw[b] at h
    cases h
    simpa using Da es x r b
section
variable{P:Program}{w:aa}{g:Nat}{es:List (Int×ab)}{A:Array MapEntry}{clock:Nat}{t k e:TypeId}
def qU(d:P.underlying k=some (.int .i64))(c:A.toList.map lo=es.map kt)(x:Int):(Instr.findKey k (O x) A.toList).run P w= .ok (eu es x) w:=by
 have h:=Io A.toList es x 0 c;have b:((eu es x).map λ p=>(0+p.1,p.2))=eu es x:=by cases eu es x<;>simp
 rw[b] at h;simp[Instr.findKey,hX d,h]
def qJ(c:P.underlying k=some (.int .i64))(x:Int)(b:Bool):(Instr.checkKey b 10000 k (O x)).run P w= .ok () w:=
 MapKept.run_checkKey (n:=9999) (k:=O x) c (show IntKind.i64=IntKind.i64 from rfl) b
def U4(h:w.heap[g]?=some (.map A clock))(d:A.toList.map lo=es.map kt)(q:P.underlying t=some (.map k e))(c:P.underlying k=some (.int .i64)){z:ab}(r:(zeroValue e).run P w= .ok z w)(x:Int)(b:Bool):
 (Instr.lookup t (.map (some g)) (O x) b).run P w= .ok (if b=true then aM #[je z es x,aK (eu es x).isSome] else je z es x) w:=by
 unfold je
 cases j:eu es x with
 |none=>simp[Instr.lookup,hX q,qj h,qJ c,qU c d,j,r,Result.andThen]
 |some p=>simp[Instr.lookup,hX q,qj h,qJ c,qU c d,j,Result.andThen]
def abC(c:w.heap[g]?=some (.map A clock))(b:A.toList.map lo=es.map kt)(s:P.underlying t=some (.map k e))(d:P.underlying k=some (.int .i64))(x:Int)(v:ab):
 ∃h j,(Instr.mapUpdate t (.map (some g)) (O x) v).run P w= .ok () {w with heap:=w.heap.setIfInBounds g (.map h j)}/\h.toList.map lo=(pr es x v).map kt:=by
 unfold pr
 cases q:eu es x with
 |none=>
  refine⟨A.push ⟨O x,v,clock⟩,clock+1,?_,?_⟩
  ·simp[Instr.mapUpdate,hX s,qj c,qJ d,qU d b,q,uh _ c,Result.andThen]
  ·simp[b,lo,kt]
 |some p=>
  have u:=Da es x p q
  have r:(A.toList.map lo)[p.1]?=some (O x,p.2):=by rw[b,ef,u];rfl
  rw[ef] at r
  obtain⟨en,y,B⟩:=Option.map_eq_some_iff.1 r
  have D:en.key=O x:=congrArg Prod.fst B
  have h:A[p.1]?=some en:=by simpa using y
  have F:Instr.sameBits 10000 (O x) (O x)=true:=by simp[Instr.sameBits]
  refine⟨A.modify p.1 λ e=>{e with key:=O x,val:=v},clock,?_,?_⟩
  ·simp[Instr.mapUpdate,hX s,qj c,qJ d,qU d b,q,h,D,Instr.keyThatStays,F,uh _ c,Result.andThen]
  ·rw[lU]
   apply FU
   intro i
   have j:=congrArg (λ l=>l[i]?) b
   simp only[ef] at j
   rw[List.getElem?_set]
   simp only[ef,Array.getElem?_toList,Ad] at j⊢
   have E:(es.map kt).length=A.size:=by rw[<-b];simp
   by_cases C:p.1=i
   ·subst C
    rw[h] at j⊢
    have:p.1<es.length:=by
     rw[cC] at E
     have:=(mT.1 h).1
     omega
    simp[this,lo,kt]
   grind
def Qx(c:w.heap[g]?=some (.map A clock))(b:A.toList.map lo=es.map kt)(j:P.underlying t=some (.map k e))(d:P.underlying k=some (.int .i64))(x:Int)(u:TypeId):
 ∃h p,(Builtin.delete_ #[t,k] u #[.map (some g),O x]).run P w= .ok (aM #[]) {w with heap:=w.heap.setIfInBounds g (.map h p)}/\h.toList.map lo=(rf es x).map kt:=by
 unfold rf
 cases h:eu es x with
 |none=>
  refine⟨A,clock,?_,b⟩
  simp[Builtin.delete_,hX j,qj c,qJ d,qU d b,h,uh _ c,Result.andThen]
 |some p=>
  refine⟨A.eraseIdxIfInBounds p.1,clock,?_,?_⟩
  ·simp[Builtin.delete_,hX j,qj c,qJ d,qU d b,h,uh _ c,Result.andThen]
  ·have q:=Da es x p h
   have r:(es.map kt).length=A.size:=by rw[<-b];simp
   have:p.1<A.size:=by
    rw[cC] at r
    have:=(cw.1 q).1
    omega
   rw[Array.eraseIdxIfInBounds,dif_pos this]
   rw[Array.toList_eraseIdx]
   have e1:∀{α β:Type} (f:α->β) (l:List α) (i:Nat),(l.eraseIdx i).map f=(l.map f).eraseIdx i:=λ f l i=>by
    induction l generalizing i with
    |nil=>simp
    |cons a l s=>cases i<;>simp[s]
   grind
def Rx(b:w.heap[g]?=some (.map #[] clock))(h:P.underlying t=some (.map k e))(c:P.underlying k=some (.int .i64)){z:ab}(j:∀w,(zeroValue e).run P w= .ok z w)(x:Int):
 (Instr.mapEntry t (.map (some g)) (O x)).run P w= .ok (aM #[z,O (clock:Int)]) {w with heap:=w.heap.setIfInBounds g (.map #[⟨O x,z,clock⟩] (clock+1))}:=by
 have d:(Instr.findKey k (O x) ([]:List MapEntry)).run P w= .ok none w:=qU (A:=#[]) (es:=[]) c rfl x
 simp[Instr.mapEntry,hX h,qj b,qJ c,d,j,uh _ b,Result.andThen,goInt]
def RT{z:ab}(b:w.heap[g]?=some (.map #[⟨O r,z,clock⟩] (clock+1)))(v:ab):
 (Instr.entryStore t (.map (some g)) (O (clock:Int)) v).run P w= .ok () {w with heap:=w.heap.setIfInBounds g (.map #[⟨O r,v,clock⟩] (clock+1))}:=by
 simp[Instr.entryStore,qj b,asInt,asIntOf,uh _ b,Result.andThen]
end
def Y.mp(g:Nat)(es:List (Int×ab)):Y:=
 ⟨[g],λ w=>∃A clock,w.heap[g]?=some (.map A clock)/\A.toList.map lo=es.map kt,
  (λ w j h ⟨A,c,b,d⟩=>⟨A,c,(h g zS).trans b,d⟩),(λ _ _=>by simp),(λ w ⟨A,c,b,d⟩ k b=>by
   grind)⟩
def Y.rl(g:Nat)(x:Int)(z:ab)(clock:Nat):Y:=
 ⟨[g],λ w=>w.heap[g]?=some (.map #[⟨O x,z,clock⟩] (clock+1)),
  (λ w d h b=>(h g zS).trans b),(λ _ _=>by simp),(λ w b k c=>by
   grind)⟩
structure fX(t:TypeId)(z:ab):Prop where
 ex:∃k e,prog.underlying t=some (.map k e)/\prog.underlying k=some (.int .i64)/\∀w:aa,(zeroValue e).run prog w= .ok z w
def yM{w:aa}{g:Nat}{A b:Array MapEntry}{c d:Nat}(h:w.heap[g]?=some (.map A c)):aW w.heap.size [g] w {w with heap:=w.heap.setIfInBounds g (.map b d)}:=by
 refine⟨rfl,rfl,rfl,by simp,λ k p q=> ?_⟩;grind
def yl{w:aa}{g:Nat}{A b:Array MapEntry}{c d:Nat}(h:w.heap[g]?=some (.map A c)):({w with heap:=w.heap.setIfInBounds g (.map b d)}:aa).heap[g]?=some (.map b d):=by
 grind
section
variable{w:aa}{g:Nat}{es:List (Int×ab)}{t k:TypeId}{z:ab}
def Y.Dc(h:(Y.mp g es).P w)(p:fX t z)(x:Int)(b:Bool):(Instr.lookup t (.map (some g)) (O x) b).run prog w= .ok (if b=true then aM #[je z es x,aK (eu es x).isSome] else je z es x) w:=by
 obtain⟨A,c,d,j⟩:=h;obtain⟨k,e,m1,m2,m3⟩:=p.ex;exact U4 d j m1 m2 (m3 w) x b
def Y.JL(h:(Y.mp g es).P w)(q:fX t z)(x:Int)(v:ab):∃b,(Instr.mapUpdate t (.map (some g)) (O x) v).run prog w= .ok () b/\bk (Y.mp g es) w b (Y.mp g (pr es x v)):=by
 obtain⟨A,c,b,p⟩:=h;obtain⟨k,e,m1,m2,m3⟩:=q.ex;obtain⟨d,j,s,u⟩:=abC b p m1 m2 x v;exact⟨_,s,yM b,⟨d,j,yl b,u⟩,λ k r=> .inl r⟩
def Y.VB(h:(Y.mp g es).P w){e:TypeId}(m1:prog.underlying t=some (.map k e))(m2:prog.underlying k=some (.int .i64))(x:Int)(d:TypeId):∃b,(Builtin.delete_ #[t,k] d #[.map (some g),O x]).run prog w= .ok (.tuple #[]) b/\bk (Y.mp g es) w b (Y.mp g (rf es x)):=by
 obtain⟨A,c,b,q⟩:=h;obtain⟨j,p,s,u⟩:=Qx b q m1 m2 x d;exact⟨_,s,yM b,⟨j,p,yl b,u⟩,λ k r=> .inl r⟩
def Y.VC(h:(Y.mp g []).P w)(p:fX t z)(x:Int):∃(c:Nat) (b:aa),(Instr.mapEntry t (.map (some g)) (O x)).run prog w= .ok (aM #[z,O (c:Int)]) b/\bk (Y.mp g []) w b (Y.rl g x z c):=by
 obtain⟨A,c,b,d⟩:=h;obtain⟨k,e,m1,m2,m3⟩:=p.ex;have j:A=#[]:=by
  have:A.toList=[]:=by simpa using d
  simpa using congrArg List.toArray this
 subst j;exact⟨c,_,Rx b m1 m2 m3 x,yM b,yl b,λ k q=> .inl q⟩
def Y.VE{c:Nat}(h:(Y.rl g r z c).P w)(v:ab):∃b,(Instr.entryStore t (.map (some g)) (O (c:Int)) v).run prog w= .ok () b/\bk (Y.rl g r z c) w b (Y.mp g [(r,v)]):=
 ⟨_,RT (P:=prog) (t:=t) h v,yM h,⟨_,_,yl h,rfl⟩,λ k b=> .inl b⟩
def Y.VD(w:aa):(Y.mp w.heap.size []).P (w.alloc (.map #[] 0)):=⟨#[],0,(MapKept.heap_alloc w _).1,rfl⟩
end
def ae.allocMap{w wr:aa}{m:List Nat}{aj:List Y}(h:ae w wr m aj):ae w (wr.alloc (.map #[] 0)) m (Y.mp wr.heap.size []::aj):=by
 refine h.join (bJ wr _) _ (Y.VD wr) (λ k b=> ?_);have:k=wr.heap.size:=by simpa[Y.mp] using b
 omega
section
variable{ops:Array Oper}{rest:List Oper}{op:Oper}{a:Act}{Q:Exit->Act->aa->Prop}{w wr:aa}{m:List Nat}{aj:List Y}{t:TypeId}{z:ab}{g:Nat}{es:List (Int×ab)}{K:Act->aa->Prop}
def ae.lk(h:ae w wr m aj)(j:fX t z){y:Operand}{b:Bool}(q:op.op= .lookup t X y b)(i:Nat)(p:aj[i]?=some (Y.mp g es))(hx:a.eval X= .map (some g))(u:a.eval y=O r){v:ab}
 (s:(if b=true then aM #[je z es r,aK (eu es r).isSome] else je z es r)=v) (d:K (a.put op.dst v) wr):op.wp prog a wr K Q:=by
 have c:=Y.Dc (h.get p) j r b
 rw[s] at c
 unfold Oper.wp
 simp only[execOp,q,hx,u,c,cO,dN,dd]
 exact d
def Lk(h:ae w wr m aj)(i:Nat)(q:aj[i]?=some (Y.mp g es))(p:Region.wanted op (yielded ops a.tmps)=true)(d:fX t z){y:Operand}{b:Bool}(s:op.op= .lookup t X y b)(hx:a.eval X= .map (some g))(x:a.eval y=O r){v:ab}
 (u:(if b=true then aM #[je z es r,aK (eu es r).isSome] else je z es r)=v) (j:wpList prog ops Q rest (a.put op.dst v) wr):wpList prog ops Q (op::rest) a wr:=
 eF p λ K c=>h.lk d s i q hx x u (c _ _ j)
def ae.mu(h:ae w wr m aj)(j:fX t z){y u:Operand}(p:op.op= .mapUpdate t X y u)(i:Nat)(b:aj[i]?=some (Y.mp g es))(hx:a.eval X= .map (some g))(x:a.eval y=O r){v:ab}(s:a.eval u=v)
 (d:∀c,ae w c m (aj.set i (Y.mp g (pr es r v)))->K (a.put op.dst undef) c):op.wp prog a wr K Q:=by
 obtain⟨B,c,q⟩:=Y.JL (h.get b) j r v
 unfold Oper.wp
 simp only[execOp,p,hx,x,s,c,cO,dN,dd]
 exact d _ (h.at i b q)
def Mu(h:ae w wr m aj)(i:Nat)(q:aj[i]?=some (Y.mp g es))(p:Region.wanted op (yielded ops a.tmps)=true)(d:fX t z){y u:Operand}(x:op.op= .mapUpdate t X y u)(hx:a.eval X= .map (some g))(C:a.eval y=O r){v:ab}(B:a.eval u=v)
 (j:∀b,ae w b m (aj.set i (Y.mp g (pr es r v)))->wpList prog ops Q rest (a.put op.dst undef) b):wpList prog ops Q (op::rest) a wr:=
 eF p λ K c=>h.mu d x i q hx C B (λ b s=>c _ _ (j b s))
def ae.ins(h:ae w wr m aj)(j:fX t z){y u:Operand}(p:op.op= .insert t X y u)(i:Nat)(b:aj[i]?=some (Y.mp g es))(hx:a.eval X= .map (some g))(x:a.eval y=O r){v:ab}(s:a.eval u=v)
 (d:∀c,ae w c m (aj.set i (Y.mp g (pr es r v)))->K (a.put op.dst undef) c):op.wp prog a wr K Q:=by
 obtain⟨B,c,q⟩:=Y.JL (h.get b) j r v
 unfold Oper.wp
 simp only[execOp,p,hx,x,s,c,cO,dN,dd]
 exact d _ (h.at i b q)
def Mi(h:ae w wr m aj)(i:Nat)(q:aj[i]?=some (Y.mp g es))(p:Region.wanted op (yielded ops a.tmps)=true)(d:fX t z){y u:Operand}(x:op.op= .insert t X y u)(hx:a.eval X= .map (some g))(C:a.eval y=O r){v:ab}(B:a.eval u=v)
 (j:∀b,ae w b m (aj.set i (Y.mp g (pr es r v)))->wpList prog ops Q rest (a.put op.dst undef) b):wpList prog ops Q (op::rest) a wr:=
 eF p λ K c=>h.ins d x i q hx C B (λ b s=>c _ _ (j b s))
def ae.md(h:ae w wr m aj){k e:TypeId}(m1:prog.underlying t=some (.map k e))(m2:prog.underlying k=some (.int .i64)){y:Operand}(j:op.op= .call {callee:= .builtin .delete,args:=#[X,y],argTypes:=#[t,k]})(i:Nat)(b:aj[i]?=some (Y.mp g es))(hx:a.eval X= .map (some g))(q:a.eval y=O r)
 (d:∀c,ae w c m (aj.set i (Y.mp g (rf es r)))->K (a.put op.dst (aM #[])) c):op.wp prog a wr K Q:=by
 obtain⟨s,c,p⟩:=Y.VB (h.get b) m1 m2 r op.type
 unfold Oper.wp
 simp[execOp,j,resolve,invoke,builtin,hx,q,c,Result.andThen]
 exact d _ (h.at i b p)
def Md(h:ae w wr m aj)(i:Nat)(p:aj[i]?=some (Y.mp g es))(j:Region.wanted op (yielded ops a.tmps)=true){k e:TypeId}(m1:prog.underlying t=some (.map k e))(m2:prog.underlying k=some (.int .i64)){y:Operand}(s:op.op= .call {callee:= .builtin .delete,args:=#[X,y],argTypes:=#[t,k]})(hx:a.eval X= .map (some g))(u:a.eval y=O r)
 (d:∀b,ae w b m (aj.set i (Y.mp g (rf es r)))->wpList prog ops Q rest (a.put op.dst (aM #[])) b):wpList prog ops Q (op::rest) a wr:=
 eF j λ K c=>h.md m1 m2 s i p hx u (λ b q=>c _ _ (d b q))
def ae.JK(h:ae w wr m aj)(d:op.op= .makeMap t none)
 (c:∀g b,w.heap.size<=g->ae w b m (Y.mp g []::aj)->K (a.put op.dst (.map (some g))) b):op.wp prog a wr K Q:=by
 unfold Oper.wp
 simp[execOp,d,Instr.makeMap,Result.andThen]
 exact c _ _ h.size h.allocMap
def w9(h:ae w wr m aj)(p:Region.wanted op (yielded ops a.tmps)=true)(k:Tmp)(hd:op.dst=some k)(t:TypeId)(r:op.op= .makeMap t none)
 (d:∀g b,w.heap.size<=g->ae w b m (Y.mp g []::aj)->wpList prog ops Q rest (a.put (some k) (.map (some g))) b):wpList prog ops Q (op::rest) a wr:=
 eF p λ K c=>h.JK r (λ g b j q=>c _ _ (by rw[hd];exact d g b j q))
def ae.me(h:ae w wr m aj)(p:fX t z){y:Operand}(q:op.op= .mapEntry t X y)(i:Nat)(b:aj[i]?=some (Y.mp g []))(hx:a.eval X= .map (some g))(u:a.eval y=O r)
 (j:∀(c:Nat) d,ae w d m (aj.set i (Y.rl g r z c))->K (a.put op.dst (aM #[z,O (c:Int)])) d):op.wp prog a wr K Q:=by
 obtain⟨c,v,d,s⟩:=Y.VC (h.get b) p r
 unfold Oper.wp
 simp only[execOp,q,hx,u,d,cO,dN,dd]
 exact j _ _ (h.at i b s)
def ae.ms(h:ae w wr m aj){y u:Operand}(p:op.op= .entryStore t X y u)(i:Nat){c:Nat}(b:aj[i]?=some (Y.rl g r z c))(hx:a.eval X= .map (some g))(x:a.eval y=O (c:Int)){v:ab}(s:a.eval u=v)
 (j:∀d,ae w d m (aj.set i (Y.mp g [(r,v)]))->K (a.put op.dst undef) d):op.wp prog a wr K Q:=by
 obtain⟨B,d,q⟩:=Y.VE (t:=t) (h.get b) v
 unfold Oper.wp
 simp only[execOp,p,hx,x,s,d,cO,dN,dd]
 exact j _ (h.at i b q)
end
def Y.all(L:List Y):Y:=
 ⟨blocks L,λ w=>(∀b∈L,b.P w)/\(blocks L).Nodup,(λ w q h ⟨c,d⟩=>⟨λ b p=>b.st w q (λ k j=>h k (rh p j)) (c b p),d⟩),(λ w h=>h.2),(λ w h k j=>by
  obtain⟨b,c,d⟩:=F0.1 j
  exact b.lt w (h.1 b c) k d)⟩
def ae.MP{w wr:aa}{m:List Nat}{L rest:List Y}(h:ae w wr m (Y.all L::rest)):ae w wr m (L++rest):=by
 have c:blocks (Y.all L::rest)=blocks (L++rest):=by rw[fO,qF];rfl
 refine⟨h.only,λ d j=> ?_,λ k p=>h.own k (c▸p),c▸h.b⟩;rcases eB.1 j with b|b
 ·exact(h.ok (Y.all L) zS).1 d b
 ·exact h.ok d (mQ b)
def ae.JJ{w wr:aa}{m:List Nat}(L:List Y){rest:List Y}(h:ae w wr m (L++rest)):ae w wr m (Y.all L::rest):=by
 have c:blocks (Y.all L::rest)=blocks (L++rest):=by rw[fO,qF];rfl
 have r:(blocks L).Nodup:=(lV.1 (by have:=h.b;rwa[qF] at this)).1;refine⟨h.only,λ b p=> ?_,λ k q=>h.own k (c▸q),c▸h.b⟩;rcases bO.1 p with rfl|d
 ·exact⟨λ b j=>h.ok b (oB _ j),r⟩
 ·exact h.ok b (rT _ d)
def Vx(z:ab)(x:Int)(v:ab):je z [(x,v)] x=v:=by simp[je,eu]
def JG(x:Int)(v:ab):rf [(x,v)] x=[]:=by simp[rf,eu]
section
variable{ops:Array Oper}{op:Oper}{a:Act}{L:List Y}{g:Nat}{es:List (Int×ab)}{t:TypeId}{z:ab}
def YL(j:Region.wanted op (yielded ops a.tmps)=true)(i:Nat)(c:L[i]?=some (Y.mp g es))(b:fX t z){y:Operand}(q:op.op= .lookup t X y false)(hx:a.eval X= .map (some g))(s:a.eval y=O r){v:ab}
 (h:je z es r=v):YieldsIf prog ops (ba L) op v a:=
 .inl ⟨j,λ w p=>by
  have d:=Y.Dc (p _ (cX c)) b r false
  rw[ar zD,h] at d
  unfold execOp
  simp_all⟩
end
section
variable{Q:Exit->Act->aa->Prop}{S:aa->Prop}{n:Nat}{l:List Oper}{i f:Nat}{o:Oper}{listed:Array Bool}{a:Act}{w0 w:aa}{m:List Nat}{aj:List Y}{t:TypeId}{z:ab}{g:Nat}{es:List (Int×ab)}
def One.me(C:ae w0 w m aj)(D:Region.wanted o (yielded l.toArray a.tmps)=true)(d:Tmp)(hd:o.dst=some d)(k:Nat)(u:aj[k]?=some (Y.mp g []))(s:fX t z){x y:Operand}(B:o.op= .mapEntry t x y)(hx:a.eval x= .map (some g)){q:Int}(E:a.eval y=O q)
 (h:∀(c:Nat) b,ae w0 b m (aj.set k (Y.rl g q z c))->S b/\ay prog l Q S n f (listed.setIfInBounds i true) {a with tmps:=a.tmps.setIfInBounds d (aM #[z,O (c:Int)])} b):One prog l Q S n f listed a w i o:=by
 intro F r
 rw[au D]
 refine C.me s B k u hx E (λ c b v=> ?_)
 obtain⟨j,p⟩:=h c b v
 refine r _ _ j (λ _=> ?_)
 rw[hd]
 exact p
def One.ms(C:ae w0 w m aj)(E:Region.wanted o (yielded l.toArray a.tmps)=true)(hd:o.dst=none)(k:Nat){q:Int}{c:Nat}(r:aj[k]?=some (Y.rl g q z c)){x y u:Operand}(B:o.op= .entryStore t x y u)(hx:a.eval x= .map (some g))(F:a.eval y=O (c:Int)){v:ab}(D:a.eval u=v)
 (h:∀b,ae w0 b m (aj.set k (Y.mp g [(q,v)]))->S b/\ay prog l Q S n f (listed.setIfInBounds i true) a b):One prog l Q S n f listed a w i o:=by
 intro G p
 rw[au E]
 refine C.ms B k r hx F D (λ b s=> ?_)
 obtain⟨d,j⟩:=h b s
 refine p _ _ d (λ _=> ?_)
 rw[hd]
 exact j
def One.mk(u:ae w0 w m aj)(v:Region.wanted o (yielded l.toArray a.tmps)=true)(d:Tmp)(hd:o.dst=some d)(s:o.op= .makeMap t none)
 (h:∀g b,w0.heap.size<=g->ae w0 b m (Y.mp g []::aj)->S b/\ay prog l Q S n f (listed.setIfInBounds i true) {a with tmps:=a.tmps.setIfInBounds d (.map (some g))} b):One prog l Q S n f listed a w i o:=by
 intro x p
 rw[au v]
 refine u.JK s (λ g b q r=> ?_)
 obtain⟨c,j⟩:=h g b q r
 refine p _ _ c (λ _=> ?_)
 rw[hd]
 exact j
end
def Jx:fX 222 (O 0):=⟨⟨3,3,by simp,by simp,λ w=>by go_simp⟩⟩
abbrev ach:ab:=aG #[O 0,O 0,U 0,U 0,U 0,U 0,U 0,ad ⟨#[]⟩,ad ⟨#[]⟩,U 0,U 0,ad ⟨#[]⟩,ad ⟨#[]⟩,U 0,U 0,ad ⟨#[]⟩,ad ⟨#[]⟩,ag none 0 0,ag none 0 0,ag none 0 0]
def C8:fX 137 ach:=⟨⟨3,81,by simp,by simp,λ w=>by go_simp⟩⟩
def C9:fX 158 .nilFunc:=⟨⟨3,156,by simp,by simp,λ w=>by go_simp⟩⟩
def Jw:fX 130 .nilFunc:=⟨⟨3,53,by simp,by simp,λ w=>by go_simp⟩⟩
def Jy:fX 335 .nilFunc:=⟨⟨3,332,by simp,by simp,λ w=>by go_simp⟩⟩
def pQ:Nat->List Y->Option (Y×List Y)
 |_,[]=>none
 |0,A::l=>some (A,l)
 |i+1,A::l=>match pQ i l with
  |some (B,r)=>some (B,A::r)
  |none=>none
def MJ:∀{i:Nat} {aj:List Y} {B:Y} {r:List Y},pQ i aj=some (B,r)->aj.Perm (B::r)
 |_,[],_,_,h=>by unfold pQ at h;cases h
 |0,A::l,_,_,h=>by unfold pQ at h;cases h;exact List.Perm.refl _
 |i+1,A::l,B,r,h=>by
  unfold pQ at h
  cases b:pQ i l with
  |none=>rw[b] at h;cases h
  |some p=>
   obtain⟨C,c⟩:=p
   rw[b] at h
   cases h
   exact((MJ b).cons A).trans (List.Perm.swap _ _ _)
def sL:List Y->List Nat->Option (List Y)
 |aj,[]=>some aj
 |aj,i::t=>match Nat.beq i 1000 with
  |true=>(match aj with|_::r=>sL r t|[]=>none)
  |false=>(match pQ i aj with|some (A,l)=>sL (A::l) t|none=>none)
def ae.fs{w wr:aa}{m:List Nat}:∀{aj cJ:List Y} (h:ae w wr m aj) (c:List Nat) (b:sL aj c=some cJ:=by exact rfl),ae w wr m cJ
 |aj,cJ,h,[],b=>by unfold sL at b;cases b;exact h
 |aj,cJ,h,i::t,b=>by
  unfold sL at b
  cases d:Nat.beq i 1000 with
  |true=>
   rw[d] at b
   cases aj with
   |nil=>cases b
   |cons A r=>exact ae.fs h.tail t b
  |false=>
   rw[d] at b
   cases c:pQ i aj with
   |none=>rw[c] at b;cases b
   |some p=>obtain⟨A,l⟩:=p;rw[c] at b;exact ae.fs (h.perm (MJ c)) t b
def Iy(aj:List Y)(b:List Nat):List Y:=match sL aj b with|some r=>r|none=>aj
def ae.ft{w wr:aa}{m:List Nat}{aj:List Y}(h:ae w wr m aj)(b:List Nat):ae w wr m (Iy aj b):=by
 unfold Iy;split
 ·rename_i c;exact h.fs b c
 ·exact h
section
variable{ops:Array Oper}{op:Oper}{a:Act}{aj cJ L:List Y}{v z:ab}{g o:Nat}{t:TypeId}{cs qN vs:List ab}{x y u:Operand}{k:Tmp}{w wr:aa}{m:List Nat}{Q:Exit->Act->aa->Prop}{rest:List Oper}{es:List (Int×ab)}{q:Int}
def KM(d:ai (ae w wr m aj))(h:∀b,ai (ae w b m cJ)->wpList prog ops Q rest (a.put op.dst undef) b)(j:op.op= .insert t x y (.tmp k):=by exact rfl)(hx:a.eval x= .map (some g):=by exact rfl)(e:fX t z:=by first|exact Jw|exact C9|exact C8|exact Jx|exact Jy)
 (r:Y.mp g es∈aj:=by repeat first|with_reducible exact mZ|refine mQ ?_) (p:a.eval y=O q:=by exact rfl) (n:a.tmps.toList[k]?=some v:=by exact rfl) (f:Region.wanted op (yielded ops a.tmps)=true:=by exact rfl)
 (l:eh (Y.mp g es) (Y.mp g (pr es q v)) aj cJ:=by repeat first|with_reducible exact eh.head _|apply eh.tail):wpList prog ops Q (op::rest) a wr:=by
 obtain⟨i,e1,e2⟩:=l.idx
 exact Mi d.U i e1 f e j hx p (xV n) (λ b c=>h b (Z (by rw[<-e2] at c;exact c)))
end
variable{k n:Nat}{t:TypeId}
def IB:prog.globalNamed "syngraph/msg.has"=some 0:=by rfl
def IG:prog.globalNamed "syngraph/wide.begin"=some 1:=by rfl
def IH:prog.globalNamed "syngraph/wide.key"=some 2:=by rfl
def ID:prog.globalNamed "syngraph/scalar.order"=some 3:=by rfl
def IE:prog.globalNamed "syngraph/sha.begin"=some 5:=by rfl
def IF:prog.globalNamed "syngraph/sha.key"=some 6:=by rfl
def abp:(prog.globals[0]?).map (·.type)=some 161:=by rfl
def abu:(prog.globals[1]?).map (·.type)=some 172:=by rfl
def abv:(prog.globals[2]?).map (·.type)=some 251:=by rfl
def abq:(prog.globals[3]?).map (·.type)=some 184:=by rfl
def abr:(prog.globals[5]?).map (·.type)=some 355:=by rfl
def abt:(prog.globals[6]?).map (·.type)=some 380:=by rfl
def FB:List Int:=List.map (λ x:Nat=>(x:Int)) SC.te
def FC:List Int:=(vl ShaM.eK).map λ x=>(x.toNat:Int)
def FD:List Int:=ShaM.K.map λ x=>(x.toNat:Int)
def FE:List Int:=(WD.vl WM.eK).map λ x=>(x.toNat:Int)
def FF:List Int:=WM.K.map λ x=>(x.toNat:Int)
def FA:List (List UInt8):=[[],[107],[107],[108,104],[108,98],[108,105],[108,105,109,110],[108,105,104],[108,105,109,110,112],[108],[108,110]]
def Qe:(Rows.laid_syngraph_scalar_order:DataW Unit)=Lib.tabData .u64 FB:=by rfl
def Qh:(Rows.laid_syngraph_sha_begin:DataW Unit)=Lib.tabData .u32 FC:=by rfl
def Qi:(Rows.laid_syngraph_sha_key:DataW Unit)=Lib.tabData .u32 FD:=by rfl
def Qj:(Rows.laid_syngraph_wide_begin:DataW Unit)=Lib.tabData .u64 FE:=by rfl
def Qk:(Rows.laid_syngraph_wide_key:DataW Unit)=Lib.tabData .u64 FF:=by rfl
def Qc:(Rows.laid_syngraph_msg_has:DataW Unit)= .agg (FA.map λ z=> .lit (.string z)):=by rfl
def Up:prog.cellsOf 9=1:=by kernel_rfl
def CV:prog.cellsOf 46=1:=by kernel_rfl
def I9:prog.cellsOf 95=1:=by kernel_rfl
def Uj:prog.cellsOf 161=11:=by kernel_rfl
def Uk:prog.cellsOf 172=8:=by kernel_rfl
def Um:prog.cellsOf 251=80:=by kernel_rfl
def Ul:prog.cellsOf 184=4:=by kernel_rfl
def Un:prog.cellsOf 355=8:=by kernel_rfl
def Uo:prog.cellsOf 380=64:=by kernel_rfl
def sw{P:Program}{c:aa}{b:String}{a:Array ab}(e:P.globalNamed b=some g)(h:c.var? P b=some a):∃t d,c.heap[g]?=some (.cells a t d):=by
 unfold World.var? at h;grind
def Pz{H:Type}{enc:TypeId×ab->H}{P:Program}{w:aa}{A:Nat->Bool}{r:Bool}{e:TypeId}{c:List ab}{a:List (List UInt8)}{p:List MemPlace}
 (x:P.underlying t=some (.array n e)) (q:P.underlying e=some .string) (m:P.cellsOf e=1) (o:P.cellsOf t=n)
 (h:DataW.trod enc P w g A r k t c=some (.agg (a.map λ z=> .lit (.string z)),p)):c=a.map λ z=>Value.string ⟨z.toArray⟩:=by
 cases k with
 |zero=>simp[DataW.trod] at h
 |succ k=>
  simp only[DataW.trod,x,m,o,oG] at h
  split at h
  ·rename_i C
   obtain⟨d,f,hx⟩:=Option.map_eq_some_iff.1 h
   have y:d.map (·.1)=a.map λ z=>(DataW.lit (.string z):DataW H):=by
    have:=congrArg Prod.fst hx
    simpa using this
   have D:d.length=n:=by simpa using Lib.mapM_length f
   have E:a.length=n:=by
    have:=congrArg List.length y
    simp at this
    omega
   apply FU
   intro i
   by_cases v:i<n
   ·obtain⟨b,j,u⟩:=Lib.mapM_at f i i (by simp[v])
    obtain⟨s,l,rfl,_⟩:=DataW.trod_string q u
    have z:c[i]?=some (.string s):=by
     have:=congrArg (·[0]?) l
     simpa[wZ,wY] using this
    have B:(d.map (·.1))[i]?=some (DataW.lit (.string s.data.toList):DataW H):=by simp[j]
    simp_all
   grind
  ·cases h
def SM{a:aa}(h:laidMet prog [("syngraph/msg.has",Rows.laid_syngraph_msg_has)] a):(Y.dQ 0 gC).P a:=by
 rw[Qc] at h;obtain⟨m,⟨l,n,b,k,p,q,g,i,j,hd,_,_⟩,_⟩:=h;obtain rfl:=hD (IB.symm.trans g);obtain rfl:=hD (abp.symm.trans i);have d:=Pz underlying161 df Up Uj hd;obtain⟨t,c,e⟩:=sw IB j;refine⟨t,c,?_⟩;have f:b=(FA.map λ z=>Value.string ⟨z.toArray⟩).toArray:=by rw[<-d,mU]
 rw[e,f];rfl
def aap{g:aa}(h:laidMet prog [("syngraph/scalar.order",Rows.laid_syngraph_scalar_order),("syngraph/sha.begin",Rows.laid_syngraph_sha_begin),("syngraph/sha.key",Rows.laid_syngraph_sha_key),("syngraph/wide.begin",Rows.laid_syngraph_wide_begin),("syngraph/wide.key",Rows.laid_syngraph_wide_key),("syngraph/msg.has",Rows.laid_syngraph_msg_has)] g):cq g:=by
 have b:=h.tail;have c:=b.tail;have d:=c.tail;have f:=d.tail;have n:=f.tail;rw[Qe] at h;rw[Qh] at b;rw[Qi] at c;rw[Qj] at d;rw[Qk] at f;have i:=Lib.tabIs_of_head ID abq oM oN CV Ul h;have j:=Lib.tabIs_of_head IE abr xr Gm I9 Un b;have k:=Lib.tabIs_of_head IF abt Gl Gm I9 Uo c;have l:=Lib.tabIs_of_head IG abu xq oN CV Uk d;have m:=Lib.tabIs_of_head IH abv underlying251 oN CV Um f;refine⟨⟨?_,?_⟩,⟨?_,?_⟩,?_,SM n⟩
 ·obtain⟨t,a,e⟩:=sw IE j;exact⟨t,a,by rw[e,FC,w4];rfl⟩
 ·obtain⟨t,a,e⟩:=sw IF k;exact⟨t,a,by rw[e,FD,w4];rfl⟩
 ·obtain⟨t,a,e⟩:=sw IG l;exact⟨t,a,by rw[e,FE,w4];rfl⟩
 ·obtain⟨t,a,e⟩:=sw IH m;exact⟨t,a,by rw[e,FF,w4];rfl⟩
 ·obtain⟨t,a,e⟩:=sw ID i;exact⟨t,a,by rw[e,FB,w4];rfl⟩
def sV(a:Array ab):Obj->Obj
 | .cells _ t frozen=> .cells a t frozen
 |o=>o
noncomputable def C0(a:Os):aa:=
 {World.holding prog a ⟨#[],#[],[]⟩ with
  heap:=((((((World.holding prog a ⟨#[],#[],[]⟩).heap.modify 0 (sV (FA.map λ z=>Value.string ⟨z.toArray⟩).toArray)).modify 1 (sV (FE.map λ z=>Value.int .u64 z).toArray)).modify 2 (sV (FF.map λ z=>Value.int .u64 z).toArray)).modify 3 (sV (FB.map λ z=>Value.int .u64 z).toArray)).modify 5 (sV (FC.map λ z=>Value.int .u32 z).toArray)).modify 6 (sV (FD.map λ z=>Value.int .u32 z).toArray)}
