import Derived.ChangeMaps5
import Derived.MapKept
import Derived.Test.YtncpbkoinennoaaGreatDoorMAU
set_option linter.all false
set_option maxRecDepth 100000
set_option maxHeartbeats 0
namespace Go.Proofs.YtncpbkoinennoaaGreatDoor
open Go.RowKit Proofs.Tryz
attribute [local irreducible] wpList Calls
variable{r:Int}{X:Operand}
def cV:List (Int×ab)->Int->Option (Nat×ab)
 |[],_=>none
 |p::l,x=>if x=p.1 then some (0,p.2) else(cV l x).map λ q=>(q.1+1,q.2)
def gJ(z:ab)(es:List (Int×ab))(x:Int):ab:=match cV es x with|none=>z|some p=>p.2
def hX(es:List (Int×ab))(x:Int)(v:ab):List (Int×ab):=match cV es x with|none=>es++[(x,v)]|some p=>es.set p.1 (x,v)
def qA(es:List (Int×ab))(x:Int):List (Int×ab):=match cV es x with|none=>es|some p=>es.eraseIdx p.1
def kn(p:Int×ab):ab×ab:=(O p.1,p.2)
def lf(e:MapEntry):ab×ab:=(e.key,e.val)
def GP:∀(L:List MapEntry) (es:List (Int×ab)) (x:Int) (i:Nat),L.map lf=es.map kn->Instr.findNow (.int .i64) (O x) L i=some ((cV es x).map λ p=>(i+p.1,p.2))
 |[],[],x,i,h=>rfl
 |[],_::_,x,i,h=>by simp at h
 |_::_,[],x,i,h=>by simp at h
 |e::L,p::es,x,i,h=>by
  simp only[cw,zj] at h
  obtain⟨c,d⟩:=h
  have j:e.key=O p.1:=congrArg Prod.fst c
  have q:e.val=p.2:=congrArg Prod.snd c
  unfold Instr.findNow cV
  rw[j]
  have r:=GP L es x (i+1) d
  by_cases hx:x=p.1
  ·have b:(x==p.1)=true:=by simp[hx]
   rw[ax hx]
   simp[Instr.sameNow,b,q]
  ·have b:(x==p.1)=false:=by simp[hx]
   rw[aj hx]
   simp only[Instr.sameNow,b,↓reduceIte,r]
   cases cV es x<;>simp<;>omega
def Cm:∀(es:List (Int×ab)) (x:Int) (p:Nat×ab),cV es x=some p->es[p.1]?=some (x,p.2)
 |[],x,p,h=>by cases h
 |q::es,x,p,h=>by
  unfold cV at h
  by_cases hx:x=q.1
  ·grind
  ·rw[aj hx] at h
   cases b:cV es x with
   |none=>grind
   |some r=>
    rw[b] at h
    cases h
    simpa using Cm es x r b
section
variable{P:Program}{w:aa}{g:Nat}{es:List (Int×ab)}{A:Array MapEntry}{clock:Nat}{t k e:TypeId}
def qt(d:P.underlying k=some (.int .i64))(c:A.toList.map lf=es.map kn)(x:Int):(Instr.findKey k (O x) A.toList).run P w= .ok (cV es x) w:=by
 have h:=GP A.toList es x 0 c;have b:((cV es x).map λ p=>(0+p.1,p.2))=cV es x:=by cases cV es x<;>simp
 rw[b] at h;simp[Instr.findKey,fN d,h]
def qm(c:P.underlying k=some (.int .i64))(x:Int)(b:Bool):(Instr.checkKey b 10000 k (O x)).run P w= .ok () w:=
 MapKept.run_checkKey (n:=9999) (k:=O x) c (show IntKind.i64=IntKind.i64 from rfl) b
def UC(h:w.heap[g]?=some (.map A clock))(d:A.toList.map lf=es.map kn)(q:P.underlying t=some (.map k e))(c:P.underlying k=some (.int .i64)){z:ab}(r:(zeroValue e).run P w= .ok z w)(x:Int)(b:Bool):
 (Instr.lookup t (.map (some g)) (O x) b).run P w= .ok (if b=true then aJ #[gJ z es x,aF (cV es x).isSome] else gJ z es x) w:=by
 unfold gJ
 cases j:cV es x with
 |none=>simp[Instr.lookup,fN q,pX h,qm c,qt c d,j,r,Result.andThen]
 |some p=>simp[Instr.lookup,fN q,pX h,qm c,qt c d,j,Result.andThen]
def aar(c:w.heap[g]?=some (.map A clock))(b:A.toList.map lf=es.map kn)(s:P.underlying t=some (.map k e))(d:P.underlying k=some (.int .i64))(x:Int)(v:ab):
 ∃h j,(Instr.mapUpdate t (.map (some g)) (O x) v).run P w= .ok () {w with heap:=w.heap.setIfInBounds g (.map h j)}/\h.toList.map lf=(hX es x v).map kn:=by
 unfold hX
 cases q:cV es x with
 |none=>
  refine⟨A.push ⟨O x,v,clock⟩,clock+1,?_,?_⟩
  ·simp[Instr.mapUpdate,fN s,pX c,qm d,qt d b,q,tl _ c,Result.andThen]
  ·simp[b,lf,kn]
 |some p=>
  have u:=Cm es x p q
  have r:(A.toList.map lf)[p.1]?=some (O x,p.2):=by rw[b,eI,u];rfl
  rw[eI] at r
  obtain⟨en,y,B⟩:=Option.map_eq_some_iff.1 r
  have D:en.key=O x:=congrArg Prod.fst B
  have h:A[p.1]?=some en:=by simpa using y
  have F:Instr.sameBits 10000 (O x) (O x)=true:=by simp[Instr.sameBits]
  refine⟨A.modify p.1 λ e=>{e with key:=O x,val:=v},clock,?_,?_⟩
  ·simp[Instr.mapUpdate,fN s,pX c,qm d,qt d b,q,h,D,Instr.keyThatStays,F,tl _ c,Result.andThen]
  ·rw[mW]
   apply zl
   intro i
   have j:=congrArg (λ l=>l[i]?) b
   simp only[eI] at j
   rw[List.getElem?_set]
   simp only[eI,Array.getElem?_toList,yQ] at j⊢
   have E:(es.map kn).length=A.size:=by rw[<-b];simp
   by_cases C:p.1=i
   ·subst C
    rw[h] at j⊢
    have:p.1<es.length:=by
     rw[cR] at E
     have:=(lG.1 h).1
     omega
    simp[this,lf,kn]
   grind
def OX(c:w.heap[g]?=some (.map A clock))(b:A.toList.map lf=es.map kn)(j:P.underlying t=some (.map k e))(d:P.underlying k=some (.int .i64))(x:Int)(u:TypeId):
 ∃h p,(Builtin.delete_ #[t,k] u #[.map (some g),O x]).run P w= .ok (aJ #[]) {w with heap:=w.heap.setIfInBounds g (.map h p)}/\h.toList.map lf=(qA es x).map kn:=by
 unfold qA
 cases h:cV es x with
 |none=>
  refine⟨A,clock,?_,b⟩
  simp[Builtin.delete_,fN j,pX c,qm d,qt d b,h,tl _ c,Result.andThen]
 |some p=>
  refine⟨A.eraseIdxIfInBounds p.1,clock,?_,?_⟩
  ·simp[Builtin.delete_,fN j,pX c,qm d,qt d b,h,tl _ c,Result.andThen]
  ·have q:=Cm es x p h
   have r:(es.map kn).length=A.size:=by rw[<-b];simp
   have:p.1<A.size:=by
    rw[cR] at r
    have:=(ed.1 q).1
    omega
   rw[Array.eraseIdxIfInBounds,dif_pos this]
   rw[Array.toList_eraseIdx]
   have e1:∀{α β:Type} (f:α->β) (l:List α) (i:Nat),(l.eraseIdx i).map f=(l.map f).eraseIdx i:=λ f l i=>by
    induction l generalizing i with
    |nil=>simp
    |cons a l s=>cases i<;>simp[s]
   grind
def P4(b:w.heap[g]?=some (.map #[] clock))(h:P.underlying t=some (.map k e))(c:P.underlying k=some (.int .i64)){z:ab}(j:∀w,(zeroValue e).run P w= .ok z w)(x:Int):
 (Instr.mapEntry t (.map (some g)) (O x)).run P w= .ok (aJ #[z,O (clock:Int)]) {w with heap:=w.heap.setIfInBounds g (.map #[⟨O x,z,clock⟩] (clock+1))}:=by
 have d:(Instr.findKey k (O x) ([]:List MapEntry)).run P w= .ok none w:=qt (A:=#[]) (es:=[]) c rfl x
 simp[Instr.mapEntry,fN h,pX b,qm c,d,j,tl _ b,Result.andThen,goInt]
def Qi{z:ab}(b:w.heap[g]?=some (.map #[⟨O r,z,clock⟩] (clock+1)))(v:ab):
 (Instr.entryStore t (.map (some g)) (O (clock:Int)) v).run P w= .ok () {w with heap:=w.heap.setIfInBounds g (.map #[⟨O r,v,clock⟩] (clock+1))}:=by
 simp[Instr.entryStore,pX b,asInt,asIntOf,tl _ b,Result.andThen]
end
def Y.mp(g:Nat)(es:List (Int×ab)):Y:=
 ⟨[g],λ w=>∃A clock,w.heap[g]?=some (.map A clock)/\A.toList.map lf=es.map kn,
  (λ w j h ⟨A,c,b,d⟩=>⟨A,c,(h g zS).trans b,d⟩),(λ _ _=>by simp),(λ w ⟨A,c,b,d⟩ k b=>by
   grind)⟩
def Y.qF(g:Nat)(x:Int)(z:ab)(clock:Nat):Y:=
 ⟨[g],λ w=>w.heap[g]?=some (.map #[⟨O x,z,clock⟩] (clock+1)),
  (λ w d h b=>(h g zS).trans b),(λ _ _=>by simp),(λ w b k c=>by
   grind)⟩
structure gg(t:TypeId)(z:ab):Prop where
 ex:∃k e,prog.underlying t=some (.map k e)/\prog.underlying k=some (.int .i64)/\∀w:aa,(zeroValue e).run prog w= .ok z w
def xB{w:aa}{g:Nat}{A b:Array MapEntry}{c d:Nat}(h:w.heap[g]?=some (.map A c)):aR w.heap.size [g] w {w with heap:=w.heap.setIfInBounds g (.map b d)}:=by
 refine⟨rfl,rfl,rfl,by simp,λ k p q=> ?_⟩;grind
def w4{w:aa}{g:Nat}{A b:Array MapEntry}{c d:Nat}(h:w.heap[g]?=some (.map A c)):({w with heap:=w.heap.setIfInBounds g (.map b d)}:aa).heap[g]?=some (.map b d):=by
 grind
section
variable{w:aa}{g:Nat}{es:List (Int×ab)}{t k:TypeId}{z:ab}
def Y.Cn(h:(Y.mp g es).P w)(p:gg t z)(x:Int)(b:Bool):(Instr.lookup t (.map (some g)) (O x) b).run prog w= .ok (if b=true then aJ #[gJ z es x,aF (cV es x).isSome] else gJ z es x) w:=by
 obtain⟨A,c,d,j⟩:=h;obtain⟨k,e,m1,m2,m3⟩:=p.ex;exact UC d j m1 m2 (m3 w) x b
def Y.H8(h:(Y.mp g es).P w)(q:gg t z)(x:Int)(v:ab):∃b,(Instr.mapUpdate t (.map (some g)) (O x) v).run prog w= .ok () b/\bj (Y.mp g es) w b (Y.mp g (hX es x v)):=by
 obtain⟨A,c,b,p⟩:=h;obtain⟨k,e,m1,m2,m3⟩:=q.ex;obtain⟨d,j,s,u⟩:=aar b p m1 m2 x v;exact⟨_,s,xB b,⟨d,j,w4 b,u⟩,λ k r=> .inl r⟩
def Y.U7(h:(Y.mp g es).P w){e:TypeId}(m1:prog.underlying t=some (.map k e))(m2:prog.underlying k=some (.int .i64))(x:Int)(d:TypeId):∃b,(Builtin.delete_ #[t,k] d #[.map (some g),O x]).run prog w= .ok (.tuple #[]) b/\bj (Y.mp g es) w b (Y.mp g (qA es x)):=by
 obtain⟨A,c,b,q⟩:=h;obtain⟨j,p,s,u⟩:=OX b q m1 m2 x d;exact⟨_,s,xB b,⟨j,p,w4 b,u⟩,λ k r=> .inl r⟩
def Y.U8(h:(Y.mp g []).P w)(p:gg t z)(x:Int):∃(c:Nat) (b:aa),(Instr.mapEntry t (.map (some g)) (O x)).run prog w= .ok (aJ #[z,O (c:Int)]) b/\bj (Y.mp g []) w b (Y.qF g x z c):=by
 obtain⟨A,c,b,d⟩:=h;obtain⟨k,e,m1,m2,m3⟩:=p.ex;have j:A=#[]:=by
  have:A.toList=[]:=by simpa using d
  simpa using congrArg List.toArray this
 subst j;exact⟨c,_,P4 b m1 m2 m3 x,xB b,w4 b,λ k q=> .inl q⟩
def Y.Va{c:Nat}(h:(Y.qF g r z c).P w)(v:ab):∃b,(Instr.entryStore t (.map (some g)) (O (c:Int)) v).run prog w= .ok () b/\bj (Y.qF g r z c) w b (Y.mp g [(r,v)]):=
 ⟨_,Qi (P:=prog) (t:=t) h v,xB h,⟨_,_,w4 h,rfl⟩,λ k b=> .inl b⟩
def Y.U9(w:aa):(Y.mp w.heap.size []).P (w.alloc (.map #[] 0)):=⟨#[],0,(MapKept.heap_alloc w _).1,rfl⟩
end
def af.allocMap{w wr:aa}{m:List Nat}{aq:List Y}(h:af w wr m aq):af w (wr.alloc (.map #[] 0)) m (Y.mp wr.heap.size []::aq):=by
 refine h.join (bJ wr _) _ (Y.U9 wr) (λ k b=> ?_);have:k=wr.heap.size:=by simpa[Y.mp] using b
 omega
section
variable{ops:Array Oper}{rest:List Oper}{op:Oper}{a:Act}{Q:Exit->Act->aa->Prop}{w wr:aa}{m:List Nat}{aq:List Y}{t:TypeId}{z:ab}{g:Nat}{es:List (Int×ab)}{K:Act->aa->Prop}
def af.lk(h:af w wr m aq)(j:gg t z){y:Operand}{b:Bool}(q:op.op= .lookup t X y b)(i:Nat)(p:aq[i]?=some (Y.mp g es))(hx:a.eval X= .map (some g))(u:a.eval y=O r){v:ab}
 (s:(if b=true then aJ #[gJ z es r,aF (cV es r).isSome] else gJ z es r)=v) (d:K (a.put op.dst v) wr):op.wp prog a wr K Q:=by
 have c:=Y.Cn (h.get p) j r b
 rw[s] at c
 unfold Oper.wp
 simp only[execOp,q,hx,u,c,cL,dw,cZ]
 exact d
def Lk(h:af w wr m aq)(i:Nat)(q:aq[i]?=some (Y.mp g es))(p:Region.wanted op (yielded ops a.tmps)=true)(d:gg t z){y:Operand}{b:Bool}(s:op.op= .lookup t X y b)(hx:a.eval X= .map (some g))(x:a.eval y=O r){v:ab}
 (u:(if b=true then aJ #[gJ z es r,aF (cV es r).isSome] else gJ z es r)=v) (j:wpList prog ops Q rest (a.put op.dst v) wr):wpList prog ops Q (op::rest) a wr:=
 dW p λ K c=>h.lk d s i q hx x u (c _ _ j)
def af.mu(h:af w wr m aq)(j:gg t z){y u:Operand}(p:op.op= .mapUpdate t X y u)(i:Nat)(b:aq[i]?=some (Y.mp g es))(hx:a.eval X= .map (some g))(x:a.eval y=O r){v:ab}(s:a.eval u=v)
 (d:∀c,af w c m (aq.set i (Y.mp g (hX es r v)))->K (a.put op.dst undef) c):op.wp prog a wr K Q:=by
 obtain⟨B,c,q⟩:=Y.H8 (h.get b) j r v
 unfold Oper.wp
 simp only[execOp,p,hx,x,s,c,cL,dw,cZ]
 exact d _ (h.at i b q)
def Mu(h:af w wr m aq)(i:Nat)(q:aq[i]?=some (Y.mp g es))(p:Region.wanted op (yielded ops a.tmps)=true)(d:gg t z){y u:Operand}(x:op.op= .mapUpdate t X y u)(hx:a.eval X= .map (some g))(C:a.eval y=O r){v:ab}(B:a.eval u=v)
 (j:∀b,af w b m (aq.set i (Y.mp g (hX es r v)))->wpList prog ops Q rest (a.put op.dst undef) b):wpList prog ops Q (op::rest) a wr:=
 dW p λ K c=>h.mu d x i q hx C B (λ b s=>c _ _ (j b s))
def af.ins(h:af w wr m aq)(j:gg t z){y u:Operand}(p:op.op= .insert t X y u)(i:Nat)(b:aq[i]?=some (Y.mp g es))(hx:a.eval X= .map (some g))(x:a.eval y=O r){v:ab}(s:a.eval u=v)
 (d:∀c,af w c m (aq.set i (Y.mp g (hX es r v)))->K (a.put op.dst undef) c):op.wp prog a wr K Q:=by
 obtain⟨B,c,q⟩:=Y.H8 (h.get b) j r v
 unfold Oper.wp
 simp only[execOp,p,hx,x,s,c,cL,dw,cZ]
 exact d _ (h.at i b q)
def Mi(h:af w wr m aq)(i:Nat)(q:aq[i]?=some (Y.mp g es))(p:Region.wanted op (yielded ops a.tmps)=true)(d:gg t z){y u:Operand}(x:op.op= .insert t X y u)(hx:a.eval X= .map (some g))(C:a.eval y=O r){v:ab}(B:a.eval u=v)
 (j:∀b,af w b m (aq.set i (Y.mp g (hX es r v)))->wpList prog ops Q rest (a.put op.dst undef) b):wpList prog ops Q (op::rest) a wr:=
 dW p λ K c=>h.ins d x i q hx C B (λ b s=>c _ _ (j b s))
def af.md(h:af w wr m aq){k e:TypeId}(m1:prog.underlying t=some (.map k e))(m2:prog.underlying k=some (.int .i64)){y:Operand}(j:op.op= .call {callee:= .builtin .delete,args:=#[X,y],argTypes:=#[t,k]})(i:Nat)(b:aq[i]?=some (Y.mp g es))(hx:a.eval X= .map (some g))(q:a.eval y=O r)
 (d:∀c,af w c m (aq.set i (Y.mp g (qA es r)))->K (a.put op.dst (aJ #[])) c):op.wp prog a wr K Q:=by
 obtain⟨s,c,p⟩:=Y.U7 (h.get b) m1 m2 r op.type
 unfold Oper.wp
 simp[execOp,j,resolve,invoke,builtin,hx,q,c,Result.andThen]
 exact d _ (h.at i b p)
def Md(h:af w wr m aq)(i:Nat)(p:aq[i]?=some (Y.mp g es))(j:Region.wanted op (yielded ops a.tmps)=true){k e:TypeId}(m1:prog.underlying t=some (.map k e))(m2:prog.underlying k=some (.int .i64)){y:Operand}(s:op.op= .call {callee:= .builtin .delete,args:=#[X,y],argTypes:=#[t,k]})(hx:a.eval X= .map (some g))(u:a.eval y=O r)
 (d:∀b,af w b m (aq.set i (Y.mp g (qA es r)))->wpList prog ops Q rest (a.put op.dst (aJ #[])) b):wpList prog ops Q (op::rest) a wr:=
 dW j λ K c=>h.md m1 m2 s i p hx u (λ b q=>c _ _ (d b q))
def af.H7(h:af w wr m aq)(d:op.op= .makeMap t none)
 (c:∀g b,w.heap.size<=g->af w b m (Y.mp g []::aq)->K (a.put op.dst (.map (some g))) b):op.wp prog a wr K Q:=by
 unfold Oper.wp
 simp[execOp,d,Instr.makeMap,Result.andThen]
 exact c _ _ h.size h.allocMap
def jj(h:af w wr m aq)(p:Region.wanted op (yielded ops a.tmps)=true)(k:Tmp)(hd:op.dst=some k)(t:TypeId)(r:op.op= .makeMap t none)
 (d:∀g b,w.heap.size<=g->af w b m (Y.mp g []::aq)->wpList prog ops Q rest (a.put (some k) (.map (some g))) b):wpList prog ops Q (op::rest) a wr:=
 dW p λ K c=>h.H7 r (λ g b j q=>c _ _ (by rw[hd];exact d g b j q))
def af.me(h:af w wr m aq)(p:gg t z){y:Operand}(q:op.op= .mapEntry t X y)(i:Nat)(b:aq[i]?=some (Y.mp g []))(hx:a.eval X= .map (some g))(u:a.eval y=O r)
 (j:∀(c:Nat) d,af w d m (aq.set i (Y.qF g r z c))->K (a.put op.dst (aJ #[z,O (c:Int)])) d):op.wp prog a wr K Q:=by
 obtain⟨c,v,d,s⟩:=Y.U8 (h.get b) p r
 unfold Oper.wp
 simp only[execOp,q,hx,u,d,cL,dw,cZ]
 exact j _ _ (h.at i b s)
def af.ms(h:af w wr m aq){y u:Operand}(p:op.op= .entryStore t X y u)(i:Nat){c:Nat}(b:aq[i]?=some (Y.qF g r z c))(hx:a.eval X= .map (some g))(x:a.eval y=O (c:Int)){v:ab}(s:a.eval u=v)
 (j:∀d,af w d m (aq.set i (Y.mp g [(r,v)]))->K (a.put op.dst undef) d):op.wp prog a wr K Q:=by
 obtain⟨B,d,q⟩:=Y.Va (t:=t) (h.get b) v
 unfold Oper.wp
 simp only[execOp,p,hx,x,s,d,cL,dw,cZ]
 exact j _ (h.at i b q)
end
def Y.all(L:List Y):Y:=
 ⟨blocks L,λ w=>(∀b∈L,b.P w)/\(blocks L).Nodup,(λ w q h ⟨c,d⟩=>⟨λ b p=>b.st w q (λ k j=>h k (qC p j)) (c b p),d⟩),(λ w h=>h.2),(λ w h k j=>by
  obtain⟨b,c,d⟩:=Ep.1 j
  exact b.lt w (h.1 b c) k d)⟩
def af.K4{w wr:aa}{m:List Nat}{L rest:List Y}(h:af w wr m (Y.all L::rest)):af w wr m (L++rest):=by
 have c:blocks (Y.all L::rest)=blocks (L++rest):=by rw[fD,tE];rfl
 refine⟨h.only,λ d j=> ?_,λ k p=>h.own k (c▸p),c▸h.b⟩;rcases eJ.1 j with b|b
 ·exact(h.ok (Y.all L) zS).1 d b
 ·exact h.ok d (mQ b)
def af.H6{w wr:aa}{m:List Nat}(L:List Y){rest:List Y}(h:af w wr m (L++rest)):af w wr m (Y.all L::rest):=by
 have c:blocks (Y.all L::rest)=blocks (L++rest):=by rw[fD,tE];rfl
 have r:(blocks L).Nodup:=(lL.1 (by have:=h.b;rwa[tE] at this)).1;refine⟨h.only,λ b p=> ?_,λ k q=>h.own k (c▸q),c▸h.b⟩;rcases bV.1 p with rfl|d
 ·exact⟨λ b j=>h.ok b (pS _ j),r⟩
 ·exact h.ok b (rr _ d)
def qD(z:ab)(x:Int)(v:ab):gJ z [(x,v)] x=v:=by simp[gJ,cV]
def xn(x:Int)(v:ab):qA [(x,v)] x=[]:=by simp[qA,cV]
def Vb(x:Int)(v u:ab):hX [(x,v)] x u=[(x,u)]:=by simp[hX,cV]
section
variable{ops:Array Oper}{op:Oper}{a:Act}{L:List Y}{g:Nat}{es:List (Int×ab)}{t:TypeId}{z:ab}
def YL(j:Region.wanted op (yielded ops a.tmps)=true)(i:Nat)(c:L[i]?=some (Y.mp g es))(b:gg t z){y:Operand}(q:op.op= .lookup t X y false)(hx:a.eval X= .map (some g))(s:a.eval y=O r){v:ab}
 (h:gJ z es r=v):YieldsIf prog ops (bc L) op v a:=
 .inl ⟨j,λ w p=>by
  have d:=Y.Cn (p _ (dB c)) b r false
  rw[aj zD,h] at d
  unfold execOp
  simp_all⟩
end
section
variable{Q:Exit->Act->aa->Prop}{S:aa->Prop}{n:Nat}{l:List Oper}{i f:Nat}{o:Oper}{listed:Array Bool}{a:Act}{w0 w:aa}{m:List Nat}{aq:List Y}{t:TypeId}{z:ab}{g:Nat}{es:List (Int×ab)}
def One.me(C:af w0 w m aq)(D:Region.wanted o (yielded l.toArray a.tmps)=true)(d:Tmp)(hd:o.dst=some d)(k:Nat)(u:aq[k]?=some (Y.mp g []))(s:gg t z){x y:Operand}(B:o.op= .mapEntry t x y)(hx:a.eval x= .map (some g)){q:Int}(E:a.eval y=O q)
 (h:∀(c:Nat) b,af w0 b m (aq.set k (Y.qF g q z c))->S b/\az prog l Q S n f (listed.setIfInBounds i true) {a with tmps:=a.tmps.setIfInBounds d (aJ #[z,O (c:Int)])} b):One prog l Q S n f listed a w i o:=by
 intro F r
 rw[ax D]
 refine C.me s B k u hx E (λ c b v=> ?_)
 obtain⟨j,p⟩:=h c b v
 refine r _ _ j (λ _=> ?_)
 rw[hd]
 exact p
def One.ms(C:af w0 w m aq)(E:Region.wanted o (yielded l.toArray a.tmps)=true)(hd:o.dst=none)(k:Nat){q:Int}{c:Nat}(r:aq[k]?=some (Y.qF g q z c)){x y u:Operand}(B:o.op= .entryStore t x y u)(hx:a.eval x= .map (some g))(F:a.eval y=O (c:Int)){v:ab}(D:a.eval u=v)
 (h:∀b,af w0 b m (aq.set k (Y.mp g [(q,v)]))->S b/\az prog l Q S n f (listed.setIfInBounds i true) a b):One prog l Q S n f listed a w i o:=by
 intro G p
 rw[ax E]
 refine C.ms B k r hx F D (λ b s=> ?_)
 obtain⟨d,j⟩:=h b s
 refine p _ _ d (λ _=> ?_)
 rw[hd]
 exact j
def One.mk(u:af w0 w m aq)(v:Region.wanted o (yielded l.toArray a.tmps)=true)(d:Tmp)(hd:o.dst=some d)(s:o.op= .makeMap t none)
 (h:∀g b,w0.heap.size<=g->af w0 b m (Y.mp g []::aq)->S b/\az prog l Q S n f (listed.setIfInBounds i true) {a with tmps:=a.tmps.setIfInBounds d (.map (some g))} b):One prog l Q S n f listed a w i o:=by
 intro x p
 rw[ax v]
 refine u.H7 s (λ g b q r=> ?_)
 obtain⟨c,j⟩:=h g b q r
 refine p _ _ c (λ _=> ?_)
 rw[hd]
 exact j
end
def uf:gg 222 (O 0):=⟨⟨3,3,by simp,by simp,λ w=>by go_simp⟩⟩
abbrev aaW:ab:=aG #[O 0,O 0,U 0,U 0,U 0,U 0,U 0,ae ⟨#[]⟩,ae ⟨#[]⟩,U 0,U 0,ae ⟨#[]⟩,ae ⟨#[]⟩,U 0,U 0,ae ⟨#[]⟩,ae ⟨#[]⟩,ad none 0 0,ad none 0 0,ad none 0 0]
def qz:gg 137 aaW:=⟨⟨3,81,by simp,by simp,λ w=>by go_simp⟩⟩
def xm:gg 158 .nilFunc:=⟨⟨3,156,by simp,by simp,λ w=>by go_simp⟩⟩
def mv:gg 130 .nilFunc:=⟨⟨3,53,by simp,by simp,λ w=>by go_simp⟩⟩
def ug:gg 335 .nilFunc:=⟨⟨3,332,by simp,by simp,λ w=>by go_simp⟩⟩
def px:Nat->List Y->Option (Y×List Y)
 |_,[]=>none
 |0,A::l=>some (A,l)
 |i+1,A::l=>match px i l with
  |some (B,r)=>some (B,A::r)
  |none=>none
def K2:∀{i:Nat} {aq:List Y} {B:Y} {r:List Y},px i aq=some (B,r)->aq.Perm (B::r)
 |_,[],_,_,h=>by unfold px at h;cases h
 |0,A::l,_,_,h=>by unfold px at h;cases h;exact List.Perm.refl _
 |i+1,A::l,B,r,h=>by
  unfold px at h
  cases b:px i l with
  |none=>rw[b] at h;cases h
  |some p=>
   obtain⟨C,c⟩:=p
   rw[b] at h
   cases h
   exact((K2 b).cons A).trans (List.Perm.swap _ _ _)
def sf:List Y->List Nat->Option (List Y)
 |aq,[]=>some aq
 |aq,i::t=>match Nat.beq i 1000 with
  |true=>(match aq with|_::r=>sf r t|[]=>none)
  |false=>(match px i aq with|some (A,l)=>sf (A::l) t|none=>none)
def af.fs{w wr:aa}{m:List Nat}:∀{aq cU:List Y} (h:af w wr m aq) (c:List Nat) (b:sf aq c=some cU:=by exact rfl),af w wr m cU
 |aq,cU,h,[],b=>by unfold sf at b;cases b;exact h
 |aq,cU,h,i::t,b=>by
  unfold sf at b
  cases d:Nat.beq i 1000 with
  |true=>
   rw[d] at b
   cases aq with
   |nil=>cases b
   |cons A r=>exact af.fs h.tail t b
  |false=>
   rw[d] at b
   cases c:px i aq with
   |none=>rw[c] at b;cases b
   |some p=>obtain⟨A,l⟩:=p;rw[c] at b;exact af.fs (h.perm (K2 c)) t b
def G1(aq:List Y)(b:List Nat):List Y:=match sf aq b with|some r=>r|none=>aq
def af.ft{w wr:aa}{m:List Nat}{aq:List Y}(h:af w wr m aq)(b:List Nat):af w wr m (G1 aq b):=by
 unfold G1;split
 ·rename_i c;exact h.fs b c
 ·exact h
section
variable{ops:Array Oper}{op:Oper}{a:Act}{aq cU L:List Y}{v z:ab}{g o:Nat}{t:TypeId}{cs qo vs:List ab}{x y u:Operand}{k:Tmp}{w wr:aa}{m:List Nat}{Q:Exit->Act->aa->Prop}{rest:List Oper}{es:List (Int×ab)}{q:Int}
def KM(d:ai (af w wr m aq))(h:∀b,ai (af w b m cU)->wpList prog ops Q rest (a.put op.dst undef) b)(j:op.op= .insert t x y (.tmp k):=by exact rfl)(hx:a.eval x= .map (some g):=by exact rfl)(e:gg t z:=by first|exact mv|exact xm|exact qz|exact uf|exact ug)
 (r:Y.mp g es∈aq:=by repeat first|with_reducible exact mZ|refine mQ ?_) (p:a.eval y=O q:=by exact rfl) (n:a.tmps.toList[k]?=some v:=by exact rfl) (f:Region.wanted op (yielded ops a.tmps)=true:=by exact rfl)
 (l:eZ (Y.mp g es) (Y.mp g (hX es q v)) aq cU:=by repeat first|with_reducible exact eZ.head _|apply eZ.tail):wpList prog ops Q (op::rest) a wr:=by
 obtain⟨i,e1,e2⟩:=l.idx
 exact Mi d.U i e1 f e j hx p (tR n) (λ b c=>h b (Z (by rw[<-e2] at c;exact c)))
end
variable{d:DK}{g:Nat}
def Pz:dh 144 169 2 16:=dh.mk' underlying144 (z:= .agg #[O 0,O 0]) V rfl zD
def DK.free(d:DK):Nat:=d.room-d.f0.size-d.f1.size
def DK.file(d:DK)(f:Nat):ag:=if f=0 then d.f0 else d.f1
def DK.iY(d:DK)(f:Nat)(s:ag):DK:=if f=0 then{d with f0:=s} else{d with f1:=s}
def DK.cC(d:DK)(s:ag):Nat:=if d.free<s.size then 8 else 0
def DK.put(d:DK)(f:Nat)(s:ag):DK:=if d.free<s.size then d else{d.iY f (d.file f++s) with a:=d.a++[(f,s.size)]}
def Lp(L M:List (Nat×Nat)):jM (L++M)=jM L++jM M:=by simp[jM]
def F1{w:aa}{q:ab}(h:(Y.dk g q d).P w)(hd:d.Ok)(f:Nat)(B:f<2)(s:ag)(K:d.a.length<=1000000):Calls prog 300 #[pV g,O (f:Int),ae s] w λ r c=>
 r=ao (O (d.cC s:Int))/\∃b,bj (Y.dk g q d) w c (Y.dk g b (d.put f s)):=by
 have k:=(af.self h).fZ
 have a:=Z k
 obtain⟨pA,G,F,-⟩:=cF (show w.ownsRow 0 169 2 q d.a.length (jM d.a) from a.U.get (i:=1) rfl)
 subst F
 have t:=λ b (h:(Y.row g 146 (d.cells (ad pA d.a.length G))).P b)=>OH h hd
 have D:d.cC s=if d.free<s.size then 8 else 0:=rfl
 have E:d.put f s=if d.free<s.size then d else{d.iY f (d.file f++s) with a:=d.a++[(f,s.size)]}:=rfl
 have C:d.free=d.room-d.f0.size-d.f1.size:=rfl
 rw[<-C] at t
 have I:=hd.fit
 have M:=hd.room
 generalize d.free=A at*
 have u:=λ b=>FZ f b
 rw[aS B] at u
 have o:=Z t;have m:=Z D;have n:=Z E;have p:=Z u
 by_cases r:A<s.size
 ·rw[ax r] at m n
  rw[m.U,n.U]
  go_enter func300,ntmps300
  go_wp2_with(first|go_at_call 221;refine KQ (p.U _) ?_|go_at_call 316;refine KC a (o.U _ (a.U.in mZ)) λ c a=>?_)
  go_ret
  exact⟨rfl,_,a.U.cr.gQ⟩
 focus
  rw[aj r] at m n
  have H:s.size<=16777216:=by omega
  have J:d.f0.size+s.size<=9223372036854775807:=by omega
  have N:d.f1.size+s.size<=9223372036854775807:=by omega
  obtain⟨f0,f1,L,y⟩:=d
  simp only at*
  rcases f with _|_|f
  focus
   have l:ai (∀b,Calls prog 221 #[O 0] b λ e c=>e=ao (aF true)/\b=c):=Z (λ b=>p.U b)
   show Calls prog 300 #[pV g,O 0,ae s] w _
   go_enter func300,ntmps300
   go_upto_region 5 with(first|go_at_call 221;refine KQ (l.U _) ?_|go_at_call 316;refine KC a (o.U _ (a.U.in mZ)) λ c a=>?_)
   refine RG a 11 [0] λ z a j=>?_
   refine VV [0,1,2,3,4,2005,6] j ?_
   refine W2 7 24 (v:=ae (f0++s)) rfl rfl (Or.inl ⟨by kernel_rfl,λ b x=>by go_simp⟩) j ?_
  rotate_left
  focus
   have l:ai (∀b,Calls prog 221 #[O 1] b λ e c=>e=ao (aF true)/\b=c):=Z (λ b=>p.U b)
   show Calls prog 300 #[pV g,O 1,ae s] w _
   go_enter func300,ntmps300
   go_upto_region 5 with(first|go_at_call 221;refine KQ (l.U _) ?_|go_at_call 316;refine KC a (o.U _ (a.U.in mZ)) λ c a=>?_)
   refine RG a 11 [0] λ z a j=>?_
   refine VV [0,1,2,3,4,2005,6] j ?_
   refine W2 7 24 (v:=ae (f1++s)) rfl rfl (Or.inl ⟨by kernel_rfl,λ b x=>by go_simp⟩) j ?_
  rotate_left
  ·omega
 rotate_left 2
 all_goals
  refine VV [8,9,10] j ?_
  refine WT ?_
  go_wp2_with(first|refine Kl a ?_|refine KS a λ z a=>?_|(with_reducible show cH);(refine Mk a.U rfl 37 rfl (some 1) 169 [_,O (s.size:Int)] (by go_simp;(exact⟨rfl,rfl⟩)) ?_;intro H z J k;replace a:=Z k;simp only[bk])|refine Ap a.U rfl Pz rfl 2 rfl rfl 0 rfl rfl rfl rfl (by unfold maxLen;omega) W ?_;intro l e z k;simp only[au,ay] at k;replace a:=Z k)
  go_ret
  refine⟨by rw[m.U];rfl,ad (some ⟨l,0,none⟩) (L.length+1) e,?_⟩
  rw[n.U]
  have x:=a.U.tail.cr.gQ
 ·show bj _ w _ (Y.star (Y.row g 146 [ae (f0++s),ae f1,ad (some ⟨l,0,none⟩) (L.length+1) e,O (y:Int)]) (Y.ow 169 2 (ad (some ⟨l,0,none⟩) (L.length+1) e) (L++[(0,s.size)]).length (jM (L++[(0,s.size)]))))
  have e1:(L++[((0:Nat),s.size)]).length=L.length+1:=by simp
  rw[e1,Lp]
  exact x
 ·show bj _ w _ (Y.star (Y.row g 146 [ae f0,ae (f1++s),ad (some ⟨l,0,none⟩) (L.length+1) e,O (y:Int)]) (Y.ow 169 2 (ad (some ⟨l,0,none⟩) (L.length+1) e) (L++[(1,s.size)]).length (jM (L++[(1,s.size)]))))
  have e1:(L++[((1:Nat),s.size)]).length=L.length+1:=by simp
  rw[e1,Lp]
  exact x
