/-
  The card of TopKeys: for every input the law returns true, and each argument reads afterwards as it read before; the tables that its row lists are tied to the program's text (the tie is given). No condition of our own.
-/
import Derived.Test.YtncpbkoinennoaaGreatDoorMBI
import Derived.Test.YtncpbkoinennoaaGreatDoorMAA
import Derived.Test.YtncpbkoinennoaaGreatDoorMAY
import Derived.WalkKit
import Derived.ProofKit
import Derived.OpenShut
import Derived.ShutString
import Derived.Below
import Derived.Lib.SmallJoins
import Derived.Deep.Slices
import Derived.Deep.Fields
import Derived.Deep.DeepHandedRow
import Derived.SizedLaws
namespace Go.Proofs.YtncpbkoinennoaaGreatDoor.topKeys
open Go.ChangeShapes Go.WideShapes Go.ChangeAt Go.RowKit Go.Joins Go.Deep
open Go.ChangeMaps (open_string shut_string)
set_option linter.unusedVariables false
theorem own:ownKnob Tryz.prog.godebug=none:=by kernel_rfl
theorem laidOut:laidOutB Tryz.prog=true:=by kernel_rfl
theorem Uv(os:Os):laidMet Tryz.prog Rows.topKeysRow.laid ((C0 os).forCall (λ _ _=>0) ⟨#[],#[.string ByteArray.empty,.string ByteArray.empty,.string ByteArray.empty],[]⟩).memory:=
 laidMet_of_run' 8 V V
theorem reads(os:Os){H:Type}(enc:TypeId×Value->H):∃places,DataW.whole enc Tryz.prog ((C0 os).forCall (λ _ _=>0) ⟨#[],#[.string ByteArray.empty,.string ByteArray.empty,.string ByteArray.empty],[]⟩).memory Tryz.f3.params.toList Rows.topKeysSpec.vars Rows.topKeysRow.apart #[(.string ByteArray.empty:Value),(.string ByteArray.empty:Value),(.string ByteArray.empty:Value)].toList 8=some ([.lit (.string []),.lit (.string []),.lit (.string [])],[],places):=
 ⟨[],by kernel_rfl⟩
set_option maxRecDepth 100000 in
set_option maxHeartbeats 1000000 in
theorem lifted(os:Os)(started:os.Started)(H:Type)(enc:TypeId×Value->H)(F:Stop.Interp):
 ReturnsInHanded {} Tryz.checked os 3 .any ((OpenSpec.ofChange Rows.topKeysSpec).preRow enc Tryz.prog Tryz.f3 Rows.topKeysRow.domain Rows.topKeysRow.apart Rows.topKeysRow.laid) (((OpenSpec.ofChange Rows.topKeysSpec).at F).post enc Tryz.prog Tryz.f3 Rows.topKeysRow.apart true false false):=by
 obtain⟨places,hx⟩:=reads os enc;refine returnsInHanded_of_row (C:=Tryz.checked) (s:=OpenSpec.ofChange Rows.topKeysSpec) own started V Tryz.func3
  (witness_row_at (enc:=enc) (C:=Tryz.checked) false (C0 os) #[.string ByteArray.empty,.string ByteArray.empty,.string ByteArray.empty] rfl V V V
   (OpenSpec.preRow_of_cond 8 hx V (λ k hk=>by cases hk) V (Uv os))) ?_
 intro tM base args ds gs before IV hW _ _ adU hL _ _;have yn:∀(j:Nat) t v,Tryz.f3.params[j]?=some t->args[j]?=some v->Value.okWide Tryz.prog tM .any base t v:=IV;have SB:=hW;obtain⟨p,q,hA0,hV,rfl,hfz,hnd⟩:=hW;have hA:DataW.TrodAll enc Tryz.prog tM 0 (λ _=>true) true Tryz.f3.params.toList args.toList ds p:=hA0;rw[Tryz.params3] at hA yn;obtain⟨v0,vs0,d0,ds0,p0,q0,adB,rfl,rfl,h0,r0⟩:=trodAll_cons hA;obtain⟨v1,vs1,d1,ds1,p1,q1,rfl,rfl,rfl,h1,r1⟩:=trodAll_cons r0;obtain⟨v2,vs2,d2,ds2,p2,q2,rfl,rfl,rfl,h2,r2⟩:=trodAll_cons r1;obtain⟨rfl,rfl,rfl⟩:=trodAll_nil r2;obtain rfl:args=#[v0,v1,v2]:=by cases args;simp_all
 obtain⟨rfl,rfl⟩:=trodVars_none hV;have k0:=h0;have U9:∀x∈p0,x.block<tM.heap.size:=by obtain⟨m,hm⟩:=k0;exact DataW.trod_lt m _ _ _ hm
 obtain⟨a0,e0,-,-,w0⟩:=open_string Tryz.underlying9 (yn 0 9 v0 rfl rfl) h0;subst e0;have k1:=h1;have Va:∀x∈p1,x.block<tM.heap.size:=by obtain⟨m,hm⟩:=k1;exact DataW.trod_lt m _ _ _ hm
 obtain⟨a1,e1,-,-,w1⟩:=open_string Tryz.underlying9 (yn 1 9 v1 rfl rfl) h1;subst e1;have k2:=h2;have Vb:∀x∈p2,x.block<tM.heap.size:=by obtain⟨m,hm⟩:=k2;exact DataW.trod_lt m _ _ _ hm
 obtain⟨a2,e2,-,-,w2⟩:=open_string Tryz.underlying9 (yn 2 9 v2 rfl rfl) h2;subst e2;clear hA0 IV;have hT:cq tM:=aap hL;refine(aaG a0 w0 a1 w1 a2 w2 hT).mono λ e W' ⟨he,aJ⟩=> ?_;subst he;exact⟨_,rfl,_,_,_,[],_,[],SB,trodAll_mk1 (shut_bool Tryz.underlying4 _),(trodAll_cons_mk (Below.trod laidOut V (of_decide_eq_true V) k0 aJ U9) (trodAll_cons_mk (Below.trod laidOut V (of_decide_eq_true V) k1 aJ Va) (trodAll_cons_mk (Below.trod laidOut V (of_decide_eq_true V) k2 aJ Vb) trodAll_mk0))),rfl,aJ.frame _,λ h=>by cases h⟩
theorem PG(s:String)(h:s.toList=sR.map Char.ofNat):joinedFacts {toTables:={Tryz.progTables with initOrder:=s},funcs:=Tryz.funcs} 3 Tryz.f3 Rows.topKeysSpec Rows.topKeysRow=true:=by
 unfold joinedFacts;rw[Rw s h,UX s h,Vk s h];kernel_rfl
theorem closed:joinedFacts Tryz.prog 3 Tryz.f3 Rows.topKeysSpec Rows.topKeysRow=true:=PG _ SQ
theorem named:Tryz.prog.funcNamed Rows.topKeysRow.func=some 3:=by kernel_rfl
theorem inst:Tryz.f3.isInstance Tryz.prog Rows.topKeysRow.origin Rows.topKeysRow.targs:=of_decide_eq_true V
theorem wrap:Tryz.f3.isWrapper Tryz.prog Rows.topKeysRow.wrapper Rows.topKeysRow.mainSum:=by
 unfold Func.isWrapper;first|(rw[if_pos (by decide+kernel)];kernel_rfl)|(rw[if_neg (by decide+kernel)];exact⟨rfl,rfl⟩)
set_option maxRecDepth 100000 in
theorem said:Rows.TopKeysSaid:=
 OpenClaim.holds_of_cond 3 Tryz.f3 rfl rfl rfl rfl rfl rfl rfl ⟨rfl,rfl,rfl,rfl,rfl⟩ rfl rfl rfl rfl rfl named Tryz.func3 closed inst wrap
  (λ os started H enc _ F=>by rw[OpenClaim.pre_eq_preRow];exact lifted os started H enc F)
theorem plain(f:FuncId)(fn:Func)(hf:Tryz.pinned.checked.prog.funcNamed Rows.topKeysRow.func=some f)(SV:Tryz.pinned.checked.prog.funcs[f]?=some fn):
 false=Tryz.pinned.checked.prog.looks []/\∀(j:Nat) t,fn.params[j]?=some t->Tryz.pinned.checked.prog.wantsStandIn t=false:=by
 obtain rfl:f=3:=Option.some.inj (named.symm.trans hf)|>.symm;obtain rfl:fn=Tryz.f3:=(Option.some.inj (Tryz.func3.symm.trans SV)).symm;refine⟨by kernel_rfl,λ j t ht=> ?_⟩;rw[Tryz.params3] at ht;have IU:=Array.mem_of_getElem? ht;simp only[List.mem_toArray,List.mem_cons,List.not_mem_nil,or_false] at IU;rcases IU with rfl|rfl|rfl
 ·exact(show Tryz.prog.wantsStandIn 9=false by kernel_rfl)
 ·exact(show Tryz.prog.wantsStandIn 9=false by kernel_rfl)
 ·exact(show Tryz.prog.wantsStandIn 9=false by kernel_rfl)
theorem proved:Rows.TopKeysCardSaid:=
 Claim7.holds_tied_plain_at .later [] _ _ _ _ said (λ _ h=>by cases h) V (λ _ h=>by cases h) topKeys_row_tie rfl ⟨rfl,rfl⟩ V rfl plain V
#print axioms proved
end Go.Proofs.YtncpbkoinennoaaGreatDoor.topKeys
