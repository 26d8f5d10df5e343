/-
  The card of TopTells: for every input the law returns true, and each argument reads afterwards as it read before; the tables that its row lists are tied to the program's text (the tie is given). No condition of our own.
-/
import Derived.Test.YtncpbkoinennoaaGreatDoorMBM
import Derived.Test.YtncpbkoinennoaaGreatDoorMAC
import Derived.Test.YtncpbkoinennoaaGreatDoorMAZ
import Derived.WalkKit
import Derived.ProofKit
import Derived.OpenShut
import Derived.ShutString
import Derived.Below
import Derived.Lib.SmallJoins
import Derived.Deep.Slices
import Derived.Deep.Fields
import Derived.Deep.DeepHandedRow
import Derived.SizedLaws
namespace Go.Proofs.YtncpbkoinennoaaGreatDoor.topTells
open Go.ChangeShapes Go.WideShapes Go.ChangeAt Go.RowKit Go.Joins Go.Deep
open Go.ChangeMaps (open_string shut_string)
set_option linter.unusedVariables false
theorem own:ownKnob Tryz.prog.godebug=none:=by kernel_rfl
theorem laidOut:laidOutB Tryz.prog=true:=by kernel_rfl
theorem TY(os:Os):laidMet Tryz.prog Rows.topTellsRow.laid ((Cd os).forCall (λ _ _=>0) ⟨#[],#[.string ByteArray.empty,.slice none 0 0,.int .u16 0],[]⟩).memory:=
 laidMet_of_run' 8 V V
theorem reads(os:Os){H:Type}(enc:TypeId×Value->H):∃places,DataW.whole enc Tryz.prog ((Cd os).forCall (λ _ _=>0) ⟨#[],#[.string ByteArray.empty,.slice none 0 0,.int .u16 0],[]⟩).memory Tryz.f4.params.toList Rows.topTellsSpec.vars Rows.topTellsRow.apart #[(.string ByteArray.empty:Value),(.slice none 0 0:Value),(.int .u16 0:Value)].toList 8=some ([.lit (.string []),.nil,.lit (.int .u16 0)],[],places):=
 ⟨[],by kernel_rfl⟩
set_option maxRecDepth 100000 in
set_option maxHeartbeats 1000000 in
theorem lifted(os:Os)(started:os.Started)(H:Type)(enc:TypeId×Value->H)(F:Stop.Interp):
 ReturnsInHanded {} Tryz.checked os 4 .any ((OpenSpec.ofChange Rows.topTellsSpec).preRow enc Tryz.prog Tryz.f4 Rows.topTellsRow.domain Rows.topTellsRow.apart Rows.topTellsRow.laid) (((OpenSpec.ofChange Rows.topTellsSpec).at F).post enc Tryz.prog Tryz.f4 Rows.topTellsRow.apart true false false):=by
 obtain⟨places,hx⟩:=reads os enc;refine returnsInHanded_of_row (C:=Tryz.checked) (s:=OpenSpec.ofChange Rows.topTellsSpec) own started V Tryz.func4
  (witness_row_at (enc:=enc) (C:=Tryz.checked) false (Cd os) #[.string ByteArray.empty,.slice none 0 0,.int .u16 0] rfl V V V
   (OpenSpec.preRow_of_cond 8 hx V (λ k hk=>by cases hk) V (TY os))) ?_
 intro sV base args ds gs before Hn hW _ _ acU hL _ _;have w5:∀(j:Nat) t v,Tryz.f4.params[j]?=some t->args[j]?=some v->Value.okWide Tryz.prog sV .any base t v:=Hn;have QZ:=hW;obtain⟨p,q,hA0,hV,rfl,hfz,hnd⟩:=hW;have hA:DataW.TrodAll enc Tryz.prog sV 0 (λ _=>true) true Tryz.f4.params.toList args.toList ds p:=hA0;rw[Tryz.params4] at hA w5;obtain⟨v0,vs0,d0,ds0,p0,q0,acm,rfl,rfl,h0,r0⟩:=trodAll_cons hA;obtain⟨v1,vs1,d1,ds1,p1,q1,rfl,rfl,rfl,h1,r1⟩:=trodAll_cons r0;obtain⟨v2,vs2,d2,ds2,p2,q2,rfl,rfl,rfl,h2,r2⟩:=trodAll_cons r1;obtain⟨rfl,rfl,rfl⟩:=trodAll_nil r2;obtain rfl:args=#[v0,v1,v2]:=by cases args;simp_all
 obtain⟨rfl,rfl⟩:=trodVars_none hV;have k0:=h0;have UH:∀x∈p0,x.block<sV.heap.size:=by obtain⟨m,hm⟩:=k0;exact DataW.trod_lt m _ _ _ hm
 obtain⟨a0,e0,-,-,w0⟩:=open_string Tryz.underlying9 (w5 0 9 v0 rfl rfl) h0;subst e0;have k1:=h1;have UI:∀x∈p1,x.block<sV.heap.size:=by obtain⟨m,hm⟩:=k1;exact DataW.trod_lt m _ _ _ hm
 obtain⟨a1,Uj,NQ,e1⟩:=okWide_slice Tryz.underlying41 (w5 1 41 v1 rfl rfl);subst e1;obtain⟨z1,w1⟩:=VO h1;have k2:=h2;have UJ:∀x∈p2,x.block<sV.heap.size:=by obtain⟨m,hm⟩:=k2;exact DataW.trod_lt m _ _ _ hm
 obtain⟨a2,e2,-,-,w2⟩:=open_int Tryz.underlying42 (w5 2 42 v2 rfl rfl) h2;subst e2;clear hA0 Hn;have hT:bQ sV:=Y7 hL;refine(Zt a0 w0 a1 Uj NQ z1 w1 a2 w2 hT).mono λ e W' ⟨he,aK⟩=> ?_;subst he;exact⟨_,rfl,_,_,_,[],_,[],QZ,trodAll_mk1 (shut_bool Tryz.underlying4 _),(trodAll_cons_mk (Below.trod laidOut V (of_decide_eq_true V) k0 aK UH) (trodAll_cons_mk (Below.trod laidOut V (of_decide_eq_true V) k1 aK UI) (trodAll_cons_mk (Below.trod laidOut V (of_decide_eq_true V) k2 aK UJ) trodAll_mk0))),rfl,aK.frame _,λ h=>by cases h⟩
theorem Ob(s:String)(h:s.toList=sm.map Char.ofNat):joinedFacts {toTables:={Tryz.progTables with initOrder:=s},funcs:=Tryz.funcs} 4 Tryz.f4 Rows.topTellsSpec Rows.topTellsRow=true:=by
 unfold joinedFacts;rw[P3 s h,Uq s h,UT s h];kernel_rfl
theorem closed:joinedFacts Tryz.prog 4 Tryz.f4 Rows.topTellsSpec Rows.topTellsRow=true:=Ob _ Rc
theorem named:Tryz.prog.funcNamed Rows.topTellsRow.func=some 4:=by kernel_rfl
theorem inst:Tryz.f4.isInstance Tryz.prog Rows.topTellsRow.origin Rows.topTellsRow.targs:=of_decide_eq_true V
theorem wrap:Tryz.f4.isWrapper Tryz.prog Rows.topTellsRow.wrapper Rows.topTellsRow.mainSum:=by
 unfold Func.isWrapper;first|(rw[if_pos (by decide+kernel)];kernel_rfl)|(rw[if_neg (by decide+kernel)];exact⟨rfl,rfl⟩)
set_option maxRecDepth 100000 in
theorem said:Rows.TopTellsSaid:=
 OpenClaim.holds_of_cond 4 Tryz.f4 rfl rfl rfl rfl rfl rfl rfl ⟨rfl,rfl,rfl,rfl,rfl⟩ rfl rfl rfl rfl rfl named Tryz.func4 closed inst wrap
  (λ os started H enc _ F=>by rw[OpenClaim.pre_eq_preRow];exact lifted os started H enc F)
theorem plain(f:FuncId)(fn:Func)(hf:Tryz.pinned.checked.prog.funcNamed Rows.topTellsRow.func=some f)(Rm:Tryz.pinned.checked.prog.funcs[f]?=some fn):
 false=Tryz.pinned.checked.prog.looks []/\∀(j:Nat) t,fn.params[j]?=some t->Tryz.pinned.checked.prog.wantsStandIn t=false:=by
 obtain rfl:f=4:=Option.some.inj (named.symm.trans hf)|>.symm;obtain rfl:fn=Tryz.f4:=(Option.some.inj (Tryz.func4.symm.trans Rm)).symm;refine⟨by kernel_rfl,λ j t ht=> ?_⟩;rw[Tryz.params4] at ht;have Hm:=Array.mem_of_getElem? ht;simp only[List.mem_toArray,List.mem_cons,List.not_mem_nil,or_false] at Hm;rcases Hm with rfl|rfl|rfl
 ·exact(show Tryz.prog.wantsStandIn 9=false by kernel_rfl)
 ·exact(show Tryz.prog.wantsStandIn 41=false by kernel_rfl)
 ·exact(show Tryz.prog.wantsStandIn 42=false by kernel_rfl)
theorem proved:Rows.TopTellsCardSaid:=
 Claim7.holds_tied_plain_at .later [] _ _ _ _ said (λ _ h=>by cases h) V (λ _ h=>by cases h) topTells_row_tie rfl ⟨rfl,rfl⟩ V rfl plain V
#print axioms proved
end Go.Proofs.YtncpbkoinennoaaGreatDoor.topTells
