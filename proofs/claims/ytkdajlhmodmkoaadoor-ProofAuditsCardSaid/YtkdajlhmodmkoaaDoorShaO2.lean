/-
  Small laws: where several operations of a drawn region may come up next.
-/
import Derived.Test.YtkdajlhmodmkoaaDoorShaO
namespace Go.Proofs.YtkdajlhmodmkoaaDoor
open Go.RowKit
set_option linter.unusedVariables false
section
variable {P : Program} {Q : Exit → Act → World → Prop} {S : World → Prop} {n : Nat} {l : List Oper}
/-- Each of the operations rs may come up next. -/
def AllT (P : Program) (l : List Oper) (Q : Exit → Act → World → Prop) (S : World → Prop) (n f : Nat) (listed : Array Bool) (a : Act) (w : World) (rs : List Nat) : Prop :=
  ∀ i ∈ rs, wpOp P l.toArray Q i (fun a' w' => S w' ∧ WalkT P l Q S n f (listed.setIfInBounds i true) a' w') a w
theorem AllT.nil {f : Nat} {listed : Array Bool} {a : Act} {w : World} : AllT P l Q S n f listed a w [] := fun _ h => by cases h
theorem AllT.cons {i : Nat} {o : Oper} {f : Nat} {listed : Array Bool} {a : Act} {w : World} {rs : List Nat} (ho : l.toArray[i]? = some o)
    (h : ∀ K' : Act → World → Prop, Shut (∀ a w, S w → (S w → WalkT P l Q S n f (listed.setIfInBounds i true) a w) → K' a w) → if Region.wanted o (yielded l.toArray a.tmps) = true then Oper.wp P o a w K' Q else K' (a.put o.dst undef) w)
    (hs : AllT P l Q S n f listed a w rs) : AllT P l Q S n f listed a w (i :: rs) := fun j hj => by
  rcases List.mem_cons.1 hj with rfl | hj
  · exact wpOp_step ho (fun K' hK => h K' (fun a w hS hW => hK a w ⟨hS, hW hS⟩))
  · exact hs j hj
theorem WalkT.many {rs : List Nat} {f : Nat} {listed : Array Bool} {a : Act} {w : World} (hr : Region.ready .any l.toArray listed = rs) (hne : rs ≠ []) (hin : ∀ i ∈ rs, i < n)
    (h : AllT P l Q S n f listed a w rs) : WalkT P l Q S n (f + 1) listed a w := fun h1 h2 h3 h4 inv => by
  refine ⟨by rw [hr]; exact hne, fun j hj => ?_⟩
  have hj' : j ∈ rs := by rw [← hr]; exact hj
  exact ⟨hin j hj', wpOp_mono (fun a' w' h' => ⟨h'.1, h'.2 h1 h2 h3 h4 (inv.set hj (hin j hj'))⟩) (h j hj')⟩
end
end Go.Proofs.YtkdajlhmodmkoaaDoor
