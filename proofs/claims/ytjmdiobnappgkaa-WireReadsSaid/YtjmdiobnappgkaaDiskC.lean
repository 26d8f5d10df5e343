/-
  Layer 14 (disk): the walk of Crash.
-/
import Derived.Test.YtjmdiobnappgkaaDiskW3
import Derived.Laws.EntriesVeiled
import Derived.StillTailTactics
namespace Go.Proofs.Ytjmdiobnappgkaa
open Go.RowKit
set_option linter.unusedVariables false
set_option linter.unusedSimpArgs false

set_option maxRecDepth 100000 in
set_option maxHeartbeats 400000 in
theorem undo_any {bb gw gs g f n s : Nat} {x : ByteArray} {w : World} (hbox : w.cell? ⟨bb, 0, none⟩ = some (.pointer (some ⟨g, 0, none⟩))) (hw0 : w.cell? ⟨gw, 0, none⟩ = some (.int .i64 (f : Int))) (hw1 : w.cell? ⟨gw, 1, none⟩ = some (.int .i64 (n : Int)))
    (hs0 : w.cell? ⟨gs, 0, none⟩ = some (.int .i64 (s : Int))) (cf : w.cell? ⟨g, f, none⟩ = some (.string x)) (ff : w.frozen? ⟨g, f, none⟩ = false) (hf : f < 2) (hn : n ≤ x.size) (hs : s ≤ n) (hx : x.size ≤ 16777216) :
    Calls Try.prog 85 #[.pointer (some ⟨bb, 0, none⟩), .pointer (some ⟨gw, 0, none⟩), .pointer (some ⟨gs, 0, none⟩)] w fun e w' => e = .returned (.tuple #[]) ∧ w' = (w.setCell ⟨g, f, none⟩ (.string (x.extract 0 (x.size - n + s)))).drew := by
  have hfi : (f : Int) < 2 := by omega
  have hcut : (x.size : Int) - (n : Int) + (s : Int) = ((x.size - n + s : Nat) : Int) := by omega
  have hc2 : x.size - n + s ≤ x.size := by omega
  have hc3 : ((x.size - n + s : Nat) : Int) ≤ (x.size : Int) := by omega
  have hni : (n : Int) ≤ (x.size : Int) := by omega
  have hwr1 : IntKind.i64.wrap ((x.size : Int) - (n : Int)) = ((x.size - n : Nat) : Int) := by rw [IntKind.wrap_i64]; omega
  have hwr2 : IntKind.i64.wrap (((x.size - n : Nat) : Int) + (s : Int)) = ((x.size - n + s : Nat) : Int) := by rw [IntKind.wrap_i64]; omega
  generalize hm : x.size - n + s = m at *
  generalize x.size - n = m0 at *
  have Hm := Lib.hid hm; clear hm
  go_enter Try.func85, Try.ntmps85
  go_wp2
  go_still_tail 27, (by kernel_rfl)
  show wpList _ _ _ _ _ w.drew
  go_wp2
  go_end0
  exact ⟨rfl, rfl⟩

/-- How many bytes of an entry stay; what may be kept behind it. -/
def stay (keep : Int) (n : Nat) : Nat := (max 0 (min keep (n : Int))).toNat
def stays : List (Nat × Nat) → Int → List Nat
  | [], _ => []
  | p :: l, keep => stay keep p.2 :: stays l (keep - stay keep p.2)
def kept : List (Nat × Nat) → Int → Int
  | [], keep => keep
  | p :: l, keep => kept l (keep - stay keep p.2)
theorem stays_length (l : List (Nat × Nat)) : ∀ keep, (stays l keep).length = l.length := by
  induction l with
  | nil => intro _; rfl
  | cons p l ih => intro keep; simp [stays, ih]
theorem kept_snoc (l : List (Nat × Nat)) (p : Nat × Nat) : ∀ keep, kept (l ++ [p]) keep = kept l keep - stay (kept l keep) p.2 := by
  induction l with
  | nil => intro _; rfl
  | cons q l ih => intro keep; simp only [List.cons_append, kept]; exact ih _
theorem stays_snoc (l : List (Nat × Nat)) (p : Nat × Nat) : ∀ keep, stays (l ++ [p]) keep = stays l keep ++ [stay (kept l keep) p.2] := by
  induction l with
  | nil => intro _; rfl
  | cons q l ih => intro keep; simp only [List.cons_append, stays, kept, ih]
theorem stay_le (keep : Int) (n : Nat) : stay keep n ≤ n := by unfold stay; omega
theorem kept_bd (l : List (Nat × Nat)) : ∀ keep, -9223372036854775808 ≤ keep → keep ≤ 9223372036854775807 → -9223372036854775808 ≤ kept l keep ∧ kept l keep ≤ 9223372036854775807 := by
  induction l with
  | nil => intro keep h1 h2; exact ⟨h1, h2⟩
  | cons p l ih => intro keep h1 h2; exact ih _ (by unfold stay; omega) (by unfold stay; omega)

theorem info1 : (Try.prog.info? 1).map (fun i => (i.zero, i.size, i.bytes)) = some (some .nilFunc, 1, 8) := by kernel_rfl

def fval (bb : Nat) (p : Nat × Nat) : Value := .func (.func 85) #[] #[.pointer (some ⟨bb, 0, none⟩), .pointer (some ⟨p.1, 0, none⟩), .pointer (some ⟨p.2, 0, none⟩)]
def fvals (bb : Nat) (L : List (Nat × Nat)) : List Value := L.map (fval bb)

end Go.Proofs.Ytjmdiobnappgkaa
