/-
  Layer 8 (tree): TrailingZeros64 walked; slices.ContainsFunc at the widths.
-/
import Derived.Test.YtkdajlhmodmkoaaDoorTB1
namespace Go.Proofs.YtkdajlhmodmkoaaDoor
open Go.RowKit TreeM
set_option linter.unusedVariables false
set_option linter.unusedSimpArgs false

theorem bru_tab : ∀ t : Nat, t < 64 → (2 ^ t * 285870213051353865 % 18446744073709551616 / 288230376151711744 < 64) ∧ zBru[2 ^ t * 285870213051353865 % 18446744073709551616 / 288230376151711744]? = some (t : Int) := by decide +kernel
theorem Bru.cell {w : World} (h : Bru w) {i : Nat} {z : Int} (hz : zBru[i]? = some z) : w.cell? ⟨2, i, none⟩ = some (.int .u8 z) := by
  obtain ⟨t, fr, h⟩ := h
  rw [cell_of_row _ _ _ _ _ _ h]
  simp [hz]
theorem Bru.below {w w' : World} (h : Bru w) (hb : Below w.heap.size w w') : Bru w' := by
  obtain ⟨t, fr, h⟩ := h
  have := (Array.getElem?_eq_some_iff.1 h).1
  exact ⟨t, fr, (hb.block 2 this).trans h⟩
set_option maxRecDepth 100000 in
theorem trail64_any {w : World} (hB : Bru w) (n Y : Nat) (hY : Y + n = 18446744073709551615) (hn : n < 18446744073709551615) :
    Calls Tryd.prog 73 #[.int .u64 (Y : Int)] w fun e w' => e = .returned (.int .i64 (trail n : Int)) ∧ w' = w := by
  have hlow := low_zero 64 n (by omega)
  rw [show 2 ^ 64 - 1 - n = Y by omega] at hlow
  have htl := trail_lt 64 n (by omega)
  obtain ⟨hi, hz⟩ := bru_tab _ htl
  have hp : 2 ^ trail n < 18446744073709551616 := Nat.pow_lt_pow_right (a := 2) (by decide) htl
  generalize trail n = t at *
  generalize 2 ^ t = p at *
  obtain ⟨V, hV⟩ : ∃ V, p * 285870213051353865 % 18446744073709551616 = V := ⟨_, rfl⟩
  obtain ⟨I, hI⟩ : ∃ I, V / 288230376151711744 = I := ⟨_, rfl⟩
  rw [hV, hI] at hi hz
  have hc := hB.cell hz
  have hne : ¬ (Y : Int) = 0 := by omega
  have hne' : ¬ Y = 0 := by omega
  obtain ⟨M, hM⟩ : ∃ M, n + 1 = M := ⟨_, rfl⟩
  rw [hM] at hlow
  have e1 : IntKind.u64.wrap (-(Y : Int)) = (M : Int) := by show (-(Y : Int)) % 18446744073709551616 = _; omega
  have e2 : bits .and .u64 (Y : Int) (M : Int) = (p : Int) := by rw [u64_and_nat _ _ (by omega) (by omega), hlow]
  have e3 : IntKind.u64.wrap ((p : Int) * 285870213051353865) = (V : Int) := by show ((p : Int) * 285870213051353865) % 18446744073709551616 = _; omega
  have e4 : (V : Int) / 288230376151711744 = (I : Int) := by omega
  have i0 : (0 : Int) ≤ (I : Int) := by omega
  have i1 : (I : Int) < 64 := by omega
  have e5 : IntKind.i64.wrap (t : Int) = (t : Int) := IntWalk.i64_in _ (by omega)
  have i2 : I < 64 := hi
  clear hB hlow hz hV hI hM hp hY hn hi htl hne'
  go_enter Tryd.func73, Tryd.ntmps73
  go_wp2
  go_ret
  exact ⟨rfl, rfl⟩
/-- A slice of strings, and its cells in every world that has them. -/
theorem SRead.len {w : World} {A : Option Addr} {len cap : Nat} {L : List ByteArray} (h : SRead w (.slice A len cap) L) : len = L.length := by
  obtain ⟨_, _, he, _⟩ := h
  injection he
/-- Is every string as wide as a hash? -/
def wideB (L : List ByteArray) : Bool := L.all fun s => s.size == 32
end Go.Proofs.YtkdajlhmodmkoaaDoor
