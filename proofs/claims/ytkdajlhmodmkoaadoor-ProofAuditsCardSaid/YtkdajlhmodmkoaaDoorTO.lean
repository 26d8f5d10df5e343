/-
  A slice of strings that came in, opened.
-/
import Derived.Test.YtkdajlhmodmkoaaDoorTS
import Derived.Test.YtkdajlhmodmkoaaDoorCard
import Derived.WalkKit
import Derived.ProofKit
import Derived.OpenShut
import Derived.Lib.SmallJoins
namespace Go.Proofs.YtkdajlhmodmkoaaDoor
open Go.ChangeShapes Go.WideShapes Go.ChangeAt Go.RowKit Go.Joins Go.Deep
set_option linter.unusedVariables false
set_option linter.unusedSimpArgs false

theorem cells9 : Tryd.prog.cellsOf 9 = 1 := by kernel_rfl
theorem open_list25 {H : Type} {enc : TypeId × Value → H} {w : World} {base : Nat} {spare : Nat → Bool} {held : Bool} {A : Option Addr} {len cap : Nat} {d : DataW H} {p : List MemPlace}
    (h : DataW.Trod enc Tryd.prog w base spare held 25 (.slice A len cap) d p) : ∃ L, SRead w (.slice A len cap) L ∧ ∀ s ∈ L, s.size ≤ maxLen := by
  obtain ⟨fuel, hf⟩ := h
  rcases open_strings Tryd.underlying25 Tryd.underlying9 cells9 hf with ⟨h0, _⟩ | ⟨a, l, c, ss, h0, hb, hl, hm, hss, _, hc, hz⟩
  · simp [Value.cells] at h0
    obtain ⟨rfl, rfl, rfl⟩ := h0
    exact ⟨[], ⟨none, 0, rfl, by decide, fun i hi => absurd hi (by simp)⟩, by simp⟩
  · simp [Value.cells] at h0
    obtain ⟨rfl, rfl, rfl⟩ := h0
    have hlm : len ≤ ss.length := by rw [hss]; split <;> omega
    have hlen : (ss.take len).length = len := by rw [List.length_take]; omega
    refine ⟨ss.take len, ⟨some a, cap, by rw [hlen], by rw [hlen]; omega, fun i hi => ?_⟩, fun s hs => hz s (List.mem_of_mem_take hs)⟩
    rw [hlen] at hi
    have hc0 := hc i (by omega)
    have hspot := World.cell?_spot (hc 0 (by omega))
    obtain ⟨b, o, spot⟩ := a
    have : spot = none := by simpa [Addr.add] using hspot
    subst this
    rw [Addr.add_lit] at hc0
    refine ⟨b, o, rfl, ⟨World.block_lt_of_cell? w _ hc0, by rw [hlen]; exact hl⟩, ?_⟩
    rw [hc0, List.getElem_take, List.getD_eq_getElem?_getD, List.getElem?_eq_getElem (by omega)]; rfl
end Go.Proofs.YtkdajlhmodmkoaaDoor
