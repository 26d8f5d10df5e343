/-
  A range that came in, opened.
-/
import Derived.Test.YtkdajlhmodmkoaaDoorTO
namespace Go.Proofs.YtkdajlhmodmkoaaDoor
open Go.ChangeShapes Go.WideShapes Go.ChangeAt Go.RowKit Go.Joins Go.Deep
set_option linter.unusedVariables false
set_option linter.unusedSimpArgs false

theorem cells50 : Tryd.prog.cellsOf 50 = 2 := by kernel_rfl
theorem cells42 : Tryd.prog.cellsOf 42 = 1 := by kernel_rfl
theorem cells25 : Tryd.prog.cellsOf 25 = 1 := by kernel_rfl
theorem array2' {cs : Array Value} (h : cs.size = 2) : ∃ a b, cs = #[a, b] := by
  obtain ⟨l⟩ := cs
  match l, h with
  | [a, b], _ => exact ⟨a, b, rfl⟩
set_option maxRecDepth 100000 in
theorem open_range50 {H : Type} {enc : TypeId × Value → H} {w : World} {base : Nat} {spare : Nat → Bool} {held : Bool} {r : Reach} {b0 : Nat} {v : Value} {d : DataW H} {p : List MemPlace}
    (hv : Value.okWide Tryd.prog w r b0 50 v) (h : DataW.Trod enc Tryd.prog w base spare held 50 v d p) :
    ∃ (b : Int) (A : Option Addr) (len cap : Nat), v = .agg #[.int .u64 b, .slice A len cap] ∧ (Lit.int .u64 b).wf = true ∧ ∃ L, SRead w (.slice A len cap) L ∧ ∀ s ∈ L, s.size ≤ maxLen := by
  have hv' : ∃ cs, v = .agg cs ∧ cs.size = Tryd.prog.cellsOf 50 := by
    simp only [Value.okWide, Tryd.underlying50] at hv
    obtain ⟨cs, h1, h2, _⟩ := hv
    exact ⟨cs, h1, h2⟩
  obtain ⟨cs, rfl, hsz⟩ := hv'
  obtain ⟨c0, c1, rfl⟩ := array2' (hsz.trans cells50)
  obtain ⟨fuel, hf⟩ := h
  obtain ⟨y0, y1, n, -, -, h0, h1⟩ := trod_struct2 Tryd.underlying50 hf
  simp only [Value.cells, cells42, cells25] at h0 h1
  have h0' : DataW.trod enc Tryd.prog w base spare held n 42 [c0] = some y0 := by simpa using h0
  have h1' : DataW.trod enc Tryd.prog w base spare held n 25 [c1] = some y1 := by simpa using h1
  obtain ⟨b, hb, -, hw⟩ := DataW.trod_int Tryd.underlying42 h0'
  have hb' : c0 = .int .u64 b := by simpa using hb
  rcases open_strings Tryd.underlying25 Tryd.underlying9 cells9 h1' with ⟨hc, _⟩ | ⟨a, l, c, ss, hc, _⟩
  · have hc' : c1 = .slice none 0 0 := by simpa using hc
    subst hb' hc'
    obtain ⟨L, hL⟩ := open_list25 (A := none) (len := 0) (cap := 0) (d := y1.1) (p := y1.2) ⟨n, h1'⟩
    exact ⟨b, none, 0, 0, rfl, hw, L, hL⟩
  · have hc' : c1 = .slice (some a) l c := by simpa using hc
    subst hb' hc'
    obtain ⟨L, hL⟩ := open_list25 (A := some a) (len := l) (cap := c) (d := y1.1) (p := y1.2) ⟨n, h1'⟩
    exact ⟨b, some a, l, c, rfl, hw, L, hL⟩
end Go.Proofs.YtkdajlhmodmkoaaDoor
