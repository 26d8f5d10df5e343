/-
  Layer 15 (journal): a script, opened, and cut to size (function 65).
-/
import Derived.Test.YtjmdiobnappgkaaJO
namespace Go.Proofs.Ytjmdiobnappgkaa
open Go.ChangeShapes Go.WideShapes Go.ChangeAt Go.RowKit Go.Joins Go.Deep
set_option linter.unusedVariables false
set_option linter.unusedSimpArgs false

/-- A call of a script. -/
structure OpM where
  K : Int
  S : ByteArray
  u : Value
  L : List ByteArray
  N : Int
def OpM.wf (o : OpM) : Prop := (-9223372036854775808 ≤ o.K ∧ o.K ≤ 9223372036854775807) ∧ (-9223372036854775808 ≤ o.N ∧ o.N ≤ 9223372036854775807) ∧ o.S.size ≤ maxLen ∧ ∀ s ∈ o.L, s.size ≤ maxLen
structure AtCall (w : World) (A : Option Addr) (i : Nat) (o : OpM) (b q : Nat) : Prop where
  at_ : A = some ⟨b, q, none⟩
  lt : b < w.heap.size
  c0 : w.cell? ⟨b, q + i * 4, none⟩ = some (.int .i64 o.K)
  c1 : w.cell? ⟨b, q + i * 4 + 1, none⟩ = some (.string o.S)
  c2 : w.cell? ⟨b, q + i * 4 + 2, none⟩ = some o.u
  c3 : w.cell? ⟨b, q + i * 4 + 3, none⟩ = some (.int .i64 o.N)
  rd : SRead w o.u o.L
  wf : o.wf
def IsScript (w : World) (A : Option Addr) (len : Nat) (ops : Nat → OpM) : Prop := len ≤ maxLen ∧ ∀ i, i < len → ∃ b q, AtCall w A i (ops i) b q
theorem cells96 : Try.prog.cellsOf 96 = 4 := by kernel_rfl
theorem cells94 : Try.prog.cellsOf 94 = 1 := by kernel_rfl
theorem open_list94' {H : Type} {enc : TypeId × Value → H} {w : World} {base : Nat} {spare : Nat → Bool} {held : Bool} {fuel : Nat} {x : Value} {y : DataW H × List MemPlace}
    (hf : DataW.trod enc Try.prog w base spare held fuel 94 [x] = some y) : ∃ L, SRead w x L ∧ ∀ s ∈ L, s.size ≤ maxLen := by
  have hx : ∃ A len cap, x = .slice A len cap := by
    rcases open_strings Try.underlying94 Try.underlying9 cells9 hf with ⟨h0, _⟩ | ⟨a, l, c, ss, h0, _⟩
    · simp at h0; exact ⟨_, _, _, h0⟩
    · simp at h0; exact ⟨_, _, _, h0⟩
  obtain ⟨A, len, cap, rfl⟩ := hx
  exact open_list94 (d := y.1) (p := y.2) ⟨fuel, hf⟩
set_option maxRecDepth 100000 in
theorem open_list88 {H : Type} {enc : TypeId × Value → H} {w : World} {base : Nat} {spare : Nat → Bool} {held : Bool} {A : Option Addr} {len cap : Nat} {d : DataW H} {p : List MemPlace}
    (h : DataW.Trod enc Try.prog w base spare held 88 (.slice A len cap) d p) : ∃ ops, IsScript w A len ops := by
  obtain ⟨fuel, hf⟩ := h
  rcases open_slice Try.underlying88 hf with ⟨h0, _⟩ | ⟨a, l, c, m, n, D, Pl, h0, hb, hl, hm, hmm, _, hx⟩
  · simp [Value.cells] at h0
    obtain ⟨rfl, rfl, rfl⟩ := h0
    exact ⟨fun _ => ⟨0, ⟨#[]⟩, .slice none 0 0, [], 0⟩, by decide, fun i hi => absurd hi (by omega)⟩
  · simp [Value.cells] at h0
    obtain ⟨rfl, rfl, rfl⟩ := h0
    have hlm : len ≤ m := by rw [hmm]; split <;> omega
    obtain ⟨ops, hops⟩ := choose_lt (α := Option OpM) (p := fun i o => ∃ o', o = some o' ∧ ∃ b q, AtCall w (some a) i o' b q) (n := len) (fun i hi => by
      obtain ⟨cs', hc, ht⟩ := hx i (by omega)
      obtain ⟨hbase, hlen, hcell⟩ := World.cells?_some hc
      rw [cells96] at hlen hcell
      obtain ⟨x0, x1, x2, x3, rfl⟩ := list4 hlen
      have e0 := hcell 0 (by omega)
      have e1 := hcell 1 (by omega)
      have e2 := hcell 2 (by omega)
      have e3 := hcell 3 (by omega)
      obtain ⟨b, o, spot⟩ := a
      simp only [List.getElem?_cons_zero, List.getElem?_cons_succ] at e0 e1 e2 e3
      obtain ⟨xs, n', _, _, _, hxl, hat⟩ := DataW.trod_struct Try.underlying96 ht
      have hxl' : xs.length = 4 := hxl
      obtain ⟨y0, y1, y2, y3, rfl⟩ := list4 hxl'
      have g0 : DataW.trod enc Try.prog w base spare held n' 3 (([x0, x1, x2, x3].drop 0).take (Try.prog.cellsOf 3)) = [y0, y1, y2, y3][0]? := hat 0 _ rfl
      have g1 : DataW.trod enc Try.prog w base spare held n' 9 (([x0, x1, x2, x3].drop 1).take (Try.prog.cellsOf 9)) = [y0, y1, y2, y3][1]? := hat 1 _ rfl
      have g2 : DataW.trod enc Try.prog w base spare held n' 94 (([x0, x1, x2, x3].drop 2).take (Try.prog.cellsOf 94)) = [y0, y1, y2, y3][2]? := hat 2 _ rfl
      have g3 : DataW.trod enc Try.prog w base spare held n' 3 (([x0, x1, x2, x3].drop 3).take (Try.prog.cellsOf 3)) = [y0, y1, y2, y3][3]? := hat 3 _ rfl
      simp only [cells3, cells94, cells9, List.drop, List.take, List.getElem?_cons_zero, List.getElem?_cons_succ] at g0 g1 g2 g3
      obtain ⟨k, hk, _, wk⟩ := DataW.trod_int Try.underlying3 g0
      obtain ⟨s, hs, _, ws⟩ := DataW.trod_string Try.underlying9 g1
      obtain ⟨L, hL, wL⟩ := open_list94' g2
      obtain ⟨nn, hn, _, wn⟩ := DataW.trod_int Try.underlying3 g3
      simp only [List.cons.injEq, and_true] at hk hn hs
      subst hk hn hs
      have hspot : spot = none := by
        obtain ⟨cs0, hc0, _⟩ := hx 0 (by omega)
        obtain ⟨_, hl0, hcl⟩ := World.cells?_some hc0
        rw [cells96] at hl0 hcl
        have z0 := hcl 0 (by omega)
        rw [List.getElem?_eq_getElem (by omega)] at z0
        simpa [Addr.add] using World.cell?_spot z0
      subst hspot
      simp only [add_plain] at e0 e1 e2 e3
      refine ⟨_, ⟨⟨k, s, x2, L, nn⟩, rfl, b, o, rfl, World.block_lt_of_cell? w _ e0, e0, e1, e2, e3, hL, i64_of_wf wk, i64_of_wf wn, ws, wL⟩⟩)
    exact ⟨fun i => (ops i).getD ⟨0, ⟨#[]⟩, .slice none 0 0, [], 0⟩, by omega, fun i hi => by
      obtain ⟨o', ho, b, q, hq⟩ := hops i hi
      exact ⟨b, q, by show AtCall w (some a) i ((ops i).getD _) b q; rw [ho]; exact hq⟩⟩
theorem winfo96 : (Try.prog.info? 96).map (fun i => (i.zero, i.size, i.bytes)) = some (some (.agg #[.int .i64 0, .string ⟨#[]⟩, .slice none 0 0, .int .i64 0]), 4, 56) := by kernel_rfl
end Go.Proofs.Ytjmdiobnappgkaa
