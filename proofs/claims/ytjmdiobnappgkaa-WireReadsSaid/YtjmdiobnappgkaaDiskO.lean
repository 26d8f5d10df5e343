/-
  Layer 14 (disk): a script, opened: a slice of structs of a kind, two integers and a string.
-/
import Derived.Test.YtjmdiobnappgkaaDiskK
import Derived.OpenShut
import Derived.Lib.SmallJoins
import Derived.Deep.Slices
import Derived.ChangeSame
namespace Go.Proofs.Ytjmdiobnappgkaa
open Go.ChangeShapes Go.WideShapes Go.ChangeAt Go.RowKit Go.Joins Go.Deep
set_option linter.unusedVariables false

/-- An entry of a script. -/
structure OpV where
  K : Int
  F : Int
  N : Int
  S : ByteArray
/-- The slice A of len entries reads as ops; its cells lie below B. -/
structure AtOp (w : World) (B : Nat) (A : Option Addr) (i : Nat) (o : OpV) (b q : Nat) : Prop where
  at_ : A = some ⟨b, q, none⟩
  lt : b < B
  c0 : w.cell? ⟨b, q + i * 4, none⟩ = some (.int .i64 o.K)
  c1 : w.cell? ⟨b, q + i * 4 + 1, none⟩ = some (.int .i64 o.F)
  c2 : w.cell? ⟨b, q + i * 4 + 2, none⟩ = some (.int .i64 o.N)
  c3 : w.cell? ⟨b, q + i * 4 + 3, none⟩ = some (.string o.S)
  hK : -9223372036854775808 ≤ o.K ∧ o.K ≤ 9223372036854775807
  hF : -9223372036854775808 ≤ o.F ∧ o.F ≤ 9223372036854775807
  hN : -9223372036854775808 ≤ o.N ∧ o.N ≤ 9223372036854775807
  hS : o.S.size ≤ maxLen
def IsOps (w : World) (B : Nat) (A : Option Addr) (len : Nat) (ops : Nat → OpV) : Prop := len ≤ maxLen ∧ ∀ i, i < len → ∃ b q, AtOp w B A i (ops i) b q

theorem i64_of_wf {n : Int} (h : (Lit.int .i64 n).wf = true) : -9223372036854775808 ≤ n ∧ n ≤ 9223372036854775807 := by
  simp [Lit.wf, IntKind.min, IntKind.max, IntKind.signed, IntKind.bits] at h
  omega
theorem cells41 : Try.prog.cellsOf 41 = 4 := by kernel_rfl
theorem cells3 : Try.prog.cellsOf 3 = 1 := by kernel_rfl
theorem cells9 : Try.prog.cellsOf 9 = 1 := by kernel_rfl

theorem list4 {α : Type} {l : List α} (h : l.length = 4) : ∃ a b c d, l = [a, b, c, d] := by
  match l, h with
  | [a, b, c, d], _ => exact ⟨a, b, c, d, rfl⟩

set_option maxRecDepth 100000 in
theorem open_list34 {H : Type} {enc : TypeId × Value → H} {w : World} {base : Nat} {spare : Nat → Bool} {held : Bool} {A : Option Addr} {len cap : Nat} {d : DataW H} {p : List MemPlace}
    (h : DataW.Trod enc Try.prog w base spare held 34 (.slice A len cap) d p) : ∃ ops, IsOps w w.heap.size A len ops := by
  obtain ⟨fuel, hf⟩ := h
  rcases open_slice Try.underlying34 hf with ⟨h0, _⟩ | ⟨a, l, c, m, n, D, Pl, h0, hb, hl, hm, hmm, _, hx⟩
  · simp [Value.cells] at h0
    obtain ⟨rfl, rfl, rfl⟩ := h0
    exact ⟨fun _ => ⟨0, 0, 0, ⟨#[]⟩⟩, by decide, fun i hi => absurd hi (by omega)⟩
  · simp [Value.cells] at h0
    obtain ⟨rfl, rfl, rfl⟩ := h0
    have hlm : len ≤ m := by rw [hmm]; split <;> omega
    obtain ⟨ops, hops⟩ := choose_lt (α := Option OpV) (p := fun i o => ∃ o', o = some o' ∧ ∃ b q, AtOp w w.heap.size (some a) i o' b q) (n := len) (fun i hi => by
      obtain ⟨cs', hc, ht⟩ := hx i (by omega)
      obtain ⟨hbase, hlen, hcell⟩ := World.cells?_some hc
      rw [cells41] at hlen hcell
      obtain ⟨x0, x1, x2, x3, rfl⟩ := list4 hlen
      have e0 := hcell 0 (by omega)
      have e1 := hcell 1 (by omega)
      have e2 := hcell 2 (by omega)
      have e3 := hcell 3 (by omega)
      obtain ⟨b, o, spot⟩ := a
      simp only [List.getElem?_cons_zero, List.getElem?_cons_succ] at e0 e1 e2 e3
      obtain ⟨xs, n', _, _, _, hxl, hat⟩ := DataW.trod_struct Try.underlying41 ht
      have hxl' : xs.length = 4 := hxl
      obtain ⟨y0, y1, y2, y3, rfl⟩ := list4 hxl'
      have g0 : DataW.trod enc Try.prog w base spare held n' 3 (([x0, x1, x2, x3].drop 0).take (Try.prog.cellsOf 3)) = [y0, y1, y2, y3][0]? := hat 0 _ rfl
      have g1 : DataW.trod enc Try.prog w base spare held n' 3 (([x0, x1, x2, x3].drop 1).take (Try.prog.cellsOf 3)) = [y0, y1, y2, y3][1]? := hat 1 _ rfl
      have g2 : DataW.trod enc Try.prog w base spare held n' 3 (([x0, x1, x2, x3].drop 2).take (Try.prog.cellsOf 3)) = [y0, y1, y2, y3][2]? := hat 2 _ rfl
      have g3 : DataW.trod enc Try.prog w base spare held n' 9 (([x0, x1, x2, x3].drop 3).take (Try.prog.cellsOf 9)) = [y0, y1, y2, y3][3]? := hat 3 _ rfl
      simp only [cells3, cells9, List.drop, List.take, List.getElem?_cons_zero, List.getElem?_cons_succ] at g0 g1 g2 g3
      have ok_ := DataW.trod_int Try.underlying3 g0
      obtain ⟨k, hk, _, wk⟩ := ok_
      obtain ⟨f, hf', _, wf⟩ := DataW.trod_int Try.underlying3 g1
      obtain ⟨nn, hn, _, wn⟩ := DataW.trod_int Try.underlying3 g2
      obtain ⟨s, hs, _, ws⟩ := DataW.trod_string Try.underlying9 g3
      simp only [List.cons.injEq, and_true] at hk hf' hn hs
      subst hk hf' hn hs
      have hspot : spot = none := by
        obtain ⟨cs0, hc0, _⟩ := hx 0 (by omega)
        obtain ⟨_, hl0, hcl⟩ := World.cells?_some hc0
        rw [cells41] at hl0 hcl
        have z0 := hcl 0 (by omega)
        rw [List.getElem?_eq_getElem (by omega)] at z0
        simpa [Addr.add] using World.cell?_spot z0
      subst hspot
      simp only [add_plain] at e0 e1 e2 e3
      refine ⟨_, ⟨⟨k, f, nn, s⟩, rfl, b, o, rfl, World.block_lt_of_cell? w _ e0, e0, e1, e2, e3, i64_of_wf wk, i64_of_wf wf, i64_of_wf wn, ws⟩⟩)
    exact ⟨fun i => (ops i).getD ⟨0, 0, 0, ⟨#[]⟩⟩, by omega, fun i hi => by
      obtain ⟨o', ho, b, q, hq⟩ := hops i hi
      exact ⟨b, q, by show AtOp w w.heap.size (some a) i ((ops i).getD _) b q; rw [ho]; exact hq⟩⟩
end Go.Proofs.Ytjmdiobnappgkaa
