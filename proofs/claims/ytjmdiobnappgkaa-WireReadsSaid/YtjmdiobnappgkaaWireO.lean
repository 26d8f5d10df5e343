/-
  Layer 11 (wire): a script, opened: a slice of structs of a kind, a number and a string.
-/
import Derived.Test.YtjmdiobnappgkaaWireF
import Derived.Test.YtjmdiobnappgkaaDiskO
namespace Go.Proofs.Ytjmdiobnappgkaa
open Go.ChangeShapes Go.WideShapes Go.ChangeAt Go.RowKit Go.Joins Go.Deep
set_option linter.unusedVariables false

/-- A part of a script. -/
structure PartV where
  K : Int
  N : Nat
  S : ByteArray
structure AtPart (w : World) (B : Nat) (A : Option Addr) (i : Nat) (o : PartV) (b q : Nat) : Prop where
  at_ : A = some ⟨b, q, none⟩
  lt : b < B
  c0 : w.cell? ⟨b, q + i * 3, none⟩ = some (.int .i64 o.K)
  c1 : w.cell? ⟨b, q + i * 3 + 1, none⟩ = some (.int .u64 (o.N : Int))
  c2 : w.cell? ⟨b, q + i * 3 + 2, none⟩ = some (.string o.S)
  hK : -9223372036854775808 ≤ o.K ∧ o.K ≤ 9223372036854775807
  hN : o.N < 18446744073709551616
  hS : o.S.size ≤ maxLen
def IsParts (w : World) (B : Nat) (A : Option Addr) (len : Nat) (ops : Nat → PartV) : Prop := len ≤ maxLen ∧ ∀ i, i < len → ∃ b q, AtPart w B A i (ops i) b q

theorem u64_of_wf {n : Int} (h : (Lit.int .u64 n).wf = true) : ∃ m : Nat, m < 18446744073709551616 ∧ n = (m : Int) := by
  simp [Lit.wf, IntKind.min, IntKind.max, IntKind.signed, IntKind.bits] at h
  exact ⟨n.toNat, by omega, by omega⟩
theorem cells69 : Try.prog.cellsOf 69 = 3 := by kernel_rfl
theorem cells67 : Try.prog.cellsOf 67 = 1 := by kernel_rfl
theorem list3 {α : Type} {l : List α} (h : l.length = 3) : ∃ a b c, l = [a, b, c] := by
  match l, h with
  | [a, b, c], _ => exact ⟨a, b, c, rfl⟩

set_option maxRecDepth 100000 in
theorem open_list59 {H : Type} {enc : TypeId × Value → H} {w : World} {base : Nat} {spare : Nat → Bool} {held : Bool} {A : Option Addr} {len cap : Nat} {d : DataW H} {p : List MemPlace}
    (h : DataW.Trod enc Try.prog w base spare held 59 (.slice A len cap) d p) : ∃ ops, IsParts w w.heap.size A len ops := by
  obtain ⟨fuel, hf⟩ := h
  rcases open_slice Try.underlying59 hf with ⟨h0, _⟩ | ⟨a, l, c, m, n, D, Pl, h0, hb, hl, hm, hmm, _, hx⟩
  · simp [Value.cells] at h0
    obtain ⟨rfl, rfl, rfl⟩ := h0
    exact ⟨fun _ => ⟨0, 0, ⟨#[]⟩⟩, by decide, fun i hi => absurd hi (by omega)⟩
  · simp [Value.cells] at h0
    obtain ⟨rfl, rfl, rfl⟩ := h0
    have hlm : len ≤ m := by rw [hmm]; split <;> omega
    obtain ⟨ops, hops⟩ := choose_lt (α := Option PartV) (p := fun i o => ∃ o', o = some o' ∧ ∃ b q, AtPart w w.heap.size (some a) i o' b q) (n := len) (fun i hi => by
      obtain ⟨cs', hc, ht⟩ := hx i (by omega)
      obtain ⟨hbase, hlen, hcell⟩ := World.cells?_some hc
      rw [cells69] at hlen hcell
      obtain ⟨x0, x1, x2, rfl⟩ := list3 hlen
      have e0 := hcell 0 (by omega)
      have e1 := hcell 1 (by omega)
      have e2 := hcell 2 (by omega)
      obtain ⟨b, o, spot⟩ := a
      simp only [List.getElem?_cons_zero, List.getElem?_cons_succ] at e0 e1 e2
      obtain ⟨xs, n', _, _, _, hxl, hat⟩ := DataW.trod_struct Try.underlying69 ht
      have hxl' : xs.length = 3 := hxl
      obtain ⟨y0, y1, y2, rfl⟩ := list3 hxl'
      have g0 : DataW.trod enc Try.prog w base spare held n' 3 (([x0, x1, x2].drop 0).take (Try.prog.cellsOf 3)) = [y0, y1, y2][0]? := hat 0 _ rfl
      have g1 : DataW.trod enc Try.prog w base spare held n' 67 (([x0, x1, x2].drop 1).take (Try.prog.cellsOf 67)) = [y0, y1, y2][1]? := hat 1 _ rfl
      have g2 : DataW.trod enc Try.prog w base spare held n' 9 (([x0, x1, x2].drop 2).take (Try.prog.cellsOf 9)) = [y0, y1, y2][2]? := hat 2 _ rfl
      simp only [cells3, cells67, cells9, List.drop, List.take, List.getElem?_cons_zero, List.getElem?_cons_succ] at g0 g1 g2
      obtain ⟨k, hk, _, wk⟩ := DataW.trod_int Try.underlying3 g0
      obtain ⟨nn, hn, _, wn⟩ := DataW.trod_int Try.underlying67 g1
      obtain ⟨s, hs, _, ws⟩ := DataW.trod_string Try.underlying9 g2
      simp only [List.cons.injEq, and_true] at hk hn hs
      subst hk hn hs
      obtain ⟨nv, hnv, rfl⟩ := u64_of_wf wn
      have hspot : spot = none := by
        obtain ⟨cs0, hc0, _⟩ := hx 0 (by omega)
        obtain ⟨_, hl0, hcl⟩ := World.cells?_some hc0
        rw [cells69] at hl0 hcl
        have z0 := hcl 0 (by omega)
        rw [List.getElem?_eq_getElem (by omega)] at z0
        simpa [Addr.add] using World.cell?_spot z0
      subst hspot
      simp only [add_plain] at e0 e1 e2
      refine ⟨_, ⟨⟨k, nv, s⟩, rfl, b, o, rfl, World.block_lt_of_cell? w _ e0, e0, e1, e2, i64_of_wf wk, hnv, ws⟩⟩)
    exact ⟨fun i => (ops i).getD ⟨0, 0, ⟨#[]⟩⟩, by omega, fun i hi => by
      obtain ⟨o', ho, b, q, hq⟩ := hops i hi
      exact ⟨b, q, by show AtPart w w.heap.size (some a) i ((ops i).getD _) b q; rw [ho]; exact hq⟩⟩
end Go.Proofs.Ytjmdiobnappgkaa
