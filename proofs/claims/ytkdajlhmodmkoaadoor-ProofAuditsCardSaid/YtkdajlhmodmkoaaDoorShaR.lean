/-
  Layer 2 (sha): how a run lies in memory.
-/
import Derived.Test.YtkdajlhmodmkoaaDoorShaS
import Derived.Deep.MidRow
namespace Go.Proofs.YtkdajlhmodmkoaaDoor
open Go.RowKit
set_option linter.unusedVariables false
set_option linter.unusedSimpArgs false

/-- A run's cells: whether it is on, its words, what is left, how many bytes there were. -/
def rlist (on : Bool) (s : List UInt32) (left : List UInt8) (n : Nat) : List Value := Value.bool on :: (s.map uval ++ (bvals left ++ [.int .i64 (n : Int)]))
def rcells (on : Bool) (s : List UInt32) (left : List UInt8) (n : Nat) : Array Value := (rlist on s left n).toArray
section
variable {on : Bool} {s : List UInt32} {left : List UInt8} {n : Nat}
theorem rcells_size (hs : s.length = 8) (hl : left.length = 64) : (rcells on s left n).size = 74 := by simp [rcells, rlist, bvals, hs, hl]
theorem rcells_one : ∀ v ∈ (rcells on s left n).toList, v.oneCell' = true := by
  intro v hv
  simp only [rcells, rlist, List.mem_cons, List.mem_append, List.mem_map, bvals, List.not_mem_nil, or_false] at hv
  rcases hv with rfl | ⟨x, _, rfl⟩ | ⟨x, _, rfl⟩ | rfl <;> rfl
theorem r_on : (rcells on s left n)[0]? = some (.bool on) := by simp [rcells, rlist]
theorem r_s (hs : s.length = 8) (i : Nat) (hi : i < 8) : (rcells on s left n)[1 + i]? = some (.int .u32 ((s.getD i 0).toNat : Int)) := by
  rw [Nat.add_comm 1 i]
  simp only [rcells, rlist, List.getElem?_toArray, List.getElem?_cons_succ]
  rw [List.getElem?_append_left (by simp [hs, hi]), List.getElem?_map, List.getElem?_eq_getElem (by omega), List.getD_eq_getElem?_getD, List.getElem?_eq_getElem (by omega)]
  rfl
theorem r_l (hs : s.length = 8) (hl : left.length = 64) (i : Nat) (hi : i < 64) : (rcells on s left n)[9 + i]? = some (.int .u8 ((left.getD i 0).toNat : Int)) := by
  rw [show 9 + i = (8 + i) + 1 by omega]
  simp only [rcells, rlist, List.getElem?_toArray, List.getElem?_cons_succ]
  rw [List.getElem?_append_right (by simp [hs]), List.length_map, hs, Nat.add_sub_cancel_left, List.getElem?_append_left (by simp [bvals, hl, hi])]
  simp only [bvals, List.getElem?_map]
  rw [List.getElem?_eq_getElem (by omega), List.getD_eq_getElem?_getD, List.getElem?_eq_getElem (by omega)]
  rfl
theorem r_n (hs : s.length = 8) (hl : left.length = 64) : (rcells on s left n)[73]? = some (.int .i64 (n : Int)) := by
  simp only [rcells, rlist, List.getElem?_toArray]
  rw [show 73 = 72 + 1 from rfl, List.getElem?_cons_succ, List.getElem?_append_right (by simp [hs]), List.length_map, hs, List.getElem?_append_right (by simp [bvals, hl])]
  simp [bvals, hl]
theorem set_on (b : Bool) : (rcells on s left n).setIfInBounds 0 (.bool b) = rcells b s left n := by simp [rcells, rlist]
theorem set_s (hs : s.length = 8) (i : Nat) (hi : i < 8) (x : UInt32) : (rcells on s left n).setIfInBounds (1 + i) (.int .u32 (x.toNat : Int)) = rcells on (s.set i x) left n := by
  rw [Nat.add_comm 1 i]
  simp only [rcells, rlist, List.setIfInBounds_toArray, List.set_cons_succ]
  rw [List.set_append_left _ _ (by simp [hs, hi]), List.map_set]
  rfl
theorem set_l (hs : s.length = 8) (hl : left.length = 64) (i : Nat) (hi : i < 64) (c : UInt8) : (rcells on s left n).setIfInBounds (9 + i) (.int .u8 (c.toNat : Int)) = rcells on s (left.set i c) n := by
  rw [show 9 + i = (8 + i) + 1 by omega]
  simp only [rcells, rlist, List.setIfInBounds_toArray, List.set_cons_succ]
  rw [List.set_append_right _ _ (by simp [hs]), List.length_map, hs, Nat.add_sub_cancel_left, List.set_append_left _ _ (by simp [bvals, hl, hi])]
  simp only [bvals, List.map_set]
theorem set_n (hs : s.length = 8) (hl : left.length = 64) (m : Nat) : (rcells on s left n).setIfInBounds 73 (.int .i64 (m : Int)) = rcells on s left m := by
  simp only [rcells, rlist, List.setIfInBounds_toArray]
  rw [show 73 = 72 + 1 from rfl, List.set_cons_succ, List.set_append_right _ _ (by simp [hs]), List.length_map, hs, List.set_append_right _ _ (by simp [bvals, hl])]
  simp [bvals, hl]
end
/-- Eight words as a list. -/
def vl (v : ShaM.V8) : List UInt32 := [v.a, v.b, v.c, v.d, v.e, v.f, v.g, v.h]
theorem vl_length (v : ShaM.V8) : (vl v).length = 8 := rfl
section
variable {w w' : World} {g : Nat} {on : Bool} {s : List UInt32} {left : List UInt8} {n : Nat}
/-- In world w block g is such a run. -/
def RB (w : World) (g : Nat) (on : Bool) (s : List UInt32) (left : List UInt8) (n : Nat) : Prop := Blk w g 30 (rcells on s left n) ∧ s.length = 8 ∧ left.length = 64
theorem RB.gON (h : RB w g on s left n) : w.cell? ⟨g, 0, none⟩ = some (.bool on) := (h.1.cell 0).trans r_on
theorem RB.gS (h : RB w g on s left n) (i : Nat) (hi : i < 8) : w.cell? ⟨g, 1 + i, none⟩ = some (.int .u32 ((s.getD i 0).toNat : Int)) := (h.1.cell _).trans (r_s h.2.1 i hi)
theorem RB.gL (h : RB w g on s left n) (i : Nat) (hi : i < 64) : w.cell? ⟨g, 9 + i, none⟩ = some (.int .u8 ((left.getD i 0).toNat : Int)) := (h.1.cell _).trans (r_l h.2.1 h.2.2 i hi)
theorem RB.gN (h : RB w g on s left n) : w.cell? ⟨g, 73, none⟩ = some (.int .i64 (n : Int)) := (h.1.cell _).trans (r_n h.2.1 h.2.2)
theorem RB.fr (h : RB w g on s left n) (i : Nat) : w.frozen? ⟨g, i, none⟩ = false := h.1.frozen i
theorem RB.setOn (h : RB w g on s left n) (b : Bool) : RB (w.setCell ⟨g, 0, none⟩ (.bool b)) g b s left n := ⟨by rw [← set_on (on := on)]; exact h.1.set_ 0 _, h.2⟩
theorem RB.setS (h : RB w g on s left n) (i : Nat) (hi : i < 8) (x : UInt32) : RB (w.setCell ⟨g, 1 + i, none⟩ (.int .u32 (x.toNat : Int))) g on (s.set i x) left n :=
  ⟨by rw [← set_s h.2.1 i hi]; exact h.1.set_ _ _, by simp [h.2.1], h.2.2⟩
theorem RB.setL (h : RB w g on s left n) (i : Nat) (hi : i < 64) (c : UInt8) : RB (w.setCell ⟨g, 9 + i, none⟩ (.int .u8 (c.toNat : Int))) g on s (left.set i c) n :=
  ⟨by rw [← set_l h.2.1 h.2.2 i hi]; exact h.1.set_ _ _, h.2.1, by simp [h.2.2]⟩
theorem RB.setN (h : RB w g on s left n) (m : Nat) : RB (w.setCell ⟨g, 73, none⟩ (.int .i64 (m : Int))) g on s left m := ⟨by rw [← set_n h.2.1 h.2.2]; exact h.1.set_ _ _, h.2⟩
/-- The words are stored whole. -/
theorem RB.setV (h : RB w g on s left n) (v : ShaM.V8) : RB (w.setCells g 1 ((vl v).map uval)) g on (vl v) left n := by
  have h1 := (((((((h.setS 0 (by decide) v.a).setS 1 (by decide) v.b).setS 2 (by decide) v.c).setS 3 (by decide) v.d).setS 4 (by decide) v.e).setS 5 (by decide) v.f).setS 6 (by decide) v.g).setS 7 (by decide) v.h
  have hs := h.2.1
  match s, hs with
  | [a0, a1, a2, a3, a4, a5, a6, a7], _ => exact h1
theorem RB.range (h : RB w g on s left n) : w.rangeAt g 1 (s.map uval) := by
  intro j v hv
  have hj : j < 8 := by
    have := (List.getElem?_eq_some_iff.1 hv).1
    rw [List.length_map, h.2.1] at this; exact this
  rw [h.gS j hj, ← hv, List.getElem?_map, List.getElem?_eq_getElem (by rw [h.2.1]; exact hj), List.getD_eq_getElem?_getD, List.getElem?_eq_getElem (by rw [h.2.1]; exact hj)]
  rfl
theorem RB.there (h : RB w g on s left n) : w.there g 1 8 := fun j hj => ⟨by rw [h.gS j hj]; rfl, h.fr _⟩
theorem RB.lt (h : RB w g on s left n) : g < w.heap.size := h.1.lt
theorem RB.below (h : RB w g on s left n) (hb : Below w.heap.size w w') : RB w' g on s left n := ⟨(hb.block g h.lt).trans h.1, h.2⟩
theorem RB.drewN (h : RB w g on s left n) (q : Nat) : RB (w.drewN q) g on s left n := h
theorem RB.far (h : RB w g on s left n) {p : Addr} (hp : g ≠ p.block) (u : Value) : RB (w.setCell p u) g on s left n := ⟨h.1.far hp u, h.2⟩
theorem RB.alloc (h : RB w g on s left n) (o : Obj) : RB (w.alloc o) g on s left n := ⟨h.1.alloc o, h.2⟩
theorem RB.setRow (h : RB w g on s left n) {k : Nat} (hk : g ≠ k) (cs : Array Value) : RB (w.setRow k cs) g on s left n := ⟨h.1.setRow_far cs hk, h.2⟩
end
/-- The tables of the program. -/
structure Tab (w : World) : Prop where
  b : ∃ t fr, w.heap[0]? = some (.cells (ucells (vl ShaM.begin8)) t fr)
  k : ∃ t fr, w.heap[1]? = some (.cells (ucells ShaM.K) t fr)
theorem Tab.lt {w : World} (h : Tab w) : 2 ≤ w.heap.size := by
  obtain ⟨_, t, fr, h⟩ := h
  have := (Array.getElem?_eq_some_iff.1 h).1; omega
theorem Tab.key {w : World} (h : Tab w) (i : Nat) (hi : i < 64) : w.cell? ⟨1, i, none⟩ = some (.int .u32 ((ShaM.K.getD i 0).toNat : Int)) := by
  obtain ⟨_, t, fr, h⟩ := h
  rw [cell_of_row _ _ _ _ _ _ h]
  simp only [ucells, List.getElem?_toArray, List.getElem?_map]
  rw [List.getElem?_eq_getElem (by exact hi), List.getD_eq_getElem?_getD, List.getElem?_eq_getElem (by exact hi)]
  rfl
theorem Tab.below {w w' : World} (h : Tab w) (hb : Below w.heap.size w w') : Tab w' := by
  have := h.lt
  obtain ⟨⟨t, fr, h1⟩, t', fr', h2⟩ := h
  exact ⟨⟨t, fr, (hb.block 0 (by omega)).trans h1⟩, t', fr', (hb.block 1 (by omega)).trans h2⟩
theorem Tab.only {w w' : World} {l : List Nat} {B : Nat} (h : Tab w) (hb : Only B l w w') (hB : 2 ≤ B) (h0 : 0 ∉ l) (h1 : 1 ∉ l) : Tab w' := by
  obtain ⟨⟨t, fr, e1⟩, t', fr', e2⟩ := h
  exact ⟨⟨t, fr, (hb.block 0 (by omega) h0).trans e1⟩, t', fr', (hb.block 1 (by omega) h1).trans e2⟩
end Go.Proofs.YtkdajlhmodmkoaaDoor
