/-
  Layer 2 (sha), the document's answer: round walked.
-/
import Derived.Test.YtkdajlhmodmkoaaDoorShaF
import Derived.Test.YtkdajlhmodmkoaaDoorShaR
namespace Go.Proofs.YtkdajlhmodmkoaaDoor
open Go.RowKit
set_option linter.unusedVariables false
set_option linter.unusedSimpArgs false

/-- In world w the slice v, in a block from base on, reads as the words l. -/
def URead (base : Nat) (w : World) (v : Value) (l : List UInt32) : Prop := ∃ g cap, v = .slice (some ⟨g, 0, none⟩) l.length cap ∧ base ≤ g ∧ g < w.heap.size ∧ ∀ i, i < l.length → w.cell? ⟨g, i, none⟩ = some (.int .u32 ((l.getD i 0).toNat : Int))
theorem URead.below {b : Nat} {w w' : World} {v : Value} {l : List UInt32} (h : URead b w v l) (hb : Below w.heap.size w w') : URead b w' v l := by
  obtain ⟨g, cap, hv, h0, hg, hc⟩ := h
  exact ⟨g, cap, hv, h0, Nat.lt_of_lt_of_le hg hb.size, fun i hi => (hb.cell (p := ⟨g, i, none⟩) hg).trans (hc i hi)⟩
theorem URead.mono {b b' : Nat} {w : World} {v : Value} {l : List UInt32} (h : URead b w v l) (hb : b' ≤ b) : URead b' w v l := by
  obtain ⟨g, cap, hv, h0, r⟩ := h
  exact ⟨g, cap, hv, by omega, r⟩
theorem URead.new (w : World) (t : TypeId) (l : List UInt32) (cap : Nat) : URead w.heap.size (w.alloc (.cells (ucells l) t)) (.slice (some ⟨w.heap.size, 0, none⟩) l.length cap) l :=
  ⟨_, _, rfl, Nat.le_refl _, by simp, fun i hi => by
    rw [(Blk.new w t (ucells l)).cell]
    simp only [ucells, List.getElem?_toArray, List.getElem?_map]
    rw [List.getElem?_eq_getElem hi, List.getD_eq_getElem?_getD, List.getElem?_eq_getElem hi]; rfl⟩
theorem c_sub (x : UInt32) : (4294967295 : Int) - (x.toNat : Int) = ((unot x).toNat : Int) := u_sub x
theorem c_mod (x : UInt32) : (x.toNat : Int) % 4294967296 = (x.toNat : Int) := by have := x.toNat_lt; omega
theorem g_sum41 (a b c d e : UInt32) : (((a.toNat : Int) + (b.toNat : Int) + (c.toNat : Int) + (d.toNat : Int)) % 4294967296 + (e.toNat : Int)) % 4294967296 = ((a + b + c + d + e).toNat : Int) := by
  rw [UInt32.toNat_add, UInt32.toNat_add, UInt32.toNat_add, UInt32.toNat_add]; omega
theorem c_sum12 (a b c : UInt32) : ((a.toNat : Int) + ((b.toNat : Int) + (c.toNat : Int))) % 4294967296 = ((a + (b + c)).toNat : Int) := by
  rw [UInt32.toNat_add, UInt32.toNat_add]; omega
theorem URead.new8 (w : World) (t : TypeId) (a b c d e f g h : UInt32) : URead w.heap.size (w.alloc (.cells #[.int .u32 (a.toNat : Int), .int .u32 (b.toNat : Int), .int .u32 (c.toNat : Int), .int .u32 (d.toNat : Int), .int .u32 (e.toNat : Int), .int .u32 (f.toNat : Int), .int .u32 (g.toNat : Int), .int .u32 (h.toNat : Int)] t)) (.slice (some ⟨w.heap.size, 0, none⟩) 8 8) [a, b, c, d, e, f, g, h] := URead.new w t [a, b, c, d, e, f, g, h] 8
/-- A value that reads as words, behind a call. -/
def UPost (w : World) (l : List UInt32) (e : Ending) (w' : World) : Prop := (∃ v, e = .returned v ∧ URead w.heap.size w' v l) ∧ Below w.heap.size w w'

set_option maxRecDepth 100000 in
set_option maxHeartbeats 4000000 in
theorem round_any {w : World} {base : Nat} {x : Value} {v : ShaM.V8} (h : URead base w x (vl v)) (kk ww : UInt32) :
    Calls Tryd.prog 68 #[x, .int .u32 (kk.toNat : Int), .int .u32 (ww.toNat : Int)] w (UPost w (vl (ShaM.rnd v kk ww))) := by
  obtain ⟨g, cap, rfl, -, hg, hc⟩ := h
  obtain ⟨a, b, c, d, e, f, g', h⟩ := v
  have va : w.cell? ⟨g, 0, none⟩ = some (.int .u32 (a.toNat : Int)) := hc 0 (show 0 < 8 by decide)
  have vb : w.cell? ⟨g, 1, none⟩ = some (.int .u32 (b.toNat : Int)) := hc 1 (show 1 < 8 by decide)
  have vc : w.cell? ⟨g, 2, none⟩ = some (.int .u32 (c.toNat : Int)) := hc 2 (show 2 < 8 by decide)
  have vd : w.cell? ⟨g, 3, none⟩ = some (.int .u32 (d.toNat : Int)) := hc 3 (show 3 < 8 by decide)
  have ve : w.cell? ⟨g, 4, none⟩ = some (.int .u32 (e.toNat : Int)) := hc 4 (show 4 < 8 by decide)
  have vf : w.cell? ⟨g, 5, none⟩ = some (.int .u32 (f.toNat : Int)) := hc 5 (show 5 < 8 by decide)
  have vg : w.cell? ⟨g, 6, none⟩ = some (.int .u32 (g'.toNat : Int)) := hc 6 (show 6 < 8 by decide)
  have vh : w.cell? ⟨g, 7, none⟩ = some (.int .u32 (h.toNat : Int)) := hc 7 (show 7 < 8 by decide)
  clear hc hg
  have U1 := c_xor; have U2 := c_and; have U3 := c_sub; have U5 := c_mod
  rw [show (vl ⟨a, b, c, d, e, f, g', h⟩).length = 8 from rfl]
  go_enter Tryd.func68, Tryd.ntmps68
  go_wp2
  go_quiet (fail)
  go_wp2
  go_quiet ((go_at_call 95; exact (right_any e _ (by decide) (by decide) _).mono fun _ _ ⟨he, hm⟩ => ⟨he, _, hm⟩))
  rw [g_sum41]
  generalize hX : h + uxor (uxor (ShaM.rotr 6 e) (ShaM.rotr 11 e)) (ShaM.rotr 25 e) + uxor (uand e f) (uand (unot e) g') + kk + ww = X
  have HX : Hid (ShaM.rx ⟨a, b, c, d, e, f, g', h⟩ kk ww = X) := Lib.hid hX
  clear hX
  go_wp2_with ((go_at_call 95; refine (right_any a _ (by decide) (by decide) _).mono ?_; rintro e w' ⟨rfl, rfl⟩))
  rw [c_sum12, c_sum2 d X]
  have Hv : vl (ShaM.rnd ⟨a, b, c, d, e, f, g', h⟩ kk ww) = [X + (uxor (uxor (ShaM.rotr 2 a) (ShaM.rotr 13 a)) (ShaM.rotr 22 a) + uxor (uxor (uand a b) (uand a c)) (uand b c)), a, b, c, d + X, e, f, g'] := by
    unfold ShaM.rnd; rw [HX.out]; rfl
  have Hv2 := Lib.hid Hv; clear Hv
  go_ret
  exact ⟨⟨_, rfl, by rw [Hv2.out]; exact URead.new8 (w.drewN _) 26 _ _ _ _ _ _ _ _⟩, (below_drewN' (Below.refl _ _) _).alloc (Nat.le_refl _) _⟩
end Go.Proofs.YtkdajlhmodmkoaaDoor
