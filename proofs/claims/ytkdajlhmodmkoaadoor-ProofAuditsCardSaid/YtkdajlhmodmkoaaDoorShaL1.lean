/-
  Layer 2 (sha): ShaSums walked.
-/
import Derived.Test.YtkdajlhmodmkoaaDoorShaY
namespace Go.Proofs.YtkdajlhmodmkoaaDoor
open Go.RowKit
set_option linter.unusedVariables false
set_option linter.unusedSimpArgs false

theorem run_min_int2 {P : Program} (w : World) (ts : Array TypeId) (t : TypeId) (k1 k2 : IntKind) (x y : Int) (n : Int) (hn : min x y = n) : (Builtin.min_ ts t #[.int k1 x, .int k2 y]).run P w = .ok (.int k1 n) w := by
  subst hn
  simp [Builtin.min_, Builtin.min2]
  have e : ∀ p q : Int, (if q < p then q else p) = min p q := fun p q => by rw [Int.min_def]; split <;> split <;> omega
  simp only [e]
theorem cut_min (s : ByteArray) (c : Nat) (x : Int) (hx : x = (c : Int)) : ∃ m : Nat, m = min s.size c ∧ (0 : Int) ≤ (m : Int) ∧ (m : Int) ≤ (s.size : Int) ∧ m ≤ s.size ∧ m ≤ c ∧ ∀ wx, (Builtin.min_ #[3, 3] 3 #[.int .i64 (s.size : Int), .int .i64 x]).run Tryd.prog wx = .ok (.int .i64 m) wx := by
  subst hx
  exact ⟨min s.size c, rfl, by omega, by omega, by omega, by omega, fun wx => run_min_int2 wx _ _ _ _ _ _ _ (by omega)⟩
theorem rsumB (s : ByteArray) (hs : s.size ≤ 100000000) (w : World) : Calls Tryd.prog 23 #[.string s] w fun e w' => e = .returned (.string (sumB s)) ∧ Below w.heap.size w w' := rsum_any s hs w
theorem rleafB (s : ByteArray) (hs : s.size ≤ 90000000) (w : World) : Calls Tryd.prog 25 #[.string s] w fun e w' => e = .returned (.string (leafB s)) ∧ Below w.heap.size w w' := rleaf_any s hs w
theorem rnodeB (l r : ByteArray) (hl : l.size ≤ 40000000) (hr : r.size ≤ 40000000) (w : World) : Calls Tryd.prog 34 #[.string l, .string r] w fun e w' => e = .returned (.string (nodeB l r)) ∧ Below w.heap.size w w' := rnode_any l r hl hr w
theorem rhexB (s : ByteArray) (hs : s.size ≤ 100000000) (w : World) : Calls Tryd.prog 27 #[.string s] w fun e w' => e = .returned (.string (hexB s)) ∧ Below w.heap.size w w' :=
  (rhex_any s hs w).mono (by rintro e w' ⟨rfl, n, rfl⟩; exact ⟨rfl, below_drewN' (Below.refl _ _) n⟩)

set_option maxRecDepth 100000 in
theorem shaSums_walk (s : ByteArray) (hs : s.size ≤ maxLen) {w : World} (hT : Tab w) :
    Calls Tryd.prog 3 #[.string s] w fun e w' => e = .returned (.bool true) ∧ Below w.heap.size w w' := by
  obtain ⟨m, -, h0, h1, h2, h3, hmin⟩ := cut_min s 500 500 rfl
  have HT := Lib.hid hT; clear hT
  go_enter Tryd.func3, Tryd.ntmps3
  go_wp2_with fail
  have hx := ext_le s m
  refine (sum_any HT.out _ (by omega)).mono ?_
  rintro e w1 ⟨rfl, hb1⟩
  have Hb1 := Lib.hid hb1; clear hb1
  go_wp2_with fail
  refine (rsumB _ (by omega) _).mono ?_
  rintro e w2 ⟨rfl, hb2⟩
  have Hb2 := Lib.hid (Hb1.out.trans (hb2.mono Hb1.out.size)); clear hb2
  go_wp2_with fail
  refine (leaf_any (HT.out.below Hb2.out) _ (by omega)).mono ?_
  rintro e w3 ⟨rfl, hb3⟩
  have Hb3 := Lib.hid (Hb2.out.trans (hb3.mono Hb2.out.size)); clear hb3
  go_wp2_with fail
  refine (rleafB _ (by omega) _).mono ?_
  rintro e w4 ⟨rfl, hb4⟩
  have Hb4 := Lib.hid (Hb3.out.trans (hb4.mono Hb3.out.size)); clear hb4
  go_wp2_with fail
  refine (hex_any' _ (by omega) _).mono ?_
  rintro e w5 ⟨rfl, hb5⟩
  have Hb5 := Lib.hid (Hb4.out.trans (hb5.mono Hb4.out.size)); clear hb5
  go_wp2_with fail
  refine (rhexB _ (by omega) _).mono ?_
  rintro e w6 ⟨rfl, hb6⟩
  have Hb6 := Lib.hid (Hb5.out.trans (hb6.mono Hb5.out.size)); clear hb6
  go_wp2_with fail
  refine (fixed_any (HT.out.below Hb6.out)).mono ?_
  rintro e w7 ⟨rfl, hb7⟩
  have Hb7 := Lib.hid (Hb6.out.trans (hb7.mono Hb6.out.size)); clear hb7
  go_wp2
  go_ret
  exact ⟨rfl, Hb7.out⟩
end Go.Proofs.YtkdajlhmodmkoaaDoor
