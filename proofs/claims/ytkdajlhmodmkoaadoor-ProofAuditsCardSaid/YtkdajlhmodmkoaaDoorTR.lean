/-
  Layer 8 (tree): Right walked, the code's and the document's.
-/
import Derived.Test.YtkdajlhmodmkoaaDoorTR0
namespace Go.Proofs.YtkdajlhmodmkoaaDoor
open Go.RowKit TreeM
set_option linter.unusedVariables false
set_option linter.unusedSimpArgs false

/-- May a range be? -/
def rightB (n : Nat) (L : List ByteArray) : Bool := decide (n ≤ 1099511627776) && (ones n == L.length) && wideB L
set_option maxRecDepth 100000 in
set_option maxHeartbeats 2000000 in
theorem tright_any {w : World} (n : Nat) (hn : n < 18446744073709551616) {u : Value} {L : List ByteArray} (h : SRead w u L) :
    Calls Tryd.prog 48 #[.agg #[.int .u64 (n : Int), u]] w fun e w' => e = .returned (.bool (rightB n L)) ∧ Below w.heap.size w w' := by
  obtain ⟨R, hR⟩ : ∃ R, rightB n L = R := ⟨_, rfl⟩
  rw [hR]
  have hw1 := alloc_below' w (.cells #[.int .u64 (n : Int), u] 50)
  have hB : Blk (w.alloc (.cells #[.int .u64 (n : Int), u] 50)) w.heap.size 50 #[.int .u64 (n : Int), u] := Blk.new _ _ _
  have c0 := hB.cell 0
  have c1 := hB.cell 1
  simp only [List.getElem?_toArray, List.getElem?_cons_succ, List.getElem?_cons_zero] at c0 c1
  have hlen : L.length ≤ 9223372036854775807 := by obtain ⟨A, cap, rfl, hm, hc⟩ := h; exact hm
  have H1 : ∀ q, SRead ((w.alloc (.cells #[.int .u64 (n : Int), u] 50)).drewN q) u L := fun q => (h.below (below_drewN' hw1 q) rfl)
  have HC := Lib.hid (fun q => contains75_any (H1 q))
  have HO := Lib.hid (ones64_any n hn)
  have Hw1 := Lib.hid hw1
  obtain ⟨A, cap, rfl, -, -⟩ := h
  clear hw1 hB H1 hn
  unfold rightB at hR
  by_cases h1 : n ≤ 1099511627776
  · have l1 : (n : Int) ≤ 1099511627776 := by omega
    rw [decide_eq_true h1, Bool.true_and] at hR
    by_cases h2 : ones n = L.length
    · rw [beq_iff_eq.2 h2, Bool.true_and] at hR
      rw [h2] at HO
      have HR := Lib.hid hR; clear hR h2
      go_enter Tryd.func48, Tryd.ntmps48
      go_wp2
      generalize w.alloc (.cells #[.int .u64 (n : Int), .slice A L.length cap] 50) = W at *
      refine wp_region_still_lit (by kernel_rfl) (by kernel_rfl) ?_
      repeat still_step
      still_call (HO.out _)
      repeat still_step
      still_call (HC.out 1)
      rw [HR.out]
      repeat still_step
      refine wpStill_nil ?_
      go_wp2
      go_ret
      exact ⟨by cases R <;> rfl, below_drewN' Hw1.out 1⟩
    · have l2 : ((ones n : Int) == (L.length : Int)) = false := by rw [beq_eq_false_iff_ne]; omega
      rw [show (ones n == L.length) = false by rw [beq_eq_false_iff_ne]; exact h2, Bool.false_and] at hR
      subst hR
      clear h2
      generalize ones n = q at *
      go_enter Tryd.func48, Tryd.ntmps48
      go_wp2
      generalize w.alloc (.cells #[.int .u64 (n : Int), .slice A L.length cap] 50) = W at *
      refine wp_region_still_lit (by kernel_rfl) (by kernel_rfl) ?_
      repeat still_step
      still_call (HO.out _)
      still_step
      still_step
      still_step
      still_step
      still_step
      still_step
      with_reducible refine wpStill_dead ?_ ?_
      · rfl
      simp only [Act.put, List.setIfInBounds_toArray, List.set_cons_zero, List.set_cons_succ]
      with_reducible refine wpStill_dead ?_ ?_
      · rfl
      simp only [Act.put, List.setIfInBounds_toArray, List.set_cons_zero, List.set_cons_succ]
      with_reducible refine wpStill_dead ?_ ?_
      · rfl
      simp only [Act.put, List.setIfInBounds_toArray, List.set_cons_zero, List.set_cons_succ]
      with_reducible refine wpStill_dead ?_ ?_
      · rfl
      simp only [Act.put, List.setIfInBounds_toArray, List.set_cons_zero, List.set_cons_succ]
      with_reducible refine wpStill_dead ?_ ?_
      · rfl
      simp only [Act.put, List.setIfInBounds_toArray, List.set_cons_zero, List.set_cons_succ]
      still_step
      still_step
      refine wpStill_nil ?_
      go_wp2
      go_ret
      exact ⟨rfl, below_drewN' Hw1.out 1⟩
  · have l1 : ((n : Int) ≤ 1099511627776) = False := eq_false (by omega)
    rw [decide_eq_false h1, Bool.false_and, Bool.false_and] at hR
    subst hR
    go_enter Tryd.func48, Tryd.ntmps48
    go_wp2
    generalize w.alloc (.cells #[.int .u64 (n : Int), .slice A L.length cap] 50) = W at *
    refine wp_region_still_lit (by kernel_rfl) (by kernel_rfl) ?_
    still_step
    still_step
    still_step
    still_step
    with_reducible refine wpStill_dead ?_ ?_
    · rfl
    simp only [Act.put, List.setIfInBounds_toArray, List.set_cons_zero, List.set_cons_succ]
    with_reducible refine wpStill_dead ?_ ?_
    · rfl
    simp only [Act.put, List.setIfInBounds_toArray, List.set_cons_zero, List.set_cons_succ]
    with_reducible refine wpStill_dead ?_ ?_
    · rfl
    simp only [Act.put, List.setIfInBounds_toArray, List.set_cons_zero, List.set_cons_succ]
    with_reducible refine wpStill_dead ?_ ?_
    · rfl
    simp only [Act.put, List.setIfInBounds_toArray, List.set_cons_zero, List.set_cons_succ]
    with_reducible refine wpStill_dead ?_ ?_
    · rfl
    simp only [Act.put, List.setIfInBounds_toArray, List.set_cons_zero, List.set_cons_succ]
    with_reducible refine wpStill_dead ?_ ?_
    · rfl
    simp only [Act.put, List.setIfInBounds_toArray, List.set_cons_zero, List.set_cons_succ]
    with_reducible refine wpStill_dead ?_ ?_
    · rfl
    simp only [Act.put, List.setIfInBounds_toArray, List.set_cons_zero, List.set_cons_succ]
    still_step
    still_step
    with_reducible refine wpStill_dead ?_ ?_
    · rfl
    simp only [Act.put, List.setIfInBounds_toArray, List.set_cons_zero, List.set_cons_succ]
    with_reducible refine wpStill_dead ?_ ?_
    · rfl
    simp only [Act.put, List.setIfInBounds_toArray, List.set_cons_zero, List.set_cons_succ]
    with_reducible refine wpStill_dead ?_ ?_
    · rfl
    simp only [Act.put, List.setIfInBounds_toArray, List.set_cons_zero, List.set_cons_succ]
    with_reducible refine wpStill_dead ?_ ?_
    · rfl
    simp only [Act.put, List.setIfInBounds_toArray, List.set_cons_zero, List.set_cons_succ]
    with_reducible refine wpStill_dead ?_ ?_
    · rfl
    simp only [Act.put, List.setIfInBounds_toArray, List.set_cons_zero, List.set_cons_succ]
    still_step
    still_step
    refine wpStill_nil ?_
    go_wp2
    go_ret
    exact ⟨rfl, below_drewN' Hw1.out 1⟩
set_option maxRecDepth 100000 in
set_option maxHeartbeats 2000000 in
theorem rright_any {w : World} (n : Nat) (hn : n < 18446744073709551616) {u : Value} {L : List ByteArray} (h : SRead w u L) :
    Calls Tryd.prog 49 #[.agg #[.int .u64 (n : Int), u]] w fun e w' => e = .returned (.bool (rightB n L)) ∧ Below w.heap.size w w' := by
  obtain ⟨R, hR⟩ : ∃ R, rightB n L = R := ⟨_, rfl⟩
  rw [hR]
  have hw1 := alloc_below' w (.cells #[.int .u64 (n : Int), u] 51)
  have hB : Blk (w.alloc (.cells #[.int .u64 (n : Int), u] 51)) w.heap.size 51 #[.int .u64 (n : Int), u] := Blk.new _ _ _
  have c0 := hB.cell 0
  have c1 := hB.cell 1
  simp only [List.getElem?_toArray, List.getElem?_cons_succ, List.getElem?_cons_zero] at c0 c1
  have h1 := h.below hw1 rfl
  have HO := Lib.hid (rones_any n hn)
  have Hw1 := Lib.hid hw1
  obtain ⟨A, cap, rfl, hm, hc⟩ := h1
  have hlen : L.length ≤ 9223372036854775807 := hm
  have Hc := Lib.hid hc
  have HR := Lib.hid hR
  clear hw1 hB hn h hm hc hR
  go_enter Tryd.func49, Tryd.ntmps49
  go_wp2
  generalize w.alloc (.cells #[.int .u64 (n : Int), .slice A L.length cap] 51) = W at *
  go_loopw [3] (fun i wx => ∃ k : Nat, k ≤ L.length ∧ i = .int .i64 (k : Int) ∧ wideB (L.take k) = true ∧ wx = W) (fun i _ => L.length - (intOf i).toNat)
  case atStart => exact ⟨0, Nat.zero_le _, rfl, rfl, rfl⟩
  case round =>
    obtain ⟨k, hk, rfl, hw, rfl⟩ := hrel
    have Hw := Lib.hid hw; clear hw
    by_cases hlt : k < L.length
    · obtain ⟨b, o, rfl, _, hx⟩ := Hc.out k hlt
      have hk1 : (k : Int) < (L.length : Int) := by omega
      have hst := wide_succ hlt Hw.out
      have hno := wide_not hlt
      generalize L[k] = S at *
      have Hst := Lib.hid hst
      have Hno : Hid (S.size ≠ 32 → R = false) := Lib.hid (fun hq => by rw [← HR.out]; unfold rightB; rw [hno hq, Bool.and_false])
      clear hst hno
      by_cases hS : S.size = 32
      · have hb : ((S.size : Int) != 32) = false := by rw [bne_eq_false_iff_eq]; omega
        go_wp2
        go_roundw
        case rel => exact ⟨k + 1, by omega, by go_num, Hst.out hS, by trivial⟩
        case measure => simp [intOf]; omega
      · have hb : ((S.size : Int) != 32) = true := by rw [bne_iff_ne]; omega
        have Hr := Lib.hid (Hno.out hS)
        go_wp2
        go_ret
        exact ⟨by rw [Hr.out]; rfl, Hw1.out⟩
    · have hall : wideB L = true := by have := Hw.out; rwa [List.take_of_length_le (by omega)] at this
      have hR := HR.out
      unfold rightB at hR
      rw [hall, Bool.and_true] at hR
      obtain rfl : k = L.length := by omega
      by_cases h1 : n ≤ 1099511627776
      · have l1 : (n : Int) ≤ 1099511627776 := by omega
        rw [decide_eq_true h1, Bool.true_and] at hR
        by_cases h2 : ones n = L.length
        · rw [beq_iff_eq.2 h2] at hR
          subst hR
          rw [h2] at HO
          clear h2
          go_wp2
          refine wp_region_still_lit (by kernel_rfl) (by kernel_rfl) ?_
          repeat still_step
          still_call (HO.out _)
          repeat still_step
          refine wpStill_nil ?_
          go_wp2
          go_ret
          exact ⟨rfl, below_drewN' Hw1.out 1⟩
        · have l2 : ((ones n : Int) == (L.length : Int)) = false := by rw [beq_eq_false_iff_ne]; omega
          rw [show (ones n == L.length) = false by rw [beq_eq_false_iff_ne]; exact h2] at hR
          subst hR
          clear h2
          generalize ones n = q at *
          go_wp2
          refine wp_region_still_lit (by kernel_rfl) (by kernel_rfl) ?_
          repeat still_step
          still_call (HO.out _)
          repeat still_step
          refine wpStill_nil ?_
          go_wp2
          go_ret
          exact ⟨rfl, below_drewN' Hw1.out 1⟩
      · have l1 : ((n : Int) ≤ 1099511627776) = False := eq_false (by omega)
        rw [decide_eq_false h1, Bool.false_and] at hR
        subst hR
        go_wp2
        refine wp_region_still_lit (by kernel_rfl) (by kernel_rfl) ?_
        still_step
        still_step
        still_step
        still_step
        with_reducible refine wpStill_dead ?_ ?_
        · rfl
        simp only [Act.put, List.setIfInBounds_toArray, List.set_cons_zero, List.set_cons_succ]
        with_reducible refine wpStill_dead ?_ ?_
        · rfl
        simp only [Act.put, List.setIfInBounds_toArray, List.set_cons_zero, List.set_cons_succ]
        with_reducible refine wpStill_dead ?_ ?_
        · rfl
        simp only [Act.put, List.setIfInBounds_toArray, List.set_cons_zero, List.set_cons_succ]
        with_reducible refine wpStill_dead ?_ ?_
        · rfl
        simp only [Act.put, List.setIfInBounds_toArray, List.set_cons_zero, List.set_cons_succ]
        with_reducible refine wpStill_dead ?_ ?_
        · rfl
        simp only [Act.put, List.setIfInBounds_toArray, List.set_cons_zero, List.set_cons_succ]
        with_reducible refine wpStill_dead ?_ ?_
        · rfl
        simp only [Act.put, List.setIfInBounds_toArray, List.set_cons_zero, List.set_cons_succ]
        with_reducible refine wpStill_dead ?_ ?_
        · rfl
        simp only [Act.put, List.setIfInBounds_toArray, List.set_cons_zero, List.set_cons_succ]
        still_step
        still_step
        refine wpStill_nil ?_
        go_wp2
        go_ret
        exact ⟨rfl, below_drewN' Hw1.out 1⟩
end Go.Proofs.YtkdajlhmodmkoaaDoor
