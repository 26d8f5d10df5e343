/-
  Layer 9 (proof): ProofLong walked.
-/
import Derived.Test.YtkdajlhmodmkoaaDoorQB
namespace Go.Proofs.YtkdajlhmodmkoaaDoor
open Go.RowKit TreeM
set_option linter.unusedVariables false
set_option linter.unusedSimpArgs false

theorem stepsN_mk {m n : Nat} (h1 : 1 ≤ m) (h2 : m ≤ n) (h3 : n ≤ 1099511627776) : stepsN m n = (steps m n).length + 1 := stepsN_yes (may_mk h1 h2 h3)
theorem u64_nat {a : Int} (ha : (Lit.int .u64 a).wf = true) : ∃ n : Nat, n < 18446744073709551616 ∧ a = (n : Int) := by
  simp [Lit.wf, IntKind.min, IntKind.max, IntKind.signed, IntKind.bits] at ha
  exact ⟨a.toNat, by omega, by omega⟩
set_option maxRecDepth 100000 in
set_option maxHeartbeats 2000000 in
theorem proofLong_walk (a : Int) (ha : (Lit.int .u64 a).wf = true) (b : Int) (hb : (Lit.int .u64 b).wf = true) {w : World} (hT : Tab w) :
    Calls Tryd.prog 21 #[.int .u64 a, .int .u64 b] w fun e w' => e = .returned (.bool true) ∧ Below w.heap.size w w' := by
  obtain ⟨m0, hm0, rfl⟩ := u64_nat ha
  obtain ⟨n0, hn0, rfl⟩ := u64_nat hb
  clear ha hb
  obtain ⟨n, hn⟩ : ∃ n, 1 + n0 % 1099511627775 = n := ⟨_, rfl⟩
  have hn1 : 1 ≤ n := by omega
  have hn2 : n ≤ 1099511627775 := by have := Nat.mod_lt n0 (show 0 < 1099511627775 by decide); omega
  obtain ⟨m, hm⟩ : ∃ m, 1 + m0 % n = m := ⟨_, rfl⟩
  have hm1 : 1 ≤ m := by omega
  have hm2 : m ≤ n := by have := Nat.mod_lt m0 (show 0 < n by omega); omega
  have h1 := stepsN_mk hm1 hm2 (by omega)
  have h2 := stepsN_mk (m := m) (n := n + 1) hm1 (by omega) (by omega)
  have h3 : stepsN n n = 1 := by rw [stepsN_mk hn1 (Nat.le_refl _) (by omega), steps_end (Nat.le_refl _)]; rfl
  have h4 : 2 ≤ stepsN m (n + 1) := by rw [h2]; have := steps_pos hm1 (show m < n + 1 by omega); omega
  have h5 : stepsN m n ≤ 41 := stepsN_le m n
  have h6 : 1 ≤ stepsN m n := by omega
  have h7 : stepsN m n = 1 ↔ m = n := by
    constructor
    · intro h
      by_cases he : m = n
      · exact he
      · have := steps_pos hm1 (show m < n by omega); omega
    · rintro rfl; exact h3
  have hc1 := fun wq => cStepsN_any (w := wq) m n
  have hc2 := fun wq => cStepsN_any (w := wq) m (n + 1)
  have hc3 := fun wq => cStepsN_any (w := wq) n n
  rw [h3] at hc3
  obtain ⟨k, hk⟩ : ∃ k, stepsN m n = k := ⟨_, rfl⟩
  obtain ⟨j, hj⟩ : ∃ k, stepsN m (n + 1) = k := ⟨_, rfl⟩
  obtain ⟨n1, hn'⟩ : ∃ k, n + 1 = k := ⟨_, rfl⟩
  rw [hk] at hc1 h5 h6 h7; rw [hj] at hc2 h4; rw [hn'] at hc2
  have Hc1 := Lib.hid hc1; have Hc2 := Lib.hid hc2; have Hc3 := Lib.hid hc3; have HT := Lib.hid hT
  have a1 : (n0 : Int).tmod 1099511627775 = ((n0 % 1099511627775 : Nat) : Int) := by rw [Int.tmod_eq_emod_of_nonneg (by omega)]; omega
  have a2 : IntKind.u64.wrap (1 + ((n0 % 1099511627775 : Nat) : Int)) = (n : Int) := by rw [show (1 : Int) + ((n0 % 1099511627775 : Nat) : Int) = (n : Int) by omega]; show (n : Int) % 18446744073709551616 = _; omega
  have a3 : (m0 : Int).tmod (n : Int) = ((m0 % n : Nat) : Int) := by rw [Int.tmod_eq_emod_of_nonneg (by omega)]; exact (Int.natCast_emod m0 n).symm
  have a4 : IntKind.u64.wrap (1 + ((m0 % n : Nat) : Int)) = (m : Int) := by rw [show (1 : Int) + ((m0 % n : Nat) : Int) = (m : Int) by omega]; show (m : Int) % 18446744073709551616 = _; omega
  have a5 : IntKind.u64.wrap ((n : Int) + 1) = (n1 : Int) := by rw [show (n : Int) + 1 = (n1 : Int) by omega]; show (n1 : Int) % 18446744073709551616 = _; omega
  have b1 : ((1 : Int) ≤ (k : Int)) = True := eq_true (by omega)
  have b2 : ((k : Int) ≤ 48) = True := eq_true (by omega)
  have b3 : ((2 : Int) ≤ (j : Int)) = True := eq_true (by omega)
  have b4 : ((n : Int) = 0) = False := eq_false (by omega)
  have b5 : (n = 0) = False := eq_false (by omega)
  have b6 : (((k : Int) == 1) == ((m : Int) == (n : Int))) = true := by
    by_cases he : m = n
    · have e1 : ((k : Int) == 1) = true := by rw [beq_iff_eq]; have := h7.2 he; omega
      have e2 : ((m : Int) == (n : Int)) = true := by rw [beq_iff_eq]; omega
      rw [e1, e2]; rfl
    · have e1 : ((k : Int) == 1) = false := by rw [beq_eq_false_iff_ne]; intro h; exact he (h7.1 (by omega))
      have e2 : ((m : Int) == (n : Int)) = false := by rw [beq_eq_false_iff_ne]; omega
      rw [e1, e2]; rfl
  obtain ⟨B1, hB1⟩ : ∃ B, ((k : Int) == 1) = B := ⟨_, rfl⟩
  obtain ⟨B2, hB2⟩ : ∃ B, ((m : Int) == (n : Int)) = B := ⟨_, rfl⟩
  rw [hB1, hB2] at b6
  have b7 : B1 = B2 := by simpa using b6
  have b8 : (B2 == B2) = true := by simp
  subst b7
  generalize m0 % n = m0' at *
  generalize n0 % 1099511627775 = n0' at *
  clear hc1 hc2 hc3 hT h1 h2 h3 h4 h5 h6 h7 hk hj hn' hn hm hm1 hm2 hn1 hn2 b6
  go_enter Tryd.func21, Tryd.ntmps21
  go_wp2_with fail
  refine (Hc1.out _).mono ?_
  rintro e w1 ⟨rfl, hb1⟩
  have Hb1 := Lib.hid hb1; clear hb1
  go_wp2_with fail
  refine (Hc2.out _).mono ?_
  rintro e w2 ⟨rfl, hb2⟩
  have Hb2 := Lib.hid (Hb1.out.trans (hb2.mono Hb1.out.size)); clear hb2
  go_wp2_with fail
  refine (Hc3.out _).mono ?_
  rintro e w3 ⟨rfl, hb3⟩
  have Hb3 := Lib.hid (Hb2.out.trans (hb3.mono Hb2.out.size)); clear hb3
  go_wp2_with fail
  refine (pfixed_any (HT.out.below Hb3.out)).mono ?_
  rintro e w4 ⟨rfl, hb4⟩
  go_wp2
  go_ret
  exact ⟨rfl, Hb3.out.trans (hb4.mono Hb3.out.size)⟩
end Go.Proofs.YtkdajlhmodmkoaaDoor
