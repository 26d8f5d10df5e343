/-
  Layer 11 (wire): plain laws of a number's bytes.
-/
import Derived.Test.YtjmdiobnappgkaaWireE
namespace Go.Proofs.Ytjmdiobnappgkaa
set_option linter.unusedVariables false
set_option linter.unusedSimpArgs false

theorem numL_pos (n : Nat) : 1 ≤ (numL n).length := by
  by_cases h : n < 128
  · rw [numL_small h]; simp
  · rw [numL_big h]; simp
theorem numL_mono : ∀ (n m : Nat), n ≤ m → (numL n).length ≤ (numL m).length := by
  intro n
  induction n using Nat.strongRecOn with
  | ind n ih =>
    intro m h
    by_cases hn : n < 128
    · rw [numL_small hn]; exact numL_pos m
    · rw [numL_big hn, numL_big (show ¬ m < 128 by omega), List.length_cons, List.length_cons]
      have := ih (n / 128) (by omega) (m / 128) (by omega)
      omega
theorem ofNat_inj {a b : Nat} (ha : a < 256) (hb : b < 256) (h : UInt8.ofNat a = UInt8.ofNat b) : a = b := by
  have := congrArg UInt8.toNat h
  simp [Nat.mod_eq_of_lt ha, Nat.mod_eq_of_lt hb] at this
  exact this
theorem numL_inj : ∀ (n m : Nat), numL n = numL m → n = m := by
  intro n
  induction n using Nat.strongRecOn with
  | ind n ih =>
    intro m h
    by_cases hn : n < 128
    · by_cases hm : m < 128
      · rw [numL_small hn, numL_small hm] at h
        injection h with h1 _
        exact ofNat_inj (by omega) (by omega) h1
      · rw [numL_small hn, numL_big hm] at h
        injection h with _ h2
        have := numL_pos (m / 128)
        rw [← h2] at this
        simp at this
    · by_cases hm : m < 128
      · rw [numL_big hn, numL_small hm] at h
        injection h with _ h2
        have := numL_pos (n / 128)
        rw [h2] at this
        simp at this
      · rw [numL_big hn, numL_big hm] at h
        injection h with h1 h2
        have e1 := ofNat_inj (by omega) (by omega) h1
        have e2 := ih (n / 128) (by omega) (m / 128) h2
        omega
theorem numF_err : ∀ (f a n : Nat) (L : List UInt8) (e : Nat), numF f L a n = .error e → e = 2 ∨ e = 3
  | 0, a, n, L, e, h => by rw [numF] at h; injection h with h; exact .inr h.symm
  | f + 1, a, n, [], e, h => by rw [numF] at h; injection h with h; exact .inl h.symm
  | f + 1, a, n, c :: l, e, h => by
    rw [numF] at h
    split at h
    · exact numF_err f _ _ l e h
    · split at h
      · injection h with h; exact .inr h.symm
      · cases h
theorem or_add (n c a : Nat) (hn : n < 2 ^ (7 * a)) (hc : (c % 128) * 2 ^ (7 * a) < 18446744073709551616) : numOr n c a = n + 2 ^ (7 * a) * (c % 128) := by
  unfold numOr
  rw [Nat.mod_eq_of_lt hc, Nat.or_comm, Nat.mul_comm, ← Nat.two_pow_add_eq_or_of_lt hn, Nat.add_comm]
set_option maxRecDepth 100000 in
theorem numF_ok : ∀ (f a n : Nat) (L : List UInt8) (v k : Nat), a + f = 10 → n < 2 ^ (7 * a) → numF f L a n = .ok (v, k) → ∃ u j, k = a + j ∧ 1 ≤ j ∧ j ≤ L.length ∧ numL u = L.take j ∧ v = n + 2 ^ (7 * a) * u ∧ (0 < a → u ≠ 0)
  | 0, a, n, L, v, k, ha, hn, h => by rw [numF] at h; cases h
  | f + 1, a, n, [], v, k, ha, hn, h => by rw [numF] at h; cases h
  | f + 1, a, n, c :: l, v, k, ha, hn, h => by
    rw [numF] at h
    have hc256 : c.toNat < 256 := c.toNat_lt
    split at h
    · rename_i hbig
      have ha8 : a ≤ 8 := by
        rcases Nat.lt_or_ge a 9 with h9 | h9
        · omega
        · have : f = 0 := by omega
          subst this; rw [numF] at h; cases h
      have hp : (2 : Nat) ^ (7 * a) ≤ 2 ^ 56 := Nat.pow_le_pow_right (by decide) (by omega)
      have hlt : (c.toNat % 128) * 2 ^ (7 * a) < 18446744073709551616 := by
        have h1 : (c.toNat % 128) * 2 ^ (7 * a) ≤ 127 * 2 ^ 56 := Nat.mul_le_mul (by omega) hp
        have h2 : (127 : Nat) * 2 ^ 56 < 18446744073709551616 := by decide
        omega
      have e := or_add n c.toNat a hn hlt
      have hpow : (2 : Nat) ^ (7 * (a + 1)) = 2 ^ (7 * a) * 128 := by rw [show 7 * (a + 1) = 7 * a + 7 by omega, Nat.pow_add]
      have hn' : numOr n c.toNat a < 2 ^ (7 * (a + 1)) := by
        rw [e, hpow]
        have h1 : 2 ^ (7 * a) * (c.toNat % 128) ≤ 2 ^ (7 * a) * 127 := Nat.mul_le_mul_left _ (by omega)
        omega
      obtain ⟨u, j, hk, hj1, hj2, hnum, hv, hu⟩ := numF_ok f (a + 1) _ l v k (by omega) hn' h
      have hu0 := hu (by omega)
      refine ⟨c.toNat % 128 + 128 * u, j + 1, by omega, by omega, by simp; omega, ?_, ?_, fun _ => by omega⟩
      · rw [numL_big (by omega), List.take_succ_cons, ← hnum]
        congr 1
        · have : (c.toNat % 128 + 128 * u) % 128 + 128 = c.toNat := by omega
          rw [this]; simp
        · congr 1; omega
      · rw [hv, e, hpow, Nat.mul_add, Nat.mul_assoc, Nat.add_assoc]
    · rename_i hsmall
      split at h
      · cases h
      · rename_i hok
        injection h with h
        injection h with h1 h2
        have hc : c.toNat % 128 = c.toNat := by omega
        have hlt : (c.toNat % 128) * 2 ^ (7 * a) < 18446744073709551616 := by
          rcases Nat.lt_or_ge a 9 with h9 | h9
          · have hp : (2 : Nat) ^ (7 * a) ≤ 2 ^ 56 := Nat.pow_le_pow_right (by decide) (by omega)
            have h1 : (c.toNat % 128) * 2 ^ (7 * a) ≤ 127 * 2 ^ 56 := Nat.mul_le_mul (by omega) hp
            have h2 : (127 : Nat) * 2 ^ 56 < 18446744073709551616 := by decide
            omega
          · have : a = 9 := by omega
            subst this
            have h1 : (c.toNat % 128) * 2 ^ (7 * 9) ≤ 9223372036854775808 := by
              have h3 : (c.toNat % 128) * 2 ^ (7 * 9) ≤ 1 * 2 ^ (7 * 9) := Nat.mul_le_mul_right _ (by omega)
              exact Nat.le_trans h3 (by decide)
            exact Nat.lt_of_le_of_lt h1 (by decide)
        refine ⟨c.toNat, 1, h2.symm, Nat.le_refl _, by simp, ?_, ?_, fun h0 hc0 => hok (.inl ⟨hc0, h0⟩)⟩
        · rw [numL_small (by omega)]; simp
        · rw [← h1, or_add n c.toNat a hn hlt, hc]
set_option maxRecDepth 100000 in
/-- What Num reads, written again, is what was read. -/
theorem numF_back {L : List UInt8} {v k : Nat} (h : numF 10 L 0 0 = .ok (v, k)) : 1 ≤ k ∧ k ≤ L.length ∧ numL v = L.take k := by
  obtain ⟨u, j, hk, hj1, hj2, hnum, hv, _⟩ := numF_ok 10 0 0 L v k rfl (Nat.one_pos) h
  have e1 : k = j := by omega
  have e2 : v = u := by rw [Nat.mul_zero, Nat.pow_zero, Nat.one_mul, Nat.zero_add] at hv; exact hv
  subst e1 e2
  exact ⟨hj1, hj2, hnum⟩
theorem numF_lt : ∀ (f a n : Nat) (L : List UInt8) (v k : Nat), n < 18446744073709551616 → numF f L a n = .ok (v, k) → v < 18446744073709551616
  | 0, a, n, L, v, k, hn, h => by rw [numF] at h; cases h
  | f + 1, a, n, [], v, k, hn, h => by rw [numF] at h; cases h
  | f + 1, a, n, c :: l, v, k, hn, h => by
    rw [numF] at h
    split at h
    · exact numF_lt f _ _ l v k (numOr_lt _ _ _ hn) h
    · split at h
      · cases h
      · injection h with h; injection h with h1 h2
        rw [← h1]; exact numOr_lt _ _ _ hn
end Go.Proofs.Ytjmdiobnappgkaa
