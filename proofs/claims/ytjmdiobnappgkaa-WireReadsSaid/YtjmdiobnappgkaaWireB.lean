/-
  Layer 11 (wire): plain laws: Num reads back what Num wrote; cut off it does not.
-/
import Derived.Test.YtjmdiobnappgkaaWireL
namespace Go.Proofs.Ytjmdiobnappgkaa
set_option linter.unusedVariables false
set_option linter.unusedSimpArgs false

/-- A number's bytes, whatever lies behind, read as that number. -/
theorem numF_numL : ∀ (f a n u : Nat) (rest : List UInt8), a + f = 10 → n < 2 ^ (7 * a) → 2 ^ (7 * a) * u + n < 18446744073709551616 → (0 < a → u ≠ 0) → numF f (numL u ++ rest) a n = .ok (n + 2 ^ (7 * a) * u, a + (numL u).length)
  | 0, a, n, u, rest, ha, hn, hb, hu => by
    have ha10 : a = 10 := by omega
    subst ha10
    have hu0 := hu (by decide)
    have h1 : 2 ^ (7 * 10) * 1 ≤ 2 ^ (7 * 10) * u := Nat.mul_le_mul_left _ (by omega)
    have h2 : (18446744073709551616 : Nat) ≤ 2 ^ (7 * 10) * 1 := by decide
    omega
  | f + 1, a, n, u, rest, ha, hn, hb, hu => by
    by_cases hs : u < 128
    · have hc : (UInt8.ofNat u).toNat = u := by simp [Nat.mod_eq_of_lt (show u < 256 by omega)]
      have hno : ¬ ((u = 0 ∧ 0 < a) ∨ (a = 9 ∧ 1 < u)) := by
        rintro (⟨h1, h2⟩ | ⟨h1, h2⟩)
        · exact hu h2 h1
        · subst h1
          have h3 : 2 ^ (7 * 9) * 2 ≤ 2 ^ (7 * 9) * u := Nat.mul_le_mul_left _ (by omega)
          have h4 : (18446744073709551616 : Nat) ≤ 2 ^ (7 * 9) * 2 := by decide
          omega
      have hlt : (u % 128) * 2 ^ (7 * a) < 18446744073709551616 := by
        rw [Nat.mod_eq_of_lt hs, Nat.mul_comm]; omega
      rw [numL_small hs, List.singleton_append, numF, hc, if_neg (by omega), if_neg hno, or_add n u a hn hlt, Nat.mod_eq_of_lt hs]
      simp
    · have hc : (UInt8.ofNat (u % 128 + 128)).toNat = u % 128 + 128 := by simp [Nat.mod_eq_of_lt (show u % 128 + 128 < 256 by omega)]
      have hm : (u % 128 + 128) % 128 = u % 128 := by omega
      have hpow : (2 : Nat) ^ (7 * (a + 1)) = 2 ^ (7 * a) * 128 := by rw [show 7 * (a + 1) = 7 * a + 7 by omega, Nat.pow_add]
      have hle : 2 ^ (7 * a) * (u % 128) ≤ 2 ^ (7 * a) * u := Nat.mul_le_mul_left _ (Nat.mod_le _ _)
      have hlt : ((u % 128 + 128) % 128) * 2 ^ (7 * a) < 18446744073709551616 := by
        rw [hm, Nat.mul_comm]; omega
      have e := or_add n (u % 128 + 128) a hn hlt
      rw [hm] at e
      have hsplit : 2 ^ (7 * a) * u = 2 ^ (7 * a) * (u % 128) + 2 ^ (7 * (a + 1)) * (u / 128) := by
        rw [hpow, Nat.mul_assoc, ← Nat.mul_add]; congr 1; omega
      have hn' : n + 2 ^ (7 * a) * (u % 128) < 2 ^ (7 * (a + 1)) := by
        rw [hpow]
        have h1 : 2 ^ (7 * a) * (u % 128) ≤ 2 ^ (7 * a) * 127 := Nat.mul_le_mul_left _ (by omega)
        omega
      have ih := numF_numL f (a + 1) (n + 2 ^ (7 * a) * (u % 128)) (u / 128) rest (by omega) hn' (by omega) (fun _ => by omega)
      rw [numL_big hs, List.cons_append, numF, hc, if_pos (by omega), e, ih, List.length_cons]
      congr 2
      · omega
      · omega
/-- .. from the start. -/
theorem numF_read (n : Nat) (rest : List UInt8) (h : n < 18446744073709551616) : numF 10 (numL n ++ rest) 0 0 = .ok (n, (numL n).length) := by
  have := numF_numL 10 0 0 n rest rfl (Nat.one_pos) (by rw [Nat.mul_zero, Nat.pow_zero, Nat.one_mul]; exact h) (fun h => absurd h (by decide))
  rw [Nat.mul_zero, Nat.pow_zero, Nat.one_mul, Nat.zero_add, Nat.zero_add] at this
  exact this
/-- A number's bytes, cut off, end too early. -/
theorem numF_cut : ∀ (f a n u j : Nat), j < (numL u).length → (numL u).length ≤ f → numF f ((numL u).take j) a n = .error 2
  | 0, a, n, u, j, hj, hf => by omega
  | f + 1, a, n, u, 0, hj, hf => by rw [List.take_zero, numF]
  | f + 1, a, n, u, j + 1, hj, hf => by
    by_cases hs : u < 128
    · rw [numL_small hs] at hj; simp at hj
    · have hc : (UInt8.ofNat (u % 128 + 128)).toNat = u % 128 + 128 := by simp [Nat.mod_eq_of_lt (show u % 128 + 128 < 256 by omega)]
      rw [numL_big hs, List.length_cons] at hj hf
      rw [numL_big hs, List.take_succ_cons, numF, hc, if_pos (by omega)]
      exact numF_cut f _ _ (u / 128) j (by omega) (by omega)
theorem numF_short (n j : Nat) (h : n < 18446744073709551616) (hj : j < (numL n).length) : numF 10 ((numL n).take j) 0 0 = .error 2 := numF_cut 10 0 0 n j hj (numL_len10 n h)
end Go.Proofs.Ytjmdiobnappgkaa
