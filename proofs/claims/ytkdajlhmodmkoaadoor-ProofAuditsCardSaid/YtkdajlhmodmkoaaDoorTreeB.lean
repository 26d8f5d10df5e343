/-
  Plain mathematics of layer 8 (tree): how bits are counted. No program is mentioned here.
-/
import Derived.Test.YtkdajlhmodmkoaaDoorTreeM
namespace Go.Proofs.YtkdajlhmodmkoaaDoor.TreeM
set_option linter.unusedVariables false
set_option linter.unusedSimpArgs false

theorem ones_pow : ∀ (e q r : Nat), r < 2 ^ e → ones (2 ^ e * q + r) = ones q + ones r
  | 0, q, r, h => by obtain rfl : r = 0 := by simpa using h
                     simp [ones_zero]
  | e + 1, q, r, h => by
    have hq : 2 ^ (e + 1) * q = 2 * (2 ^ e * q) := by rw [Nat.pow_succ, Nat.mul_comm (2 ^ e) 2, Nat.mul_assoc]
    rw [Nat.pow_succ] at h
    rw [hq, ones_step, ones_step r, show (2 * (2 ^ e * q) + r) / 2 = 2 ^ e * q + r / 2 by omega, ones_pow e q (r / 2) (by omega)]; omega
theorem and8 (a b m s : Nat) (hb : b < 256) (hs : s < 256) : (256 * a + b) &&& (256 * m + s) = 256 * (a &&& m) + (b &&& s) := by
  have h1 : ((256 * a + b) &&& (256 * m + s)) / 2 ^ 8 = (a &&& m) := by
    rw [Nat.and_div_two_pow]; congr 1 <;> omega
  have h2 : ((256 * a + b) &&& (256 * m + s)) % 2 ^ 8 = (b &&& s) := by
    rw [Nat.and_mod_two_pow]; congr 1 <;> omega
  omega
/-- A byte, so many times. -/
def rep (c : Nat) : Nat → Nat
  | 0 => 0
  | k + 1 => 256 * rep c k + c
def s1 (k x : Nat) : Nat := (x / 2 &&& rep 0x55 k) + (x &&& rep 0x55 k)
def s2 (k x : Nat) : Nat := (x / 4 &&& rep 0x33 k) + (x &&& rep 0x33 k)
def s3 (k x : Nat) : Nat := (x / 16 + x) &&& rep 0x0f k
def t1 (r : Nat) : Nat := (r / 2 &&& 0x55) + (r &&& 0x55)
def t2 (r : Nat) : Nat := (r / 4 &&& 0x33) + (r &&& 0x33)
theorem low55 : ∀ c, c < 2 → ∀ u, u < 128 → (128 * c + u) &&& 0x55 = u &&& 0x55 := by decide +kernel
theorem low33 : ∀ c, c < 4 → ∀ u, u < 64 → (64 * c + u) &&& 0x33 = u &&& 0x33 := by decide +kernel
theorem low0f : ∀ c, c < 16 → ∀ u, u < 128 → (16 * c + u) &&& 0x0f = u % 16 := by decide +kernel
theorem t1_lt : ∀ r, r < 256 → t1 r < 256 := by decide +kernel
theorem t2_ok : ∀ r, r < 256 → t2 (t1 r) ≤ 0x44 ∧ t2 (t1 r) % 16 ≤ 4 ∧ (t2 (t1 r) / 16 + t2 (t1 r)) % 16 = ones r ∧ t2 (t1 r) / 16 + t2 (t1 r) < 128 := by decide +kernel
theorem ones8 : ∀ r, r < 256 → ones r ≤ 8 := by decide +kernel
theorem s1_step (k q r : Nat) (hr : r < 256) : s1 (k + 1) (256 * q + r) = 256 * s1 k q + t1 r := by
  unfold s1 t1
  simp only [rep]
  rw [show (256 * q + r) / 2 = 256 * (q / 2) + (128 * (q % 2) + r / 2) by omega, and8 _ _ _ _ (by omega) (by decide), and8 _ _ _ _ hr (by decide), low55 _ (by omega) _ (by omega)]
  omega
theorem s2_step (k q r : Nat) (hr : r < 256) : s2 (k + 1) (256 * q + r) = 256 * s2 k q + t2 r := by
  unfold s2 t2
  simp only [rep]
  rw [show (256 * q + r) / 4 = 256 * (q / 4) + (64 * (q % 4) + r / 4) by omega, and8 _ _ _ _ (by omega) (by decide), and8 _ _ _ _ hr (by decide), low33 _ (by omega) _ (by omega)]
  omega
theorem s3_step (k q r : Nat) (hr : r ≤ 0x44) (hq : q % 16 ≤ 4) (hv : r / 16 + r < 128) : s3 (k + 1) (256 * q + r) = 256 * s3 k q + (r / 16 + r) % 16 := by
  unfold s3
  simp only [rep]
  rw [show (256 * q + r) / 16 + (256 * q + r) = 256 * (q / 16 + q) + (16 * (q % 16) + (r / 16 + r)) by omega, and8 _ _ _ _ (by omega) (by decide), low0f _ (by omega) _ (by omega)]
/-- The bytes' counts. -/
def cnt : Nat → Nat → Nat
  | 0, _ => 0
  | k + 1, x => 256 * cnt k (x / 256) + ones (x % 256)
theorem swar : ∀ (k x : Nat), x < 256 ^ k → s2 k (s1 k x) % 16 ≤ 4 ∧ s3 k (s2 k (s1 k x)) = cnt k x
  | 0, x, h => by
    obtain rfl : x = 0 := by simpa using h
    exact ⟨by decide, rfl⟩
  | k + 1, x, h => by
    rw [Nat.pow_succ] at h
    obtain ⟨h1, h2⟩ := swar k (x / 256) (by omega)
    have hr : x % 256 < 256 := by omega
    obtain ⟨a, b, c, d⟩ := t2_ok (x % 256) hr
    have e1 : s1 (k + 1) x = 256 * s1 k (x / 256) + t1 (x % 256) := by rw [← s1_step k _ _ hr, Nat.div_add_mod]
    have e2 : s2 (k + 1) (s1 (k + 1) x) = 256 * s2 k (s1 k (x / 256)) + t2 (t1 (x % 256)) := by rw [e1, s2_step _ _ _ (t1_lt _ hr)]
    have m16 : ∀ g t : Nat, (256 * g + t) % 16 = t % 16 := fun g t => by omega
    refine ⟨by rw [e2, m16]; exact b, ?_⟩
    rw [e2, s3_step _ _ _ a h1 d, h2, c]; rfl
theorem fin8 (p0 p1 p2 p3 p4 p5 p6 p7 P : Nat) (h0 : p0 ≤ 8) (h1 : p1 ≤ 8) (h2 : p2 ≤ 8) (h3 : p3 ≤ 8) (h4 : p4 ≤ 8) (h5 : p5 ≤ 8) (h6 : p6 ≤ 8) (h7 : p7 ≤ 8)
    (hP : P = 256 * (256 * (256 * (256 * (256 * (256 * (256 * p7 + p6) + p5) + p4) + p3) + p2) + p1) + p0) :
    P + P / 256 + (P + P / 256) / 65536 + (P + P / 256 + (P + P / 256) / 65536) / 4294967296 < 18446744073709551616 ∧ (P + P / 256 + (P + P / 256) / 65536 + (P + P / 256 + (P + P / 256) / 65536) / 4294967296) % 128 = p0 + p1 + p2 + p3 + p4 + p5 + p6 + p7 := by
  have e1 : P / 256 = 256 * (256 * (256 * (256 * (256 * (256 * p7 + p6) + p5) + p4) + p3) + p2) + p1 := by omega
  generalize P / 256 = Q at *
  have e2 : (P + Q) / 65536 = 256 * (256 * (256 * (256 * (256 * p7 + (p7 + p6)) + (p6 + p5)) + (p5 + p4)) + (p4 + p3)) + (p3 + p2) := by omega
  generalize (P + Q) / 65536 = R at *
  have e3 : (P + Q + R) / 4294967296 = 256 * (256 * (256 * p7 + (p7 + p6)) + (p7 + p6 + p5)) + (p7 + p6 + p5 + p4) := by omega
  generalize (P + Q + R) / 4294967296 = T at *
  constructor <;> omega
theorem cnt8 (x : Nat) (h : x < 18446744073709551616) :
    cnt 8 x + cnt 8 x / 256 + (cnt 8 x + cnt 8 x / 256) / 65536 + (cnt 8 x + cnt 8 x / 256 + (cnt 8 x + cnt 8 x / 256) / 65536) / 4294967296 < 18446744073709551616 ∧
    (cnt 8 x + cnt 8 x / 256 + (cnt 8 x + cnt 8 x / 256) / 65536 + (cnt 8 x + cnt 8 x / 256 + (cnt 8 x + cnt 8 x / 256) / 65536) / 4294967296) % 128 = ones x := by
  have o : ∀ x : Nat, ones x = ones (x % 256) + ones (x / 256) := fun x => by
    have := ones_pow 8 (x / 256) (x % 256) (by omega)
    rw [show 2 ^ 8 * (x / 256) + x % 256 = x by omega] at this; omega
  have b : ∀ x : Nat, ones (x % 256) ≤ 8 := fun x => ones8 _ (by omega)
  have := fin8 (ones (x % 256)) (ones (x / 256 % 256)) (ones (x / 256 / 256 % 256)) (ones (x / 256 / 256 / 256 % 256)) (ones (x / 256 / 256 / 256 / 256 % 256)) (ones (x / 256 / 256 / 256 / 256 / 256 % 256)) (ones (x / 256 / 256 / 256 / 256 / 256 / 256 % 256)) (ones (x / 256 / 256 / 256 / 256 / 256 / 256 / 256 % 256)) (cnt 8 x) (b _) (b _) (b _) (b _) (b _) (b _) (b _) (b _) (by simp only [cnt, Nat.mul_zero, Nat.zero_add])
  refine ⟨this.1, this.2.trans ?_⟩
  rw [o x, o (x / 256), o (x / 256 / 256), o (x / 256 / 256 / 256), o (x / 256 / 256 / 256 / 256), o (x / 256 / 256 / 256 / 256 / 256), o (x / 256 / 256 / 256 / 256 / 256 / 256), o (x / 256 / 256 / 256 / 256 / 256 / 256 / 256)]
  rw [show x / 256 / 256 / 256 / 256 / 256 / 256 / 256 / 256 = 0 by omega, ones_zero]; omega
/-- The lowest digit that is 0. -/
theorem low_zero : ∀ (k n : Nat), n + 1 < 2 ^ k → (2 ^ k - 1 - n) &&& (n + 1) = 2 ^ trail n
  | 0, n, h => by simp at h
  | k + 1, n, h => by
    have two : ∀ a b c d : Nat, b < 2 → d < 2 → (2 * a + b) &&& (2 * c + d) = 2 * (a &&& c) + (b &&& d) := fun a b c d hb hd => by
      have h1 : ((2 * a + b) &&& (2 * c + d)) / 2 ^ 1 = (a &&& c) := by rw [Nat.and_div_two_pow]; congr 1 <;> omega
      have h2 : ((2 * a + b) &&& (2 * c + d)) % 2 ^ 1 = (b &&& d) := by rw [Nat.and_mod_two_pow]; congr 1 <;> omega
      omega
    rw [Nat.pow_succ] at h
    by_cases h2 : n % 2 = 1
    · by_cases h3 : n / 2 + 1 < 2 ^ k
      · have ih := low_zero k (n / 2) h3
        rw [Nat.pow_succ, show 2 ^ k * 2 - 1 - n = 2 * (2 ^ k - 1 - n / 2) + 0 by omega, show n + 1 = 2 * (n / 2 + 1) + 0 by omega, two _ _ _ _ (by decide) (by decide), ih, trail_odd h2, Nat.pow_succ]
        simp; omega
      · omega
    · have hz : (2 ^ k - 1 - n / 2) &&& (n / 2) = 0 := by
        have : ∀ (k m : Nat), m < 2 ^ k → (2 ^ k - 1 - m) &&& m = 0 := by
          intro k
          induction k with
          | zero => intro m h; simp
          | succ k ih =>
            intro m h
            rw [Nat.pow_succ] at h
            have i := ih (m / 2) (by omega)
            rw [Nat.pow_succ]
            by_cases hm : m % 2 = 1
            · rw [show 2 ^ k * 2 - 1 - m = 2 * (2 ^ k - 1 - m / 2) + 0 by omega]
              conv => lhs; rw [show m = 2 * (m / 2) + 1 by omega]
              rw [show (2 * (m / 2) + 1) / 2 = m / 2 by omega, two _ _ _ _ (by decide) (by decide), i]; rfl
            · rw [show 2 ^ k * 2 - 1 - m = 2 * (2 ^ k - 1 - m / 2) + 1 by omega]
              conv => lhs; rw [show m = 2 * (m / 2) + 0 by omega]
              rw [show (2 * (m / 2) + 0) / 2 = m / 2 by omega, two _ _ _ _ (by decide) (by decide), i]; rfl
        exact this k (n / 2) (by omega)
      rw [Nat.pow_succ, show 2 ^ k * 2 - 1 - n = 2 * (2 ^ k - 1 - n / 2) + 1 by omega, show n + 1 = 2 * (n / 2) + 1 by omega, two _ _ _ _ (by decide) (by decide), hz, trail_even (by omega)]; rfl
theorem trail_lt : ∀ (k n : Nat), n + 1 < 2 ^ k → trail n < k
  | 0, n, h => by simp at h
  | k + 1, n, h => by
    rw [Nat.pow_succ] at h
    by_cases h2 : n % 2 = 1
    · rw [trail_odd h2]; have := trail_lt k (n / 2) (by omega); omega
    · rw [trail_even (by omega)]; omega
end Go.Proofs.YtkdajlhmodmkoaaDoor.TreeM
