/-
  Plain mathematics of the sum of layer 10: one step, four, eight; over numbers below 2^32. No program is mentioned here.
-/
namespace Go.Proofs.Ytjmdiobnappgkaa.CrcM
def P : Nat := 3988292384
def step (n : Nat) : Nat := if n % 2 = 1 then (n / 2) ^^^ P else n / 2
def step4 (n : Nat) : Nat := step (step (step (step n)))
def step8 (n : Nat) : Nat := step4 (step4 n)
def byte (n : Nat) (c : Nat) : Nat := step8 (n ^^^ c)
def run (n : Nat) (l : List UInt8) : Nat := l.foldl (fun n c => byte n c.toNat) n
def on (n : Nat) (l : List UInt8) : Nat := 4294967295 - run (4294967295 - n) l

theorem step_xor (a b : Nat) : step (a ^^^ b) = step a ^^^ step b := by
  unfold step
  rw [Nat.xor_div_two]
  have hm : (a ^^^ b) % 2 = (a % 2 + b % 2) % 2 := by
    rcases Nat.mod_two_eq_zero_or_one a with h | h <;> rcases Nat.mod_two_eq_zero_or_one b with h' | h'
    all_goals
      have := @Nat.xor_mod_two_eq_one a b
      rcases Nat.mod_two_eq_zero_or_one (a ^^^ b) with h2 | h2 <;> simp_all
  rw [hm]
  rcases Nat.mod_two_eq_zero_or_one a with h | h <;> rcases Nat.mod_two_eq_zero_or_one b with h' | h' <;> simp [h, h']
  · ac_rfl
  · ac_rfl
  · have : a / 2 ^^^ P ^^^ (b / 2 ^^^ P) = a / 2 ^^^ b / 2 ^^^ (P ^^^ P) := by ac_rfl
    rw [this]; simp
theorem step4_xor (a b : Nat) : step4 (a ^^^ b) = step4 a ^^^ step4 b := by simp [step4, step_xor]
theorem step8_xor (a b : Nat) : step8 (a ^^^ b) = step8 a ^^^ step8 b := by simp [step8, step4_xor]
theorem step_even (a : Nat) : step (2 * a) = a := by unfold step; rw [if_neg (by omega)]; omega
theorem step4_16 (a : Nat) : step4 (16 * a) = a := by
  unfold step4
  rw [show 16 * a = 2 * (2 * (2 * (2 * a))) by omega]; simp only [step_even]
theorem split16 (n : Nat) : n = (16 * (n / 16)) ^^^ (n % 16) := by
  apply Nat.eq_of_testBit_eq
  intro i
  rw [Nat.testBit_xor, show 16 * (n / 16) = 2 ^ 4 * (n / 2 ^ 4) from rfl, show n % 16 = n % 2 ^ 4 from rfl, Nat.testBit_mod_two_pow, Nat.testBit_two_pow_mul, Nat.testBit_div_two_pow]
  by_cases h : i < 4
  · have h' : ¬ 4 ≤ i := by omega
    simp [h, h']
  · have h' : 4 ≤ i := by omega
    simp [h, h', show i - 4 + 4 = i by omega]
theorem step4_tab (n : Nat) : step4 n = n / 16 ^^^ step4 (n % 16) := by
  conv => lhs; rw [split16 n]
  rw [step4_xor, step4_16]

theorem step_lt (n : Nat) (h : n < 4294967296) : step n < 4294967296 := by
  unfold step; split
  · exact Nat.xor_lt_two_pow (n := 32) (by omega) (by decide)
  · omega
theorem step4_lt (n : Nat) (h : n < 4294967296) : step4 n < 4294967296 := by
  unfold step4; exact step_lt _ (step_lt _ (step_lt _ (step_lt _ h)))
theorem byte_lt (n c : Nat) (h : n < 4294967296) (hc : c < 256) : byte n c < 4294967296 := by
  unfold byte step8
  exact step4_lt _ (step4_lt _ (Nat.xor_lt_two_pow (n := 32) h (by omega)))
theorem run_lt : ∀ (l : List UInt8) (n : Nat), n < 4294967296 → run n l < 4294967296
  | [], _, h => h
  | c :: l, n, h => run_lt l _ (byte_lt n _ h c.toNat_lt)
theorem run_append (n : Nat) (a b : List UInt8) : run n (a ++ b) = run (run n a) b := by simp [run, List.foldl_append]
theorem xor_zero_eq {a b : Nat} (h : a ^^^ b = 0) : a = b := by
  have : a ^^^ b ^^^ b = b := by rw [h]; simp
  rw [Nat.xor_assoc] at this; simpa using this
theorem xor_cr {a b c : Nat} (h : a ^^^ c = b ^^^ c) : a = b := by
  have : a ^^^ c ^^^ c = b ^^^ c ^^^ c := by rw [h]
  simpa [Nat.xor_assoc] using this
theorem xor_cl {a b c : Nat} (h : c ^^^ a = c ^^^ b) : a = b := xor_cr (c := c) (by rw [Nat.xor_comm a, Nat.xor_comm b]; exact h)
theorem step_inj (a b : Nat) (ha : a < 4294967296) (hb : b < 4294967296) (h : step a = step b) : a = b := by
  have hx : step (a ^^^ b) = 0 := by rw [step_xor, h]; simp
  have hlt : a ^^^ b < 4294967296 := Nat.xor_lt_two_pow (n := 32) ha hb
  have h0 : a ^^^ b = 0 := by
    generalize a ^^^ b = c at hx hlt
    unfold step at hx
    split at hx
    · have : c / 2 = P := by
        exact xor_zero_eq hx
      unfold P at this; omega
    · omega
  exact xor_zero_eq h0
theorem step4_inj (a b : Nat) (ha : a < 4294967296) (hb : b < 4294967296) (h : step4 a = step4 b) : a = b := by
  unfold step4 at h
  exact step_inj _ _ ha hb (step_inj _ _ (step_lt _ ha) (step_lt _ hb) (step_inj _ _ (step_lt _ (step_lt _ ha)) (step_lt _ (step_lt _ hb)) (step_inj _ _ (step_lt _ (step_lt _ (step_lt _ ha))) (step_lt _ (step_lt _ (step_lt _ hb))) h)))
theorem step8_inj (a b : Nat) (ha : a < 4294967296) (hb : b < 4294967296) (h : step8 a = step8 b) : a = b :=
  step4_inj _ _ ha hb (step4_inj _ _ (step4_lt _ ha) (step4_lt _ hb) h)
theorem byte_inj_left (a b c : Nat) (ha : a < 4294967296) (hb : b < 4294967296) (hc : c < 256) (h : byte a c = byte b c) : a = b := by
  have := step8_inj _ _ (Nat.xor_lt_two_pow (n := 32) ha (by omega)) (Nat.xor_lt_two_pow (n := 32) hb (by omega)) h
  exact xor_cr this
theorem byte_inj_right (a c d : Nat) (ha : a < 4294967296) (hc : c < 256) (hd : d < 256) (h : byte a c = byte a d) : c = d := by
  have := step8_inj _ _ (Nat.xor_lt_two_pow (n := 32) ha (by omega)) (Nat.xor_lt_two_pow (n := 32) ha (by omega)) h
  exact xor_cl this
theorem run_inj : ∀ (l : List UInt8) (a b : Nat), a < 4294967296 → b < 4294967296 → run a l = run b l → a = b
  | [], _, _, _, _, h => h
  | c :: l, a, b, ha, hb, h => byte_inj_left a b c.toNat ha hb c.toNat_lt (run_inj l _ _ (byte_lt _ _ ha c.toNat_lt) (byte_lt _ _ hb c.toNat_lt) h)
theorem on_append (n : Nat) (h : n < 4294967296) (a b : List UInt8) : on (on n a) b = on n (a ++ b) := by
  unfold on
  have := run_lt a (4294967295 - n) (by omega)
  rw [show 4294967295 - (4294967295 - run (4294967295 - n) a) = run (4294967295 - n) a by omega, run_append]
theorem on_nil (n : Nat) (h : n < 4294967296) : on n [] = n := by unfold on run; simp; omega
theorem on_inj (l : List UInt8) (a b : Nat) (ha : a < 4294967296) (hb : b < 4294967296) (h : on a l = on b l) : a = b := by
  unfold on at h
  have h1 := run_lt l (4294967295 - a) (by omega)
  have h2 := run_lt l (4294967295 - b) (by omega)
  have := run_inj l (4294967295 - a) (4294967295 - b) (by omega) (by omega) (by omega)
  omega
theorem on_lt (n : Nat) (l : List UInt8) : on n l < 4294967296 := by unfold on; omega
/-- one byte turned -/
theorem on_one (x y : List UInt8) (c d : UInt8) (h : c ≠ d) : on 0 (x ++ c :: y) ≠ on 0 (x ++ d :: y) := by
  intro he
  unfold on at he
  have h1 := run_lt (x ++ c :: y) 4294967295 (by omega)
  have h2 := run_lt (x ++ d :: y) 4294967295 (by omega)
  have h3 : run 4294967295 (x ++ c :: y) = run 4294967295 (x ++ d :: y) := by simp only [Nat.sub_zero] at he; omega
  rw [run_append, run_append] at h3
  have hx := run_lt x 4294967295 (by omega)
  have h4 := run_inj y _ _ (byte_lt _ _ hx c.toNat_lt) (byte_lt _ _ hx d.toNat_lt) h3
  exact h (UInt8.toNat_inj.1 (byte_inj_right _ _ _ hx c.toNat_lt d.toNat_lt h4))
/-- three texts laid over one another -/
theorem run_xor3 : ∀ (a b c : List UInt8) (n m k : Nat), a.length = b.length → b.length = c.length →
    run n a ^^^ run m b ^^^ run k c = run (n ^^^ m ^^^ k) (List.zipWith (· ^^^ ·) (List.zipWith (· ^^^ ·) a b) c)
  | [], [], [], n, m, k, _, _ => rfl
  | x :: a, y :: b, z :: c, n, m, k, h1, h2 => by
    simp only [List.length_cons, Nat.add_right_cancel_iff] at h1 h2
    have := run_xor3 a b c (byte n x.toNat) (byte m y.toNat) (byte k z.toNat) h1 h2
    simp only [run, List.foldl_cons, List.zipWith_cons_cons] at this ⊢
    rw [this]
    congr 1
    simp only [byte, UInt8.toNat_xor, ← step8_xor]
    congr 1
    ac_rfl
theorem flip_xor (n : Nat) (h : n < 4294967296) : 4294967295 - n = 4294967295 ^^^ n := by
  apply Nat.eq_of_testBit_eq
  intro i
  rw [Nat.testBit_xor]
  have : 4294967295 - n = 2 ^ 32 - (n + 1) := by omega
  rw [this, Nat.testBit_two_pow_sub_succ h, show (4294967295 : Nat) = 2 ^ 32 - 1 from rfl, Nat.testBit_two_pow_sub_one]
  by_cases hi : i < 32
  · simp [hi]
  · simp [hi]; exact Nat.testBit_lt_two_pow (Nat.lt_of_lt_of_le h (Nat.pow_le_pow_right (n := 2) (by decide) (show 32 ≤ i by omega)))
theorem of_xor3 (a b c : List UInt8) (h1 : a.length = b.length) (h2 : b.length = c.length) :
    on 0 a ^^^ on 0 b ^^^ on 0 c = on 0 (List.zipWith (· ^^^ ·) (List.zipWith (· ^^^ ·) a b) c) := by
  unfold on
  simp only [Nat.sub_zero]
  rw [flip_xor _ (run_lt a _ (by omega)), flip_xor _ (run_lt b _ (by omega)), flip_xor _ (run_lt c _ (by omega)), flip_xor _ (run_lt _ _ (by omega))]
  have := run_xor3 a b c 4294967295 4294967295 4294967295 h1 h2
  rw [show (4294967295 : Nat) ^^^ 4294967295 ^^^ 4294967295 = 4294967295 by decide] at this
  rw [← this]
  generalize run 4294967295 a = x
  generalize run 4294967295 b = y
  generalize run 4294967295 c = z
  rw [show 4294967295 ^^^ x ^^^ (4294967295 ^^^ y) ^^^ (4294967295 ^^^ z) = (4294967295 ^^^ 4294967295) ^^^ (4294967295 ^^^ (x ^^^ y ^^^ z)) by ac_rfl]
  simp
end Go.Proofs.Ytjmdiobnappgkaa.CrcM
