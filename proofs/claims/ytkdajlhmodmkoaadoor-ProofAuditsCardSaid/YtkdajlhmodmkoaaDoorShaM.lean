/-
  Plain mathematics of layer 2 (sha): words, rounds, blocks, padding, digits. No program is mentioned here.
-/
namespace Go.Proofs.YtkdajlhmodmkoaaDoor.ShaM
set_option linter.unusedVariables false
set_option linter.unusedSimpArgs false

/-- Eight words. -/
structure V8 where
  a : UInt32
  b : UInt32
  c : UInt32
  d : UInt32
  e : UInt32
  f : UInt32
  g : UInt32
  h : UInt32

def K : List UInt32 := [
  0x428a2f98, 0x71374491, 0xb5c0fbcf, 0xe9b5dba5, 0x3956c25b, 0x59f111f1, 0x923f82a4, 0xab1c5ed5,
  0xd807aa98, 0x12835b01, 0x243185be, 0x550c7dc3, 0x72be5d74, 0x80deb1fe, 0x9bdc06a7, 0xc19bf174,
  0xe49b69c1, 0xefbe4786, 0x0fc19dc6, 0x240ca1cc, 0x2de92c6f, 0x4a7484aa, 0x5cb0a9dc, 0x76f988da,
  0x983e5152, 0xa831c66d, 0xb00327c8, 0xbf597fc7, 0xc6e00bf3, 0xd5a79147, 0x06ca6351, 0x14292967,
  0x27b70a85, 0x2e1b2138, 0x4d2c6dfc, 0x53380d13, 0x650a7354, 0x766a0abb, 0x81c2c92e, 0x92722c85,
  0xa2bfe8a1, 0xa81a664b, 0xc24b8b70, 0xc76c51a3, 0xd192e819, 0xd6990624, 0xf40e3585, 0x106aa070,
  0x19a4c116, 0x1e376c08, 0x2748774c, 0x34b0bcb5, 0x391c0cb3, 0x4ed8aa4a, 0x5b9cca4f, 0x682e6ff3,
  0x748f82ee, 0x78a5636f, 0x84c87814, 0x8cc70208, 0x90befffa, 0xa4506ceb, 0xbef9a3f7, 0xc67178f2]
def begin8 : V8 := ⟨0x6a09e667, 0xbb67ae85, 0x3c6ef372, 0xa54ff53a, 0x510e527f, 0x9b05688c, 0x1f83d9ab, 0x5be0cd19⟩

/-- A word turned to the right. -/
def rotr (n : Nat) (x : UInt32) : UInt32 := UInt32.ofNat (x.toNat / 2 ^ n + x.toNat % 2 ^ n * 2 ^ (32 - n))
/-- A word's bits moved down. -/
def shr (n : Nat) (x : UInt32) : UInt32 := UInt32.ofNat (x.toNat / 2 ^ n)
/-- Four bytes as a word. -/
def word (a b c d : UInt8) : UInt32 := UInt32.ofNat (a.toNat * 16777216 + b.toNat * 65536 + c.toNat * 256 + d.toNat)
def sg0 (x : UInt32) : UInt32 := rotr 7 x ^^^ rotr 18 x ^^^ shr 3 x
def sg1 (x : UInt32) : UInt32 := rotr 17 x ^^^ rotr 19 x ^^^ shr 10 x
/-- The word behind the words w of block b. -/
def nextW (b : List UInt8) (w : List UInt32) : UInt32 :=
  if w.length < 16 then word (b.getD (4 * w.length) 0) (b.getD (4 * w.length + 1) 0) (b.getD (4 * w.length + 2) 0) (b.getD (4 * w.length + 3) 0)
  else w.getD (w.length - 16) 0 + w.getD (w.length - 7) 0 + sg0 (w.getD (w.length - 15) 0) + sg1 (w.getD (w.length - 2) 0)
/-- The first words of a block. -/
def wl (b : List UInt8) : Nat → List UInt32
  | 0 => []
  | i + 1 => wl b i ++ [nextW b (wl b i)]
def bx (e : UInt32) : UInt32 := rotr 6 e ^^^ rotr 11 e ^^^ rotr 25 e
def by_ (a : UInt32) : UInt32 := rotr 2 a ^^^ rotr 13 a ^^^ rotr 22 a
def ch (e f g : UInt32) : UInt32 := (e &&& f) ^^^ (~~~e &&& g)
def maj (a b c : UInt32) : UInt32 := (a &&& b) ^^^ (a &&& c) ^^^ (b &&& c)
def rx (v : V8) (k w : UInt32) : UInt32 := v.h + bx v.e + ch v.e v.f v.g + k + w
def ry (v : V8) : UInt32 := by_ v.a + maj v.a v.b v.c
/-- One of a block's rounds. -/
def rnd (v : V8) (k w : UInt32) : V8 := ⟨rx v k w + ry v, v.a, v.b, v.c, v.d + rx v k w, v.e, v.f, v.g⟩
def rounds (w : List UInt32) (h : V8) : Nat → V8
  | 0 => h
  | i + 1 => rnd (rounds w h i) (K.getD i 0) (w.getD i 0)
def add8 (x y : V8) : V8 := ⟨x.a + y.a, x.b + y.b, x.c + y.c, x.d + y.d, x.e + y.e, x.f + y.f, x.g + y.g, x.h + y.h⟩
def compress (h : V8) (b : List UInt8) : V8 := add8 h (rounds (wl b 64) h 64)
/-- What so many whole blocks make. -/
def chain (l : List UInt8) : Nat → V8
  | 0 => begin8
  | k + 1 => compress (chain l k) ((l.drop (64 * k)).take 64)
/-- How many 0 are missing. -/
def gap (n : Nat) : Nat := (119 - n % 64) % 64
/-- A length as eight bytes. -/
def len8 (n : Nat) : List UInt8 := [UInt8.ofNat (n / 72057594037927936), UInt8.ofNat (n / 281474976710656), UInt8.ofNat (n / 1099511627776), UInt8.ofNat (n / 4294967296), UInt8.ofNat (n / 16777216), UInt8.ofNat (n / 65536), UInt8.ofNat (n / 256), UInt8.ofNat n]
def padded (l : List UInt8) : List UInt8 := l ++ [128] ++ List.replicate (gap l.length) 0 ++ len8 (8 * l.length)
def out4 (x : UInt32) : List UInt8 := [UInt8.ofNat (x.toNat / 16777216), UInt8.ofNat (x.toNat / 65536), UInt8.ofNat (x.toNat / 256), UInt8.ofNat x.toNat]
def out (v : V8) : List UInt8 := out4 v.a ++ out4 v.b ++ out4 v.c ++ out4 v.d ++ out4 v.e ++ out4 v.f ++ out4 v.g ++ out4 v.h
/-- The sum of a text. -/
def sum (l : List UInt8) : List UInt8 := out (chain (padded l) ((padded l).length / 64))

theorem wl_length (b : List UInt8) : ∀ i, (wl b i).length = i
  | 0 => rfl
  | i + 1 => by simp [wl, wl_length b i]
theorem len8_length (n : Nat) : (len8 n).length = 8 := rfl
theorem out_length (v : V8) : (out v).length = 32 := rfl
theorem sum_length (l : List UInt8) : (sum l).length = 32 := rfl
theorem padded_length (l : List UInt8) : (padded l).length = l.length + 1 + gap l.length + 8 := by simp [padded, len8_length]; omega
theorem padded_whole (l : List UInt8) : (padded l).length % 64 = 0 := by rw [padded_length]; unfold gap; omega
theorem chain_append (l m : List UInt8) : ∀ k, 64 * k ≤ l.length → chain (l ++ m) k = chain l k
  | 0, _ => rfl
  | k + 1, h => by
    simp only [chain]
    rw [chain_append l m k (by omega)]
    congr 1
    rw [List.drop_append_of_le_length (by omega), List.take_append_of_le_length (by simp; omega)]

/-- What a run holds that has eaten l: on, state, what is left. -/
structure Inv (on : Bool) (st : V8) (left l : List UInt8) : Prop where
  hlen : left.length = 64
  hon : on = decide (64 ≤ l.length)
  hst : (bif on then st else begin8) = chain l (l.length / 64)
  hleft : left.take (l.length % 64) = l.drop (64 * (l.length / 64))
def zero8 : V8 := ⟨0, 0, 0, 0, 0, 0, 0, 0⟩
theorem Inv.start : Inv false zero8 (List.replicate 64 0) [] := ⟨by simp, rfl, rfl, rfl⟩
theorem take_set_succ (left : List UInt8) (k : Nat) (c : UInt8) (h : k < left.length) : (left.set k c).take (k + 1) = left.take k ++ [c] := by
  rw [List.take_set, List.take_succ_eq_append_getElem h, List.set_append_right _ _ (by simp; omega)]
  simp [Nat.min_eq_left (Nat.le_of_lt h)]
section
variable {on : Bool} {st : V8} {left l : List UInt8}
theorem Inv.put (h : Inv on st left l) (c : UInt8) (hn : ¬ (l.length + 1) % 64 = 0) : Inv on st (left.set (l.length % 64) c) (l ++ [c]) := by
  have hd : (l.length + 1) / 64 = l.length / 64 := by omega
  have hm : (l.length + 1) % 64 = l.length % 64 + 1 := by omega
  refine ⟨by simp [h.hlen], ?_, ?_, ?_⟩
  · rw [h.hon]; simp only [List.length_append, List.length_singleton, decide_eq_decide]; omega
  · rw [h.hst]; simp only [List.length_append, List.length_singleton, hd]
    exact (chain_append l [c] _ (by omega)).symm
  · simp only [List.length_append, List.length_singleton, hd, hm]
    rw [take_set_succ _ _ _ (by rw [h.hlen]; omega), h.hleft, List.drop_append_of_le_length (by omega)]
theorem Inv.eat (h : Inv on st left l) (c : UInt8) (hn : (l.length + 1) % 64 = 0) : Inv true (compress (bif on then st else begin8) (left.set (l.length % 64) c)) (left.set (l.length % 64) c) (l ++ [c]) := by
  have hd : (l.length + 1) / 64 = l.length / 64 + 1 := by omega
  have hm : l.length % 64 + 1 = 64 := by omega
  have hall : left.set (l.length % 64) c = l.drop (64 * (l.length / 64)) ++ [c] := by
    have := take_set_succ left (l.length % 64) c (by rw [h.hlen]; omega)
    rw [h.hleft, hm, List.take_of_length_le (by simp [h.hlen])] at this
    exact this
  refine ⟨by simp [h.hlen], ?_, ?_, ?_⟩
  · symm; simp only [List.length_append, List.length_singleton, decide_eq_true_eq]; omega
  · simp only [cond_true, List.length_append, List.length_singleton, hd, chain]
    rw [h.hst, chain_append l [c] _ (by omega)]
    congr 1
    rw [hall, List.drop_append_of_le_length (by omega), List.take_of_length_le (by simp; omega)]
  · simp only [List.length_append, List.length_singleton, hn, hd]
    rw [List.drop_eq_nil_of_le (by simp; omega)]; rfl
/-- A run that has eaten a padded text holds the text's sum. -/
theorem Inv.sum (t : List UInt8) (h : Inv on st left (padded t)) : out st = ShaM.sum t := by
  have h1 := h.hon
  have h2 := padded_whole t
  have h3 := padded_length t
  have : on = true := by rw [h1]; simp only [decide_eq_true_eq]; omega
  subst this
  have := h.hst
  simp only [cond_true] at this
  rw [this]; rfl
end
/-- Digits. -/
def digit (n : Nat) : UInt8 := if n < 10 then UInt8.ofNat (48 + n) else UInt8.ofNat (87 + n)
def hex : List UInt8 → List UInt8
  | [] => []
  | c :: l => digit (c.toNat / 16) :: digit (c.toNat % 16) :: hex l
theorem hex_append : ∀ l m, hex (l ++ m) = hex l ++ hex m
  | [], _ => rfl
  | c :: l, m => by simp [hex, hex_append l m]
theorem hex_length : ∀ l, (hex l).length = 2 * l.length
  | [] => rfl
  | c :: l => by simp [hex, hex_length l]; omega
theorem digit_inj (a b : Nat) (ha : a < 16) (hb : b < 16) (h : digit a = digit b) : a = b := by
  have h' := congrArg UInt8.toNat h
  unfold digit at h'
  split at h' <;> split at h' <;> simp at h' <;> omega
theorem hex_inj : ∀ l m, hex l = hex m → l = m
  | [], [], _ => rfl
  | [], c :: m, h => by simp [hex] at h
  | c :: l, [], h => by simp [hex] at h
  | c :: l, d :: m, h => by
    simp only [hex, List.cons.injEq] at h
    obtain ⟨h1, h2, h3⟩ := h
    have e1 := digit_inj _ _ (by have := c.toNat_lt; omega) (by have := d.toNat_lt; omega) h1
    have e2 := digit_inj _ _ (by omega) (by omega) h2
    rw [hex_inj l m h3]
    congr 1
    apply UInt8.toNat_inj.1; omega
theorem digit_ok (n : Nat) (h : n < 16) : (48 ≤ (digit n).toNat ∧ (digit n).toNat ≤ 57) ∨ (97 ≤ (digit n).toNat ∧ (digit n).toNat ≤ 102) := by
  unfold digit
  split
  · left; simp; omega
  · right; simp; omega
theorem hex_ok : ∀ l, ∀ c ∈ hex l, (48 ≤ c.toNat ∧ c.toNat ≤ 57) ∨ (97 ≤ c.toNat ∧ c.toNat ≤ 102)
  | [], c, h => by cases h
  | d :: l, c, h => by
    simp only [hex, List.mem_cons] at h
    rcases h with rfl | rfl | h
    · exact digit_ok _ (by have := d.toNat_lt; omega)
    · exact digit_ok _ (by omega)
    · exact hex_ok l c h
end Go.Proofs.YtkdajlhmodmkoaaDoor.ShaM
