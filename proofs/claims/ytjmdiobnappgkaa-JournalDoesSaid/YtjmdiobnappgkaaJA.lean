/-
  Several texts of this seat as one (for the limit of files): Kit, Kit2, Kit3, CrcMath, CrcTab, Crc, CrcRef.
-/
import Derived.WalkKit
import Derived.WalkSpells
import Derived.WalkLawsBesides
import Derived.Lib.Hide
import Derived.Laws.CopyRow
import Derived.Laws.Tables
import Derived.Laws.IdiomStrings
import Derived.Lib.Strings
import Derived.Lib.Bytes
import Derived.Laws.BitsAllLaws
import Derived.Deep.RegionHeld3
import Derived.Deep.RegionLaw
import Derived.Deep.AppendLies
import Derived.Test.YtjmdiobnappgkaaRows
/-
  Small laws of memory and of the walk that the proofs of this seat share. No function of the program is named here.
-/
namespace Go.Proofs.Ytjmdiobnappgkaa
open Go.RowKit
set_option linter.unusedVariables false
set_option linter.unusedSimpArgs false

theorem alloc_setRow (w : World) (cs cs' : Array Value) (t : TypeId) (fr : Nat × Nat) : (w.alloc (.cells cs t fr)).setRow w.heap.size cs' = w.alloc (.cells cs' t fr) := by
  simp only [World.setRow, World.alloc]
  congr 1
  apply Array.ext
  · simp
  · intro i h1 h2
    simp only [Array.getElem_modify]
    by_cases h : w.heap.size = i
    · subst h; simp
    · rw [if_neg h]
      simp only [Array.size_modify, Array.size_push] at h1
      rw [Array.getElem_push_lt (by omega), Array.getElem_push_lt (by omega)]

theorem run_storeCells_new {P : Program} (w : World) (cs : Array Value) (t : TypeId) (news : List Value) (h : news.length = cs.size) (h1 : ∀ v ∈ news, v.oneCell' = true) :
    (storeCells ⟨w.heap.size, 0, none⟩ news).run P (w.alloc (.cells cs t)) = .ok () (w.alloc (.cells news.toArray t)) := by
  have := run_storeCells_at P w.heap.size 0 t news 0 cs (w.alloc (.cells cs t)) (heap_alloc_new w _) (by omega) h1
  rw [this, alloc_setRow]
  congr 3
  have e : cs.toList.drop (0 + 0 + news.length) = [] := by
    apply List.drop_eq_nil_of_le; simp [h]
  rw [e]; simp

theorem below_drewN' {B : Nat} {a w : World} (h : Below B a w) (n : Nat) : Below B a (w.drewN n) := ⟨h.os, h.tape, h.output, h.size, h.block⟩

/-- '[]byte(s)': a new block with the bytes. -/
theorem conv_bytes {P : Program} (w : World) (src dst e : TypeId) (s : ByteArray) (hs : P.underlying src = some .string) (hd : P.underlying dst = some (.slice e)) (he : P.underlying e = some (.int .u8)) :
    ∃ cap w2, (convert src dst (.string s)).run P w = .ok (.slice (some ⟨w.heap.size, 0, none⟩) s.size cap) w2 ∧ Below w.heap.size w w2 ∧ w2.heap.size = w.heap.size + 1 ∧ s.size ≤ cap ∧
      ∀ i (h : i < s.size), w2.cell? ⟨w.heap.size, i, none⟩ = some (.int .u8 (s[i].toNat : Int)) := by
  refine ⟨_, _, run_bytes_of_string w src dst e s hs hd he, ?_, ?_, grownCap_ge _ _ _ _, ?_⟩
  · exact ((Below.refl _ _).drew).alloc (Nat.le_refl _) _
  · simp
  · intro i hi
    have h1 : w.drew.heap.size = w.heap.size := rfl
    have := World.cell?_alloc_mark w.drew (bytesRow s (grownCap w s.size 0 e)) e ((bytesRow s (grownCap w s.size 0 e)).size, (bytesRow s (grownCap w s.size 0 e)).size + 1) i
    rw [h1] at this
    rw [this]
    exact bytesRow_at s _ i hi
end Go.Proofs.Ytjmdiobnappgkaa

/-
  Small laws of memory and of the walk, more: bytes of a new block as a string.
-/
namespace Go.Proofs.Ytjmdiobnappgkaa
open Go.RowKit
set_option linter.unusedVariables false
set_option linter.unusedSimpArgs false

/-- 'string([]byte{..})' of a block that was just made. -/
theorem conv_string_new {P : Program} (w : World) (src dst e : TypeId) (xs : List Int) (hs : P.underlying src = some (.slice e)) (he : P.underlying e = some (.int .u8)) (hd : P.underlying dst = some .string) (len cap : Nat) (hl : xs.length = len) (t : TypeId) :
    (convert src dst (.slice (some ⟨w.heap.size, 0, none⟩) len cap)).run P (w.alloc (.cells (xs.map (Value.int .u8)).toArray t)) = .ok (.string (strOfNums xs)) (w.alloc (.cells (xs.map (Value.int .u8)).toArray t)) := by
  refine run_convert_bytes_arg _ src e hs he w.heap.size 0 len cap xs hl (fun i hi => ?_) dst hd
  rw [cell_of_row _ _ _ _ _ _ (heap_alloc_new w _)]
  have : i < xs.length := by omega
  simp [this]
end Go.Proofs.Ytjmdiobnappgkaa

/-
  Small laws of memory and of the walk, more: one cell appended to a row of the call's own, in a plain region and in one that draws its order; such a row of bytes as a string.
-/
namespace Go.Proofs.Ytjmdiobnappgkaa
open Go.RowKit
set_option linter.unusedVariables false
set_option linter.unusedSimpArgs false

theorem bthen {w w1 w2 : World} (h : Below w.heap.size w w1) (k : Below w1.heap.size w1 w2) : Below w.heap.size w w2 := h.trans (k.mono h.size)
theorem ext_le (s : ByteArray) (k : Nat) : (s.extract 0 k).size ≤ k := by rw [ByteArray.size_extract]; omega

/-- Bytes as cells. -/
def bvals (l : List UInt8) : List Value := l.map fun c => Value.int .u8 (c.toNat : Int)
theorem bvals_length (l : List UInt8) : (bvals l).length = l.length := by simp [bvals]
theorem bvals_append (l m : List UInt8) : bvals (l ++ m) = bvals l ++ bvals m := by simp [bvals]
theorem bvals_one (l : List UInt8) : ∀ u ∈ bvals l, u.oneCell' = true := by
  intro u hu; simp only [bvals, List.mem_map] at hu; obtain ⟨_, _, rfl⟩ := hu; rfl

section
variable {P : Program} {w : World}

theorem step_append1 {ops : Array Oper} {o : Oper} {a : Act} {K : Act → World → Prop} {Q : Exit → Act → World → Prop} {E : Prop} (hgd : o.guard = none) (s x : Operand) (t : TypeId)
    (ho : o.op = .call { callee := .builtin .append, args := #[s, x], argTypes := #[t, t] })
    (base : Nat) (e : TypeId) (i : TypeInfo) (z : Value) (bytes : Nat) (ht : P.underlying t = some (.slice e)) (hi : P.info? e = some i) (hz : i.zero = some z)
    (hsize : i.size = 1) (hby : i.bytes = bytes) (hzs : z.cells.size = 1)
    (v : Value) (n : Nat) (xs : List Value) (hs : a.eval s = v) (hown : w.ownsRow base e 1 v n xs)
    (g : Nat) (hx : a.eval x = .slice (some ⟨g, 0, none⟩) 1 1) (u : Value) (hu : w.cell? ⟨g, 0, none⟩ = some u) (h1 : u.oneCell' = true)
    (h63 : n + 1 ≤ maxLen) (hbytes : (n + 1) * bytes ≤ 140737488355328) (hbase : base ≤ w.heap.size)
    (h : ∀ v' w', w'.ownsRow base e 1 v' (n + 1) (xs ++ [u]) → w.grownBy w' v.ownBlock → (v'.ownBlock = v.ownBlock ∨ v'.ownBlock = some w.heap.size) → K (a.put o.dst v') w') :
    if Region.wanted o (yielded ops a.tmps) = true then Oper.wp P o a w K Q else E := by
  refine step_append_lies w hgd s x t ho base e i z 1 bytes ht hi hz hsize hby hzs (by decide) v n xs hs hown ⟨g, 0, none⟩ 1 1 [u] hx rfl ?_ ?_ (by decide) h63 hbytes hbase _ rfl ?_
  · intro j y hj
    match j, hj with
    | 0, hj => simp at hj; subst hj; simpa [Addr.add] using hu
  · intro y hy; simp at hy; subst hy; exact h1
  · intro g' cap w' h2 h3 h4 h5
    refine h _ w' h2 h3 ?_
    rcases h4 with h4 | h4
    · exact .inl h4.symm
    · subst h4; exact .inr rfl

theorem wpList_append1 {ops : Array Oper} {rest : List Oper} {o : Oper} {a : Act} {Q : Exit → Act → World → Prop} (hgd : o.guard = none) (s x : Operand) (t : TypeId)
    (ho : o.op = .call { callee := .builtin .append, args := #[s, x], argTypes := #[t, t] })
    (base : Nat) (e : TypeId) (i : TypeInfo) (z : Value) (bytes : Nat) (ht : P.underlying t = some (.slice e)) (hi : P.info? e = some i) (hz : i.zero = some z)
    (hsize : i.size = 1) (hby : i.bytes = bytes) (hzs : z.cells.size = 1)
    (v : Value) (n : Nat) (xs : List Value) (hs : a.eval s = v) (hown : w.ownsRow base e 1 v n xs)
    (g : Nat) (hx : a.eval x = .slice (some ⟨g, 0, none⟩) 1 1) (u : Value) (hu : w.cell? ⟨g, 0, none⟩ = some u) (h1 : u.oneCell' = true)
    (h63 : n + 1 ≤ maxLen) (hbytes : (n + 1) * bytes ≤ 140737488355328) (hbase : base ≤ w.heap.size)
    (h : ∀ v' w', w'.ownsRow base e 1 v' (n + 1) (xs ++ [u]) → w.grownBy w' v.ownBlock → (v'.ownBlock = v.ownBlock ∨ v'.ownBlock = some w.heap.size) → wpList P ops Q rest (a.put o.dst v') w') : wpList P ops Q (o :: rest) a w := by
  refine wpList_append_lies w hgd s x t ho base e i z 1 bytes ht hi hz hsize hby hzs (by decide) v n xs hs hown ⟨g, 0, none⟩ 1 1 [u] hx rfl ?_ ?_ (by decide) h63 hbytes hbase _ rfl ?_
  · intro j y hj
    match j, hj with
    | 0, hj => simp at hj; subst hj; simpa [Addr.add] using hu
  · intro y hy; simp at hy; subst hy; exact h1
  · intro g' cap w' h2 h3 h4 h5
    refine h _ w' h2 h3 ?_
    rcases h4 with h4 | h4
    · exact .inl h4.symm
    · subst h4; exact .inr rfl

/-- 'string(b)' of a row of the call's own. -/
theorem conv_own {base e src dst t : TypeId} {v : Value} {n : Nat} {l : List UInt8} (hs : P.underlying src = some (.slice e)) (he : P.underlying e = some (.int .u8)) (hd : P.underlying dst = some .string)
    (hown : w.ownsRow base t 1 v n (bvals l)) : (convert src dst v).run P w = .ok (.string ⟨l.toArray⟩) w := by
  have hl := hown.1
  simp only [bvals_length, Nat.mul_one] at hl
  rcases hown.2 with ⟨rfl, rfl⟩ | ⟨g, cap, cur, rfl, _⟩
  · have : l = [] := List.eq_nil_of_length_eq_zero hl
    subst this
    exact run_convert_bytes_nil w src e hs he 0 0 dst hd
  · subst hl
    refine run_convert_bytes_back w src dst e ⟨g, 0, none⟩ cap l hs he hd ?_
    intro j hj
    refine hown.cells rfl j _ ?_
    simp [bvals, hj]
end
theorem own_below {w1 w2 : World} {base : Nat} {e : TypeId} {size : Nat} {v : Value} {n : Nat} {xs : List Value} (h : w1.ownsRow base e size v n xs) (hb : Below w1.heap.size w1 w2) : w2.ownsRow base e size v n xs := by
  refine ⟨h.1, ?_⟩
  rcases h.2 with h2 | ⟨g, cap, cur, hv, hg, hh, r⟩
  · exact .inl h2
  · exact .inr ⟨g, cap, cur, hv, hg, by rw [hb.block g (Array.getElem?_eq_some_iff.1 hh).1]; exact hh, r⟩
theorem own_belowB {w1 w2 : World} {B base : Nat} {e : TypeId} {size : Nat} {v : Value} {n : Nat} {xs : List Value} (hb : Below B w1 w2) (hB : w1.heap.size = B) (h : w1.ownsRow base e size v n xs) : w2.ownsRow base e size v n xs := by
  subst hB; exact own_below h hb
theorem below_step {w w1 w2 : World} {B : Nat} (h : Below B w1 w2) (hB : w1.heap.size = B) (h0 : Below w.heap.size w w1) : Below w.heap.size w w2 := by
  subst hB; exact bthen h0 h
end Go.Proofs.Ytjmdiobnappgkaa

/-
  Plain mathematics of the sum of layer 10: one step, four, eight; over numbers below 2^32. No program is mentioned here.
-/
namespace Go.Proofs.Ytjmdiobnappgkaa.CrcM
def P : Nat := 3988292384
def step (n : Nat) : Nat := if n % 2 = 1 then (n / 2) ^^^ P else n / 2
def step4 (n : Nat) : Nat := step (step (step (step n)))
def step8 (n : Nat) : Nat := step4 (step4 n)
def byte (n : Nat) (c : Nat) : Nat := step8 (n ^^^ c)
def run (n : Nat) (l : List UInt8) : Nat := l.foldl (fun n c => byte n c.toNat) n
def on (n : Nat) (l : List UInt8) : Nat := 4294967295 - run (4294967295 - n) l

theorem step_xor (a b : Nat) : step (a ^^^ b) = step a ^^^ step b := by
  unfold step
  rw [Nat.xor_div_two]
  have hm : (a ^^^ b) % 2 = (a % 2 + b % 2) % 2 := by
    rcases Nat.mod_two_eq_zero_or_one a with h | h <;> rcases Nat.mod_two_eq_zero_or_one b with h' | h'
    all_goals
      have := @Nat.xor_mod_two_eq_one a b
      rcases Nat.mod_two_eq_zero_or_one (a ^^^ b) with h2 | h2 <;> simp_all
  rw [hm]
  rcases Nat.mod_two_eq_zero_or_one a with h | h <;> rcases Nat.mod_two_eq_zero_or_one b with h' | h' <;> simp [h, h']
  · ac_rfl
  · ac_rfl
  · have : a / 2 ^^^ P ^^^ (b / 2 ^^^ P) = a / 2 ^^^ b / 2 ^^^ (P ^^^ P) := by ac_rfl
    rw [this]; simp
theorem step4_xor (a b : Nat) : step4 (a ^^^ b) = step4 a ^^^ step4 b := by simp [step4, step_xor]
theorem step8_xor (a b : Nat) : step8 (a ^^^ b) = step8 a ^^^ step8 b := by simp [step8, step4_xor]
theorem step_even (a : Nat) : step (2 * a) = a := by unfold step; rw [if_neg (by omega)]; omega
theorem step4_16 (a : Nat) : step4 (16 * a) = a := by
  unfold step4
  rw [show 16 * a = 2 * (2 * (2 * (2 * a))) by omega]; simp only [step_even]
theorem split16 (n : Nat) : n = (16 * (n / 16)) ^^^ (n % 16) := by
  apply Nat.eq_of_testBit_eq
  intro i
  rw [Nat.testBit_xor, show 16 * (n / 16) = 2 ^ 4 * (n / 2 ^ 4) from rfl, show n % 16 = n % 2 ^ 4 from rfl, Nat.testBit_mod_two_pow, Nat.testBit_two_pow_mul, Nat.testBit_div_two_pow]
  by_cases h : i < 4
  · have h' : ¬ 4 ≤ i := by omega
    simp [h, h']
  · have h' : 4 ≤ i := by omega
    simp [h, h', show i - 4 + 4 = i by omega]
theorem step4_tab (n : Nat) : step4 n = n / 16 ^^^ step4 (n % 16) := by
  conv => lhs; rw [split16 n]
  rw [step4_xor, step4_16]

theorem step_lt (n : Nat) (h : n < 4294967296) : step n < 4294967296 := by
  unfold step; split
  · exact Nat.xor_lt_two_pow (n := 32) (by omega) (by decide)
  · omega
theorem step4_lt (n : Nat) (h : n < 4294967296) : step4 n < 4294967296 := by
  unfold step4; exact step_lt _ (step_lt _ (step_lt _ (step_lt _ h)))
theorem byte_lt (n c : Nat) (h : n < 4294967296) (hc : c < 256) : byte n c < 4294967296 := by
  unfold byte step8
  exact step4_lt _ (step4_lt _ (Nat.xor_lt_two_pow (n := 32) h (by omega)))
theorem run_lt : ∀ (l : List UInt8) (n : Nat), n < 4294967296 → run n l < 4294967296
  | [], _, h => h
  | c :: l, n, h => run_lt l _ (byte_lt n _ h c.toNat_lt)
theorem run_append (n : Nat) (a b : List UInt8) : run n (a ++ b) = run (run n a) b := by simp [run, List.foldl_append]
theorem xor_zero_eq {a b : Nat} (h : a ^^^ b = 0) : a = b := by
  have : a ^^^ b ^^^ b = b := by rw [h]; simp
  rw [Nat.xor_assoc] at this; simpa using this
theorem xor_cr {a b c : Nat} (h : a ^^^ c = b ^^^ c) : a = b := by
  have : a ^^^ c ^^^ c = b ^^^ c ^^^ c := by rw [h]
  simpa [Nat.xor_assoc] using this
theorem xor_cl {a b c : Nat} (h : c ^^^ a = c ^^^ b) : a = b := xor_cr (c := c) (by rw [Nat.xor_comm a, Nat.xor_comm b]; exact h)
theorem step_inj (a b : Nat) (ha : a < 4294967296) (hb : b < 4294967296) (h : step a = step b) : a = b := by
  have hx : step (a ^^^ b) = 0 := by rw [step_xor, h]; simp
  have hlt : a ^^^ b < 4294967296 := Nat.xor_lt_two_pow (n := 32) ha hb
  have h0 : a ^^^ b = 0 := by
    generalize a ^^^ b = c at hx hlt
    unfold step at hx
    split at hx
    · have : c / 2 = P := by
        exact xor_zero_eq hx
      unfold P at this; omega
    · omega
  exact xor_zero_eq h0
theorem step4_inj (a b : Nat) (ha : a < 4294967296) (hb : b < 4294967296) (h : step4 a = step4 b) : a = b := by
  unfold step4 at h
  exact step_inj _ _ ha hb (step_inj _ _ (step_lt _ ha) (step_lt _ hb) (step_inj _ _ (step_lt _ (step_lt _ ha)) (step_lt _ (step_lt _ hb)) (step_inj _ _ (step_lt _ (step_lt _ (step_lt _ ha))) (step_lt _ (step_lt _ (step_lt _ hb))) h)))
theorem step8_inj (a b : Nat) (ha : a < 4294967296) (hb : b < 4294967296) (h : step8 a = step8 b) : a = b :=
  step4_inj _ _ ha hb (step4_inj _ _ (step4_lt _ ha) (step4_lt _ hb) h)
theorem byte_inj_left (a b c : Nat) (ha : a < 4294967296) (hb : b < 4294967296) (hc : c < 256) (h : byte a c = byte b c) : a = b := by
  have := step8_inj _ _ (Nat.xor_lt_two_pow (n := 32) ha (by omega)) (Nat.xor_lt_two_pow (n := 32) hb (by omega)) h
  exact xor_cr this
theorem byte_inj_right (a c d : Nat) (ha : a < 4294967296) (hc : c < 256) (hd : d < 256) (h : byte a c = byte a d) : c = d := by
  have := step8_inj _ _ (Nat.xor_lt_two_pow (n := 32) ha (by omega)) (Nat.xor_lt_two_pow (n := 32) ha (by omega)) h
  exact xor_cl this
theorem run_inj : ∀ (l : List UInt8) (a b : Nat), a < 4294967296 → b < 4294967296 → run a l = run b l → a = b
  | [], _, _, _, _, h => h
  | c :: l, a, b, ha, hb, h => byte_inj_left a b c.toNat ha hb c.toNat_lt (run_inj l _ _ (byte_lt _ _ ha c.toNat_lt) (byte_lt _ _ hb c.toNat_lt) h)
theorem on_append (n : Nat) (h : n < 4294967296) (a b : List UInt8) : on (on n a) b = on n (a ++ b) := by
  unfold on
  have := run_lt a (4294967295 - n) (by omega)
  rw [show 4294967295 - (4294967295 - run (4294967295 - n) a) = run (4294967295 - n) a by omega, run_append]
theorem on_nil (n : Nat) (h : n < 4294967296) : on n [] = n := by unfold on run; simp; omega
theorem on_inj (l : List UInt8) (a b : Nat) (ha : a < 4294967296) (hb : b < 4294967296) (h : on a l = on b l) : a = b := by
  unfold on at h
  have h1 := run_lt l (4294967295 - a) (by omega)
  have h2 := run_lt l (4294967295 - b) (by omega)
  have := run_inj l (4294967295 - a) (4294967295 - b) (by omega) (by omega) (by omega)
  omega
theorem on_lt (n : Nat) (l : List UInt8) : on n l < 4294967296 := by unfold on; omega
/-- one byte turned -/
theorem on_one (x y : List UInt8) (c d : UInt8) (h : c ≠ d) : on 0 (x ++ c :: y) ≠ on 0 (x ++ d :: y) := by
  intro he
  unfold on at he
  have h1 := run_lt (x ++ c :: y) 4294967295 (by omega)
  have h2 := run_lt (x ++ d :: y) 4294967295 (by omega)
  have h3 : run 4294967295 (x ++ c :: y) = run 4294967295 (x ++ d :: y) := by simp only [Nat.sub_zero] at he; omega
  rw [run_append, run_append] at h3
  have hx := run_lt x 4294967295 (by omega)
  have h4 := run_inj y _ _ (byte_lt _ _ hx c.toNat_lt) (byte_lt _ _ hx d.toNat_lt) h3
  exact h (UInt8.toNat_inj.1 (byte_inj_right _ _ _ hx c.toNat_lt d.toNat_lt h4))
/-- three texts laid over one another -/
theorem run_xor3 : ∀ (a b c : List UInt8) (n m k : Nat), a.length = b.length → b.length = c.length →
    run n a ^^^ run m b ^^^ run k c = run (n ^^^ m ^^^ k) (List.zipWith (· ^^^ ·) (List.zipWith (· ^^^ ·) a b) c)
  | [], [], [], n, m, k, _, _ => rfl
  | x :: a, y :: b, z :: c, n, m, k, h1, h2 => by
    simp only [List.length_cons, Nat.add_right_cancel_iff] at h1 h2
    have := run_xor3 a b c (byte n x.toNat) (byte m y.toNat) (byte k z.toNat) h1 h2
    simp only [run, List.foldl_cons, List.zipWith_cons_cons] at this ⊢
    rw [this]
    congr 1
    simp only [byte, UInt8.toNat_xor, ← step8_xor]
    congr 1
    ac_rfl
theorem flip_xor (n : Nat) (h : n < 4294967296) : 4294967295 - n = 4294967295 ^^^ n := by
  apply Nat.eq_of_testBit_eq
  intro i
  rw [Nat.testBit_xor]
  have : 4294967295 - n = 2 ^ 32 - (n + 1) := by omega
  rw [this, Nat.testBit_two_pow_sub_succ h, show (4294967295 : Nat) = 2 ^ 32 - 1 from rfl, Nat.testBit_two_pow_sub_one]
  by_cases hi : i < 32
  · simp [hi]
  · simp [hi]; exact Nat.testBit_lt_two_pow (Nat.lt_of_lt_of_le h (Nat.pow_le_pow_right (n := 2) (by decide) (show 32 ≤ i by omega)))
theorem of_xor3 (a b c : List UInt8) (h1 : a.length = b.length) (h2 : b.length = c.length) :
    on 0 a ^^^ on 0 b ^^^ on 0 c = on 0 (List.zipWith (· ^^^ ·) (List.zipWith (· ^^^ ·) a b) c) := by
  unfold on
  simp only [Nat.sub_zero]
  rw [flip_xor _ (run_lt a _ (by omega)), flip_xor _ (run_lt b _ (by omega)), flip_xor _ (run_lt c _ (by omega)), flip_xor _ (run_lt _ _ (by omega))]
  have := run_xor3 a b c 4294967295 4294967295 4294967295 h1 h2
  rw [show (4294967295 : Nat) ^^^ 4294967295 ^^^ 4294967295 = 4294967295 by decide] at this
  rw [← this]
  generalize run 4294967295 a = x
  generalize run 4294967295 b = y
  generalize run 4294967295 c = z
  rw [show 4294967295 ^^^ x ^^^ (4294967295 ^^^ y) ^^^ (4294967295 ^^^ z) = (4294967295 ^^^ 4294967295) ^^^ (4294967295 ^^^ (x ^^^ y ^^^ z)) by ac_rfl]
  simp
end Go.Proofs.Ytjmdiobnappgkaa.CrcM

/-
  The walks of layer 10 (crc): the table of half bytes.
-/
namespace Go.Proofs.Ytjmdiobnappgkaa
open Go.RowKit
set_option linter.unusedVariables false
set_option linter.unusedSimpArgs false

def tabN (i : Nat) : Nat := CrcM.step4 i
def tabRow (k : Nat) : Array Value := ((List.range 16).map fun j => Value.int .u32 (if j < k then (tabN j : Int) else 0)).toArray
theorem tabRow_set (k : Nat) (hk : k < 16) : (tabRow k).setIfInBounds k (.int .u32 (tabN k)) = tabRow (k + 1) := by
  apply Array.ext
  · simp [tabRow]
  · intro i h1 h2
    simp only [tabRow, List.size_toArray, List.length_map, List.length_range] at h1 h2
    by_cases h : k = i
    · subst h; simp [tabRow]
    · have h3 : i < k + 1 ↔ i < k := by omega
      simp [tabRow, Array.getElem_setIfInBounds, h, h3]
theorem tabRow_size (k : Nat) : (tabRow k).size = 16 := by simp [tabRow]
theorem tabRow_16 : tabRow 16 = #[.int .u32 0, .int .u32 498536548, .int .u32 997073096, .int .u32 651767980, .int .u32 1994146192, .int .u32 1802195444, .int .u32 1303535960, .int .u32 1342533948, .int .u32 3988292384, .int .u32 4027552580, .int .u32 3604390888, .int .u32 3412177804, .int .u32 2607071920, .int .u32 2262029012, .int .u32 2685067896, .int .u32 3183342108] := by kernel_rfl
theorem tabRow_0 : tabRow 0 = #[.int .u32 0, .int .u32 0, .int .u32 0, .int .u32 0, .int .u32 0, .int .u32 0, .int .u32 0, .int .u32 0, .int .u32 0, .int .u32 0, .int .u32 0, .int .u32 0, .int .u32 0, .int .u32 0, .int .u32 0, .int .u32 0] := by kernel_rfl
def iterS : Nat → Nat → Nat
  | 0, n => n
  | k + 1, n => CrcM.step (iterS k n)
theorem iterS_lt (n : Nat) (h : n < 4294967296) : ∀ k, iterS k n < 4294967296
  | 0 => h
  | k + 1 => CrcM.step_lt _ (iterS_lt n h k)
theorem step_odd_int (n : Nat) (h : n < 4294967296) (h1 : n % 2 = 1) : bits .xor .u32 ((n : Int) / 2) 3988292384 = (CrcM.step n : Int) := by
  have := u32_xor_nat (n / 2) 3988292384 (by omega) (by omega)
  rw [show ((n / 2 : Nat) : Int) = (n : Int) / 2 by omega] at this
  rw [show ((3988292384 : Nat) : Int) = 3988292384 from rfl] at this
  rw [this, CrcM.step, if_pos h1]; rfl
theorem step_even_int (n : Nat) (h1 : n % 2 = 0) : (n : Int) / 2 = (CrcM.step n : Int) := by
  rw [CrcM.step, if_neg (by omega)]; omega
theorem and1_int (n : Nat) (h : n < 4294967296) : bits .and .u32 (n : Int) 1 = ((n % 2 : Nat) : Int) := by
  have := u32_and_nat n 1 h (by omega)
  rw [show ((1 : Nat) : Int) = 1 from rfl] at this
  rw [this, nat_mask1]

theorem tabRow_get (k : Nat) (hk : k < 16) : (tabRow k)[k]? = some (.int .u32 0) := by simp [tabRow, hk]

set_option maxHeartbeats 400000 in
theorem table_any (w : World) : Calls Try.prog 83 #[] w fun e w' => e = .returned (.agg (tabRow 16)) ∧ Below w.heap.size w w' := by
  go_enter Try.func83, Try.ntmps83
  go_wp2
  go_loopw [4] (fun i wr => ∃ k : Nat, k ≤ 16 ∧ i = .int .i64 k ∧ wr = (w.alloc (.cells (tabRow 0) 111)).alloc (.cells (tabRow k) 111)) (fun i _ => 16 - (intOf i).toNat)
  case atStart => exact ⟨0, by omega, rfl, rfl⟩
  case round =>
    obtain ⟨k, hk, rfl, rfl⟩ := hrel
    by_cases hlt : k < 16
    · have hcell := tabRow_get k hlt
      go_wp2
      go_loop [3, 9] (fun n j => ∃ q : Nat, q ≤ 4 ∧ j = .int .i64 q ∧ n = .int .u32 (iterS q k)) (fun _ j => 4 - (intOf j).toNat)
      case atStart => exact ⟨0, by omega, rfl, rfl⟩
      case round =>
        obtain ⟨q, hq, rfl, rfl⟩ := hrel
        have hn := iterS_lt k (by omega) q
        have hs1 := step_odd_int (iterS q k) hn
        have hs0 := step_even_int (iterS q k)
        generalize hgn : iterS q k = n at *
        have Hgn := Lib.hid hgn; clear hgn
        have Hs1 := Lib.hid hs1; clear hs1
        have Hs0 := Lib.hid hs0; clear hs0
        by_cases hql : q < 4
        · have ha := and1_int n hn
          rcases Nat.mod_two_eq_zero_or_one n with h2 | h2
          · have ha' : bits .and .u32 (n : Int) 1 = 0 := by rw [ha, h2]; rfl
            have H2 := Lib.hid h2; clear h2 ha
            go_wp2
            go_round
            case rel => exact ⟨q + 1, by omega, by go_num, by rw [Hs0.out H2.out, ← Hgn.out]; rfl⟩
            case measure => simp [intOf]; omega
          · have ha' : bits .and .u32 (n : Int) 1 = 1 := by rw [ha, h2]; rfl
            have H2 := Lib.hid h2; clear h2 ha
            go_wp2
            go_round
            case rel => exact ⟨q + 1, by omega, by go_num, by rw [Hs1.out H2.out, ← Hgn.out]; rfl⟩
            case measure => simp [intOf]; omega
        · obtain rfl : q = 4 := by omega
          have hset := tabRow_set k hlt
          have Hset := Lib.hid hset; clear hset
          go_wp2
          go_roundw
          case rel => exact ⟨k + 1, by omega, by go_num, by rw [← Hset.out, ← Hgn.out]; rfl⟩
          case measure => simp [intOf]; omega
    · obtain rfl : k = 16 := by omega
      rw [tabRow_16, tabRow_0]
      go_wp2
      exact bodyPost_ret (v := .agg (tabRow 16)) (by rw [tabRow_16]; simp [results, Try.results83, go_sem]) rfl ⟨rfl, ((Below.refl _ _).alloc (Nat.le_refl _) _).alloc (by simp) _⟩
end Go.Proofs.Ytjmdiobnappgkaa

/-
  The walks of layer 10 (crc): On, Of, Put, and the document's answers.
-/
namespace Go.Proofs.Ytjmdiobnappgkaa
open Go.RowKit
set_option linter.unusedVariables false
set_option linter.unusedSimpArgs false

theorem tabRow_one (k : Nat) : ∀ v ∈ (tabRow k).toList, v.oneCell' = true := by
  intro v hv
  simp only [tabRow, List.mem_map] at hv
  obtain ⟨j, _, rfl⟩ := hv
  rfl

theorem tabRow16_get (k : Nat) (hk : k < 16) : (tabRow 16)[k]? = some (.int .u32 (tabN k)) := by simp [tabRow, hk]
theorem flip_int (n : Nat) (h : n < 4294967296) : bits .xor .u32 IntKind.u32.max (n : Int) = ((4294967295 - n : Nat) : Int) := by
  have := u32_xor_nat 4294967295 n (by omega) h
  rw [CrcM.flip_xor n h, ← this]; rfl
theorem low_int (m c : Nat) (hm : m < 4294967296) (hc : c < 256) : bits .xor .u32 (m : Int) (c : Int) = ((m ^^^ c : Nat) : Int) := u32_xor_nat m c hm (by omega)
theorem half_int (m : Nat) (hm : m < 4294967296) : bits .xor .u32 ((m : Int) / 16) (tabN (m % 16) : Int) = ((CrcM.step4 m : Nat) : Int) := by
  have h1 : tabN (m % 16) < 4294967296 := CrcM.step4_lt _ (by omega)
  have := u32_xor_nat (m / 16) (tabN (m % 16)) (by omega) h1
  rw [show ((m / 16 : Nat) : Int) = (m : Int) / 16 by omega] at this
  rw [this, CrcM.step4_tab m]; rfl
theorem run_snoc (m : Nat) (l : List UInt8) (c : UInt8) : CrcM.run m (l ++ [c]) = CrcM.step4 (CrcM.step4 (CrcM.run m l ^^^ c.toNat)) := by simp [CrcM.run, CrcM.byte, CrcM.step8]
theorem take_snoc (s : ByteArray) (k : Nat) (h : k < s.size) : s.data.toList.take (k + 1) = s.data.toList.take k ++ [s[k]] := by
  rw [List.take_succ_eq_append_getElem (by simpa using h)]; rfl

set_option maxRecDepth 100000 in
set_option maxHeartbeats 400000 in
theorem on_any (n : Nat) (hn : n < 4294967296) (s : ByteArray) (hs : s.size ≤ 140737488351232) (w : World) :
    Calls Try.prog 25 #[.int .u32 n, .string s] w fun e w' => e = .returned (.int .u32 (CrcM.on n s.data.toList)) ∧ Below w.heap.size w w' := by
  have hflip := flip_int n hn
  go_enter Try.func25, Try.ntmps25
  go_wp2_with fail
  refine (table_any _).mono ?_
  rintro e w1 ⟨rfl, hb1⟩
  have hz := hb1.size
  have hst := run_storeCells_new (P := Try.prog) w1 (tabRow 0) 111 (tabRow 16).toList (by simp [tabRow]) (tabRow_one 16)
  rw [tabRow_0, Array.toArray_toList] at hst
  have htz := tabRow_size 16
  have hget := Lib.hid tabRow16_get
  generalize tabRow 16 = tb at *
  obtain ⟨cap, w2, hconv, hb2, hz2, hcap, hcells⟩ := conv_bytes (P := Try.prog) (w1.alloc (.cells tb 111)) 9 30 5 s Try.underlying9 Try.underlying30 Try.underlying5
  have hb : Below w.heap.size w w2 := (hb1.alloc hz _).trans (hb2.mono (by simp; omega))
  have htab : ∀ k, k < 16 → w2.cell? ⟨w1.heap.size, k, none⟩ = some (.int .u32 (tabN k)) := by
    intro k hk
    rw [hb2.cell (by simp), cell_of_row _ _ _ _ _ _ (heap_alloc_new w1 _)]
    exact hget.out k hk
  have Htab := Lib.hid htab; clear htab
  have Hcells := Lib.hid hcells; clear hcells
  have Hz2 := Lib.hid hz2; clear hz2
  have hm0 : 4294967295 - n < 4294967296 := by omega
  go_wp2
  generalize hm : 4294967295 - n = m0 at *
  have Hm := Lib.hid hm; clear hm
  clear hconv hst
  go_loop [6, 15] (fun v i => ∃ k : Nat, k ≤ s.size ∧ i = .int .i64 k ∧ v = .int .u32 (CrcM.run m0 (s.data.toList.take k))) (fun _ i => s.size - (intOf i).toNat)
  case atStart => exact ⟨0, by omega, rfl, rfl⟩
  case round =>
    obtain ⟨k, hk, rfl, rfl⟩ := hrel
    have hlt1 := CrcM.run_lt (s.data.toList.take k) m0 hm0
    have hsn := run_snoc m0 (s.data.toList.take k)
    generalize hr : CrcM.run m0 (s.data.toList.take k) = r at *
    have Hr := Lib.hid hr; clear hr
    have Hsn := Lib.hid hsn; clear hsn
    by_cases hlt : k < s.size
    · have hc : w2.cell? ⟨w1.heap.size + 1, k, none⟩ = some (.int .u8 (s[k].toNat : Int)) := by simpa using Hcells.out k hlt
      have hbyte : s[k].toNat < 256 := s[k].toNat_lt
      have Hts := Lib.hid (take_snoc s k hlt)
      generalize s[k] = c at *
      have hx1 := low_int r c.toNat hlt1 hbyte
      have hxl : r ^^^ c.toNat < 4294967296 := Nat.xor_lt_two_pow (n := 32) hlt1 (by omega)
      have Hsn' := Lib.hid (Hsn.out c)
      generalize r ^^^ c.toNat = x at *
      have ht1 := Htab.out (x % 16) (by omega)
      have hh1 := half_int x hxl
      have hyl := CrcM.step4_lt x hxl
      generalize CrcM.step4 x = y at *
      have ht2 := Htab.out (y % 16) (by omega)
      have hh2 := half_int y hyl
      generalize CrcM.step4 y = z at *
      go_wp2
      go_round
      case rel => exact ⟨k + 1, by omega, by go_num, by rw [Hts.out, Hsn'.out]⟩
      case measure => simp [intOf]; omega
    · obtain rfl : k = s.size := by omega
      have hfl := flip_int r hlt1
      have he : CrcM.on n s.data.toList = 4294967295 - r := by
        rw [CrcM.on, Hm.out, ← Hr.out, List.take_of_length_le (by simp)]
      have He := Lib.hid he; clear he
      go_wp2
      go_ret
      exact ⟨by rw [He.out]; rfl, hb⟩

set_option maxRecDepth 100000 in
set_option maxHeartbeats 400000 in
theorem of_any (s : ByteArray) (hs : s.size ≤ 140737488351232) (w : World) :
    Calls Try.prog 23 #[.string s] w fun e w' => e = .returned (.int .u32 (CrcM.on 0 s.data.toList)) ∧ Below w.heap.size w w' := by
  go_enter Try.func23, Try.ntmps23
  go_wp2_with fail
  refine (on_any 0 (by omega) s hs _).mono ?_
  rintro e w1 ⟨rfl, hb1⟩
  go_wp2
  go_ret
  exact ⟨rfl, hb1⟩
end Go.Proofs.Ytjmdiobnappgkaa

/-
  The walks of the document's answers for layer 10 (On, Of), and of both Put.
-/
namespace Go.Proofs.Ytjmdiobnappgkaa
open Go.RowKit
set_option linter.unusedVariables false
set_option linter.unusedSimpArgs false

theorem iterS8 (n : Nat) : iterS 8 n = CrcM.step8 n := rfl
theorem run_snoc8 (m : Nat) (l : List UInt8) (c : UInt8) : CrcM.run m (l ++ [c]) = iterS 8 (CrcM.run m l ^^^ c.toNat) := by simp [CrcM.run, CrcM.byte, iterS8]

set_option maxRecDepth 100000 in
set_option maxHeartbeats 400000 in
theorem ron_any (n : Nat) (hn : n < 4294967296) (s : ByteArray) (hs : s.size ≤ 140737488351232) (w : World) :
    Calls Try.prog 26 #[.int .u32 n, .string s] w fun e w' => e = .returned (.int .u32 (CrcM.on n s.data.toList)) ∧ w = w' := by
  have hm0 : 4294967295 - n < 4294967296 := by omega
  have hsub : (4294967295 : Int) - (n : Int) = ((4294967295 - n : Nat) : Int) := by omega
  go_enter Try.func26, Try.ntmps26
  go_wp2
  generalize hm : 4294967295 - n = m0 at *
  have Hm := Lib.hid hm; clear hm
  go_loop [5, 6] (fun v i => ∃ k : Nat, k ≤ s.size ∧ i = .int .i64 k ∧ v = .int .u32 (CrcM.run m0 (s.data.toList.take k))) (fun _ i => s.size - (intOf i).toNat)
  case atStart => exact ⟨0, by omega, rfl, rfl⟩
  case round =>
    obtain ⟨k, hk, rfl, rfl⟩ := hrel
    have hlt1 := CrcM.run_lt (s.data.toList.take k) m0 hm0
    have hsn := run_snoc8 m0 (s.data.toList.take k)
    generalize hr : CrcM.run m0 (s.data.toList.take k) = r at *
    have Hr := Lib.hid hr; clear hr
    have Hsn := Lib.hid hsn; clear hsn
    by_cases hlt : k < s.size
    · have hbyte : s[k].toNat < 256 := s[k].toNat_lt
      have Hts := Lib.hid (take_snoc s k hlt)
      have hx1 := low_int r s[k].toNat hlt1 hbyte
      have hxl : r ^^^ s[k].toNat < 4294967296 := Nat.xor_lt_two_pow (n := 32) hlt1 (by omega)
      have Hsn' := Lib.hid (Hsn.out s[k])
      generalize hxg : r ^^^ s[k].toNat = x at *
      have Hxg := Lib.hid hxg; clear hxg
      go_wp2
      go_loop [5, 7] (fun v j => ∃ q : Nat, q ≤ 8 ∧ j = .int .i64 q ∧ v = .int .u32 (iterS q x)) (fun _ j => 8 - (intOf j).toNat)
      case atStart => exact ⟨0, by omega, rfl, rfl⟩
      case round =>
        obtain ⟨q, hq, rfl, rfl⟩ := hrel
        have hy := iterS_lt x hxl q
        have hs1 := step_odd_int (iterS q x) hy
        have hs0 := step_even_int (iterS q x)
        generalize hyg : iterS q x = y at *
        have Hyg := Lib.hid hyg; clear hyg
        have Hs1 := Lib.hid hs1; clear hs1
        have Hs0 := Lib.hid hs0; clear hs0
        by_cases hql : q < 8
        · rcases Nat.mod_two_eq_zero_or_one y with h2 | h2
          · have hb : ((y : Int) % 2 == 1) = false := by rw [beq_eq_false_iff_ne]; omega
            have H2 := Lib.hid h2; clear h2
            go_wp2
            go_round
            case rel => exact ⟨q + 1, by omega, by go_num, by rw [Hs0.out H2.out, ← Hyg.out]; rfl⟩
            case measure => simp [intOf]; omega
          · have hb : ((y : Int) % 2 == 1) = true := by rw [beq_iff_eq]; omega
            have H2 := Lib.hid h2; clear h2
            go_wp2
            go_round
            case rel => exact ⟨q + 1, by omega, by go_num, by rw [Hs1.out H2.out, ← Hyg.out]; rfl⟩
            case measure => simp [intOf]; omega
        · obtain rfl : q = 8 := by omega
          go_wp2
          go_round
          case rel => exact ⟨k + 1, by omega, by go_num, by rw [Hts.out, Hsn'.out, Hyg.out]⟩
          case measure => simp [intOf]; omega
    · obtain rfl : k = s.size := by omega
      have hfl : (4294967295 : Int) - (r : Int) = ((4294967295 - r : Nat) : Int) := by omega
      have he : CrcM.on n s.data.toList = 4294967295 - r := by
        rw [CrcM.on, Hm.out, ← Hr.out, List.take_of_length_le (by simp)]
      have He := Lib.hid he; clear he
      have Hfl := Lib.hid hfl; clear hfl
      go_wp2
      go_ret
      exact ⟨by rw [He.out, ← Hfl.out]; rfl, rfl⟩

set_option maxHeartbeats 400000 in
theorem rof_any (s : ByteArray) (hs : s.size ≤ 140737488351232) (w : World) :
    Calls Try.prog 24 #[.string s] w fun e w' => e = .returned (.int .u32 (CrcM.on 0 s.data.toList)) ∧ w = w' := by
  go_enter Try.func24, Try.ntmps24
  go_wp2_with fail
  refine (ron_any 0 (by omega) s hs _).mono ?_
  rintro e w1 ⟨rfl, rfl⟩
  go_wp2
  go_ret
  exact ⟨rfl, rfl⟩

/-- A sum's four bytes. -/
def putL (n : Nat) : List Int := [(n : Int) / 16777216, (n : Int) / 65536 % 256, (n : Int) / 256 % 256, (n : Int) % 256]

set_option maxRecDepth 100000 in
set_option maxHeartbeats 400000 in
theorem put_any (n : Nat) (hn : n < 4294967296) (w : World) :
    Calls Try.prog 27 #[.int .u32 n] w fun e w' => e = .returned (.string (strOfNums (putL n))) ∧ Below w.heap.size w w' := by
  have hcv := conv_string_new (P := Try.prog) w 30 9 5 (putL n) Try.underlying30 Try.underlying5 Try.underlying9 4 4 rfl 5
  have Hcv := Lib.hid hcv; clear hcv
  generalize hst : strOfNums (putL n) = st at *
  have hcv := Hcv.out; clear hst Hcv
  simp only [putL, List.map_cons, List.map_nil] at hcv
  go_enter Try.func27, Try.ntmps27
  go_wp2
  go_ret
  exact ⟨rfl, (Below.refl _ _).alloc (Nat.le_refl _) _⟩

set_option maxRecDepth 100000 in
set_option maxHeartbeats 400000 in
theorem rput_any (n : Nat) (hn : n < 4294967296) (w : World) :
    Calls Try.prog 28 #[.int .u32 n] w fun e w' => e = .returned (.string (strOfNums (putL n))) ∧ Below w.heap.size w w' := by
  have hcv := conv_string_new (P := Try.prog) w 30 9 5 (putL n) Try.underlying30 Try.underlying5 Try.underlying9 4 4 rfl 5
  have Hcv := Lib.hid hcv; clear hcv
  generalize hst : strOfNums (putL n) = st at *
  have hcv := Hcv.out; clear hst Hcv
  simp only [putL, List.map_cons, List.map_nil] at hcv
  go_enter Try.func28, Try.ntmps28
  go_wp2
  go_ret
  exact ⟨rfl, (Below.refl _ _).alloc (Nat.le_refl _) _⟩

theorem of_at (s : ByteArray) (k : Int) (hs : s.size ≤ 140737488351232) (hk : (CrcM.on 0 s.data.toList : Int) = k) (w : World) :
    Calls Try.prog 23 #[.string s] w fun e w' => e = .returned (.int .u32 k) ∧ Below w.heap.size w w' := by
  rw [← hk]; exact of_any s hs w
theorem on_at (n : Nat) (hn : n < 4294967296) (j : Int) (hj : (n : Int) = j) (s : ByteArray) (k : Int) (hs : s.size ≤ 140737488351232) (hk : (CrcM.on n s.data.toList : Int) = k) (w : World) :
    Calls Try.prog 25 #[.int .u32 j, .string s] w fun e w' => e = .returned (.int .u32 k) ∧ Below w.heap.size w w' := by
  rw [← hk, ← hj]; exact on_any n hn s hs w
theorem put_at (n : Nat) (hn : n < 4294967296) (j : Int) (hj : (n : Int) = j) (s : ByteArray) (hk : strOfNums (putL n) = s) (w : World) :
    Calls Try.prog 27 #[.int .u32 j] w fun e w' => e = .returned (.string s) ∧ Below w.heap.size w w' := by
  rw [← hk, ← hj]; exact put_any n hn w

set_option maxRecDepth 100000 in
set_option maxHeartbeats 400000 in
theorem crcFixed_any (w : World) :
    Calls Try.prog 29 #[] w fun e w' => e = .returned (.bool true) ∧ Below w.heap.size w w' := by
  go_enter Try.func29, Try.ntmps29
  go_wp2_with fail
  refine (of_at _ 3421780262 (by decide) (by decide +kernel) _).mono ?_
  rintro e w1 ⟨rfl, hb1⟩
  go_wp2_with fail
  refine (of_at _ 0 (by decide) (by decide +kernel) _).mono ?_
  rintro e w2 ⟨rfl, hb2⟩
  go_wp2_with fail
  refine (of_at _ 2615402659 (by decide) (by decide +kernel) _).mono ?_
  rintro e w3 ⟨rfl, hb3⟩
  go_wp2_with fail
  refine (on_at 2615402659 (by decide) _ rfl _ 3421780262 (by decide) (by decide +kernel) _).mono ?_
  rintro e w4 ⟨rfl, hb4⟩
  go_wp2_with fail
  refine (put_at 16909060 (by decide) _ rfl ⟨#[1, 2, 3, 4]⟩ (by decide +kernel) _).mono ?_
  rintro e w5 ⟨rfl, hb5⟩
  go_wp2
  go_ret
  exact ⟨rfl, hb1.trans ((hb2.mono hb1.size).trans ((hb3.mono (Nat.le_trans hb1.size hb2.size)).trans ((hb4.mono (Nat.le_trans hb1.size (Nat.le_trans hb2.size hb3.size))).trans (hb5.mono (Nat.le_trans hb1.size (Nat.le_trans hb2.size (Nat.le_trans hb3.size hb4.size)))))))⟩
end Go.Proofs.Ytjmdiobnappgkaa
