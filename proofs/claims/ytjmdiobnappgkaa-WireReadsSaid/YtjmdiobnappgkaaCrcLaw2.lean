/-
  The walks of the statements CrcParts and CrcPuts.
-/
import Derived.Test.YtjmdiobnappgkaaCrcLaw
namespace Go.Proofs.Ytjmdiobnappgkaa
open Go.RowKit
set_option linter.unusedVariables false
set_option linter.unusedSimpArgs false

theorem on_cat (n : Nat) (hn : n < 4294967296) (a b : ByteArray) (ha : a.size ≤ 5000) (hb : b.size ≤ 5000) (w : World) :
    Calls Try.prog 25 #[.int .u32 n, .string (a ++ b)] w fun e w' => e = .returned (.int .u32 (CrcM.on (CrcM.on n a.data.toList) b.data.toList)) ∧ Below w.heap.size w w' := by
  have := on_any n hn (a ++ b) (by rw [ByteArray.size_append]; omega) w
  rw [ByteArray.data_append, Array.toList_append, ← CrcM.on_append n hn] at this
  exact this
theorem of_cat (a b : ByteArray) (ha : a.size ≤ 5000) (hb : b.size ≤ 5000) (w : World) :
    Calls Try.prog 23 #[.string (a ++ b)] w fun e w' => e = .returned (.int .u32 (CrcM.on (CrcM.on 0 a.data.toList) b.data.toList)) ∧ Below w.heap.size w w' := by
  have := of_any (a ++ b) (by rw [ByteArray.size_append]; omega) w
  rw [ByteArray.data_append, Array.toList_append, ← CrcM.on_append 0 (by omega)] at this
  exact this

set_option maxRecDepth 100000 in
set_option maxHeartbeats 800000 in
theorem crcParts_walk (n : Nat) (hn : n < 4294967296) (s : ByteArray) (hs : s.size ≤ maxLen) (t : ByteArray) (ht : t.size ≤ maxLen) (w : World) :
    Calls Try.prog 4 #[.int .u32 n, .string s, .string t] w fun e w' => e = .returned (.bool true) ∧ Below w.heap.size w w' := by
  unfold maxLen at hs ht
  go_enter Try.func4, Try.ntmps4
  go_wp2_with fail
  all_goals
    have h300 := ext_le s 200
    have h301 := ext_le t 200
    refine (on_any n hn _ (by omega) _).mono ?_
    rintro e w1 ⟨rfl, hb1⟩
    go_wp2_with fail
    refine (on_any _ (CrcM.on_lt _ _) _ (by omega) _).mono ?_
    rintro e w2 ⟨rfl, hb2⟩
    go_wp2_with fail
    refine (on_cat n hn _ _ (by omega) (by omega) _).mono ?_
    rintro e w3 ⟨rfl, hb3⟩
    go_wp2_with fail
    refine (on_at n hn _ rfl _ n (by decide) (by rw [show (ByteArray.mk #[]).data.toList = [] from rfl, CrcM.on_nil n hn]) _).mono ?_
    rintro e w4 ⟨rfl, hb4⟩
    go_wp2_with fail
    refine (of_cat _ _ (by omega) (by omega) _).mono ?_
    rintro e w5 ⟨rfl, hb5⟩
    go_wp2_with fail
    refine (of_any _ (by omega) _).mono ?_
    rintro e w6 ⟨rfl, hb6⟩
    go_wp2_with fail
    refine (on_any _ (CrcM.on_lt _ _) _ (by omega) _).mono ?_
    rintro e w7 ⟨rfl, hb7⟩
    go_wp2_with fail
    refine (crcFixed_any _).mono ?_
    rintro e w8 ⟨rfl, hb8⟩
    go_wp2
    go_ret
    exact ⟨rfl, bthen hb1 (bthen hb2 (bthen hb3 (bthen hb4 (bthen hb5 (bthen hb6 (bthen hb7 hb8))))))⟩

theorem crcParts_go (a : Int) (ha : (Lit.int .u32 a).wf = true) (s : ByteArray) (hs : s.size ≤ maxLen) (t : ByteArray) (ht : t.size ≤ maxLen) (w : World) :
    Calls Try.prog 4 #[.int .u32 a, .string s, .string t] w fun e w' => e = .returned (.bool true) ∧ Below w.heap.size w w' := by
  obtain ⟨n, hn, rfl⟩ := u32_of_wf ha
  exact crcParts_walk n hn s hs t ht w

/-! A sum's four bytes stand in the sums' order. -/
def putU (n : Nat) : List UInt8 := (putL n).map fun x => UInt8.ofNat x.toNat
theorem putU_eq (n : Nat) (hn : n < 4294967296) : putU n = [UInt8.ofNat (n / 16777216), UInt8.ofNat (n / 65536 % 256), UInt8.ofNat (n / 256 % 256), UInt8.ofNat (n % 256)] := by
  simp only [putU, putL, List.map_cons, List.map_nil]
  rw [show ((n : Int) / 16777216).toNat = n / 16777216 by omega, show ((n : Int) / 65536 % 256).toNat = n / 65536 % 256 by omega, show ((n : Int) / 256 % 256).toNat = n / 256 % 256 by omega, show ((n : Int) % 256).toNat = n % 256 by omega]
theorem putU_inj (n m : Nat) (hn : n < 4294967296) (hm : m < 4294967296) (h : putU n = putU m) : n = m := by
  rw [putU_eq n hn, putU_eq m hm] at h
  simp only [List.cons.injEq, ← UInt8.toNat_inj, UInt8.toNat_ofNat', and_true] at h
  omega
theorem bless4 (a b c d x y z v : UInt8) : Op.bytesLess [a, b, c, d] [x, y, z, v] = decide (a.toNat * 16777216 + b.toNat * 65536 + c.toNat * 256 + d.toNat < x.toNat * 16777216 + y.toNat * 65536 + z.toNat * 256 + v.toNat) := by
  have h1 := a.toNat_lt; have h2 := b.toNat_lt; have h3 := c.toNat_lt; have h4 := d.toNat_lt
  have h5 := x.toNat_lt; have h6 := y.toNat_lt; have h7 := z.toNat_lt; have h8 := v.toNat_lt
  rw [Bool.eq_iff_iff]
  simp only [Op.bytesLess, Bool.or_eq_true, Bool.and_eq_true, decide_eq_true_eq, beq_iff_eq, UInt8.lt_iff_toNat_lt, ← UInt8.toNat_inj, Bool.false_eq_true, and_false, or_false]
  omega
theorem putU_lt (n m : Nat) (hn : n < 4294967296) (hm : m < 4294967296) : Op.bytesLess (putU n) (putU m) = decide (n < m) := by
  rw [putU_eq n hn, putU_eq m hm, bless4]
  congr 1
  simp only [UInt8.toNat_ofNat', eq_iff_iff]
  omega
theorem put_data (n : Nat) : (strOfNums (putL n)).toList = putU n := by rw [ByteArray.toList_eq]; rfl

set_option maxRecDepth 100000 in
set_option maxHeartbeats 800000 in
theorem crcPuts_walk (n : Nat) (hn : n < 4294967296) (m : Nat) (hm : m < 4294967296) (w : World) :
    Calls Try.prog 7 #[.int .u32 n, .int .u32 m] w fun e w' => e = .returned (.bool true) ∧ Below w.heap.size w w' := by
  go_enter Try.func7, Try.ntmps7
  go_wp2_with fail
  refine (put_any n hn _).mono ?_
  rintro e w1 ⟨rfl, hb1⟩
  go_wp2_with fail
  refine (put_any m hm _).mono ?_
  rintro e w2 ⟨rfl, hb2⟩
  have hz : ∀ k, (strOfNums (putL k)).size = 4 := fun k => by rw [strOfNums_size]; rfl
  have hz1 := hz n
  have hz2 := hz m
  have hlt := putU_lt n m hn hm
  have heq : ((strOfNums (putL n)).toList == (strOfNums (putL m)).toList) = ((n : Int) == (m : Int)) := by
    rw [put_data, put_data, Bool.eq_iff_iff, beq_iff_eq, beq_iff_eq]
    constructor
    · intro h; rw [putU_inj n m hn hm h]
    · intro h; rw [show n = m by omega]
  rw [← put_data, ← put_data] at hlt
  clear hz
  generalize strOfNums (putL n) = x at *
  generalize strOfNums (putL m) = y at *
  go_wp2_with fail
  refine (crcFixed_any _).mono ?_
  rintro e w3 ⟨rfl, hb3⟩
  go_wp2
  go_ret
  exact ⟨rfl, bthen hb1 (bthen hb2 hb3)⟩

theorem crcPuts_go (a : Int) (ha : (Lit.int .u32 a).wf = true) (b : Int) (hb : (Lit.int .u32 b).wf = true) (w : World) :
    Calls Try.prog 7 #[.int .u32 a, .int .u32 b] w fun e w' => e = .returned (.bool true) ∧ Below w.heap.size w w' := by
  obtain ⟨n, hn, rfl⟩ := u32_of_wf ha
  obtain ⟨m, hm, rfl⟩ := u32_of_wf hb
  exact crcPuts_walk n hn m hm w
end Go.Proofs.Ytjmdiobnappgkaa
