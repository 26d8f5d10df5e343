/-
  Layer 11 (wire): the document's reader: plain laws of its numbers; the walk of number.
-/
import Derived.Test.YtjmdiobnappgkaaWireB2
import Derived.Test.YtjmdiobnappgkaaWireV
namespace Go.Proofs.Ytjmdiobnappgkaa
open Go.RowKit
set_option linter.unusedVariables false
set_option linter.unusedSimpArgs false

/-- What bytes tell, the least digit first. -/
def dval : List UInt8 → Nat
  | [] => 0
  | c :: l => dval l * 128 + c.toNat % 128
theorem dval_numL : ∀ v : Nat, dval (numL v) = v := by
  intro v
  induction v using Nat.strongRecOn with
  | ind v ih =>
    by_cases h : v < 128
    · rw [numL_small h, dval, dval]
      have : (UInt8.ofNat v).toNat = v := by simp [Nat.mod_eq_of_lt (show v < 256 by omega)]
      omega
    · rw [numL_big h, dval, ih (v / 128) (by omega)]
      have : (UInt8.ofNat (v % 128 + 128)).toNat = v % 128 + 128 := by simp [Nat.mod_eq_of_lt (show v % 128 + 128 < 256 by omega)]
      omega
theorem dval_drop_le : ∀ (l : List UInt8) (j : Nat), dval (l.drop j) ≤ dval l
  | [], j => by simp
  | c :: l, 0 => by simp
  | c :: l, j + 1 => by
    rw [List.drop_succ_cons, dval]
    have := dval_drop_le l j
    omega
theorem dval_step (l : List UInt8) (k : Nat) (h : k < l.length) : dval (l.drop k) = dval (l.drop (k + 1)) * 128 + l[k].toNat % 128 := by
  rw [List.drop_eq_getElem_cons h, dval]
theorem dval_over {l : List UInt8} {k v : Nat} (hk : 0 < k) (hkl : k ≤ l.length) (h : 144115188075855871 < dval (l.drop k)) (hv : v < 18446744073709551616) : numL v ≠ l := by
  rintro rfl
  obtain ⟨j, rfl⟩ : ∃ j, k = j + 1 := ⟨k - 1, by omega⟩
  have h1 := dval_step (numL v) j (by omega)
  have h2 := dval_drop_le (numL v) j
  rw [dval_numL] at h2
  omega
def NumberPost (s : ByteArray) (w : World) (e : Ending) (w' : World) : Prop :=
  ∃ (n : Nat) (b : Bool), e = .returned (.tuple #[.int .u64 (n : Int), .bool b]) ∧ n < 18446744073709551616 ∧ (b = true → numL n = s.data.toList) ∧ (b = false → ∀ v, v < 18446744073709551616 → numL v ≠ s.data.toList) ∧ Below w.heap.size w w'
set_option maxRecDepth 100000 in
set_option maxHeartbeats 800000 in
theorem number_spec (s : ByteArray) (hs : s.size ≤ 100000) (w : World) : Calls Try.prog 109 #[.string s] w (NumberPost s w) := by
  have hLl : s.data.toList.length = s.size := by rw [Array.length_toList]; rfl
  have HLl := Lib.hid hLl; clear hLl
  go_enter Try.func109, Try.ntmps109
  go_wp2
  go_loop [4, 5] (fun nv iv => ∃ (k m : Nat), k ≤ s.size ∧ iv = .int .i64 ((k : Int) - 1) ∧ nv = .int .u64 (m : Int) ∧ m < 18446744073709551616 ∧ m = dval (s.data.toList.drop k)) (fun _ iv => (intOf iv + 1).toNat)
  case atStart => exact ⟨s.size, 0, Nat.le_refl _, rfl, rfl, by decide, by rw [List.drop_eq_nil_of_le (by rw [HLl.out]; omega)]; rfl⟩
  case round =>
    obtain ⟨k, m, hk, rfl, rfl, hm, hd⟩ := hrel
    have Hm := Lib.hid hm; have Hd := Lib.hid hd; clear hm hd
    by_cases hk0 : k = 0
    · subst hk0
      go_wp2_with fail
      refine (rnumber_any m Hm.out w).mono ?_
      rintro e w1 ⟨rfl, hb1⟩
      obtain ⟨T, hT⟩ : ∃ T, (⟨(numL m).toArray⟩ : ByteArray) = T := ⟨_, rfl⟩
      have hTl : T.data.toList = numL m := by rw [← hT]
      rw [hT]
      have HTl := Lib.hid hTl; clear hTl hT
      have Hb1 := Lib.hid hb1; clear hb1
      obtain ⟨b, hb⟩ : ∃ b, (T.toList == s.toList) = b := ⟨_, rfl⟩
      have HB := Lib.hid hb
      go_wp2
      go_ret2
      refine ⟨m, b, rfl, Hm.out, ?_, ?_, Hb1.out⟩
      · intro h
        have h2 := HB.out; rw [h, ByteArray.toList_eq, ByteArray.toList_eq, beq_iff_eq] at h2
        rw [← HTl.out]; exact h2
      · intro h v hv he
        have h2 := HB.out; rw [h, ByteArray.toList_eq, ByteArray.toList_eq, beq_eq_false_iff_ne] at h2
        apply h2
        rw [HTl.out]
        have h3 : m = v := by rw [Hd.out, List.drop_zero, ← he, dval_numL]
        rw [h3]; exact he
    · obtain ⟨j, rfl⟩ : ∃ j, k = j + 1 := ⟨k - 1, by omega⟩
      have hj : ((j + 1 : Nat) : Int) - 1 = (j : Int) := by omega
      rw [hj]
      clear hj hk0
      have hj1 : (j : Int) < (s.size : Int) := by omega
      have hj2 : j < s.size := by omega
      by_cases ho : 144115188075855871 < m
      · have ho2 : (144115188075855871 : Int) < (m : Int) := by omega
        have Hov := Lib.hid ho; clear ho
        go_wp2
        go_ret2
        exact ⟨0, false, rfl, by decide, fun h => (Bool.false_ne_true h).elim, fun _ v hv => dval_over (Nat.succ_pos j) (by rw [HLl.out]; omega) (by rw [← Hd.out]; exact Hov.out) hv, Below.refl _ _⟩
      · have ho2 : ¬ (144115188075855871 : Int) < (m : Int) := by omega
        obtain ⟨c, hc⟩ : ∃ c : Nat, s[j].toNat = c := ⟨_, rfl⟩
        have hstep : dval (s.data.toList.drop j) = m * 128 + c % 128 := by
          rw [dval_step _ j (by rw [HLl.out]; omega), ← Hd.out, ← hc]; rfl
        have w1 : IntKind.u64.wrap ((m : Int) * 128) = (m : Int) * 128 := by rw [IntKind.wrap_u64]; omega
        have w2 : IntKind.u64.wrap ((c : Int) % 128) = (c : Int) % 128 := by rw [IntKind.wrap_u64]; omega
        have w3 : IntKind.u64.wrap ((m : Int) * 128 + (c : Int) % 128) = (m : Int) * 128 + (c : Int) % 128 := by rw [IntKind.wrap_u64]; omega
        have hlt : m * 128 + c % 128 < 18446744073709551616 := by omega
        have Hst := Lib.hid hstep; have Hlt := Lib.hid hlt
        clear hstep hlt ho Hm Hd
        go_wp2
        go_round
        case rel => exact ⟨j, m * 128 + c % 128, by omega, rfl, by push_cast; rfl, Hlt.out, Hst.out.symm⟩
        case measure => simp [intOf]
end Go.Proofs.Ytjmdiobnappgkaa
