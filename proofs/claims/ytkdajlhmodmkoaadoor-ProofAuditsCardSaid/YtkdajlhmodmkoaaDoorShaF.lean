/-
  Layer 2 (sha), the document's answer: right and down walked.
-/
import Derived.Test.YtkdajlhmodmkoaaDoorShaT
namespace Go.Proofs.YtkdajlhmodmkoaaDoor
open Go.RowKit
set_option linter.unusedVariables false
set_option linter.unusedSimpArgs false

theorem alloc_below' (w : World) (o : Obj) : Below w.heap.size w (w.alloc o) := (Below.refl _ _).alloc (Nat.le_refl _) o
theorem rotr_succ (k : Nat) (hk : k < 32) (x : UInt32) : (ShaM.rotr k x).toNat / 2 + (ShaM.rotr k x).toNat % 2 * 2147483648 = (ShaM.rotr (k + 1) x).toNat := by
  rw [rotr_nat k (by omega), rotr_nat (k + 1) (by omega)]
  have h0 : 0 < 2 ^ k := Nat.two_pow_pos k
  have hb : 2 ^ (32 - k) = 2 * 2 ^ (32 - (k + 1)) := by rw [show 32 - k = (32 - (k + 1)) + 1 by omega, Nat.pow_succ, Nat.mul_comm]
  have hab : 2 ^ k * 2 ^ (32 - (k + 1)) = 2147483648 := by rw [← Nat.pow_add, show k + (32 - (k + 1)) = 31 by omega]
  have ha : 2 ^ (k + 1) = 2 ^ k * 2 := Nat.pow_succ ..
  have hd : x.toNat / 2 ^ (k + 1) = x.toNat / 2 ^ k / 2 := by rw [ha, Nat.div_div_eq_div_mul]
  have hm : x.toNat % 2 ^ (k + 1) = x.toNat % 2 ^ k + 2 ^ k * (x.toNat / 2 ^ k % 2) := by rw [ha, Nat.mod_mul]
  rw [hd, hm, hb, Nat.add_mul]
  have h1 : 2 ^ k * (x.toNat / 2 ^ k % 2) * 2 ^ (32 - (k + 1)) = x.toNat / 2 ^ k % 2 * 2147483648 := by rw [← hab]; ac_rfl
  have h2 : x.toNat % 2 ^ k * (2 * 2 ^ (32 - (k + 1))) = 2 * (x.toNat % 2 ^ k * 2 ^ (32 - (k + 1))) := by ac_rfl
  rw [h1, h2]
  generalize x.toNat % 2 ^ k * 2 ^ (32 - (k + 1)) = q
  generalize x.toNat / 2 ^ k = p
  omega
theorem rotr_zero (x : UInt32) : ShaM.rotr 0 x = x := by
  apply UInt32.toNat_inj.1
  rw [rotr_nat 0 (by omega)]
  simp [Nat.mod_one]
theorem shr_nat (k : Nat) (x : UInt32) : (ShaM.shr k x).toNat = x.toNat / 2 ^ k := by
  unfold ShaM.shr
  have := x.toNat_lt
  have h := Nat.div_le_self x.toNat (2 ^ k)
  rw [UInt32.toNat_ofNat', Nat.mod_eq_of_lt (by omega)]
theorem shr_succ (k : Nat) (x : UInt32) : (ShaM.shr k x).toNat / 2 = (ShaM.shr (k + 1) x).toNat := by
  rw [shr_nat, shr_nat, Nat.pow_succ, Nat.div_div_eq_div_mul]
theorem shr_zero (x : UInt32) : ShaM.shr 0 x = x := by
  apply UInt32.toNat_inj.1
  rw [shr_nat]; simp

set_option maxRecDepth 100000 in
set_option maxHeartbeats 400000 in
theorem right_any (x : UInt32) (n : Int) (h0 : 0 ≤ n) (h1 : n ≤ 31) (w : World) :
    Calls Tryd.prog 95 #[.int .u32 (x.toNat : Int), .int .i64 n] w fun e w' => e = .returned (.int .u32 ((ShaM.rotr n.toNat x).toNat : Int)) ∧ w' = w := by
  go_enter Tryd.func95, Tryd.ntmps95
  go_wp2
  go_loop [0, 5] (fun y i => ∃ k : Nat, (k : Int) ≤ n ∧ i = .int .i64 k ∧ y = .int .u32 ((ShaM.rotr k x).toNat : Int)) (fun _ i => n.toNat - (intOf i).toNat)
  case atStart => exact ⟨0, by omega, rfl, by rw [rotr_zero]⟩
  case round =>
    obtain ⟨k, hk, rfl, rfl⟩ := hrel
    by_cases hlt : (k : Int) < n
    · have hs := Lib.hid (rotr_succ k (by omega) x)
      generalize ShaM.rotr k x = r at *
      have hr := r.toNat_lt
      go_wp2
      go_round
      case rel => exact ⟨k + 1, by omega, by go_num, by rw [← hs.out]; rfl⟩
      case measure => simp [intOf]; omega
    · have Hn : Hid (n.toNat = k) := Lib.hid (by omega)
      go_wp2
      go_ret
      exact ⟨by rw [Hn.out]; rfl, rfl⟩
set_option maxRecDepth 100000 in
set_option maxHeartbeats 400000 in
theorem down_any (x : UInt32) (n : Int) (h0 : 0 ≤ n) (h1 : n ≤ 31) (w : World) :
    Calls Tryd.prog 96 #[.int .u32 (x.toNat : Int), .int .i64 n] w fun e w' => e = .returned (.int .u32 ((ShaM.shr n.toNat x).toNat : Int)) ∧ w' = w := by
  go_enter Tryd.func96, Tryd.ntmps96
  go_wp2
  go_loop [0, 5] (fun y i => ∃ k : Nat, (k : Int) ≤ n ∧ i = .int .i64 k ∧ y = .int .u32 ((ShaM.shr k x).toNat : Int)) (fun _ i => n.toNat - (intOf i).toNat)
  case atStart => exact ⟨0, by omega, rfl, by rw [shr_zero]⟩
  case round =>
    obtain ⟨k, hk, rfl, rfl⟩ := hrel
    by_cases hlt : (k : Int) < n
    · have hs := Lib.hid (shr_succ k x)
      generalize ShaM.shr k x = r at *
      have hr := r.toNat_lt
      go_wp2
      go_round
      case rel => exact ⟨k + 1, by omega, by go_num, by rw [← hs.out]; rfl⟩
      case measure => simp [intOf]; omega
    · have Hn : Hid (n.toNat = k) := Lib.hid (by omega)
      go_wp2
      go_ret
      exact ⟨by rw [Hn.out]; rfl, rfl⟩
theorem rightW (x : UInt32) (n : Int) (h0 : 0 ≤ n) (h1 : n ≤ 31) (w : World) :
    Calls Tryd.prog 95 #[.int .u32 (x.toNat : Int), .int .i64 n] w fun e w' => e = .returned (.int .u32 ((ShaM.rotr n.toNat x).toNat : Int)) ∧ w = w' := (right_any x n h0 h1 w).mono fun _ _ ⟨a, b⟩ => ⟨a, b.symm⟩
theorem downW (x : UInt32) (n : Int) (h0 : 0 ≤ n) (h1 : n ≤ 31) (w : World) :
    Calls Tryd.prog 96 #[.int .u32 (x.toNat : Int), .int .i64 n] w fun e w' => e = .returned (.int .u32 ((ShaM.shr n.toNat x).toNat : Int)) ∧ w = w' := (down_any x n h0 h1 w).mono fun _ _ ⟨a, b⟩ => ⟨a, b.symm⟩
end Go.Proofs.YtkdajlhmodmkoaaDoor
