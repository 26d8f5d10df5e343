/-
  Layer 2 (sha): turn walked, at the ten counts that are used.
-/
import Derived.Test.YtkdajlhmodmkoaaDoorRows
import Derived.Test.YtkdajlhmodmkoaaDoorShaU
namespace Go.Proofs.YtkdajlhmodmkoaaDoor
open Go.RowKit
set_option linter.unusedVariables false
set_option linter.unusedSimpArgs false

theorem rotr_nat (n : Nat) (hn : n ≤ 32) (x : UInt32) : (ShaM.rotr n x).toNat = x.toNat / 2 ^ n + x.toNat % 2 ^ n * 2 ^ (32 - n) := by
  have hx := x.toNat_lt
  have hp : 2 ^ n * 2 ^ (32 - n) = 4294967296 := by rw [← Nat.pow_add, show n + (32 - n) = 32 by omega]
  have h0 : 0 < 2 ^ n := Nat.two_pow_pos n
  have h1 : x.toNat / 2 ^ n < 2 ^ (32 - n) := by rw [Nat.div_lt_iff_lt_mul h0, Nat.mul_comm, hp]; exact hx
  have h2 : x.toNat % 2 ^ n + 1 ≤ 2 ^ n := Nat.mod_lt _ h0
  have h3 := Nat.mul_le_mul_right (2 ^ (32 - n)) h2
  rw [hp, Nat.add_mul, Nat.one_mul] at h3
  unfold ShaM.rotr
  rw [UInt32.toNat_ofNat', Nat.mod_eq_of_lt (by omega)]
theorem rot_int (n a b : Nat) (hn : n ≤ 32) (ha : 2 ^ n = a) (hb : 2 ^ (32 - n) = b) (x : UInt32) : bits .or .u32 ((x.toNat : Int) * (b : Int) % 4294967296) ((x.toNat : Int) / (a : Int)) = ((ShaM.rotr n x).toNat : Int) := by
  subst ha hb
  have hp : 2 ^ n * 2 ^ (32 - n) = 4294967296 := by rw [← Nat.pow_add, show n + (32 - n) = 32 by omega]
  have hx := x.toNat_lt
  have h0 : 0 < 2 ^ n := Nat.two_pow_pos n
  have h1 : x.toNat / 2 ^ n < 2 ^ (32 - n) := by rw [Nat.div_lt_iff_lt_mul h0, Nat.mul_comm, hp]; exact hx
  have e1 : (x.toNat : Int) * ((2 ^ (32 - n) : Nat) : Int) % 4294967296 = ((x.toNat % 2 ^ n * 2 ^ (32 - n) : Nat) : Int) := by
    rw [← Nat.mul_mod_mul_right, hp]; omega
  have h2 : x.toNat % 2 ^ n + 1 ≤ 2 ^ n := Nat.mod_lt _ h0
  have h3 := Nat.mul_le_mul_right (2 ^ (32 - n)) h2
  rw [hp, Nat.add_mul, Nat.one_mul] at h3
  have h4 := Nat.two_pow_pos (32 - n)
  rw [e1, show (x.toNat : Int) / ((2 ^ n : Nat) : Int) = ((x.toNat / 2 ^ n : Nat) : Int) by omega, u32_or_nat _ _ (by omega) (by omega), nat_join (32 - n) _ _ (Nat.mul_mod_left _ _) h1, rotr_nat n hn x, Nat.add_comm]

theorem turn_2 (x : UInt32) (w : World) :
    Calls Tryd.prog 98 #[.int .u32 (x.toNat : Int), .int .i64 2] w fun e w' => e = .returned (.int .u32 ((ShaM.rotr 2 x).toNat : Int)) ∧ w = w' := by
  have hx := x.toNat_lt
  have hr : bits .or .u32 ((x.toNat : Int) * 1073741824 % 4294967296) ((x.toNat : Int) / 4) = ((ShaM.rotr 2 x).toNat : Int) := rot_int 2 4 1073741824 (by decide) (by decide) (by decide) x
  have hb : bits BinOp.and IntKind.u64 (IntKind.u64.wrap (-2)) 31 = 30 := by decide
  have Hr := Lib.hid hr
  clear hr
  go_enter Tryd.func98, Tryd.ntmps98
  go_wp2_with fail
  refine Calls.mono (R := fun e w' => e = .returned (.int .u32 ((ShaM.rotr 2 x).toNat : Int)) ∧ w = w') ?_ ?_
  · go_enter Tryd.func103, Tryd.ntmps103
    go_wp2
    go_ret
    exact ⟨by rw [← Hr.out]; rfl, rfl⟩
  · rintro e w' ⟨rfl, rfl⟩
    go_wp2
    go_ret
    exact ⟨rfl, rfl⟩

theorem turn_6 (x : UInt32) (w : World) :
    Calls Tryd.prog 98 #[.int .u32 (x.toNat : Int), .int .i64 6] w fun e w' => e = .returned (.int .u32 ((ShaM.rotr 6 x).toNat : Int)) ∧ w = w' := by
  have hx := x.toNat_lt
  have hr : bits .or .u32 ((x.toNat : Int) * 67108864 % 4294967296) ((x.toNat : Int) / 64) = ((ShaM.rotr 6 x).toNat : Int) := rot_int 6 64 67108864 (by decide) (by decide) (by decide) x
  have hb : bits BinOp.and IntKind.u64 (IntKind.u64.wrap (-6)) 31 = 26 := by decide
  have Hr := Lib.hid hr
  clear hr
  go_enter Tryd.func98, Tryd.ntmps98
  go_wp2_with fail
  refine Calls.mono (R := fun e w' => e = .returned (.int .u32 ((ShaM.rotr 6 x).toNat : Int)) ∧ w = w') ?_ ?_
  · go_enter Tryd.func103, Tryd.ntmps103
    go_wp2
    go_ret
    exact ⟨by rw [← Hr.out]; rfl, rfl⟩
  · rintro e w' ⟨rfl, rfl⟩
    go_wp2
    go_ret
    exact ⟨rfl, rfl⟩

theorem turn_7 (x : UInt32) (w : World) :
    Calls Tryd.prog 98 #[.int .u32 (x.toNat : Int), .int .i64 7] w fun e w' => e = .returned (.int .u32 ((ShaM.rotr 7 x).toNat : Int)) ∧ w = w' := by
  have hx := x.toNat_lt
  have hr : bits .or .u32 ((x.toNat : Int) * 33554432 % 4294967296) ((x.toNat : Int) / 128) = ((ShaM.rotr 7 x).toNat : Int) := rot_int 7 128 33554432 (by decide) (by decide) (by decide) x
  have hb : bits BinOp.and IntKind.u64 (IntKind.u64.wrap (-7)) 31 = 25 := by decide
  have Hr := Lib.hid hr
  clear hr
  go_enter Tryd.func98, Tryd.ntmps98
  go_wp2_with fail
  refine Calls.mono (R := fun e w' => e = .returned (.int .u32 ((ShaM.rotr 7 x).toNat : Int)) ∧ w = w') ?_ ?_
  · go_enter Tryd.func103, Tryd.ntmps103
    go_wp2
    go_ret
    exact ⟨by rw [← Hr.out]; rfl, rfl⟩
  · rintro e w' ⟨rfl, rfl⟩
    go_wp2
    go_ret
    exact ⟨rfl, rfl⟩

theorem turn_11 (x : UInt32) (w : World) :
    Calls Tryd.prog 98 #[.int .u32 (x.toNat : Int), .int .i64 11] w fun e w' => e = .returned (.int .u32 ((ShaM.rotr 11 x).toNat : Int)) ∧ w = w' := by
  have hx := x.toNat_lt
  have hr : bits .or .u32 ((x.toNat : Int) * 2097152 % 4294967296) ((x.toNat : Int) / 2048) = ((ShaM.rotr 11 x).toNat : Int) := rot_int 11 2048 2097152 (by decide) (by decide) (by decide) x
  have hb : bits BinOp.and IntKind.u64 (IntKind.u64.wrap (-11)) 31 = 21 := by decide
  have Hr := Lib.hid hr
  clear hr
  go_enter Tryd.func98, Tryd.ntmps98
  go_wp2_with fail
  refine Calls.mono (R := fun e w' => e = .returned (.int .u32 ((ShaM.rotr 11 x).toNat : Int)) ∧ w = w') ?_ ?_
  · go_enter Tryd.func103, Tryd.ntmps103
    go_wp2
    go_ret
    exact ⟨by rw [← Hr.out]; rfl, rfl⟩
  · rintro e w' ⟨rfl, rfl⟩
    go_wp2
    go_ret
    exact ⟨rfl, rfl⟩

theorem turn_13 (x : UInt32) (w : World) :
    Calls Tryd.prog 98 #[.int .u32 (x.toNat : Int), .int .i64 13] w fun e w' => e = .returned (.int .u32 ((ShaM.rotr 13 x).toNat : Int)) ∧ w = w' := by
  have hx := x.toNat_lt
  have hr : bits .or .u32 ((x.toNat : Int) * 524288 % 4294967296) ((x.toNat : Int) / 8192) = ((ShaM.rotr 13 x).toNat : Int) := rot_int 13 8192 524288 (by decide) (by decide) (by decide) x
  have hb : bits BinOp.and IntKind.u64 (IntKind.u64.wrap (-13)) 31 = 19 := by decide
  have Hr := Lib.hid hr
  clear hr
  go_enter Tryd.func98, Tryd.ntmps98
  go_wp2_with fail
  refine Calls.mono (R := fun e w' => e = .returned (.int .u32 ((ShaM.rotr 13 x).toNat : Int)) ∧ w = w') ?_ ?_
  · go_enter Tryd.func103, Tryd.ntmps103
    go_wp2
    go_ret
    exact ⟨by rw [← Hr.out]; rfl, rfl⟩
  · rintro e w' ⟨rfl, rfl⟩
    go_wp2
    go_ret
    exact ⟨rfl, rfl⟩

theorem turn_17 (x : UInt32) (w : World) :
    Calls Tryd.prog 98 #[.int .u32 (x.toNat : Int), .int .i64 17] w fun e w' => e = .returned (.int .u32 ((ShaM.rotr 17 x).toNat : Int)) ∧ w = w' := by
  have hx := x.toNat_lt
  have hr : bits .or .u32 ((x.toNat : Int) * 32768 % 4294967296) ((x.toNat : Int) / 131072) = ((ShaM.rotr 17 x).toNat : Int) := rot_int 17 131072 32768 (by decide) (by decide) (by decide) x
  have hb : bits BinOp.and IntKind.u64 (IntKind.u64.wrap (-17)) 31 = 15 := by decide
  have Hr := Lib.hid hr
  clear hr
  go_enter Tryd.func98, Tryd.ntmps98
  go_wp2_with fail
  refine Calls.mono (R := fun e w' => e = .returned (.int .u32 ((ShaM.rotr 17 x).toNat : Int)) ∧ w = w') ?_ ?_
  · go_enter Tryd.func103, Tryd.ntmps103
    go_wp2
    go_ret
    exact ⟨by rw [← Hr.out]; rfl, rfl⟩
  · rintro e w' ⟨rfl, rfl⟩
    go_wp2
    go_ret
    exact ⟨rfl, rfl⟩

theorem turn_18 (x : UInt32) (w : World) :
    Calls Tryd.prog 98 #[.int .u32 (x.toNat : Int), .int .i64 18] w fun e w' => e = .returned (.int .u32 ((ShaM.rotr 18 x).toNat : Int)) ∧ w = w' := by
  have hx := x.toNat_lt
  have hr : bits .or .u32 ((x.toNat : Int) * 16384 % 4294967296) ((x.toNat : Int) / 262144) = ((ShaM.rotr 18 x).toNat : Int) := rot_int 18 262144 16384 (by decide) (by decide) (by decide) x
  have hb : bits BinOp.and IntKind.u64 (IntKind.u64.wrap (-18)) 31 = 14 := by decide
  have Hr := Lib.hid hr
  clear hr
  go_enter Tryd.func98, Tryd.ntmps98
  go_wp2_with fail
  refine Calls.mono (R := fun e w' => e = .returned (.int .u32 ((ShaM.rotr 18 x).toNat : Int)) ∧ w = w') ?_ ?_
  · go_enter Tryd.func103, Tryd.ntmps103
    go_wp2
    go_ret
    exact ⟨by rw [← Hr.out]; rfl, rfl⟩
  · rintro e w' ⟨rfl, rfl⟩
    go_wp2
    go_ret
    exact ⟨rfl, rfl⟩

theorem turn_19 (x : UInt32) (w : World) :
    Calls Tryd.prog 98 #[.int .u32 (x.toNat : Int), .int .i64 19] w fun e w' => e = .returned (.int .u32 ((ShaM.rotr 19 x).toNat : Int)) ∧ w = w' := by
  have hx := x.toNat_lt
  have hr : bits .or .u32 ((x.toNat : Int) * 8192 % 4294967296) ((x.toNat : Int) / 524288) = ((ShaM.rotr 19 x).toNat : Int) := rot_int 19 524288 8192 (by decide) (by decide) (by decide) x
  have hb : bits BinOp.and IntKind.u64 (IntKind.u64.wrap (-19)) 31 = 13 := by decide
  have Hr := Lib.hid hr
  clear hr
  go_enter Tryd.func98, Tryd.ntmps98
  go_wp2_with fail
  refine Calls.mono (R := fun e w' => e = .returned (.int .u32 ((ShaM.rotr 19 x).toNat : Int)) ∧ w = w') ?_ ?_
  · go_enter Tryd.func103, Tryd.ntmps103
    go_wp2
    go_ret
    exact ⟨by rw [← Hr.out]; rfl, rfl⟩
  · rintro e w' ⟨rfl, rfl⟩
    go_wp2
    go_ret
    exact ⟨rfl, rfl⟩

theorem turn_22 (x : UInt32) (w : World) :
    Calls Tryd.prog 98 #[.int .u32 (x.toNat : Int), .int .i64 22] w fun e w' => e = .returned (.int .u32 ((ShaM.rotr 22 x).toNat : Int)) ∧ w = w' := by
  have hx := x.toNat_lt
  have hr : bits .or .u32 ((x.toNat : Int) * 1024 % 4294967296) ((x.toNat : Int) / 4194304) = ((ShaM.rotr 22 x).toNat : Int) := rot_int 22 4194304 1024 (by decide) (by decide) (by decide) x
  have hb : bits BinOp.and IntKind.u64 (IntKind.u64.wrap (-22)) 31 = 10 := by decide
  have Hr := Lib.hid hr
  clear hr
  go_enter Tryd.func98, Tryd.ntmps98
  go_wp2_with fail
  refine Calls.mono (R := fun e w' => e = .returned (.int .u32 ((ShaM.rotr 22 x).toNat : Int)) ∧ w = w') ?_ ?_
  · go_enter Tryd.func103, Tryd.ntmps103
    go_wp2
    go_ret
    exact ⟨by rw [← Hr.out]; rfl, rfl⟩
  · rintro e w' ⟨rfl, rfl⟩
    go_wp2
    go_ret
    exact ⟨rfl, rfl⟩

theorem turn_25 (x : UInt32) (w : World) :
    Calls Tryd.prog 98 #[.int .u32 (x.toNat : Int), .int .i64 25] w fun e w' => e = .returned (.int .u32 ((ShaM.rotr 25 x).toNat : Int)) ∧ w = w' := by
  have hx := x.toNat_lt
  have hr : bits .or .u32 ((x.toNat : Int) * 128 % 4294967296) ((x.toNat : Int) / 33554432) = ((ShaM.rotr 25 x).toNat : Int) := rot_int 25 33554432 128 (by decide) (by decide) (by decide) x
  have hb : bits BinOp.and IntKind.u64 (IntKind.u64.wrap (-25)) 31 = 7 := by decide
  have Hr := Lib.hid hr
  clear hr
  go_enter Tryd.func98, Tryd.ntmps98
  go_wp2_with fail
  refine Calls.mono (R := fun e w' => e = .returned (.int .u32 ((ShaM.rotr 25 x).toNat : Int)) ∧ w = w') ?_ ?_
  · go_enter Tryd.func103, Tryd.ntmps103
    go_wp2
    go_ret
    exact ⟨by rw [← Hr.out]; rfl, rfl⟩
  · rintro e w' ⟨rfl, rfl⟩
    go_wp2
    go_ret
    exact ⟨rfl, rfl⟩

theorem turnS_2 (x : UInt32) (w : World) : Calls Tryd.prog 98 #[.int .u32 (x.toNat : Int), .int .i64 2] w fun e w' => e = .returned (.int .u32 ((ShaM.rotr 2 x).toNat : Int)) ∧ w' = w := (turn_2 x w).mono fun _ _ ⟨a, b⟩ => ⟨a, b.symm⟩
theorem turnS_6 (x : UInt32) (w : World) : Calls Tryd.prog 98 #[.int .u32 (x.toNat : Int), .int .i64 6] w fun e w' => e = .returned (.int .u32 ((ShaM.rotr 6 x).toNat : Int)) ∧ w' = w := (turn_6 x w).mono fun _ _ ⟨a, b⟩ => ⟨a, b.symm⟩
theorem turnS_7 (x : UInt32) (w : World) : Calls Tryd.prog 98 #[.int .u32 (x.toNat : Int), .int .i64 7] w fun e w' => e = .returned (.int .u32 ((ShaM.rotr 7 x).toNat : Int)) ∧ w' = w := (turn_7 x w).mono fun _ _ ⟨a, b⟩ => ⟨a, b.symm⟩
theorem turnS_11 (x : UInt32) (w : World) : Calls Tryd.prog 98 #[.int .u32 (x.toNat : Int), .int .i64 11] w fun e w' => e = .returned (.int .u32 ((ShaM.rotr 11 x).toNat : Int)) ∧ w' = w := (turn_11 x w).mono fun _ _ ⟨a, b⟩ => ⟨a, b.symm⟩
theorem turnS_13 (x : UInt32) (w : World) : Calls Tryd.prog 98 #[.int .u32 (x.toNat : Int), .int .i64 13] w fun e w' => e = .returned (.int .u32 ((ShaM.rotr 13 x).toNat : Int)) ∧ w' = w := (turn_13 x w).mono fun _ _ ⟨a, b⟩ => ⟨a, b.symm⟩
theorem turnS_17 (x : UInt32) (w : World) : Calls Tryd.prog 98 #[.int .u32 (x.toNat : Int), .int .i64 17] w fun e w' => e = .returned (.int .u32 ((ShaM.rotr 17 x).toNat : Int)) ∧ w' = w := (turn_17 x w).mono fun _ _ ⟨a, b⟩ => ⟨a, b.symm⟩
theorem turnS_18 (x : UInt32) (w : World) : Calls Tryd.prog 98 #[.int .u32 (x.toNat : Int), .int .i64 18] w fun e w' => e = .returned (.int .u32 ((ShaM.rotr 18 x).toNat : Int)) ∧ w' = w := (turn_18 x w).mono fun _ _ ⟨a, b⟩ => ⟨a, b.symm⟩
theorem turnS_19 (x : UInt32) (w : World) : Calls Tryd.prog 98 #[.int .u32 (x.toNat : Int), .int .i64 19] w fun e w' => e = .returned (.int .u32 ((ShaM.rotr 19 x).toNat : Int)) ∧ w' = w := (turn_19 x w).mono fun _ _ ⟨a, b⟩ => ⟨a, b.symm⟩
theorem turnS_22 (x : UInt32) (w : World) : Calls Tryd.prog 98 #[.int .u32 (x.toNat : Int), .int .i64 22] w fun e w' => e = .returned (.int .u32 ((ShaM.rotr 22 x).toNat : Int)) ∧ w' = w := (turn_22 x w).mono fun _ _ ⟨a, b⟩ => ⟨a, b.symm⟩
theorem turnS_25 (x : UInt32) (w : World) : Calls Tryd.prog 98 #[.int .u32 (x.toNat : Int), .int .i64 25] w fun e w' => e = .returned (.int .u32 ((ShaM.rotr 25 x).toNat : Int)) ∧ w' = w := (turn_25 x w).mono fun _ _ ⟨a, b⟩ => ⟨a, b.symm⟩
end Go.Proofs.YtkdajlhmodmkoaaDoor
