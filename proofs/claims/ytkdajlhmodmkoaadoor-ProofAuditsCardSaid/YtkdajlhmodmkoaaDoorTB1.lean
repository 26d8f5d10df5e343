/-
  Layer 8 (tree): the walks of math/bits' functions, of the document's ones, and of both Splits.
-/
import Derived.Test.YtkdajlhmodmkoaaDoorTreeB
import Derived.Test.YtkdajlhmodmkoaaDoorTS
import Derived.Test.YtkdajlhmodmkoaaDoorCard
import Derived.Laws.BitsAllLaws
import Derived.Laws.Bits128
import Derived.Lib.BitFns
import Derived.Lib.Strings
import Derived.Lib.Slices
import Derived.Lib.Small
import Derived.Lib.Walk
namespace Go.Proofs.YtkdajlhmodmkoaaDoor
open Go.RowKit TreeM
set_option linter.unusedVariables false
set_option linter.unusedSimpArgs false

theorem cnt_le : ∀ (k x : Nat), cnt k x ≤ 8 * rep 1 k
  | 0, x => Nat.le_refl _
  | k + 1, x => by
    have := cnt_le k (x / 256)
    have := ones8 (x % 256) (by omega)
    simp only [cnt, rep]; omega
theorem rep55 : rep 0x55 8 = 6148914691236517205 := by decide
theorem rep33 : rep 0x33 8 = 3689348814741910323 := by decide
theorem rep0f : rep 0x0f 8 = 1085102592571150095 := by decide
theorem rep01 : rep 1 8 = 72340172838076673 := by decide
set_option maxRecDepth 100000 in
theorem ones64_any (n : Nat) (hn : n < 18446744073709551616) (w : World) :
    Calls Tryd.prog 76 #[.int .u64 (n : Int)] w fun e w' => e = .returned (.int .i64 (ones n : Int)) ∧ w' = w := by
  obtain ⟨-, hsw⟩ := swar 8 n (by omega)
  obtain ⟨ht, hfin⟩ := cnt8 n hn
  have hcl := cnt_le 8 n
  rw [rep01] at hcl
  have H1 : s1 8 n = (n / 2 &&& 6148914691236517205) + (n &&& 6148914691236517205) := by rw [← rep55]; rfl
  obtain ⟨A1, hA1⟩ : ∃ A, n / 2 &&& 6148914691236517205 = A := ⟨_, rfl⟩
  obtain ⟨A2, hA2⟩ : ∃ A, n &&& 6148914691236517205 = A := ⟨_, rfl⟩
  have lA1 : A1 ≤ 6148914691236517205 := by rw [← hA1]; exact Nat.and_le_right
  have lA2 : A2 ≤ 6148914691236517205 := by rw [← hA2]; exact Nat.and_le_right
  rw [hA1, hA2] at H1
  have e1 : bits .and .u64 ((n : Int) / 2) 6148914691236517205 = (A1 : Int) := by
    rw [← hA1, ← u64_and_nat _ _ (by omega) (by omega)]; rfl
  have e2 : bits .and .u64 (n : Int) 6148914691236517205 = (A2 : Int) := by
    rw [← hA2, ← u64_and_nat _ _ (by omega) (by omega)]; rfl
  obtain ⟨B, hB⟩ : ∃ B, A1 + A2 = B := ⟨_, rfl⟩
  rw [hB] at H1
  have e3 : ((A1 : Int) + (A2 : Int)) % 18446744073709551616 = (B : Int) := by omega
  have e3' : IntKind.u64.wrap ((A1 : Int) + (A2 : Int)) = (B : Int) := e3
  have H2 : s2 8 B = (B / 4 &&& 3689348814741910323) + (B &&& 3689348814741910323) := by rw [← rep33]; rfl
  obtain ⟨A3, hA3⟩ : ∃ A, B / 4 &&& 3689348814741910323 = A := ⟨_, rfl⟩
  obtain ⟨A4, hA4⟩ : ∃ A, B &&& 3689348814741910323 = A := ⟨_, rfl⟩
  have lA3 : A3 ≤ 3689348814741910323 := by rw [← hA3]; exact Nat.and_le_right
  have lA4 : A4 ≤ 3689348814741910323 := by rw [← hA4]; exact Nat.and_le_right
  rw [hA3, hA4] at H2
  have e4 : bits .and .u64 ((B : Int) / 4) 3689348814741910323 = (A3 : Int) := by
    rw [← hA3, ← u64_and_nat _ _ (by omega) (by omega)]; rfl
  have e5 : bits .and .u64 (B : Int) 3689348814741910323 = (A4 : Int) := by
    rw [← hA4, ← u64_and_nat _ _ (by omega) (by omega)]; rfl
  obtain ⟨C, hC⟩ : ∃ C, A3 + A4 = C := ⟨_, rfl⟩
  rw [hC] at H2
  have e6 : ((A3 : Int) + (A4 : Int)) % 18446744073709551616 = (C : Int) := by omega
  have e6' : IntKind.u64.wrap ((A3 : Int) + (A4 : Int)) = (C : Int) := e6
  have H3 : s3 8 C = (C / 16 + C) &&& 1085102592571150095 := by rw [← rep0f]; rfl
  obtain ⟨D, hD⟩ : ∃ D, C / 16 + C = D := ⟨_, rfl⟩
  rw [hD] at H3
  have e7 : ((C : Int) / 16 + (C : Int)) % 18446744073709551616 = (D : Int) := by omega
  have e7' : IntKind.u64.wrap ((C : Int) / 16 + (C : Int)) = (D : Int) := e7
  rw [H1, H2, H3] at hsw
  have e8 : bits .and .u64 (D : Int) 1085102592571150095 = ((cnt 8 n : Nat) : Int) := by
    rw [← hsw, ← u64_and_nat _ _ (by omega) (by omega)]; rfl
  generalize cnt 8 n = P at *
  generalize ones n = R at *
  obtain ⟨Q, hQ⟩ : ∃ Q, P + P / 256 = Q := ⟨_, rfl⟩
  rw [hQ] at ht hfin
  have e9 : ((P : Int) + (P : Int) / 256) % 18446744073709551616 = (Q : Int) := by omega
  have e9' : IntKind.u64.wrap ((P : Int) + (P : Int) / 256) = (Q : Int) := e9
  obtain ⟨T, hT⟩ : ∃ T, Q + Q / 65536 = T := ⟨_, rfl⟩
  rw [hT] at ht hfin
  have e10 : ((Q : Int) + (Q : Int) / 65536) % 18446744073709551616 = (T : Int) := by omega
  have e10' : IntKind.u64.wrap ((Q : Int) + (Q : Int) / 65536) = (T : Int) := e10
  obtain ⟨U, hU⟩ : ∃ U, T + T / 4294967296 = U := ⟨_, rfl⟩
  rw [hU] at ht hfin
  have e11 : ((T : Int) + (T : Int) / 4294967296) % 18446744073709551616 = (U : Int) := by omega
  have e11' : IntKind.u64.wrap ((T : Int) + (T : Int) / 4294967296) = (U : Int) := e11
  have e12 : IntKind.i64.wrap (U : Int) = (U : Int) := IntWalk.i64_in _ (by omega)
  have e13 : bits .and .i64 (U : Int) 127 = (R : Int) := by rw [i64_and127]; omega
  clear hsw ht hfin hcl H1 H2 H3 hA1 hA2 hA3 hA4 lA1 lA2 lA3 lA4 hB hC hD hQ hT hU
  go_enter Tryd.func76, Tryd.ntmps76
  go_wp2
  go_ret
  exact ⟨rfl, rfl⟩
theorem ones_le : ∀ (k n : Nat), n < 2 ^ k → ones n ≤ k
  | 0, n, h => by obtain rfl : n = 0 := by simpa using h
                  exact Nat.le_refl _
  | k + 1, n, h => by
    rw [Nat.pow_succ] at h
    have := ones_le k (n / 2) (by omega)
    rw [ones_step n]; omega
theorem ones_pos {n : Nat} (h : 1 ≤ n) : 1 ≤ ones n := by
  obtain ⟨e, h1, h2⟩ := exists_pow n h
  have := ones_top e (n - 2 ^ e) (by omega)
  rw [show 2 ^ e + (n - 2 ^ e) = n by omega] at this; omega
set_option maxRecDepth 100000 in
theorem rones_any (n : Nat) (hn : n < 18446744073709551616) (w : World) :
    Calls Tryd.prog 78 #[.int .u64 (n : Int)] w fun e w' => e = .returned (.int .i64 (ones n : Int)) ∧ w' = w := by
  have h64 := ones_le 64 n (by omega)
  generalize hR : ones n = R at *
  have HR := Lib.hid hR; clear hR
  go_enter Tryd.func78, Tryd.ntmps78
  go_wp2
  go_loopw [0, 3] (fun x k wx => ∃ m j : Nat, m ≤ n ∧ x = .int .u64 (m : Int) ∧ k = .int .i64 (j : Int) ∧ j + ones m = R ∧ wx = w) (fun x _ _ => (intOf x).toNat)
  case atStart => exact ⟨n, 0, by omega, rfl, rfl, by rw [HR.out]; omega, rfl⟩
  case round =>
    obtain ⟨m, j, hm, rfl, rfl, hs, rfl⟩ := hrel
    by_cases h0 : m = 0
    · subst h0
      rw [ones_zero] at hs
      obtain rfl : j = R := by omega
      go_wp2
      go_ret
      exact ⟨rfl, rfl⟩
    · have h1 : 0 < (m : Int) := by omega
      have h1' : 0 < m := by omega
      have hst := ones_step m
      have hj : j < 64 := by have := ones_pos (n := m) (by omega); omega
      have e1 : IntKind.i64.wrap ((m : Int) % 2) = (m : Int) % 2 := IntWalk.i64_in _ (by omega)
      have e2 : IntKind.i64.wrap ((j : Int) + (m : Int) % 2) = (j : Int) + (m : Int) % 2 := IntWalk.i64_in _ (by omega)
      have Hs : Hid (j + m % 2 + ones (m / 2) = R) := Lib.hid (by omega)
      clear hs hst
      go_wp2
      go_roundw
      case rel => exact ⟨m / 2, j + m % 2, by omega, by first | rfl | (congr 1), by first | rfl | (congr 1), Hs.out, by trivial⟩
      case measure => simp [intOf]; omega
theorem tab_at : ∀ (i : Nat) (h : i < Lib.len8tab.size), Lib.len8tab[i].toNat = Lib.bitLen i := by
  have h : ∀ n : Fin 256, (Lib.len8tab[n.val]'(by rw [Lib.len8tab_size]; exact n.isLt)).toNat = Lib.bitLen n.val := by decide +kernel
  exact fun i hi => h ⟨i, by rw [Lib.len8tab_size] at hi; exact hi⟩
set_option maxHeartbeats 4000000 in
set_option maxRecDepth 100000 in
theorem len64_any (x : Int) (w : World) (h0 : 0 ≤ x) (h1 : x ≤ 18446744073709551615) :
    Calls Tryd.prog 70 #[.int .u64 x] w fun e w' => e = .returned (.int .i64 (Lib.bitLen x.toNat)) ∧ w' = w := by
  go_enter Tryd.func70, Tryd.ntmps70
  go_wp2
  all_goals first
    | (exfalso; have := Lib.len8tab_size; omega)
    | (go_ret; refine ⟨congrArg Ending.returned (congrArg (Value.int IntKind.i64) ?_), rfl⟩)
  all_goals rw [tab_at]
  all_goals first
    | (have e : (x / 4294967296 / 65536 / 256).toNat = x.toNat / 72057594037927936 := by omega
       have l := Lib.bitLen_le (x.toNat / 72057594037927936) 8 (by omega) (by omega)
       have s := Lib.bitLen_shift56 x.toNat (by omega) (by omega)
       simp only [e] at *
       unfold wrap64
       omega)
    | (have e : (x / 4294967296 / 65536).toNat = x.toNat / 281474976710656 := by omega
       have l := Lib.bitLen_le (x.toNat / 281474976710656) 8 (by omega) (by omega)
       have s := Lib.bitLen_shift48 x.toNat (by omega) (by omega)
       simp only [e] at *
       unfold wrap64
       omega)
    | (have e : (x / 4294967296 / 256).toNat = x.toNat / 1099511627776 := by omega
       have l := Lib.bitLen_le (x.toNat / 1099511627776) 8 (by omega) (by omega)
       have s := Lib.bitLen_shift40 x.toNat (by omega) (by omega)
       simp only [e] at *
       unfold wrap64
       omega)
    | (have e : (x / 4294967296).toNat = x.toNat / 4294967296 := by omega
       have l := Lib.bitLen_le (x.toNat / 4294967296) 8 (by omega) (by omega)
       have s := Lib.bitLen_shift32 x.toNat (by omega) (by omega)
       simp only [e] at *
       unfold wrap64
       omega)
    | (have e : (x / 65536 / 256).toNat = x.toNat / 16777216 := by omega
       have l := Lib.bitLen_le (x.toNat / 16777216) 8 (by omega) (by omega)
       have s := Lib.bitLen_shift24 x.toNat (by omega) (by omega)
       simp only [e] at *
       unfold wrap64
       omega)
    | (have e : (x / 65536).toNat = x.toNat / 65536 := by omega
       have l := Lib.bitLen_le (x.toNat / 65536) 8 (by omega) (by omega)
       have s := Lib.bitLen_shift16 x.toNat (by omega) (by omega)
       simp only [e] at *
       unfold wrap64
       omega)
    | (have e : (x / 256).toNat = x.toNat / 256 := by omega
       have l := Lib.bitLen_le (x.toNat / 256) 8 (by omega) (by omega)
       have s := Lib.bitLen_shift8 x.toNat (by omega) (by omega)
       simp only [e] at *
       unfold wrap64
       omega)
    | (have l := Lib.bitLen_le x.toNat 8 (by omega) (by omega)
       unfold wrap64
       omega)
theorem bitLen_log : ∀ (f x : Nat), x < f → 1 ≤ x → x < 2 ^ 64 → Lib.bitLen x = x.log2 + 1
  | 0, x, h, _, _ => by omega
  | f + 1, x, h, h1, h2 => by
    rw [Lib.bitLen_half x (by omega) h2, Nat.log2_def]
    by_cases h3 : 2 ≤ x
    · rw [if_pos h3, bitLen_log f (x / 2) (by omega) (by omega) (by omega)]; omega
    · rw [if_neg h3, show x / 2 = 0 by omega]; rfl
set_option maxRecDepth 100000 in
theorem split_any (n : Nat) (hn : n < 18446744073709551616) (w : World) :
    Calls Tryd.prog 38 #[.int .u64 (n : Int)] w fun e w' => e = .returned (.int .u64 (split n : Int)) ∧ w' = w := by
  by_cases h : n ≤ 1
  · have hs : split n = 0 := by unfold split; rw [if_pos h]
    rw [hs]
    have h' : (n : Int) ≤ 1 := by omega
    go_enter Tryd.func38, Tryd.ntmps38
    go_wp2
    go_ret
    exact ⟨rfl, rfl⟩
  · have h' : ¬ (n : Int) ≤ 1 := by omega
    have hs := split_pow (n := n) (by omega)
    have hl := bitLen_log n (n - 1) (by omega) (by omega) (by omega)
    have hlt : (n - 1).log2 < 64 := (Nat.log2_lt (by omega)).2 (by omega)
    have hc : ((n : Int) - 1).toNat = n - 1 := by omega
    rw [hs]
    generalize (n - 1).log2 = q at *
    have e1 : IntKind.i64.wrap ((q : Int) + 1 - 1) = (q : Int) := by rw [show (q : Int) + 1 - 1 = q by omega]; exact IntWalk.i64_in _ (by omega)
    have e2 : IntKind.u64.wrap ((n : Int) - 1) = (n : Int) - 1 := by show ((n : Int) - 1) % 18446744073709551616 = _; omega
    go_enter Tryd.func38, Tryd.ntmps38
    go_wp2_with fail
    refine (len64_any _ _ (by omega) (by omega)).mono ?_
    rintro e w1 ⟨rfl, rfl⟩
    rw [hc, hl]
    go_wp2
    go_ret
    have e3 : IntKind.u64.wrap (2 ^ q) = ((2 ^ q : Nat) : Int) := by
      have hq : 2 ^ q < 2 ^ 64 := Nat.pow_lt_pow_right (by decide) hlt
      have h2 : (2 : Int) ^ q = ((2 ^ q : Nat) : Int) := (Int.natCast_pow 2 q).symm
      rw [h2]
      show ((2 ^ q : Nat) : Int) % 18446744073709551616 = _
      omega
    exact ⟨congrArg (fun z => Ending.returned (Value.int .u64 z)) e3, rfl⟩
set_option maxRecDepth 100000 in
theorem rsplit_any (n : Nat) (hn : n < 9223372036854775808) (w : World) :
    Calls Tryd.prog 39 #[.int .u64 (n : Int)] w fun e w' => e = .returned (.int .u64 (split n : Int)) ∧ w' = w := by
  by_cases h : n ≤ 1
  · have hs : split n = 0 := by unfold split; rw [if_pos h]
    rw [hs]
    have h' : (n : Int) < 2 := by omega
    go_enter Tryd.func39, Tryd.ntmps39
    go_wp2
    go_ret
    exact ⟨rfl, rfl⟩
  · have h' : ¬ (n : Int) < 2 := by omega
    obtain ⟨R, hR⟩ : ∃ R, split n = R := ⟨_, rfl⟩
    rw [hR]
    have HR := Lib.hid hR; clear hR
    go_enter Tryd.func39, Tryd.ntmps39
    go_wp2
    go_loopw [3] (fun x wx => ∃ e : Nat, x = .int .u64 ((2 ^ e : Nat) : Int) ∧ 2 ^ e < n ∧ wx = w) (fun x _ => n - (intOf x).toNat)
    case atStart => exact ⟨0, rfl, by simp; omega, rfl⟩
    case round =>
      obtain ⟨e, rfl, he, rfl⟩ := hrel
      have Hu : Hid (n ≤ 2 * 2 ^ e → R = 2 ^ e) := Lib.hid (fun hq => by rw [← HR.out]; exact split_uniq (by omega) e he hq)
      have Hp : Hid (2 ^ (e + 1) = 2 ^ e * 2) := Lib.hid (Nat.pow_succ 2 e)
      have hp1 := Nat.one_le_two_pow (n := e)
      generalize hk : 2 ^ e = k at *
      have Hk := Lib.hid hk; clear hk
      by_cases hlt : k < n - k
      · have l1 : (k : Int) < (n : Int) - (k : Int) := by omega
        have e2 : IntKind.u64.wrap ((n : Int) - (k : Int)) = (n : Int) - (k : Int) := by show ((n : Int) - (k : Int)) % 18446744073709551616 = _; omega
        have e3 : IntKind.u64.wrap ((k : Int) * 2) = (k : Int) * 2 := by show ((k : Int) * 2) % 18446744073709551616 = _; omega
        clear Hu
        go_wp2
        go_roundw
        case rel => exact ⟨e + 1, by rw [Hp.out]; congr 1, by rw [Hp.out]; omega, by trivial⟩
        case measure => simp [intOf]; omega
      · have l1 : ¬ (k : Int) < (n : Int) - (k : Int) := by omega
        have e2 : IntKind.u64.wrap ((n : Int) - (k : Int)) = (n : Int) - (k : Int) := by show ((n : Int) - (k : Int)) % 18446744073709551616 = _; omega
        obtain rfl := Hu.out (by omega)
        go_wp2
        go_ret
        exact ⟨rfl, rfl⟩
end Go.Proofs.YtkdajlhmodmkoaaDoor
