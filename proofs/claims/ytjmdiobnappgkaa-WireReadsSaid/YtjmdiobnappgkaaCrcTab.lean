/-
  The walks of layer 10 (crc): the table of half bytes.
-/
import Derived.Test.YtjmdiobnappgkaaRows
import Derived.Test.YtjmdiobnappgkaaCrcMath
import Derived.Test.YtjmdiobnappgkaaKit
namespace Go.Proofs.Ytjmdiobnappgkaa
open Go.RowKit
set_option linter.unusedVariables false
set_option linter.unusedSimpArgs false

def tabN (i : Nat) : Nat := CrcM.step4 i
def tabRow (k : Nat) : Array Value := ((List.range 16).map fun j => Value.int .u32 (if j < k then (tabN j : Int) else 0)).toArray
theorem tabRow_set (k : Nat) (hk : k < 16) : (tabRow k).setIfInBounds k (.int .u32 (tabN k)) = tabRow (k + 1) := by
  apply Array.ext
  · simp [tabRow]
  · intro i h1 h2
    simp only [tabRow, List.size_toArray, List.length_map, List.length_range] at h1 h2
    by_cases h : k = i
    · subst h; simp [tabRow]
    · have h3 : i < k + 1 ↔ i < k := by omega
      simp [tabRow, Array.getElem_setIfInBounds, h, h3]
theorem tabRow_size (k : Nat) : (tabRow k).size = 16 := by simp [tabRow]
theorem tabRow_16 : tabRow 16 = #[.int .u32 0, .int .u32 498536548, .int .u32 997073096, .int .u32 651767980, .int .u32 1994146192, .int .u32 1802195444, .int .u32 1303535960, .int .u32 1342533948, .int .u32 3988292384, .int .u32 4027552580, .int .u32 3604390888, .int .u32 3412177804, .int .u32 2607071920, .int .u32 2262029012, .int .u32 2685067896, .int .u32 3183342108] := by kernel_rfl
theorem tabRow_0 : tabRow 0 = #[.int .u32 0, .int .u32 0, .int .u32 0, .int .u32 0, .int .u32 0, .int .u32 0, .int .u32 0, .int .u32 0, .int .u32 0, .int .u32 0, .int .u32 0, .int .u32 0, .int .u32 0, .int .u32 0, .int .u32 0, .int .u32 0] := by kernel_rfl
def iterS : Nat → Nat → Nat
  | 0, n => n
  | k + 1, n => CrcM.step (iterS k n)
theorem iterS_lt (n : Nat) (h : n < 4294967296) : ∀ k, iterS k n < 4294967296
  | 0 => h
  | k + 1 => CrcM.step_lt _ (iterS_lt n h k)
theorem step_odd_int (n : Nat) (h : n < 4294967296) (h1 : n % 2 = 1) : bits .xor .u32 ((n : Int) / 2) 3988292384 = (CrcM.step n : Int) := by
  have := u32_xor_nat (n / 2) 3988292384 (by omega) (by omega)
  rw [show ((n / 2 : Nat) : Int) = (n : Int) / 2 by omega] at this
  rw [show ((3988292384 : Nat) : Int) = 3988292384 from rfl] at this
  rw [this, CrcM.step, if_pos h1]; rfl
theorem step_even_int (n : Nat) (h1 : n % 2 = 0) : (n : Int) / 2 = (CrcM.step n : Int) := by
  rw [CrcM.step, if_neg (by omega)]; omega
theorem and1_int (n : Nat) (h : n < 4294967296) : bits .and .u32 (n : Int) 1 = ((n % 2 : Nat) : Int) := by
  have := u32_and_nat n 1 h (by omega)
  rw [show ((1 : Nat) : Int) = 1 from rfl] at this
  rw [this, nat_mask1]

theorem tabRow_get (k : Nat) (hk : k < 16) : (tabRow k)[k]? = some (.int .u32 0) := by simp [tabRow, hk]

set_option maxHeartbeats 400000 in
theorem table_any (w : World) : Calls Try.prog 83 #[] w fun e w' => e = .returned (.agg (tabRow 16)) ∧ Below w.heap.size w w' := by
  go_enter Try.func83, Try.ntmps83
  go_wp2
  go_loopw [4] (fun i wr => ∃ k : Nat, k ≤ 16 ∧ i = .int .i64 k ∧ wr = (w.alloc (.cells (tabRow 0) 111)).alloc (.cells (tabRow k) 111)) (fun i _ => 16 - (intOf i).toNat)
  case atStart => exact ⟨0, by omega, rfl, rfl⟩
  case round =>
    obtain ⟨k, hk, rfl, rfl⟩ := hrel
    by_cases hlt : k < 16
    · have hcell := tabRow_get k hlt
      go_wp2
      go_loop [3, 9] (fun n j => ∃ q : Nat, q ≤ 4 ∧ j = .int .i64 q ∧ n = .int .u32 (iterS q k)) (fun _ j => 4 - (intOf j).toNat)
      case atStart => exact ⟨0, by omega, rfl, rfl⟩
      case round =>
        obtain ⟨q, hq, rfl, rfl⟩ := hrel
        have hn := iterS_lt k (by omega) q
        have hs1 := step_odd_int (iterS q k) hn
        have hs0 := step_even_int (iterS q k)
        generalize hgn : iterS q k = n at *
        have Hgn := Lib.hid hgn; clear hgn
        have Hs1 := Lib.hid hs1; clear hs1
        have Hs0 := Lib.hid hs0; clear hs0
        by_cases hql : q < 4
        · have ha := and1_int n hn
          rcases Nat.mod_two_eq_zero_or_one n with h2 | h2
          · have ha' : bits .and .u32 (n : Int) 1 = 0 := by rw [ha, h2]; rfl
            have H2 := Lib.hid h2; clear h2 ha
            go_wp2
            go_round
            case rel => exact ⟨q + 1, by omega, by go_num, by rw [Hs0.out H2.out, ← Hgn.out]; rfl⟩
            case measure => simp [intOf]; omega
          · have ha' : bits .and .u32 (n : Int) 1 = 1 := by rw [ha, h2]; rfl
            have H2 := Lib.hid h2; clear h2 ha
            go_wp2
            go_round
            case rel => exact ⟨q + 1, by omega, by go_num, by rw [Hs1.out H2.out, ← Hgn.out]; rfl⟩
            case measure => simp [intOf]; omega
        · obtain rfl : q = 4 := by omega
          have hset := tabRow_set k hlt
          have Hset := Lib.hid hset; clear hset
          go_wp2
          go_roundw
          case rel => exact ⟨k + 1, by omega, by go_num, by rw [← Hset.out, ← Hgn.out]; rfl⟩
          case measure => simp [intOf]; omega
    · obtain rfl : k = 16 := by omega
      rw [tabRow_16, tabRow_0]
      go_wp2
      exact bodyPost_ret (v := .agg (tabRow 16)) (by rw [tabRow_16]; simp [results, Try.results83, go_sem]) rfl ⟨rfl, ((Below.refl _ _).alloc (Nat.le_refl _) _).alloc (by simp) _⟩
end Go.Proofs.Ytjmdiobnappgkaa
