/-
  Layer 11 (wire): a number's bytes: the plain list, and the walk of wire.number.
-/
import Derived.Test.YtjmdiobnappgkaaRowY
import Derived.Test.YtjmdiobnappgkaaRows
import Derived.Deep.QuietTactic
import Derived.BigQuiet
namespace Go.Proofs.Ytjmdiobnappgkaa
open Go.RowKit
set_option linter.unusedVariables false
set_option linter.unusedSimpArgs false

def numL (n : Nat) : List UInt8 := if h : n < 128 then [UInt8.ofNat n] else UInt8.ofNat (n % 128 + 128) :: numL (n / 128)
theorem numL_small {n : Nat} (h : n < 128) : numL n = [UInt8.ofNat n] := by rw [numL, dif_pos h]
theorem numL_big {n : Nat} (h : ¬ n < 128) : numL n = UInt8.ofNat (n % 128 + 128) :: numL (n / 128) := by rw [numL, dif_neg h]
theorem src_byteN {w : World} (c : Nat) (hc : c < 256) : Src Try.prog 1 30 (.slice (some ⟨w.heap.size, 0, none⟩) 1 1) 1 (bvals [UInt8.ofNat c]) (w.alloc (.cells #[.int .u8 (c : Int)] 5)) := by
  refine Src.ofSlice _ Try.underlying30 _ _ _ _ (by simp [bvals]) ?_ (bvals_one _)
  intro j u hu
  rw [Addr.add_lit, Nat.zero_add, cell_of_row _ _ _ _ _ _ (heap_alloc_new w _)]
  have : (UInt8.ofNat c).toNat = c := by simp [Nat.mod_eq_of_lt hc]
  simp only [bvals, List.map_cons, List.map_nil, this] at hu
  simpa using hu
theorem src_byteI {w : World} (c : Nat) (hc : c < 256) (ci : Int) (h : (c : Int) = ci) : Src Try.prog 1 30 (.slice (some ⟨w.heap.size, 0, none⟩) 1 1) 1 (bvals [UInt8.ofNat c]) (w.alloc (.cells #[.int .u8 ci] 5)) := by
  subst h; exact src_byteN c hc
theorem winfo5 : (Try.prog.info? 5).map (fun i => (i.zero, i.size, i.bytes)) = some (some (.int .u8 0), 1, 1) := by kernel_rfl

set_option maxRecDepth 100000 in
set_option maxHeartbeats 400000 in
theorem number_any (n : Nat) (hn : n < 18446744073709551616) (w : World) : Calls Try.prog 95 #[.int .u64 (n : Int)] w fun e w' => e = .returned (.string ⟨(numL n).toArray⟩) ∧ Below w.heap.size w w' := by
  obtain ⟨i0, hi, hz0, hz1, hz2⟩ := info_parts winfo5
  go_enter Try.func95, Try.ntmps95
  go_wp2
  go_loopw [0, 3] (fun mv bv wr => ∃ (m : Nat) (l : List UInt8), m < 18446744073709551616 ∧ m * 128 ^ l.length ≤ n ∧ mv = .int .u64 (m : Int) ∧ numL n = l ++ numL m ∧ wr.ownsRow w.heap.size 5 1 bv l.length (bvals l) ∧ l.length ≤ 20 ∧ Below w.heap.size w wr) (fun mv _ _ => (intOf mv).toNat)
  case atStart => exact ⟨n, [], hn, by simp, rfl, rfl, World.ownsRow_nil _ _ _ _, by simp, Below.refl _ _⟩
  case round =>
    obtain ⟨m, l, hm, hpow, rfl, hnum, hown, hl20, hbel⟩ := hrel
    have hz := hbel.size
    by_cases hlt : m < 128
    · rw [numL_small hlt] at hnum
      have Hnum := Lib.hid hnum; clear hnum hpow
      go_wp2_with (at_builtin; refine wpList_append_o rfl _ _ 30 30 rfl w.heap.size 5 i0 _ 1 1 Try.underlying30 hi hz0 hz1 hz2 rfl _ _ _ rfl (hown.alloc _) _ 1 (bvals [UInt8.ofNat m]) rfl (src_byteN m (by omega)) (by unfold maxLen; omega) (by omega) (by simp; omega) ?_)
      intro v' w3 hown3 hg3 hv3
      rw [← bvals_append, ← Hnum.out] at hown3
      have hb3 : Below w.heap.size w w3 := (hbel.alloc hz _).grown hg3 (by simp; omega) (fun k hk => (hown.lt k hk).1)
      have hstr := conv_own (P := Try.prog) (src := 30) (dst := 9) Try.underlying30 Try.underlying5 Try.underlying9 hown3
      have B3 := Lib.hid hb3
      clear hown3 hg3 hv3 hb3 hown hbel
      go_wp2
      go_ret
      exact ⟨rfl, B3.out⟩
    · rw [numL_big hlt] at hnum
      have hl19 : l.length + 1 ≤ 20 := by
        rcases Nat.lt_or_ge l.length 20 with h | h
        · omega
        · have e : l.length = 20 := by omega
          rw [e] at hpow
          have h1 : 128 * 128 ^ 20 ≤ m * 128 ^ 20 := Nat.mul_le_mul_right _ (by omega)
          have h2 : (128 : Nat) * 128 ^ 20 ≥ 18446744073709551616 := by decide
          omega
      have hpow2 : (m / 128) * 128 ^ (l.length + 1) ≤ n := by
        have h1 : (m / 128) * 128 ^ (l.length + 1) = (m / 128 * 128) * 128 ^ l.length := by rw [Nat.pow_succ, Nat.mul_assoc, Nat.mul_comm (128 ^ l.length) 128]
        have h2 : m / 128 * 128 ≤ m := by omega
        have := Nat.mul_le_mul_right (128 ^ l.length) h2
        omega
      obtain ⟨cb, hcb⟩ : ∃ cb, UInt8.ofNat (m % 128 + 128) = cb := ⟨_, rfl⟩
      have hsrc : Src Try.prog 1 30 (.slice (some ⟨wr.heap.size, 0, none⟩) 1 1) 1 (bvals [cb]) (wr.alloc (.cells #[.int .u8 ((m : Int) % 128 + 128)] 5)) := by rw [← hcb]; exact src_byteI (m % 128 + 128) (by omega) _ (by omega)
      rw [hcb] at hnum
      have Hnum := Lib.hid hnum; have Hpow := Lib.hid hpow2; clear hnum hpow hpow2 hcb
      go_wp2_with (at_builtin; refine wpList_append_o rfl _ _ 30 30 rfl w.heap.size 5 i0 _ 1 1 Try.underlying30 hi hz0 hz1 hz2 rfl _ _ _ rfl (hown.alloc _) _ 1 (bvals [cb]) rfl hsrc (by unfold maxLen; omega) (by omega) (by simp; omega) ?_)
      intro v' w3 hown3 hg3 hv3
      have hb3 : Below w.heap.size w w3 := (hbel.alloc hz _).grown hg3 (by simp; omega) (fun k hk => (hown.lt k hk).1)
      have H3 := Lib.hid hown3; have B3 := Lib.hid hb3
      clear hown3 hg3 hv3 hb3 hown hbel hsrc
      go_wp2
      go_roundw
      case rel => exact ⟨m / 128, l ++ [cb], by omega, by rw [List.length_append]; exact Hpow.out, by go_num, by rw [Hnum.out, List.append_assoc]; rfl, by rw [bvals_append, List.length_append]; exact H3.out, by simp; omega, B3.out⟩
      case measure => simp [intOf]; omega
end Go.Proofs.Ytjmdiobnappgkaa
