/-
  The walks of the document's answers for layer 10 (On, Of), and of both Put.
-/
import Derived.Test.YtjmdiobnappgkaaCrc
import Derived.Test.YtjmdiobnappgkaaKit2
namespace Go.Proofs.Ytjmdiobnappgkaa
open Go.RowKit
set_option linter.unusedVariables false
set_option linter.unusedSimpArgs false

theorem iterS8 (n : Nat) : iterS 8 n = CrcM.step8 n := rfl
theorem run_snoc8 (m : Nat) (l : List UInt8) (c : UInt8) : CrcM.run m (l ++ [c]) = iterS 8 (CrcM.run m l ^^^ c.toNat) := by simp [CrcM.run, CrcM.byte, iterS8]

set_option maxRecDepth 100000 in
set_option maxHeartbeats 400000 in
theorem ron_any (n : Nat) (hn : n < 4294967296) (s : ByteArray) (hs : s.size ≤ 140737488351232) (w : World) :
    Calls Try.prog 26 #[.int .u32 n, .string s] w fun e w' => e = .returned (.int .u32 (CrcM.on n s.data.toList)) ∧ w = w' := by
  have hm0 : 4294967295 - n < 4294967296 := by omega
  have hsub : (4294967295 : Int) - (n : Int) = ((4294967295 - n : Nat) : Int) := by omega
  go_enter Try.func26, Try.ntmps26
  go_wp2
  generalize hm : 4294967295 - n = m0 at *
  have Hm := Lib.hid hm; clear hm
  go_loop [5, 6] (fun v i => ∃ k : Nat, k ≤ s.size ∧ i = .int .i64 k ∧ v = .int .u32 (CrcM.run m0 (s.data.toList.take k))) (fun _ i => s.size - (intOf i).toNat)
  case atStart => exact ⟨0, by omega, rfl, rfl⟩
  case round =>
    obtain ⟨k, hk, rfl, rfl⟩ := hrel
    have hlt1 := CrcM.run_lt (s.data.toList.take k) m0 hm0
    have hsn := run_snoc8 m0 (s.data.toList.take k)
    generalize hr : CrcM.run m0 (s.data.toList.take k) = r at *
    have Hr := Lib.hid hr; clear hr
    have Hsn := Lib.hid hsn; clear hsn
    by_cases hlt : k < s.size
    · have hbyte : s[k].toNat < 256 := s[k].toNat_lt
      have Hts := Lib.hid (take_snoc s k hlt)
      have hx1 := low_int r s[k].toNat hlt1 hbyte
      have hxl : r ^^^ s[k].toNat < 4294967296 := Nat.xor_lt_two_pow (n := 32) hlt1 (by omega)
      have Hsn' := Lib.hid (Hsn.out s[k])
      generalize hxg : r ^^^ s[k].toNat = x at *
      have Hxg := Lib.hid hxg; clear hxg
      go_wp2
      go_loop [5, 7] (fun v j => ∃ q : Nat, q ≤ 8 ∧ j = .int .i64 q ∧ v = .int .u32 (iterS q x)) (fun _ j => 8 - (intOf j).toNat)
      case atStart => exact ⟨0, by omega, rfl, rfl⟩
      case round =>
        obtain ⟨q, hq, rfl, rfl⟩ := hrel
        have hy := iterS_lt x hxl q
        have hs1 := step_odd_int (iterS q x) hy
        have hs0 := step_even_int (iterS q x)
        generalize hyg : iterS q x = y at *
        have Hyg := Lib.hid hyg; clear hyg
        have Hs1 := Lib.hid hs1; clear hs1
        have Hs0 := Lib.hid hs0; clear hs0
        by_cases hql : q < 8
        · rcases Nat.mod_two_eq_zero_or_one y with h2 | h2
          · have hb : ((y : Int) % 2 == 1) = false := by rw [beq_eq_false_iff_ne]; omega
            have H2 := Lib.hid h2; clear h2
            go_wp2
            go_round
            case rel => exact ⟨q + 1, by omega, by go_num, by rw [Hs0.out H2.out, ← Hyg.out]; rfl⟩
            case measure => simp [intOf]; omega
          · have hb : ((y : Int) % 2 == 1) = true := by rw [beq_iff_eq]; omega
            have H2 := Lib.hid h2; clear h2
            go_wp2
            go_round
            case rel => exact ⟨q + 1, by omega, by go_num, by rw [Hs1.out H2.out, ← Hyg.out]; rfl⟩
            case measure => simp [intOf]; omega
        · obtain rfl : q = 8 := by omega
          go_wp2
          go_round
          case rel => exact ⟨k + 1, by omega, by go_num, by rw [Hts.out, Hsn'.out, Hyg.out]⟩
          case measure => simp [intOf]; omega
    · obtain rfl : k = s.size := by omega
      have hfl : (4294967295 : Int) - (r : Int) = ((4294967295 - r : Nat) : Int) := by omega
      have he : CrcM.on n s.data.toList = 4294967295 - r := by
        rw [CrcM.on, Hm.out, ← Hr.out, List.take_of_length_le (by simp)]
      have He := Lib.hid he; clear he
      have Hfl := Lib.hid hfl; clear hfl
      go_wp2
      go_ret
      exact ⟨by rw [He.out, ← Hfl.out]; rfl, rfl⟩

set_option maxHeartbeats 400000 in
theorem rof_any (s : ByteArray) (hs : s.size ≤ 140737488351232) (w : World) :
    Calls Try.prog 24 #[.string s] w fun e w' => e = .returned (.int .u32 (CrcM.on 0 s.data.toList)) ∧ w = w' := by
  go_enter Try.func24, Try.ntmps24
  go_wp2_with fail
  refine (ron_any 0 (by omega) s hs _).mono ?_
  rintro e w1 ⟨rfl, rfl⟩
  go_wp2
  go_ret
  exact ⟨rfl, rfl⟩

/-- A sum's four bytes. -/
def putL (n : Nat) : List Int := [(n : Int) / 16777216, (n : Int) / 65536 % 256, (n : Int) / 256 % 256, (n : Int) % 256]

set_option maxRecDepth 100000 in
set_option maxHeartbeats 400000 in
theorem put_any (n : Nat) (hn : n < 4294967296) (w : World) :
    Calls Try.prog 27 #[.int .u32 n] w fun e w' => e = .returned (.string (strOfNums (putL n))) ∧ Below w.heap.size w w' := by
  have hcv := conv_string_new (P := Try.prog) w 30 9 5 (putL n) Try.underlying30 Try.underlying5 Try.underlying9 4 4 rfl 5
  have Hcv := Lib.hid hcv; clear hcv
  generalize hst : strOfNums (putL n) = st at *
  have hcv := Hcv.out; clear hst Hcv
  simp only [putL, List.map_cons, List.map_nil] at hcv
  go_enter Try.func27, Try.ntmps27
  go_wp2
  go_ret
  exact ⟨rfl, (Below.refl _ _).alloc (Nat.le_refl _) _⟩

set_option maxRecDepth 100000 in
set_option maxHeartbeats 400000 in
theorem rput_any (n : Nat) (hn : n < 4294967296) (w : World) :
    Calls Try.prog 28 #[.int .u32 n] w fun e w' => e = .returned (.string (strOfNums (putL n))) ∧ Below w.heap.size w w' := by
  have hcv := conv_string_new (P := Try.prog) w 30 9 5 (putL n) Try.underlying30 Try.underlying5 Try.underlying9 4 4 rfl 5
  have Hcv := Lib.hid hcv; clear hcv
  generalize hst : strOfNums (putL n) = st at *
  have hcv := Hcv.out; clear hst Hcv
  simp only [putL, List.map_cons, List.map_nil] at hcv
  go_enter Try.func28, Try.ntmps28
  go_wp2
  go_ret
  exact ⟨rfl, (Below.refl _ _).alloc (Nat.le_refl _) _⟩

theorem of_at (s : ByteArray) (k : Int) (hs : s.size ≤ 140737488351232) (hk : (CrcM.on 0 s.data.toList : Int) = k) (w : World) :
    Calls Try.prog 23 #[.string s] w fun e w' => e = .returned (.int .u32 k) ∧ Below w.heap.size w w' := by
  rw [← hk]; exact of_any s hs w
theorem on_at (n : Nat) (hn : n < 4294967296) (j : Int) (hj : (n : Int) = j) (s : ByteArray) (k : Int) (hs : s.size ≤ 140737488351232) (hk : (CrcM.on n s.data.toList : Int) = k) (w : World) :
    Calls Try.prog 25 #[.int .u32 j, .string s] w fun e w' => e = .returned (.int .u32 k) ∧ Below w.heap.size w w' := by
  rw [← hk, ← hj]; exact on_any n hn s hs w
theorem put_at (n : Nat) (hn : n < 4294967296) (j : Int) (hj : (n : Int) = j) (s : ByteArray) (hk : strOfNums (putL n) = s) (w : World) :
    Calls Try.prog 27 #[.int .u32 j] w fun e w' => e = .returned (.string s) ∧ Below w.heap.size w w' := by
  rw [← hk, ← hj]; exact put_any n hn w

set_option maxRecDepth 100000 in
set_option maxHeartbeats 400000 in
theorem crcFixed_any (w : World) :
    Calls Try.prog 29 #[] w fun e w' => e = .returned (.bool true) ∧ Below w.heap.size w w' := by
  go_enter Try.func29, Try.ntmps29
  go_wp2_with fail
  refine (of_at _ 3421780262 (by decide) (by decide +kernel) _).mono ?_
  rintro e w1 ⟨rfl, hb1⟩
  go_wp2_with fail
  refine (of_at _ 0 (by decide) (by decide +kernel) _).mono ?_
  rintro e w2 ⟨rfl, hb2⟩
  go_wp2_with fail
  refine (of_at _ 2615402659 (by decide) (by decide +kernel) _).mono ?_
  rintro e w3 ⟨rfl, hb3⟩
  go_wp2_with fail
  refine (on_at 2615402659 (by decide) _ rfl _ 3421780262 (by decide) (by decide +kernel) _).mono ?_
  rintro e w4 ⟨rfl, hb4⟩
  go_wp2_with fail
  refine (put_at 16909060 (by decide) _ rfl ⟨#[1, 2, 3, 4]⟩ (by decide +kernel) _).mono ?_
  rintro e w5 ⟨rfl, hb5⟩
  go_wp2
  go_ret
  exact ⟨rfl, hb1.trans ((hb2.mono hb1.size).trans ((hb3.mono (Nat.le_trans hb1.size hb2.size)).trans ((hb4.mono (Nat.le_trans hb1.size (Nat.le_trans hb2.size hb3.size))).trans (hb5.mono (Nat.le_trans hb1.size (Nat.le_trans hb2.size (Nat.le_trans hb3.size hb4.size)))))))⟩
end Go.Proofs.Ytjmdiobnappgkaa
