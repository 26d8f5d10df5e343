/-
  Layer 2 (sha), the document's answer: Leaf, Node, Hex walked.
-/
import Derived.Test.YtkdajlhmodmkoaaDoorShaQ
namespace Go.Proofs.YtkdajlhmodmkoaaDoor
open Go.RowKit
set_option linter.unusedVariables false
set_option linter.unusedSimpArgs false

/-- The sums of a leaf and of a node. -/
def leafL (d : List UInt8) : List UInt8 := ShaM.sum (0 :: d)
def nodeL (l r : List UInt8) : List UInt8 := ShaM.sum (1 :: (l ++ r))
set_option maxRecDepth 100000 in
theorem rleaf_any (s : ByteArray) (hs : s.size ≤ 90000000) (w : World) : Calls Tryd.prog 25 #[.string s] w fun e w' => e = .returned (.string ⟨(leafL s.data.toList).toArray⟩) ∧ Below w.heap.size w w' := by
  go_enter Tryd.func25, Tryd.ntmps25
  go_wp2_with fail
  refine (rsum_any _ (by rw [ba_size, ba_append]; simp; omega) _).mono ?_
  rintro e w1 ⟨rfl, hb1⟩
  go_wp2
  go_ret
  exact ⟨rfl, hb1⟩
set_option maxRecDepth 100000 in
theorem rnode_any (l r : ByteArray) (hl : l.size ≤ 40000000) (hr : r.size ≤ 40000000) (w : World) : Calls Tryd.prog 34 #[.string l, .string r] w fun e w' => e = .returned (.string ⟨(nodeL l.data.toList r.data.toList).toArray⟩) ∧ Below w.heap.size w w' := by
  go_enter Tryd.func34, Tryd.ntmps34
  go_wp2_with fail
  refine (rsum_any _ (by rw [ba_size, ba_append, ba_append]; simp; omega) _).mono ?_
  rintro e w1 ⟨rfl, hb1⟩
  go_wp2
  go_ret
  exact ⟨rfl, hb1⟩
/-- The digits. -/
def digs : ByteArray := ⟨#[48, 49, 50, 51, 52, 53, 54, 55, 56, 57, 97, 98, 99, 100, 101, 102]⟩
theorem digs_cut : ∀ n, n < 16 → (digs.extract n (n + 1)).data.toList = [ShaM.digit n] := by decide
theorem digs_two (c : UInt8) : (digs.extract (c.toNat / 16) (c.toNat / 16 + 1)).data.toList ++ (digs.extract (c.toNat % 16) (c.toNat % 16 + 1)).data.toList = [ShaM.digit (c.toNat / 16), ShaM.digit (c.toNat % 16)] := by
  have := c.toNat_lt
  rw [digs_cut _ (by omega), digs_cut _ (by omega)]; rfl
theorem take_snoc (s : ByteArray) (k : Nat) (h : k < s.size) : s.data.toList.take (k + 1) = s.data.toList.take k ++ [s[k]] := by
  rw [List.take_succ_eq_append_getElem (by simpa using h)]; rfl
theorem hex_snoc (l : List UInt8) (c : UInt8) : ShaM.hex (l ++ [c]) = ShaM.hex l ++ [ShaM.digit (c.toNat / 16), ShaM.digit (c.toNat % 16)] := by rw [ShaM.hex_append]; rfl
set_option maxRecDepth 100000 in
set_option maxHeartbeats 1000000 in
theorem rhex_any (s : ByteArray) (hs : s.size ≤ 100000000) (w : World) : Calls Tryd.prog 27 #[.string s] w fun e w' => e = .returned (.string ⟨(ShaM.hex s.data.toList).toArray⟩) ∧ ∃ n, w' = w.drewN n := by
  go_enter Tryd.func27, Tryd.ntmps27
  go_wp2
  go_loopw [3, 4] (fun v i wr => ∃ (k : Nat) (b : ByteArray), k ≤ s.size ∧ i = .int .i64 (k : Int) ∧ v = .string b ∧ b.data.toList = ShaM.hex (s.data.toList.take k) ∧ ∃ n, wr = w.drewN n) (fun _ i _ => s.size - (intOf i).toNat)
  case atStart => exact ⟨0, _, by omega, rfl, rfl, rfl, 0, rfl⟩
  case round =>
    obtain ⟨k, b, hk, rfl, rfl, hb, n, hw⟩ := hrel
    have hbs : b.size ≤ 200000000 := by
      rw [ba_size, hb, ShaM.hex_length, List.length_take]
      have : s.data.toList.length = s.size := by simp
      omega
    have Hb := Lib.hid hb; have Hw := Lib.hid hw
    clear hb hw
    by_cases hlt : k < s.size
    · have Hts := Lib.hid (take_snoc s k hlt)
      have h1 : (k : Int) < (s.size : Int) := by omega
      have hc := s[k].toNat_lt
      go_wp2
      go_quiet (fail)
      go_wp2
      go_roundw
      case rel => exact ⟨k + 1, _, by omega, by go_num, rfl, (by rw [ba_append, ba_append, Hb.out, Hts.out, hex_snoc]; congr 1; exact digs_two _), _, by rw [Hw.out, World.drewN_drewN]⟩
      case measure => simp [intOf]; omega
    · obtain rfl : k = s.size := by omega
      have Hfin : Hid (b = ⟨(ShaM.hex s.data.toList).toArray⟩) := Lib.hid (ba_eq (by rw [Hb.out, List.take_of_length_le (by simp)]))
      go_wp2
      go_ret
      exact ⟨by rw [← Hfin.out]; rfl, _, Hw.out⟩
end Go.Proofs.YtkdajlhmodmkoaaDoor
