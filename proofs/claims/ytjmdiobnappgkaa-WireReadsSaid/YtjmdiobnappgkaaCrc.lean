/-
  The walks of layer 10 (crc): On, Of, Put, and the document's answers.
-/
import Derived.Test.YtjmdiobnappgkaaCrcTab
namespace Go.Proofs.Ytjmdiobnappgkaa
open Go.RowKit
set_option linter.unusedVariables false
set_option linter.unusedSimpArgs false

theorem tabRow_one (k : Nat) : ∀ v ∈ (tabRow k).toList, v.oneCell' = true := by
  intro v hv
  simp only [tabRow, List.mem_map] at hv
  obtain ⟨j, _, rfl⟩ := hv
  rfl

theorem tabRow16_get (k : Nat) (hk : k < 16) : (tabRow 16)[k]? = some (.int .u32 (tabN k)) := by simp [tabRow, hk]
theorem flip_int (n : Nat) (h : n < 4294967296) : bits .xor .u32 IntKind.u32.max (n : Int) = ((4294967295 - n : Nat) : Int) := by
  have := u32_xor_nat 4294967295 n (by omega) h
  rw [CrcM.flip_xor n h, ← this]; rfl
theorem low_int (m c : Nat) (hm : m < 4294967296) (hc : c < 256) : bits .xor .u32 (m : Int) (c : Int) = ((m ^^^ c : Nat) : Int) := u32_xor_nat m c hm (by omega)
theorem half_int (m : Nat) (hm : m < 4294967296) : bits .xor .u32 ((m : Int) / 16) (tabN (m % 16) : Int) = ((CrcM.step4 m : Nat) : Int) := by
  have h1 : tabN (m % 16) < 4294967296 := CrcM.step4_lt _ (by omega)
  have := u32_xor_nat (m / 16) (tabN (m % 16)) (by omega) h1
  rw [show ((m / 16 : Nat) : Int) = (m : Int) / 16 by omega] at this
  rw [this, CrcM.step4_tab m]; rfl
theorem run_snoc (m : Nat) (l : List UInt8) (c : UInt8) : CrcM.run m (l ++ [c]) = CrcM.step4 (CrcM.step4 (CrcM.run m l ^^^ c.toNat)) := by simp [CrcM.run, CrcM.byte, CrcM.step8]
theorem take_snoc (s : ByteArray) (k : Nat) (h : k < s.size) : s.data.toList.take (k + 1) = s.data.toList.take k ++ [s[k]] := by
  rw [List.take_succ_eq_append_getElem (by simpa using h)]; rfl

set_option maxRecDepth 100000 in
set_option maxHeartbeats 400000 in
theorem on_any (n : Nat) (hn : n < 4294967296) (s : ByteArray) (hs : s.size ≤ 140737488351232) (w : World) :
    Calls Try.prog 25 #[.int .u32 n, .string s] w fun e w' => e = .returned (.int .u32 (CrcM.on n s.data.toList)) ∧ Below w.heap.size w w' := by
  have hflip := flip_int n hn
  go_enter Try.func25, Try.ntmps25
  go_wp2_with fail
  refine (table_any _).mono ?_
  rintro e w1 ⟨rfl, hb1⟩
  have hz := hb1.size
  have hst := run_storeCells_new (P := Try.prog) w1 (tabRow 0) 111 (tabRow 16).toList (by simp [tabRow]) (tabRow_one 16)
  rw [tabRow_0, Array.toArray_toList] at hst
  have htz := tabRow_size 16
  have hget := Lib.hid tabRow16_get
  generalize tabRow 16 = tb at *
  obtain ⟨cap, w2, hconv, hb2, hz2, hcap, hcells⟩ := conv_bytes (P := Try.prog) (w1.alloc (.cells tb 111)) 9 30 5 s Try.underlying9 Try.underlying30 Try.underlying5
  have hb : Below w.heap.size w w2 := (hb1.alloc hz _).trans (hb2.mono (by simp; omega))
  have htab : ∀ k, k < 16 → w2.cell? ⟨w1.heap.size, k, none⟩ = some (.int .u32 (tabN k)) := by
    intro k hk
    rw [hb2.cell (by simp), cell_of_row _ _ _ _ _ _ (heap_alloc_new w1 _)]
    exact hget.out k hk
  have Htab := Lib.hid htab; clear htab
  have Hcells := Lib.hid hcells; clear hcells
  have Hz2 := Lib.hid hz2; clear hz2
  have hm0 : 4294967295 - n < 4294967296 := by omega
  go_wp2
  generalize hm : 4294967295 - n = m0 at *
  have Hm := Lib.hid hm; clear hm
  clear hconv hst
  go_loop [6, 15] (fun v i => ∃ k : Nat, k ≤ s.size ∧ i = .int .i64 k ∧ v = .int .u32 (CrcM.run m0 (s.data.toList.take k))) (fun _ i => s.size - (intOf i).toNat)
  case atStart => exact ⟨0, by omega, rfl, rfl⟩
  case round =>
    obtain ⟨k, hk, rfl, rfl⟩ := hrel
    have hlt1 := CrcM.run_lt (s.data.toList.take k) m0 hm0
    have hsn := run_snoc m0 (s.data.toList.take k)
    generalize hr : CrcM.run m0 (s.data.toList.take k) = r at *
    have Hr := Lib.hid hr; clear hr
    have Hsn := Lib.hid hsn; clear hsn
    by_cases hlt : k < s.size
    · have hc : w2.cell? ⟨w1.heap.size + 1, k, none⟩ = some (.int .u8 (s[k].toNat : Int)) := by simpa using Hcells.out k hlt
      have hbyte : s[k].toNat < 256 := s[k].toNat_lt
      have Hts := Lib.hid (take_snoc s k hlt)
      generalize s[k] = c at *
      have hx1 := low_int r c.toNat hlt1 hbyte
      have hxl : r ^^^ c.toNat < 4294967296 := Nat.xor_lt_two_pow (n := 32) hlt1 (by omega)
      have Hsn' := Lib.hid (Hsn.out c)
      generalize r ^^^ c.toNat = x at *
      have ht1 := Htab.out (x % 16) (by omega)
      have hh1 := half_int x hxl
      have hyl := CrcM.step4_lt x hxl
      generalize CrcM.step4 x = y at *
      have ht2 := Htab.out (y % 16) (by omega)
      have hh2 := half_int y hyl
      generalize CrcM.step4 y = z at *
      go_wp2
      go_round
      case rel => exact ⟨k + 1, by omega, by go_num, by rw [Hts.out, Hsn'.out]⟩
      case measure => simp [intOf]; omega
    · obtain rfl : k = s.size := by omega
      have hfl := flip_int r hlt1
      have he : CrcM.on n s.data.toList = 4294967295 - r := by
        rw [CrcM.on, Hm.out, ← Hr.out, List.take_of_length_le (by simp)]
      have He := Lib.hid he; clear he
      go_wp2
      go_ret
      exact ⟨by rw [He.out]; rfl, hb⟩

set_option maxRecDepth 100000 in
set_option maxHeartbeats 400000 in
theorem of_any (s : ByteArray) (hs : s.size ≤ 140737488351232) (w : World) :
    Calls Try.prog 23 #[.string s] w fun e w' => e = .returned (.int .u32 (CrcM.on 0 s.data.toList)) ∧ Below w.heap.size w w' := by
  go_enter Try.func23, Try.ntmps23
  go_wp2_with fail
  refine (on_any 0 (by omega) s hs _).mono ?_
  rintro e w1 ⟨rfl, hb1⟩
  go_wp2
  go_ret
  exact ⟨rfl, hb1⟩
end Go.Proofs.Ytjmdiobnappgkaa
