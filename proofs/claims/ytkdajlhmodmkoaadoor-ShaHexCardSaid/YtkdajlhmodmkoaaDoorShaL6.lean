/-
  Layer 2 (sha): ShaHex walked.
-/
import Derived.Test.YtkdajlhmodmkoaaDoorShaL1
namespace Go.Proofs.YtkdajlhmodmkoaaDoor
open Go.RowKit
set_option linter.unusedVariables false
set_option linter.unusedSimpArgs false

theorem hexB_data (s : ByteArray) : (hexB s).data.toList = ShaM.hex s.data.toList := rfl
theorem hexB_size (s : ByteArray) : (hexB s).size = 2 * s.size := by rw [ba_size, hexB_data, ShaM.hex_length, ba_size]
theorem hexB_append (s t : ByteArray) : hexB (s ++ t) = hexB s ++ hexB t := by
  apply ba_eq; rw [hexB_data, ba_append, ba_append, hexB_data, hexB_data, ShaM.hex_append]
theorem hexB_inj {s t : ByteArray} (h : hexB s = hexB t) : s = t := by
  apply ba_eq; apply ShaM.hex_inj; rw [← hexB_data, h, hexB_data]
theorem hexB_ok (s : ByteArray) (k : Nat) (h : k < (hexB s).size) : (48 ≤ (hexB s)[k].toNat ∧ (hexB s)[k].toNat ≤ 57) ∨ (97 ≤ (hexB s)[k].toNat ∧ (hexB s)[k].toNat ≤ 102) := by
  apply ShaM.hex_ok s.data.toList
  rw [← hexB_data]
  exact List.mem_of_getElem (i := k) (h := by simpa using h) rfl
theorem str_ne {s t : ByteArray} (h : s ≠ t) : (s.toList == t.toList) = false := by
  rw [beq_eq_false_iff_ne, ByteArray.toList_eq, ByteArray.toList_eq]; exact fun e => h (ba_eq e)

set_option maxRecDepth 100000 in
set_option maxHeartbeats 4000000 in
theorem shaHex_walk (a : ByteArray) (ha : a.size ≤ maxLen) (b : ByteArray) (hb : b.size ≤ maxLen) {w : World} (hT : Tab w) :
    Calls Tryd.prog 6 #[.string a, .string b] w fun e w' => e = .returned (.bool true) ∧ Below w.heap.size w w' := by
  obtain ⟨m, -, h0, h1, h2, h3, hmin⟩ := cut_min a 200 200 rfl
  obtain ⟨n, -, k0, k1, k2, k3, kmin⟩ := cut_min b 200 200 rfl
  have hx := ext_le a m; have hy := ext_le b n
  have HT := Lib.hid hT; clear hT
  go_enter Tryd.func6, Tryd.ntmps6
  go_wp2
  go_still (by kernel_rfl)
  obtain ⟨x, hxe⟩ : ∃ x, a.extract 0 m = x := ⟨_, rfl⟩
  obtain ⟨y, hye⟩ : ∃ y, b.extract 0 n = y := ⟨_, rfl⟩
  rw [hxe] at hx; rw [hye] at hy
  rw [hxe, hye]
  clear hxe hye hmin kmin h0 h1 h2 k0 k1 k2
  go_wp2_with fail
  refine (hex_any' x (by omega) _).mono ?_
  rintro e w1 ⟨rfl, hb1⟩
  have HB : Hid (Below w.heap.size w w1) := Lib.hid (Below.trans (below_drewN' (Below.refl _ _) 1) (Below.mono hb1 (Nat.le_refl _)))
  clear hb1
  have hsz := hexB_size x
  have Hok := Lib.hid (hexB_ok x)
  obtain ⟨H, hH⟩ : ∃ H, hexB x = H := ⟨_, rfl⟩
  rw [hH] at hsz Hok ⊢
  have HH := Lib.hid hH; clear hH
  have hHb : H.size ≤ 400 := by omega
  have HSZ := Lib.hid hsz; clear hsz
  go_wp2
  go_loopw [8] (fun i wx => ∃ k : Nat, k ≤ H.size ∧ i = .int .i64 (k : Int) ∧ wx = w1) (fun i _ => H.size - (intOf i).toNat)
  case atStart => exact ⟨0, by omega, rfl, rfl⟩
  case round =>
    obtain ⟨k, hk, rfl, rfl⟩ := hrel
    by_cases hlt : k < H.size
    · have hc := Hok.out k hlt
      have hi : (k : Int) < (H.size : Int) := by omega
      rcases hc with ⟨c1, c2⟩ | ⟨c1, c2⟩
      · have d1 : ¬ (H[k].toNat : Int) < 48 := by omega
        have d2 : ¬ 57 < (H[k].toNat : Int) := by omega
        have e1 : ¬ H[k].toNat < 48 := by omega
        have e2 : ¬ 57 < H[k].toNat := by omega
        clear c1 c2
        go_wp2
        go_roundw
        case rel => exact ⟨k + 1, by omega, by go_num, by trivial⟩
        case measure => simp [intOf]; omega
      · have d1 : ¬ (H[k].toNat : Int) < 48 := by omega
        have d2 : 57 < (H[k].toNat : Int) := by omega
        have d3 : ¬ (H[k].toNat : Int) < 97 := by omega
        have d4 : ¬ 102 < (H[k].toNat : Int) := by omega
        have e1 : ¬ H[k].toNat < 48 := by omega
        have e2 : 57 < H[k].toNat := by omega
        have e3 : ¬ H[k].toNat < 97 := by omega
        have e4 : ¬ 102 < H[k].toNat := by omega
        clear c1 c2
        go_wp2
        go_roundw
        case rel => exact ⟨k + 1, by omega, by go_num, by trivial⟩
        case measure => simp [intOf]; omega
    · obtain rfl : k = H.size := by omega
      have hsz := HSZ.out
      have hq : ((H.size : Int) == 2 * (x.size : Int)) = true := by rw [beq_iff_eq]; omega
      have hwr : IntKind.i64.wrap (2 * (x.size : Int)) = 2 * (x.size : Int) := IntWalk.i64_in _ (by omega)
      have hcat : ¬ 9223372036854775807 < x.size + y.size := by omega
      have hcat2 : ∀ z : ByteArray, z.size = 2 * y.size → ¬ 9223372036854775807 < H.size + z.size := fun z hz => by omega
      clear Hok
      clear hsz
      by_cases hxy : x = y
      · subst hxy
        go_wp2_with fail
        refine (hex_any' x (by omega) _).mono ?_
        rintro e w2 ⟨rfl, hb2⟩
        rw [HH.out]
        have hcat3 := hcat2 H HSZ.out
        have HB2 := Lib.hid (HB.out.trans (hb2.mono HB.out.size)); clear hb2 HB
        go_wp2_with fail
        refine (hex_any' (x ++ x) (by simp; omega) _).mono ?_
        rintro e w3 ⟨rfl, hb3⟩
        rw [hexB_append, HH.out]
        have HB3 := Lib.hid (HB2.out.trans (hb3.mono HB2.out.size)); clear hb3 HB2
        go_wp2_with fail
        refine (hex_any' x (by omega) _).mono ?_
        rintro e w4 ⟨rfl, hb4⟩
        rw [HH.out]
        have HB4 := Lib.hid (HB3.out.trans (hb4.mono HB3.out.size)); clear hb4 HB3
        go_wp2_with fail
        refine (fixed_any (HT.out.below HB4.out)).mono ?_
        rintro e w5 ⟨rfl, hb5⟩
        have HB5 := Lib.hid (HB4.out.trans (hb5.mono HB4.out.size)); clear hb5 HB4
        go_wp2
        go_ret
        exact ⟨rfl, HB5.out⟩
      · have hne := str_ne hxy
        have hne2 : (H.toList == (hexB y).toList) = false := str_ne (by rw [← HH.out]; exact fun e => hxy (hexB_inj e))
        have hcat3 := hcat2 (hexB y) (hexB_size y)
        obtain ⟨G, hG⟩ : ∃ G, hexB y = G := ⟨_, rfl⟩
        rw [hG] at hne2 hcat3
        have HG := Lib.hid hG; clear hG
        go_wp2_with fail
        refine (hex_any' y (by omega) _).mono ?_
        rintro e w2 ⟨rfl, hb2⟩
        rw [HG.out]
        have HB2 := Lib.hid (HB.out.trans (hb2.mono HB.out.size)); clear hb2 HB
        go_wp2_with fail
        refine (hex_any' (x ++ y) (by simp; omega) _).mono ?_
        rintro e w3 ⟨rfl, hb3⟩
        rw [hexB_append, HH.out, HG.out]
        have HB3 := Lib.hid (HB2.out.trans (hb3.mono HB2.out.size)); clear hb3 HB2
        go_wp2_with fail
        refine (hex_any' y (by omega) _).mono ?_
        rintro e w4 ⟨rfl, hb4⟩
        rw [HG.out]
        have HB4 := Lib.hid (HB3.out.trans (hb4.mono HB3.out.size)); clear hb4 HB3
        go_wp2_with fail
        refine (fixed_any (HT.out.below HB4.out)).mono ?_
        rintro e w5 ⟨rfl, hb5⟩
        have HB5 := Lib.hid (HB4.out.trans (hb5.mono HB4.out.size)); clear hb5 HB4
        go_wp2
        go_ret
        exact ⟨rfl, HB5.out⟩
end Go.Proofs.YtkdajlhmodmkoaaDoor
