/-
  Layer 2 (sha): ShaLong walked.
-/
import Derived.Test.YtkdajlhmodmkoaaDoorShaL1
import Derived.Test.YtkdajlhmodmkoaaDoorShaO2
namespace Go.Proofs.YtkdajlhmodmkoaaDoor
open Go.RowKit
set_option linter.unusedVariables false
set_option linter.unusedSimpArgs false

theorem byte_val (z : Int) : #[Value.int .u8 (z % 256)].toList = bvals [UInt8.ofNat (z % 256).toNat] := by
  have h : ((UInt8.ofNat (z % 256).toNat).toNat : Int) = z % 256 := by simp; omega
  simp only [bvals, List.map_cons, List.map_nil]
  rw [h]
theorem u8_nat {x : Int} (h : (Lit.int .u8 x).wf = true) : ∃ n : Nat, n < 256 ∧ x = (n : Int) := by
  simp [Lit.wf, IntKind.min, IntKind.max, IntKind.signed, IntKind.bits] at h
  exact ⟨x.toNat, by omega, by omega⟩
set_option maxRecDepth 100000 in
set_option maxHeartbeats 4000000 in
theorem shaLong_walk (c : Int) (hc : (Lit.int .u8 c).wf = true) (n : Int) (hn : (Lit.int .u8 n).wf = true) {w : World} (hT : Tab w) :
    Calls Tryd.prog 7 #[.int .u8 c, .int .u8 n] w fun e w' => e = .returned (.bool true) ∧ Below w.heap.size w w' := by
  obtain ⟨C, hC, rfl⟩ := u8_nat hc
  obtain ⟨M, hM, rfl⟩ := u8_nat hn
  have HT0 := Lib.hid hT; clear hT hc hn
  obtain ⟨r, hr⟩ : ∃ r : Nat, M % 91 = r := ⟨_, rfl⟩
  have hr1 : r < 91 := by omega
  have hrem : (M : Int) % 91 = (r : Int) := by omega
  have hrem2 : (M : Int).tmod 91 = (r : Int) := by rw [Int.tmod_eq_emod_of_nonneg (by omega)]; omega
  have hwr : IntKind.i64.wrap (50 + (r : Int)) = 50 + (r : Int) := IntWalk.i64_in _ (by omega)
  obtain ⟨i5, hj, hy0, hy1, hy2⟩ := info_parts winfo5
  have H0 : Hid (BdW w (w.alloc (.cells #[] 5)) (.slice (some ⟨w.heap.size, 0, none⟩) 0 0) []) := Lib.hid (BdW.new (Below.refl _ _))
  clear hr
  go_enter Tryd.func7, Tryd.ntmps7
  go_wp2
  go_loopw [5, 6] (fun v i wx => ∃ (k : Nat) (l : List UInt8), k ≤ 50 + r ∧ i = .int .i64 (k : Int) ∧ l.length = k ∧ BdW w wx v l) (fun _ i _ => 50 + r - (intOf i).toNat)
  case atStart => exact ⟨0, [], by omega, rfl, rfl, H0.out⟩
  case round =>
    clear H0
    obtain ⟨k, l, hk, rfl, hl, hbd⟩ := hrel
    have hw2 : IntKind.i64.wrap (k : Int) = (k : Int) := IntWalk.i64_in _ (by omega)
    by_cases hlt : k < 50 + r
    · have hlt2 : (k : Int) < 50 + (r : Int) := by omega
      have hown := hbd.own
      rw [hl] at hown
      have Hbd := Lib.hid hbd; clear hbd
      go_wp2_with (refine wpList_appendN rfl _ _ 40 rfl w.heap.size 5 i5 (.int .u8 0) 1 Tryd.underlying40 hj hy0 hy1 hy2 rfl _ _ _ rfl (own_alloc' hown _) wr.heap.size 1 rfl _ _ _ (heap_alloc_new wr _) rfl (by decide) (by intro u hu; simp at hu; rcases hu with rfl; rfl) (by unfold maxLen; omega) (by omega) (by have := Hbd.out.bel.size; simp; omega) ?_; intro v' w3 hown3 hg3 hv3)
      have Hn : Hid (∃ l', l'.length = k + 1 ∧ BdW w w3 v' l') := Lib.hid ⟨_, by rw [List.length_append, hl]; rfl, Hbd.out.append (m := [UInt8.ofNat (((C : Int) + (k : Int)) % 256).toNat]) (j := 1) (alloc_below' wr _) hl rfl hown3 hg3 (byte_val _)⟩
      clear hown3 hg3 hv3 hown
      obtain ⟨l', hl', hbd'⟩ := Hn.out
      have Hbd' := Lib.hid hbd'
      clear hbd' Hbd
      go_wp2
      go_roundw
      case rel => exact ⟨k + 1, l', by omega, by go_num, hl', Hbd'.out⟩
      case measure => simp [intOf]; omega
    · have hlt2 : ¬ (k : Int) < 50 + (r : Int) := by omega
      rename World => wx
      have hconv : Hid (∀ wq, Below wx.heap.size wx wq → (convert 40 9 u5).run Tryd.prog wq = .ok (.string ⟨l.toArray⟩) wq) := Lib.hid fun wq hq => conv_own (P := Tryd.prog) Tryd.underlying40 Tryd.underlying5 Tryd.underlying9 (hbd.below hq).own
      have hsz : Hid ((⟨l.toArray⟩ : ByteArray).size = l.length) := Lib.hid (by show l.toArray.size = _; simp)
      have HW := Lib.hid hbd.bel
      have HT := Lib.hid (HT0.out.below hbd.bel)
      clear hbd
      go_upto_region 6 with fail
      refine wp_region_T (n := 10) (S := fun wq => Below wx.heap.size wx wq) (by kernel_rfl) (by kernel_rfl) (below_drewN' (Below.refl _ _) 1) (fun hHeld => ?_)
      refine WalkT.take (i := 0) (oi := _) (v := ?vz1) rfl (by decide) (by kernel_rfl) (by kernel_rfl) (fun _ _ _ h => h) (Or.inl ⟨by rfl, ?hyz1⟩) (by assumption) ?rz1
      case hyz1 => (intro wq hSw; go_simp; try (with_reducible rfl))
      try simp only [Act.put, List.setIfInBounds_toArray, List.set_cons_zero, List.set_cons_succ]
      refine WalkT.take (i := 1) (oi := _) (v := ?vz2) rfl (by decide) (by kernel_rfl) (by kernel_rfl) (fun _ _ _ h => h) (Or.inl ⟨by rfl, ?hyz2⟩) (by assumption) ?rz2
      case hyz2 => (intro wq hSw; have hcv := hconv.out wq hSw; go_simp; try (with_reducible rfl))
      try simp only [Act.put, List.setIfInBounds_toArray, List.set_cons_zero, List.set_cons_succ]
      refine WalkT.take (i := 3) (oi := _) (v := ?vz3) rfl (by decide) (by kernel_rfl) (by kernel_rfl) (fun _ _ _ h => h) (Or.inl ⟨by rfl, ?hyz3⟩) (by assumption) ?rz3
      case hyz3 => (intro wq hSw; go_simp; try (with_reducible rfl))
      try simp only [Act.put, List.setIfInBounds_toArray, List.set_cons_zero, List.set_cons_succ]
      refine WalkT.take (i := 4) (oi := _) (v := ?vz4) rfl (by decide) (by kernel_rfl) (by kernel_rfl) (fun _ _ _ h => h) (Or.inl ⟨by rfl, ?hyz4⟩) (by assumption) ?rz4
      case hyz4 => (intro wq hSw; have hcv := hconv.out wq hSw; go_simp; try (with_reducible rfl))
      try simp only [Act.put, List.setIfInBounds_toArray, List.set_cons_zero, List.set_cons_succ]
      refine WalkT.one (i := 2) (o := ?oz5) (by kernel_rfl) (by decide) ?hoz5 ?hkz5
      case hoz5 => (simp only [List.getElem?_toArray, List.getElem?_cons_succ, List.getElem?_cons_zero]; exact rfl)
      intro K hK
      go_simp
      refine (sum_any (HT.out.below hHeld) _ (by rw [hsz.out]; omega)).mono ?_
      rintro e x2 ⟨rfl, hb⟩
      have hS2 : Below wx.heap.size wx x2 := Below.trans hHeld (Below.mono hb (Below.size hHeld))
      clear hb hHeld
      go_simp
      refine hK.out _ _ hS2 (fun hHeld => ?_)
      clear hS2
      clear hK K
      try simp only [Act.put, List.setIfInBounds_toArray, List.set_cons_zero, List.set_cons_succ]
      refine WalkT.one (i := 5) (o := ?oz6) (by kernel_rfl) (by decide) ?hoz6 ?hkz6
      case hoz6 => (simp only [List.getElem?_toArray, List.getElem?_cons_succ, List.getElem?_cons_zero]; exact rfl)
      intro K hK
      go_simp
      refine (rsumB _ (by rw [hsz.out]; omega) _).mono ?_
      rintro e x5 ⟨rfl, hb⟩
      have hS5 : Below wx.heap.size wx x5 := Below.trans hHeld (Below.mono hb (Below.size hHeld))
      clear hb hHeld
      go_simp
      refine hK.out _ _ hS5 (fun hHeld => ?_)
      clear hS5
      clear hK K
      try simp only [Act.put, List.setIfInBounds_toArray, List.set_cons_zero, List.set_cons_succ]
      refine WalkT.take (i := 6) (oi := _) (v := ?vz7) rfl (by decide) (by kernel_rfl) (by kernel_rfl) (fun _ _ _ h => h) (Or.inl ⟨by rfl, ?hyz7⟩) (by assumption) ?rz7
      case hyz7 => (intro wq hSw; go_simp; try (with_reducible rfl))
      try simp only [Act.put, List.setIfInBounds_toArray, List.set_cons_zero, List.set_cons_succ]
      refine WalkT.take (i := 7) (oi := _) (v := ?vz8) rfl (by decide) (by kernel_rfl) (by kernel_rfl) (fun _ _ _ h => h) (Or.inl ⟨by rfl, ?hyz8⟩) (by assumption) ?rz8
      case hyz8 => (intro wq hSw; go_simp; try (with_reducible rfl))
      try simp only [Act.put, List.setIfInBounds_toArray, List.set_cons_zero, List.set_cons_succ]
      refine WalkT.one (i := 8) (o := ?oz9) (by kernel_rfl) (by decide) ?hoz9 ?hkz9
      case hoz9 => (simp only [List.getElem?_toArray, List.getElem?_cons_succ, List.getElem?_cons_zero]; exact rfl)
      intro K hK
      go_simp
      refine (fixed_any (HT.out.below hHeld)).mono ?_
      rintro e x8 ⟨rfl, hb⟩
      have hS8 : Below wx.heap.size wx x8 := Below.trans hHeld (Below.mono hb (Below.size hHeld))
      clear hb hHeld
      go_simp
      refine hK.out _ _ hS8 (fun hHeld => ?_)
      clear hS8
      clear hK K
      try simp only [Act.put, List.setIfInBounds_toArray, List.set_cons_zero, List.set_cons_succ]
      refine WalkT.take (i := 9) (oi := _) (v := ?vz10) rfl (by decide) (by kernel_rfl) (by kernel_rfl) (fun _ _ _ h => h) (Or.inl ⟨by rfl, ?hyz10⟩) (by assumption) ?rz10
      case hyz10 => (intro wq hSw; go_simp; try (with_reducible rfl))
      try simp only [Act.put, List.setIfInBounds_toArray, List.set_cons_zero, List.set_cons_succ]
      refine WalkT.tail (by kernel_rfl) ?_
      have Hend := Lib.hid (Below.trans HW.out (Below.mono hHeld HW.out.size)); clear hHeld
      simp only [List.drop_succ_cons, List.drop_zero]
      go_wp2
      go_ret
      exact ⟨rfl, Hend.out⟩
end Go.Proofs.YtkdajlhmodmkoaaDoor
