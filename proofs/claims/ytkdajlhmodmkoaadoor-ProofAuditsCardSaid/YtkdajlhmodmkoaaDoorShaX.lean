/-
  Layer 2 (sha): Hex walked.
-/
import Derived.Test.YtkdajlhmodmkoaaDoorShaB
namespace Go.Proofs.YtkdajlhmodmkoaaDoor
open Go.RowKit
set_option linter.unusedVariables false
set_option linter.unusedSimpArgs false
theorem digs_at : ∀ n, n < 16 → digs.data.toList.getD n 0 = ShaM.digit n := by decide
theorem digs_idx (n : Nat) (h : n < 16) : (⟨#[48, 49, 50, 51, 52, 53, 54, 55, 56, 57, 97, 98, 99, 100, 101, 102]⟩ : ByteArray)[n]'(by exact h) = ShaM.digit n := by
  rw [← digs_at n h, List.getD_eq_getElem?_getD, List.getElem?_eq_getElem (by exact h)]; rfl

set_option maxRecDepth 100000 in
set_option maxHeartbeats 1000000 in
theorem hex_any (s : ByteArray) (hs : s.size ≤ 100000000) (w : World) : Calls Tryd.prog 26 #[.string s] w fun e w' => e = .returned (.string ⟨(ShaM.hex s.data.toList).toArray⟩) ∧ Below w.heap.size w w' := by
  obtain ⟨i5, hj, hy0, hy1, hy2⟩ := info_parts winfo5
  obtain ⟨cap, w2, hconv, hb2, hz2, hcap, hcells⟩ := conv_bytes (P := Tryd.prog) w 9 40 5 s Tryd.underlying9 Tryd.underlying40 Tryd.underlying5
  have H0 : Hid (BdW w w2 (.slice none 0 0) []) := Lib.hid (BdW.nil hb2)
  have Hc : Hid (w.heap.size < w2.heap.size ∧ ∀ i (h : i < s.size), w2.cell? ⟨w.heap.size, i, none⟩ = some (.int .u8 (s[i].toNat : Int))) := Lib.hid ⟨by omega, hcells⟩
  clear hb2 hz2 hcells
  go_enter Tryd.func26, Tryd.ntmps26
  go_wp2
  go_loopw [3, 5, 9] (fun v _ i wr => ∃ k : Nat, k ≤ s.size ∧ i = .int .i64 (k : Int) ∧ BdW w wr v (ShaM.hex (s.data.toList.take k)) ∧ v.ownBlock ≠ some w.heap.size ∧ w.heap.size < wr.heap.size ∧ ∀ i (h : i < s.size), wr.cell? ⟨w.heap.size, i, none⟩ = some (.int .u8 (s[i].toNat : Int))) (fun _ _ i _ => s.size - (intOf i).toNat)
  case atStart => exact ⟨0, by omega, rfl, H0.out, by simp [Value.ownBlock], Hc.out.1, Hc.out.2⟩
  case round =>
    clear H0 Hc hconv
    obtain ⟨k, hk, rfl, hbd, hnb0, hlt0, hcs⟩ := hrel
    by_cases hlt : k < s.size
    · have hc := hcs k hlt
      have Hts := Lib.hid (take_snoc s k hlt)
      have hsl : s.data.toList.length = s.size := by simp
      have hlen : (ShaM.hex (s.data.toList.take k)).length = 2 * k := by rw [ShaM.hex_length, List.length_take]; omega
      have hown := hbd.own
      rw [hlen] at hown
      generalize s[k] = c at *
      have hcl := c.toNat_lt
      have HNE := Lib.hid hnb0; clear hnb0; have Hbd := Lib.hid hbd; have Hcs := Lib.hid hcs; have Hlen := Lib.hid hlen
      clear hbd hcs hlen hsl
      have w1 : IntKind.u8.wrap ((c.toNat : Int) / 16) = (c.toNat : Int) / 16 := IntWalk.u8_in _ (by omega)
      have b1 : (c.toNat : Int) / 16 < 16 := by omega
      have b1' : (0 : Int) ≤ (c.toNat : Int) / 16 := by omega
      have t1 : ((c.toNat : Int) / 16).toNat = c.toNat / 16 := by omega
      have m2 : (c.toNat : Int).tmod 16 = (c.toNat : Int) % 16 := Int.tmod_eq_emod_of_nonneg (by omega)
      have w2' : IntKind.u8.wrap ((c.toNat : Int) % 16) = (c.toNat : Int) % 16 := IntWalk.u8_in _ (by omega)
      have b2 : (c.toNat : Int) % 16 < 16 := by omega
      have b2' : (0 : Int) ≤ (c.toNat : Int) % 16 := by omega
      have t2 : ((c.toNat : Int) % 16).toNat = c.toNat % 16 := by omega
      go_wp2
      refine wp_region_held_drew (S := fun _ => True) (by kernel_rfl) trivial (fun hHeld => ?_)
      refine wpAnyH_take (i := 0) (oi := _) (v := ?v0) rfl (by kernel_rfl) (by kernel_rfl) (by kernel_rfl) (fun _ _ _ h => h) (Or.inl ⟨by rfl, ?h0⟩) (by assumption) ?r0
      case h0 => (intro wq hSw; go_simp; try (with_reducible rfl))
      try simp only [Act.put, List.setIfInBounds_toArray, List.set_cons_zero, List.set_cons_succ]
      refine wpAnyH_take (i := 1) (oi := _) (v := ?v1) rfl (by kernel_rfl) (by kernel_rfl) (by kernel_rfl) (fun _ _ _ h => h) (Or.inl ⟨by rfl, ?h1⟩) (by assumption) ?r1
      case h1 => (intro wq hSw; go_simp; try (with_reducible rfl))
      try simp only [Act.put, List.setIfInBounds_toArray, List.set_cons_zero, List.set_cons_succ]
      refine wpAnyH_take (i := 2) (oi := _) (v := ?v2) rfl (by kernel_rfl) (by kernel_rfl) (by kernel_rfl) (fun _ _ _ h => h) (Or.inl ⟨by rfl, ?h2⟩) (by assumption) ?r2
      case h2 => (intro wq hSw; go_simp; try (with_reducible rfl))
      try simp only [Act.put, List.setIfInBounds_toArray, List.set_cons_zero, List.set_cons_succ]
      refine wpAnyH_take (i := 3) (oi := _) (v := ?v3) rfl (by kernel_rfl) (by kernel_rfl) (by kernel_rfl) (fun _ _ _ h => h) (Or.inl ⟨by rfl, ?h3⟩) (by assumption) ?r3
      case h3 => (intro wq hSw; go_simp; try (with_reducible rfl))
      try simp only [Act.put, List.setIfInBounds_toArray, List.set_cons_zero, List.set_cons_succ]
      refine wpAnyH_take (i := 4) (oi := _) (v := ?v4) rfl (by kernel_rfl) (by kernel_rfl) (by kernel_rfl) (fun _ _ _ h => h) (Or.inl ⟨by rfl, ?h4⟩) (by assumption) ?r4
      case h4 => (intro wq hSw; go_simp; try (with_reducible rfl))
      try simp only [Act.put, List.setIfInBounds_toArray, List.set_cons_zero, List.set_cons_succ]
      refine wpAnyH_take (i := 5) (oi := _) (v := ?v5) rfl (by kernel_rfl) (by kernel_rfl) (by kernel_rfl) (fun _ _ _ h => h) (Or.inl ⟨by rfl, ?h5⟩) (by assumption) ?r5
      case h5 => (intro wq hSw; go_simp; try (with_reducible rfl))
      try simp only [Act.put, List.setIfInBounds_toArray, List.set_cons_zero, List.set_cons_succ]
      refine wpAnyH_take (i := 6) (oi := _) (v := ?v6) rfl (by kernel_rfl) (by kernel_rfl) (by kernel_rfl) (fun _ _ _ h => h) (Or.inl ⟨by rfl, ?h6⟩) (by assumption) ?r6
      case h6 => (intro wq hSw; go_simp; try (with_reducible rfl))
      try simp only [Act.put, List.setIfInBounds_toArray, List.set_cons_zero, List.set_cons_succ]
      refine wpAnyH_ready (rs := [7]) (by kernel_rfl) (by simp) (AllReadyH.cons rfl (fun K hK => ?_) AllReadyH.nil)
      go_simp
      refine hK.out _ _ (by first | trivial | assumption) (fun hHeld => ?_)
      clear hK K
      try simp only [Act.put, List.setIfInBounds_toArray, List.set_cons_zero, List.set_cons_succ]
      refine wpAnyH_ready (rs := [8]) (by kernel_rfl) (by simp) (AllReadyH.cons rfl (fun K hK => ?_) AllReadyH.nil)
      (refine step_appendN rfl _ _ 40 rfl w.heap.size 5 i5 (.int .u8 0) 1 Tryd.underlying40 hj hy0 hy1 hy2 rfl _ _ _ rfl (own_alloc' hown _).drew wr.heap.size 2 rfl _ _ _ (heap_alloc_new wr _) rfl (by decide) (by intro u hu; simp at hu; rcases hu with rfl | rfl <;> rfl) (by unfold maxLen; omega) (by omega) (by have := Hbd.out.bel.size; simp; omega) ?_; intro v' w3 hown3 hg3 hv3)
      refine hK.out _ _ (by first | trivial | assumption) (fun hHeld => ?_)
      clear hK K
      try simp only [Act.put, List.setIfInBounds_toArray, List.set_cons_zero, List.set_cons_succ]
      refine wpAnyH_ready (rs := [9]) (by kernel_rfl) (by simp) (AllReadyH.cons rfl (fun K hK => ?_) AllReadyH.nil)
      go_simp
      refine hK.out _ _ (by first | trivial | assumption) (fun hHeld => ?_)
      clear hK K
      try simp only [Act.put, List.setIfInBounds_toArray, List.set_cons_zero, List.set_cons_succ]
      refine wpAnyH_done (by kernel_rfl) ?_ _
      have Hn : Hid (BdW w w3 v' (ShaM.hex (s.data.toList.take (k + 1)))) := Lib.hid (by
        rw [Hts.out, hex_snoc]
        exact Hbd.out.append ((alloc_below' wr _).drew) Hlen.out rfl hown3 hg3 (by rw [digs_idx _ (by omega), digs_idx _ (by omega)]; rfl))
      have hnb : ∀ g, some w.heap.size = g → u3.ownBlock ≠ g := fun g hg h => HNE.out (h.trans hg.symm)
      have Hcn : Hid (w.heap.size < w3.heap.size ∧ ∀ i (h : i < s.size), w3.cell? ⟨w.heap.size, i, none⟩ = some (.int .u8 (s[i].toNat : Int))) := Lib.hid ⟨by have := hg3.size; simp at this; omega, fun i hi => (World.cell?_congr (hg3.block w.heap.size (by simp; omega) (fun e => hnb _ rfl e.symm))).trans ((World.cell?_congr (Below.heap_alloc wr _ w.heap.size hlt0)).trans (Hcs.out i hi))⟩
      have Hnb2 : Hid (v'.ownBlock ≠ some w.heap.size) := Lib.hid (by
        rcases hv3 with e | e
        · rw [e]; exact HNE.out
        · rw [e]; simp; omega)
      clear hown3 hg3 hv3 hown hc Hbd Hcs hnb
      go_wp2
      go_roundw
      case rel => exact ⟨k + 1, by omega, by go_num, Hn.out, Hnb2.out, Hcn.out.1, Hcn.out.2⟩
      case measure => simp [intOf]; omega
    · obtain rfl : k = s.size := by omega
      have hcv := conv_own (P := Tryd.prog) Tryd.underlying40 Tryd.underlying5 Tryd.underlying9 hbd.own
      rw [List.take_of_length_le (by simp)] at hcv
      have Hbl := Lib.hid hbd.bel
      clear hbd hcs
      go_wp2
      go_ret
      exact ⟨rfl, Hbl.out⟩
end Go.Proofs.YtkdajlhmodmkoaaDoor
