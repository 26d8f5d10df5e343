/-
  Layer 8 (tree): Roots walked.
-/
import Derived.Test.YtkdajlhmodmkoaaDoorTF
namespace Go.Proofs.YtkdajlhmodmkoaaDoor
open Go.RowKit TreeM
set_option linter.unusedVariables false
set_option linter.unusedSimpArgs false

/-- The root of the first ones, of each number up to k. -/
def rootsL (L : List ByteArray) (k : Nat) : List ByteArray := (List.range (k + 1)).map fun i => root (L.take i)
theorem rootsL_length (L : List ByteArray) (k : Nat) : (rootsL L k).length = k + 1 := by simp [rootsL]
theorem rootsL_succ (L : List ByteArray) (k : Nat) : rootsL L (k + 1) = rootsL L k ++ [root (L.take (k + 1))] := by
  unfold rootsL; rw [List.range_succ, List.map_append]; rfl
theorem rootsL_zero (L : List ByteArray) : rootsL L 0 = [sumB ⟨#[]⟩] := rfl
theorem SOwn.made {base : Nat} {w : World} (l : List ByteArray) (hb : base ≤ w.heap.size) (hl : l.length ≤ maxLen) : SOwn base (w.alloc (.cells (svals l).toArray 9)) (.slice (some ⟨w.heap.size, 0, none⟩) l.length l.length) l := by
  exact ⟨by rw [svals_length, Nat.mul_one], .inr ⟨w.heap.size, l.length, (svals l).toArray, rfl, hb, heap_alloc_new w _, Nat.le_refl _, hl, by simp [svals_length], by rw [Nat.mul_one, List.take_of_length_le (by simp [svals_length])]⟩⟩
set_option maxRecDepth 100000 in
set_option maxHeartbeats 2000000 in
theorem roots_any {w : World} (hT : Tab w) (hBru : Bru w) {v : Value} {L : List ByteArray} (h : SRead w v L) (hs : ∀ s ∈ L, s.size ≤ 80000000) (hl : L.length < 1000000) :
    Calls Tryd.prog 36 #[v] w fun e w' => (∃ u, e = .returned u ∧ SOwn w.heap.size w' u (rootsL L L.length)) ∧ Below w.heap.size w w' := by
  have hw1 := alloc_below' w (.cells Z50 50)
  have hA : Blk (w.alloc (.cells Z50 50)) w.heap.size 50 Z50 := (Blk.new _ _ _)
  obtain ⟨i9, hj, hy0, hy1, hy2⟩ := info_parts winfo9
  obtain ⟨A, cap, rfl, hm, hc⟩ := id h
  have HA := Lib.hid hA; have Hw1 := Lib.hid hw1; have HT := Lib.hid hT; have HBru := Lib.hid hBru; have Hh := Lib.hid h; have Hc := Lib.hid hc; have Hs := Lib.hid hs
  clear hA hw1 hT hBru h hc hs hm
  go_enter Tryd.func36, Tryd.ntmps36
  go_wp2_with fail
  refine (sum_any (HT.out.below Hw1.out) ⟨#[]⟩ (by decide)).mono ?_
  rintro e w2 ⟨rfl, hb2⟩
  have hA2 : Blk w2 w.heap.size 50 Z50 := (hb2.block _ HA.out.lt).trans HA.out
  have hW2 := Hw1.out.trans (hb2.mono Hw1.out.size)
  have ho2 := SOwn.made (w := w2) [sumB ⟨#[]⟩] hW2.size (by unfold maxLen; decide)
  have hA2' := hA2.alloc (.cells (svals [sumB ⟨#[]⟩]).toArray 9)
  have hW2' := hW2.alloc hW2.size (.cells (svals [sumB ⟨#[]⟩]).toArray 9)
  have H0 := Lib.hid (And.intro hA2' (And.intro ho2 hW2'))
  clear hA2 hW2 ho2 hA2' hW2' hb2 HA Hw1
  go_wp2
  go_loopw [4, 14] (fun v i wr => ∃ (k : Nat) (u : Value), k ≤ L.length ∧ i = .int .i64 (k : Int) ∧ Blk wr w.heap.size 50 #[.int .u64 (k : Int), u] ∧ SOwn w.heap.size wr u (peaks (L.take k)) ∧ SOwn w.heap.size wr v (rootsL L k) ∧ Below w.heap.size w wr) (fun _ i _ => L.length - (intOf i).toNat)
  case atStart => exact ⟨0, .slice none 0 0, by omega, rfl, H0.out.1, SOwn.nil _ _, H0.out.2.1, H0.out.2.2⟩
  case round =>
    clear H0
    obtain ⟨k, u, hk, rfl, hB, hown, hro, hbel⟩ := hrel
    by_cases hlt : k < L.length
    · have l1 : (k : Int) < (L.length : Int) := by omega
      obtain ⟨b, o, rfl, -, hcell⟩ := Hc.out k hlt
      have hx : wr.cell? ⟨b, o + k, none⟩ = some (.string L[k]) := cell_belowB hbel rfl hcell
      have c0 := hB.cell 0; have c1 := hB.cell 1
      simp only [List.getElem?_toArray, List.getElem?_cons_succ, List.getElem?_cons_zero] at c0 c1
      have hlen : (L.take k).length = k := by rw [List.length_take]; omega
      have hlen1 : (L.take (k + 1)).length = k + 1 := by rw [List.length_take]; omega
      have htk : L.take k ++ [L[k]] = L.take (k + 1) := (List.take_succ_eq_append_getElem hlt).symm
      have hsz := Hs.out L[k] (List.getElem_mem hlt)
      generalize L[k] = S at *
      have HB := Lib.hid hB; have Hown := Lib.hid hown; have Hbel := Lib.hid hbel; have Htk := Lib.hid htk; have Hlen := Lib.hid hlen; have Hlen1 := Lib.hid hlen1; have Hro := Lib.hid hro
      clear hB hown hbel htk hlen hlen1 hcell hro
      go_wp2_with fail
      have hpl := peaks_short (L.take k) (by rw [Hlen.out]; omega)
      have hp := peaks_push (HT.out.below Hbel.out) (HBru.out.below Hbel.out) (L.take k) (by rw [Hlen.out]; omega) (Hown.out.read hpl) S hsz
      rw [Hlen.out, Htk.out] at hp
      refine hp.mono ?_
      rintro e w3 ⟨⟨u3, rfl, ho3⟩, hb3⟩
      have hpl2 := peaks_short (L.take (k + 1)) (by rw [Hlen1.out]; omega)
      obtain ⟨A3, c3, hve, -, -⟩ := id (ho3.read hpl2)
      generalize (peaks (L.take (k + 1))).length = q at hve
      subst hve
      have hB3 : Blk w3 w.heap.size 50 #[.int .u64 (k : Int), u] := (hb3.block _ HB.out.lt).trans HB.out
      have hW3 := Hbel.out.trans (hb3.mono Hbel.out.size)
      have hro3 := Hro.out.below hb3
      have hne3 : ∀ k0, (Value.slice A3 q c3).ownBlock = some k0 → some k0 ≠ u4.ownBlock := by
        intro k0 h1 h2
        have := (ho3.lt k0 h1).1
        have := (Hro.out.lt k0 h2.symm).2
        omega
      have hown3 := SOwn.base ho3 Hbel.out.size
      have hown4 := hown3.two hB3 (.int .u64 ((k : Int) + 1)) (.slice A3 q c3)
      have hro4 := hro3.two hB3 (.int .u64 ((k : Int) + 1)) (.slice A3 q c3)
      have hB4 := blk_two hB3 (.int .u64 ((k : Int) + 1)) (.slice A3 q c3)
      have hW4 : Below w.heap.size w ((w3.setCell ⟨w.heap.size, 0, none⟩ (.int .u64 ((k : Int) + 1))).setCell ⟨w.heap.size, 1, none⟩ (.slice A3 q c3)) := (hW3.setCell (p := ⟨w.heap.size, 0, none⟩) (by simp) _).setCell (p := ⟨w.heap.size, 1, none⟩) (by simp) _
      have z0 := hB3.cell 0; have z1 := hB3.cell 1; have f0 := hB3.frozen 0; have f1 := hB3.frozen 1
      simp only [List.getElem?_toArray, List.getElem?_cons_succ, List.getElem?_cons_zero] at z0 z1
      have x0 := hB4.cell 0; have x1 := hB4.cell 1
      simp only [List.getElem?_toArray, List.getElem?_cons_succ, List.getElem?_cons_zero] at x0 x1
      have HN := Lib.hid (And.intro hB4 (And.intro hown4 (And.intro hro4 hW4)))
      clear hB4 hown4 hW4 hB3 hW3 hown3 ho3 hb3 HB Hown Hbel c0 c1 hpl hpl2 hp hro3 hro4 Hro
      have hpl := peaks_short (L.take (k + 1)) (by rw [Hlen1.out]; omega)
      go_wp2_with fail
      generalize ((w3.setCell ⟨w.heap.size, 0, none⟩ (.int .u64 ((k : Int) + 1))).setCell ⟨w.heap.size, 1, none⟩ (.slice A3 q c3)) = W4 at *
      have hp := peaks_topE (HT.out.below HN.out.2.2.2) (L.take (k + 1)) (by rw [Hlen1.out]; omega) (HN.out.2.1.read hpl)
      rw [Hlen1.out, show ((k + 1 : Nat) : Int) = (k : Int) + 1 by omega] at hp
      refine hp.mono ?_
      rintro e w5 ⟨rfl, hb5⟩
      have hB5 : Blk w5 w.heap.size 50 #[.int .u64 ((k : Int) + 1), .slice A3 q c3] := (hb5.block _ HN.out.1.lt).trans HN.out.1
      have hown5 := HN.out.2.1.below hb5
      have hro5 := HN.out.2.2.1.below hb5
      have hW5 := HN.out.2.2.2.trans (hb5.mono HN.out.2.2.2.size)
      have hsuc := rootsL_succ L k
      generalize root (L.take (k + 1)) = R at *
      have hro5' : w5.ownsRow w.heap.size 9 1 u4 (k + 1) (svals (rootsL L k)) := by have := hro5; unfold SOwn at this; rwa [rootsL_length] at this
      have hroA := own_alloc' hro5' (.cells #[.string R] 9)
      have hBA := hB5.alloc (.cells #[.string R] 9)
      have hownA : SOwn w.heap.size (w5.alloc (.cells #[.string R] 9)) (.slice A3 q c3) (peaks (L.take (k + 1))) := own_alloc' hown5 (.cells #[.string R] 9)
      have hWA := hW5.alloc hW5.size (.cells #[.string R] 9)
      have HBA := Lib.hid hBA; have HownA := Lib.hid hownA; have HWA := Lib.hid hWA; have Hsuc := Lib.hid hsuc; have Hne3 := Lib.hid hne3
      clear hB5 hown5 hro5 hW5 hsuc hro5' hBA hownA hWA hb5 hp HN hpl hne3 x0 x1 z0 z1 f0 f1
      go_wp2_with (at_builtin; refine wpList_appendN rfl _ _ 25 rfl w.heap.size 9 i9 (.string ⟨#[]⟩) 16 Tryd.underlying25 hj hy0 hy1 hy2 rfl _ _ _ rfl hroA w5.heap.size 1 rfl #[.string R] _ _ (heap_alloc_new _ _) rfl (by decide) (by intro u hu; simp at hu; rcases hu with rfl; rfl) (by unfold maxLen; omega) (by omega) HWA.out.size ?_)
      intro v' w6 ho hg hv
      have hB6 : Blk w6 w.heap.size 50 #[.int .u64 ((k : Int) + 1), .slice A3 q c3] := HBA.out.grown hg (fun e => by have := hroA.lt w.heap.size e.symm; exact own_blk_ne hroA HBA.out (by decide) e.symm)
      have hown6 : SOwn w.heap.size w6 (.slice A3 q c3) (peaks (L.take (k + 1))) := HownA.out.far fun k0 h0 => hg.block k0 (HownA.out.lt k0 h0).2 (Hne3.out k0 h0)
      have hro6 : SOwn w.heap.size w6 v' (rootsL L (k + 1)) := by unfold SOwn; rw [Hsuc.out, svals_append, List.length_append, rootsL_length]; exact ho
      have hW6 : Below w.heap.size w w6 := HWA.out.grown hg HWA.out.size (fun k hk => (hroA.lt k hk).1)
      have HM := Lib.hid (And.intro hB6 (And.intro hown6 (And.intro hro6 hW6)))
      clear hB6 hown6 hro6 hW6 ho hg hv hroA HBA HownA HWA Hsuc Hne3
      go_wp2
      go_roundw
      case rel => exact ⟨k + 1, .slice A3 q c3, by omega, by go_num, by have := HM.out.1; simpa using this, HM.out.2.1, HM.out.2.2.1, HM.out.2.2.2⟩
      case measure => simp [intOf]; omega
    · obtain rfl : k = L.length := by omega
      have l1 : ¬ (L.length : Int) < (L.length : Int) := by omega
      have HN := Lib.hid (And.intro hro hbel)
      clear hB hown hro hbel
      go_wp2
      go_ret
      exact ⟨⟨_, rfl, HN.out.1⟩, HN.out.2⟩
end Go.Proofs.YtkdajlhmodmkoaaDoor
