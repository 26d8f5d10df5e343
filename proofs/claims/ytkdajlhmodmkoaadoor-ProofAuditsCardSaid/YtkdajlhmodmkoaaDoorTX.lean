/-
  Layer 8 (tree): the statements' Cut walked.
-/
import Derived.Test.YtkdajlhmodmkoaaDoorTW
namespace Go.Proofs.YtkdajlhmodmkoaaDoor
open Go.RowKit TreeM
set_option linter.unusedVariables false
set_option linter.unusedSimpArgs false

/-- At most so many strings, each of at most 40 bytes. -/
def cut1 (s : ByteArray) : ByteArray := s.extract 0 (min s.size 40)
def cutL (L : List ByteArray) (most : Nat) : List ByteArray := (L.take most).map cut1
theorem cutL_length (L : List ByteArray) (most : Nat) : (cutL L most).length ≤ most := by unfold cutL; rw [List.length_map, List.length_take]; omega
theorem cutL_size (L : List ByteArray) (most : Nat) : ∀ s ∈ cutL L most, s.size ≤ 40 := by
  intro s hs
  obtain ⟨t, _, rfl⟩ := List.mem_map.1 hs
  have := ext_le t (min t.size 40)
  unfold cut1; omega
theorem cutL_succ {L : List ByteArray} {k : Nat} (h : k < L.length) : cutL L (k + 1) = cutL L k ++ [cut1 L[k]] := by
  unfold cutL; rw [List.take_succ_eq_append_getElem h, List.map_append]; rfl
set_option maxRecDepth 100000 in
set_option maxHeartbeats 2000000 in
theorem cut_any {w : World} {v : Value} {L : List ByteArray} (h : SRead w v L) (most : Nat) (hmost : most ≤ 1000) :
    Calls Tryd.prog 35 #[v, .int .i64 (most : Int)] w fun e w' => (∃ v', e = .returned v' ∧ SOwn w.heap.size w' v' (cutL L most)) ∧ Below w.heap.size w w' := by
  obtain ⟨A, cap, rfl, hm, hc⟩ := h
  have hlen : L.length ≤ 9223372036854775807 := hm
  obtain ⟨i9, hj, hy0, hy1, hy2⟩ := info_parts winfo9
  have Hc := Lib.hid hc
  have H0 : Hid (SOwn w.heap.size (w.alloc (.cells #[] 9)) (.slice (some ⟨w.heap.size, 0, none⟩) 0 0) [] ∧ Below w.heap.size w (w.alloc (.cells #[] 9))) := Lib.hid ⟨SOwn.new (Nat.le_refl _), alloc_below' w _⟩
  clear hc hm
  go_enter Tryd.func35, Tryd.ntmps35
  go_wp2
  go_loopw [5, 6] (fun u i wr => ∃ (k : Nat) (out : List ByteArray), k ≤ L.length ∧ k ≤ most ∧ i = .int .i64 (k : Int) ∧ out.length = k ∧ out = cutL L k ∧ SOwn w.heap.size wr u out ∧ Below w.heap.size w wr) (fun _ i _ => most - (intOf i).toNat)
  case atStart => exact ⟨0, [], by omega, by omega, rfl, rfl, rfl, H0.out.1, H0.out.2⟩
  case round =>
    clear H0
    obtain ⟨k, out, hk1, hk2, rfl, hol, hout, hown, hbel⟩ := hrel
    have Hout := Lib.hid hout; have Hbel := Lib.hid hbel
    clear hout hbel
    by_cases hlt : k < L.length ∧ k < most
    · obtain ⟨hlt1, hlt2⟩ := hlt
      obtain ⟨b, o, rfl, -, hcell⟩ := Hc.out k hlt1
      have hx : wr.cell? ⟨b, o + k, none⟩ = some (.string L[k]) := cell_belowB Hbel.out rfl hcell
      have hsu := cutL_succ hlt1
      have l1 : (k : Int) < (L.length : Int) := by omega
      have l2 : (k : Int) < (most : Int) := by omega
      generalize L[k] = S at *
      obtain ⟨q, hq, q0, q1, q2, q3, qmin⟩ := cut_min S 40 40 rfl
      obtain ⟨p, hp⟩ : ∃ p, S.extract 0 q = p := ⟨_, rfl⟩
      have Hst : Hid (out ++ [p] = cutL L (k + 1)) := Lib.hid (by rw [hsu, Hout.out, ← hp, hq]; rfl)
      have hown0 : wr.ownsRow w.heap.size 9 1 u5 k (svals out) := by have := hown; unfold SOwn at this; rwa [hol] at this
      have hsl : ∀ wx, (Instr.slice 9 (.string S) none (some (.int .i64 (q : Int))) none).run Tryd.prog wx = .ok (.string p) wx ∨ True := fun _ => .inr trivial
      clear hsl hcell hown hsu hq
      have hown := hown0; clear hown0
      go_wp2
      refine wp_region_T (n := 13) (S := fun wq => Below wr.heap.size wr wq) (by kernel_rfl) (by kernel_rfl) (below_drewN' (Below.refl _ _) 1) (fun hHeld => ?_)
      refine WalkT.take (i := 0) (oi := _) (v := ?vz1) rfl (by decide) (by kernel_rfl) (by kernel_rfl) (fun _ _ _ h => h) (Or.inl ⟨by kernel_rfl, ?hyz1⟩) (by assumption) ?rz1
      case hyz1 => (intro wq hSw; go_simp; try (with_reducible rfl))
      try simp only [Act.put, List.setIfInBounds_toArray, List.set_cons_zero, List.set_cons_succ]
      refine WalkT.take (i := 1) (oi := _) (v := ?vz2) rfl (by decide) (by kernel_rfl) (by kernel_rfl) (fun _ _ _ h => h) (Or.inl ⟨by kernel_rfl, ?hyz2⟩) (by assumption) ?rz2
      case hyz2 => (intro wq hSw; go_simp; try (with_reducible rfl))
      try simp only [Act.put, List.setIfInBounds_toArray, List.set_cons_zero, List.set_cons_succ]
      refine WalkT.take (i := 2) (oi := _) (v := ?vz3) rfl (by decide) (by kernel_rfl) (by kernel_rfl) (fun _ _ _ h => h) (Or.inl ⟨by kernel_rfl, ?hyz3⟩) (by assumption) ?rz3
      case hyz3 => (intro wq hSw; go_simp; try (with_reducible rfl))
      try simp only [Act.put, List.setIfInBounds_toArray, List.set_cons_zero, List.set_cons_succ]
      refine WalkT.take (i := 3) (oi := _) (v := ?vz4) rfl (by decide) (by kernel_rfl) (by kernel_rfl) (fun _ _ _ h => h) (Or.inl ⟨by kernel_rfl, ?hyz4⟩) (by assumption) ?rz4
      case hyz4 => (intro wq hSw; go_simp; try (with_reducible rfl))
      try simp only [Act.put, List.setIfInBounds_toArray, List.set_cons_zero, List.set_cons_succ]
      refine WalkT.take (i := 4) (oi := _) (v := ?vz5) rfl (by decide) (by kernel_rfl) (by kernel_rfl) (fun _ _ _ h => h) (Or.inl ⟨by kernel_rfl, ?hyz5⟩) (by assumption) ?rz5
      case hyz5 => (intro wq hSw; have q3 := cell_belowB hSw rfl hx; go_simp; try (with_reducible rfl))
      try simp only [Act.put, List.setIfInBounds_toArray, List.set_cons_zero, List.set_cons_succ]
      refine WalkT.take (i := 5) (oi := _) (v := ?vz6) rfl (by decide) (by kernel_rfl) (by kernel_rfl) (fun _ _ _ h => h) (Or.inl ⟨by kernel_rfl, ?hyz6⟩) (by assumption) ?rz6
      case hyz6 => (intro wq hSw; go_simp; try (with_reducible rfl))
      try simp only [Act.put, List.setIfInBounds_toArray, List.set_cons_zero, List.set_cons_succ]
      refine WalkT.take (i := 6) (oi := _) (v := ?vz7) rfl (by decide) (by kernel_rfl) (by kernel_rfl) (fun _ _ _ h => h) (Or.inl ⟨by kernel_rfl, ?hyz7⟩) (by assumption) ?rz7
      case hyz7 => (intro wq hSw; go_simp; try (with_reducible rfl))
      try simp only [Act.put, List.setIfInBounds_toArray, List.set_cons_zero, List.set_cons_succ]
      refine WalkT.take (i := 7) (oi := _) (v := ?vz8) rfl (by decide) (by kernel_rfl) (by kernel_rfl) (fun _ _ _ h => h) (Or.inl ⟨by kernel_rfl, ?hyz8⟩) (by assumption) ?rz8
      case hyz8 => (intro wq hSw; go_simp; try (with_reducible rfl))
      try simp only [Act.put, List.setIfInBounds_toArray, List.set_cons_zero, List.set_cons_succ]
      refine WalkT.take (i := 8) (oi := _) (v := ?vz9) rfl (by decide) (by kernel_rfl) (by kernel_rfl) (fun _ _ _ h => h) (Or.inl ⟨by kernel_rfl, ?hyz9⟩) (by assumption) ?rz9
      case hyz9 => (intro wq hSw; have q3 := cell_belowB hSw rfl hx; go_simp; try (with_reducible rfl))
      try simp only [Act.put, List.setIfInBounds_toArray, List.set_cons_zero, List.set_cons_succ]
      refine WalkT.take (i := 9) (oi := _) (v := ?vz10) rfl (by decide) (by kernel_rfl) (by kernel_rfl) (fun _ _ _ h => h) (Or.inl ⟨by kernel_rfl, ?hyz10⟩) (by assumption) ?rz10
      case hyz10 => (intro wq hSw; go_simp; try (with_reducible rfl))
      try simp only [Act.put, List.setIfInBounds_toArray, List.set_cons_zero, List.set_cons_succ]
      refine WalkT.take (i := 10) (oi := _) (v := ?vz11) rfl (by decide) (by kernel_rfl) (by kernel_rfl) (fun _ _ _ h => h) (Or.inl ⟨by kernel_rfl, ?hyz11⟩) (by assumption) ?rz11
      case hyz11 => (intro wq hSw; go_simp; try (with_reducible rfl))
      try simp only [Act.put, List.setIfInBounds_toArray, List.set_cons_zero, List.set_cons_succ]
      refine WalkT.take (i := 11) (oi := _) (v := ?vz12) rfl (by decide) (by kernel_rfl) (by kernel_rfl) (fun _ _ _ h => h) (Or.inl ⟨by kernel_rfl, ?hyz12⟩) (by assumption) ?rz12
      case hyz12 => (intro wq hSw; go_simp; try (with_reducible rfl))
      try simp only [Act.put, List.setIfInBounds_toArray, List.set_cons_zero, List.set_cons_succ]
      refine WalkT.one (i := 12) (o := ?oz13) (by kernel_rfl) (by decide) ?hoz13 ?hkz13
      case hoz13 => (simp only [List.getElem?_toArray, List.getElem?_cons_succ, List.getElem?_cons_zero]; exact rfl)
      intro K hK
      go_simp
      refine hK.out _ _ (Below.alloc hHeld (Below.size hHeld) _) (fun hHeld => ?_)
      clear hK K
      try simp only [Act.put, List.setIfInBounds_toArray, List.set_cons_zero, List.set_cons_succ]
      refine WalkT.tail (by kernel_rfl) ?_
      have hown3 := own_alloc' (own_below hown (below_drewN' (Below.refl _ _) 1)) (.cells #[.string p] 9)
      simp only [List.drop_succ_cons, List.drop_zero]
      refine wpList_appendN rfl _ _ 25 rfl w.heap.size 9 i9 (.string ⟨#[]⟩) 16 Tryd.underlying25 hj hy0 hy1 hy2 rfl _ _ _ rfl hown3 wr.heap.size 1 rfl #[.string p] _ _ (heap_alloc_new _ _) rfl (by decide) (by intro u hu; simp at hu; rcases hu with rfl; rfl) (by unfold maxLen; omega) (by omega) (by have := Hbel.out.size; simp; omega) ?_
      intro v' w3 ho hg hv
      have Hn : Hid (SOwn w.heap.size w3 v' (out ++ [p]) ∧ Below w.heap.size w w3) := Lib.hid ⟨by unfold SOwn; rw [svals_append, List.length_append, hol]; exact ho, ((below_drewN' Hbel.out 1).alloc (by have := Hbel.out.size; simpa using this) _).grown hg (by have := Hbel.out.size; simp; omega) (fun k hk => (hown.lt k hk).1)⟩
      clear ho hg hv hHeld hown3 hown
      go_wp2
      go_roundw
      case rel => exact ⟨k + 1, out ++ [p], by omega, by omega, by go_num, by rw [List.length_append, hol]; rfl, Hst.out, Hn.out.1, Hn.out.2⟩
      case measure => simp [intOf]; omega
    · have hfin : out = cutL L most := by
        rw [Hout.out]
        have : k = L.length ∨ k = most := by omega
        rcases this with h | h
        · subst h; unfold cutL; rw [List.take_of_length_le (Nat.le_refl _), List.take_of_length_le (by omega)]
        · rw [h]
      have Hf := Lib.hid hfin; have Hown := Lib.hid hown
      clear hfin hown Hout
      have hcase : (¬ (k : Int) < (L.length : Int)) ∨ ((k : Int) < (L.length : Int) ∧ ¬ (k : Int) < (most : Int)) := by omega
      rcases hcase with l1 | ⟨l1, l2⟩
      · go_wp2
        go_ret
        exact ⟨⟨_, rfl, by rw [← Hf.out]; exact Hown.out⟩, Hbel.out⟩
      · go_wp2
        go_ret
        exact ⟨⟨_, rfl, by rw [← Hf.out]; exact Hown.out⟩, Hbel.out⟩
end Go.Proofs.YtkdajlhmodmkoaaDoor
