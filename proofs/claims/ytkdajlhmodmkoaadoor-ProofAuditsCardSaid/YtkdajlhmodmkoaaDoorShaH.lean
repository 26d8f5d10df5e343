/-
  Layer 2 (sha), the document's answer: words walked.
-/
import Derived.Test.YtkdajlhmodmkoaaDoorShaG
import Derived.StillTailTactics
namespace Go.Proofs.YtkdajlhmodmkoaaDoor
open Go.RowKit
set_option linter.unusedVariables false
set_option linter.unusedSimpArgs false

theorem winfo26 : (Tryd.prog.info? 26).map (fun i => (i.zero, i.size, i.bytes)) = some (some (.int .u32 0), 1, 4) := by kernel_rfl
theorem uvals_append (l m : List UInt32) : (l ++ m).map uval = l.map uval ++ m.map uval := by simp
/-- Since w began a row of words of the call's own has been made. -/
structure WdW (w wr : World) (v : Value) (l : List UInt32) : Prop where
  own : wr.ownsRow w.heap.size 26 1 v l.length (l.map uval)
  bel : Below w.heap.size w wr
theorem own_alloc {w : World} {base : Nat} {e : TypeId} {size n : Nat} {v : Value} {xs : List Value} (h : w.ownsRow base e size v n xs) (o : Obj) : (w.alloc o).ownsRow base e size v n xs := own_below h (alloc_below' w o)
section
variable {w wr w3 : World} {v v' : Value} {l : List UInt32}
theorem WdW.drewN (h : WdW w wr v l) (q : Nat) : WdW w (wr.drewN q) v l := ⟨h.own, below_drewN' h.bel q⟩
theorem WdW.append {X : World} (h : WdW w wr v l) (hX : Below wr.heap.size wr X) (x : UInt32) (n : Int) (hn : n = (x.toNat : Int)) (ho : w3.ownsRow w.heap.size 26 1 v' (l.length + 1) (l.map uval ++ [.int .u32 n])) (hg : X.grownBy w3 v.ownBlock) : WdW w w3 v' (l ++ [x]) := by
  subst hn
  refine ⟨?_, ?_⟩
  · rw [List.length_append, uvals_append]; exact ho
  · have hz := h.bel.size
    exact (h.bel.trans (hX.mono hz)).grown hg (Nat.le_trans hz hX.size) (fun k hk => (h.own.lt k hk).1)
theorem WdW.append2 {X : World} (h : WdW w wr v l) (hX : Below wr.heap.size wr X) (x : UInt32) {n : Int} {m : Nat} (hm : l.length = m) (ho : w3.ownsRow w.heap.size 26 1 v' (m + 1) (l.map uval ++ [.int .u32 n])) (hg : X.grownBy w3 v.ownBlock) (hn : n = (x.toNat : Int)) : WdW w w3 v' (l ++ [x]) := by
  subst hm
  exact h.append hX x n hn ho hg
theorem WdW.form (h : WdW w wr v l) (hl : 0 < l.length) : ∃ g cap, v = .slice (some ⟨g, 0, none⟩) l.length cap ∧ w.heap.size ≤ g ∧ g < wr.heap.size ∧ ∀ i, i < l.length → wr.cell? ⟨g, i, none⟩ = some (.int .u32 ((l.getD i 0).toNat : Int)) := by
  rcases h.own.2 with ⟨hv, hn⟩ | ⟨g, cap, cur, hv, hg, hh, hn, hmx, hcs, htk⟩
  · omega
  · refine ⟨g, cap, hv, hg, (Array.getElem?_eq_some_iff.1 hh).1, fun i hi => ?_⟩
    subst hv
    have := h.own.cells rfl i (.int .u32 ((l.getD i 0).toNat : Int)) (by rw [List.getElem?_map, List.getElem?_eq_getElem hi, List.getD_eq_getElem?_getD, List.getElem?_eq_getElem hi]; rfl)
    rw [Addr.add_lit, Nat.zero_add] at this
    exact this
theorem WdW.post (h : WdW w wr v l) (hl : 0 < l.length) : UPost w l (.returned v) wr := by
  obtain ⟨g, cap, hv, h0, hg, hc⟩ := h.form hl
  exact ⟨⟨v, rfl, g, cap, hv, h0, hg, hc⟩, h.bel⟩
end
theorem cell_new1 (w : World) (u : Value) (t : TypeId) : (w.alloc (.cells #[u] t)).cell? ⟨w.heap.size, 0, none⟩ = some u := by rw [(Blk.new w t #[u]).cell]; rfl
theorem cell_new1d (w : World) (u : Value) (t : TypeId) : (w.alloc (.cells #[u] t)).drew.cell? ⟨w.heap.size, 0, none⟩ = some u := cell_new1 w u t
theorem word_sum (a b c d : UInt8) : ((a.toNat : Int) * 16777216 + (b.toNat : Int) * 65536 + (c.toNat : Int) * 256 + (d.toNat : Int)) = ((ShaM.word a b c d).toNat : Int) := by
  have ha := a.toNat_lt; have hb := b.toNat_lt; have hc := c.toNat_lt; have hd := d.toNat_lt
  unfold ShaM.word
  rw [UInt32.toNat_ofNat', Nat.mod_eq_of_lt (by omega)]; omega
theorem word_wrap (a b c d : UInt8) : IntKind.u32.wrap (IntKind.u32.wrap (IntKind.u32.wrap (IntKind.u32.wrap (IntKind.u32.wrap (a.toNat : Int) * 16777216) + IntKind.u32.wrap (IntKind.u32.wrap (b.toNat : Int) * 65536)) + IntKind.u32.wrap (IntKind.u32.wrap (c.toNat : Int) * 256)) + IntKind.u32.wrap (d.toNat : Int)) = ((ShaM.word a b c d).toNat : Int) := by
  have ha := a.toNat_lt; have hb := b.toNat_lt; have hc := c.toNat_lt; have hd := d.toNat_lt
  rw [← word_sum]
  simp only [IntKind.wrap_u32']
  omega
theorem sum_wrap4 (a b c d : UInt32) : IntKind.u32.wrap (IntKind.u32.wrap (IntKind.u32.wrap ((a.toNat : Int) + (b.toNat : Int)) + (c.toNat : Int)) + (d.toNat : Int)) = ((a + c + b + d).toNat : Int) := by
  rw [UInt32.toNat_add, UInt32.toNat_add, UInt32.toNat_add]
  simp only [IntKind.wrap_u32']
  omega
theorem ba_getD (s : ByteArray) (i : Nat) (h : i < s.size) : s[i] = s.data.toList.getD i 0 := by
  rw [List.getD_eq_getElem?_getD, List.getElem?_eq_getElem (by simpa using h)]; rfl

set_option maxRecDepth 100000 in
set_option maxHeartbeats 4000000 in
theorem words_any (s : ByteArray) (hs : s.size = 64) (w : World) : Calls Tryd.prog 67 #[.string s] w (UPost w (ShaM.wl s.data.toList 64)) := by
  obtain ⟨i0, hi, hz0, hz1, hz2⟩ := info_parts winfo26
  have h64 : 64 ≤ s.size := by omega
  clear hs
  have H0 : Hid (WdW w (w.alloc (.cells #[] 26)) (.slice (some ⟨w.heap.size, 0, none⟩) 0 0) []) := Lib.hid ⟨World.ownsRow_made w #[] 0 (Nat.le_refl _) (by decide) rfl, alloc_below' w _⟩
  go_enter Tryd.func67, Tryd.ntmps67
  go_wp2
  go_loopw [3, 4] (fun v i wr => ∃ k : Nat, k ≤ 16 ∧ i = .int .i64 k ∧ WdW w wr v (ShaM.wl s.data.toList k)) (fun _ i _ => 16 - (intOf i).toNat)
  case atStart => exact ⟨0, by omega, rfl, H0.out⟩
  case round =>
    clear H0
    obtain ⟨k, hk, rfl, hW⟩ := hrel
    by_cases hlt : k < 16
    · have hnx := nextW_lo s.data.toList k hlt
      rw [← ba_getD s (4 * k) (by omega), ← ba_getD s (4 * k + 1) (by omega), ← ba_getD s (4 * k + 2) (by omega), ← ba_getD s (4 * k + 3) (by omega)] at hnx
      have Hnx := Lib.hid hnx; have HW := Lib.hid hW
      have hlen := ShaM.wl_length s.data.toList k
      clear hnx
      have a0 : IntKind.i64.wrap (4 * (k : Int)) = 4 * (k : Int) := IntWalk.i64_in _ (by omega)
      have a1 : IntKind.i64.wrap (4 * (k : Int) + 1) = 4 * (k : Int) + 1 := IntWalk.i64_in _ (by omega)
      have a2 : IntKind.i64.wrap (4 * (k : Int) + 2) = 4 * (k : Int) + 2 := IntWalk.i64_in _ (by omega)
      have a3 : IntKind.i64.wrap (4 * (k : Int) + 3) = 4 * (k : Int) + 3 := IntWalk.i64_in _ (by omega)
      have t0 : (4 * (k : Int)).toNat = 4 * k := by omega
      have t1 : (4 * (k : Int) + 1).toNat = 4 * k + 1 := by omega
      have t2 : (4 * (k : Int) + 2).toNat = 4 * k + 2 := by omega
      have t3 : (4 * (k : Int) + 3).toNat = 4 * k + 3 := by omega
      have p0 : (0 : Int) ≤ 4 * (k : Int) := by omega
      have p1 : (0 : Int) ≤ 4 * (k : Int) + 1 := by omega
      have p2 : (0 : Int) ≤ 4 * (k : Int) + 2 := by omega
      have p3 : (0 : Int) ≤ 4 * (k : Int) + 3 := by omega
      have q0 : 4 * k < s.size := by omega
      have q1 : 4 * k + 1 < s.size := by omega
      have q2 : 4 * k + 2 < s.size := by omega
      have q3 : 4 * k + 3 < s.size := by omega
      have r0 : (0 : Int) ≤ (k : Int) := by omega
      have r1 : (k : Int) < 64 := by omega
      have q0' : 4 * (k : Int) < (s.size : Int) := by omega
      have q1' : 4 * (k : Int) + 1 < (s.size : Int) := by omega
      have q2' : 4 * (k : Int) + 2 < (s.size : Int) := by omega
      have q3' : 4 * (k : Int) + 3 < (s.size : Int) := by omega
      have l0 := s[4 * k].toNat_lt; have l1 := s[4 * k + 1].toNat_lt; have l2 := s[4 * k + 2].toNat_lt; have l3 := s[4 * k + 3].toNat_lt
      clear hW
      have Hlen := Lib.hid hlen; clear hlen
      go_wp2
      have hown := HW.out.own
      refine wp_region_held_drew (S := fun _ => True) (by kernel_rfl) trivial (fun hHeld => ?_)
      refine wpAnyH_take (i := 0) (oi := _) (v := ?v0) rfl (by kernel_rfl) (by kernel_rfl) (by kernel_rfl) (fun _ _ _ h => h) (Or.inl ⟨by rfl, ?h0⟩) (by assumption) ?r0
      case h0 => (intro wq hSw; go_simp; try (with_reducible rfl))
      try simp only [Act.put, List.setIfInBounds_toArray, List.set_cons_zero, List.set_cons_succ]
      refine wpAnyH_take (i := 1) (oi := _) (v := ?v1) rfl (by kernel_rfl) (by kernel_rfl) (by kernel_rfl) (fun _ _ _ h => h) (Or.inl ⟨by rfl, ?h1⟩) (by assumption) ?r1
      case h1 => (intro wq hSw; go_simp; try (with_reducible rfl))
      try simp only [Act.put, List.setIfInBounds_toArray, List.set_cons_zero, List.set_cons_succ]
      refine wpAnyH_take (i := 2) (oi := _) (v := ?v2) rfl (by kernel_rfl) (by kernel_rfl) (by kernel_rfl) (fun _ _ _ h => h) (Or.inl ⟨by rfl, ?h2⟩) (by assumption) ?r2
      case h2 => (intro wq hSw; go_simp; try (with_reducible rfl))
      try simp only [Act.put, List.setIfInBounds_toArray, List.set_cons_zero, List.set_cons_succ]
      refine wpAnyH_take (i := 3) (oi := _) (v := ?v3) rfl (by kernel_rfl) (by kernel_rfl) (by kernel_rfl) (fun _ _ _ h => h) (Or.inl ⟨by rfl, ?h3⟩) (by assumption) ?r3
      case h3 => (intro wq hSw; go_simp; try (with_reducible rfl))
      try simp only [Act.put, List.setIfInBounds_toArray, List.set_cons_zero, List.set_cons_succ]
      refine wpAnyH_take (i := 4) (oi := _) (v := ?v4) rfl (by kernel_rfl) (by kernel_rfl) (by kernel_rfl) (fun _ _ _ h => h) (Or.inl ⟨by rfl, ?h4⟩) (by assumption) ?r4
      case h4 => (intro wq hSw; go_simp; try (with_reducible rfl))
      try simp only [Act.put, List.setIfInBounds_toArray, List.set_cons_zero, List.set_cons_succ]
      refine wpAnyH_take (i := 5) (oi := _) (v := ?v5) rfl (by kernel_rfl) (by kernel_rfl) (by kernel_rfl) (fun _ _ _ h => h) (Or.inl ⟨by rfl, ?h5⟩) (by assumption) ?r5
      case h5 => (intro wq hSw; go_simp; try (with_reducible rfl))
      try simp only [Act.put, List.setIfInBounds_toArray, List.set_cons_zero, List.set_cons_succ]
      refine wpAnyH_take (i := 6) (oi := _) (v := ?v6) rfl (by kernel_rfl) (by kernel_rfl) (by kernel_rfl) (fun _ _ _ h => h) (Or.inl ⟨by rfl, ?h6⟩) (by assumption) ?r6
      case h6 => (intro wq hSw; go_simp; try (with_reducible rfl))
      try simp only [Act.put, List.setIfInBounds_toArray, List.set_cons_zero, List.set_cons_succ]
      refine wpAnyH_take (i := 7) (oi := _) (v := ?v7) rfl (by kernel_rfl) (by kernel_rfl) (by kernel_rfl) (fun _ _ _ h => h) (Or.inl ⟨by rfl, ?h7⟩) (by assumption) ?r7
      case h7 => (intro wq hSw; go_simp; try (with_reducible rfl))
      try simp only [Act.put, List.setIfInBounds_toArray, List.set_cons_zero, List.set_cons_succ]
      refine wpAnyH_take (i := 8) (oi := _) (v := ?v8) rfl (by kernel_rfl) (by kernel_rfl) (by kernel_rfl) (fun _ _ _ h => h) (Or.inl ⟨by rfl, ?h8⟩) (by assumption) ?r8
      case h8 => (intro wq hSw; go_simp; try (with_reducible rfl))
      try simp only [Act.put, List.setIfInBounds_toArray, List.set_cons_zero, List.set_cons_succ]
      refine wpAnyH_take (i := 9) (oi := _) (v := ?v9) rfl (by kernel_rfl) (by kernel_rfl) (by kernel_rfl) (fun _ _ _ h => h) (Or.inl ⟨by rfl, ?h9⟩) (by assumption) ?r9
      case h9 => (intro wq hSw; go_simp; try (with_reducible rfl))
      try simp only [Act.put, List.setIfInBounds_toArray, List.set_cons_zero, List.set_cons_succ]
      refine wpAnyH_take (i := 10) (oi := _) (v := ?v10) rfl (by kernel_rfl) (by kernel_rfl) (by kernel_rfl) (fun _ _ _ h => h) (Or.inl ⟨by rfl, ?h10⟩) (by assumption) ?r10
      case h10 => (intro wq hSw; go_simp; try (with_reducible rfl))
      try simp only [Act.put, List.setIfInBounds_toArray, List.set_cons_zero, List.set_cons_succ]
      refine wpAnyH_take (i := 11) (oi := _) (v := ?v11) rfl (by kernel_rfl) (by kernel_rfl) (by kernel_rfl) (fun _ _ _ h => h) (Or.inl ⟨by rfl, ?h11⟩) (by assumption) ?r11
      case h11 => (intro wq hSw; go_simp; try (with_reducible rfl))
      try simp only [Act.put, List.setIfInBounds_toArray, List.set_cons_zero, List.set_cons_succ]
      refine wpAnyH_take (i := 12) (oi := _) (v := ?v12) rfl (by kernel_rfl) (by kernel_rfl) (by kernel_rfl) (fun _ _ _ h => h) (Or.inl ⟨by rfl, ?h12⟩) (by assumption) ?r12
      case h12 => (intro wq hSw; go_simp; try (with_reducible rfl))
      try simp only [Act.put, List.setIfInBounds_toArray, List.set_cons_zero, List.set_cons_succ]
      refine wpAnyH_take (i := 13) (oi := _) (v := ?v13) rfl (by kernel_rfl) (by kernel_rfl) (by kernel_rfl) (fun _ _ _ h => h) (Or.inl ⟨by rfl, ?h13⟩) (by assumption) ?r13
      case h13 => (intro wq hSw; go_simp; try (with_reducible rfl))
      try simp only [Act.put, List.setIfInBounds_toArray, List.set_cons_zero, List.set_cons_succ]
      refine wpAnyH_take (i := 14) (oi := _) (v := ?v14) rfl (by kernel_rfl) (by kernel_rfl) (by kernel_rfl) (fun _ _ _ h => h) (Or.inl ⟨by rfl, ?h14⟩) (by assumption) ?r14
      case h14 => (intro wq hSw; go_simp; try (with_reducible rfl))
      try simp only [Act.put, List.setIfInBounds_toArray, List.set_cons_zero, List.set_cons_succ]
      refine wpAnyH_take (i := 15) (oi := _) (v := ?v15) rfl (by kernel_rfl) (by kernel_rfl) (by kernel_rfl) (fun _ _ _ h => h) (Or.inl ⟨by rfl, ?h15⟩) (by assumption) ?r15
      case h15 => (intro wq hSw; go_simp; try (with_reducible rfl))
      try simp only [Act.put, List.setIfInBounds_toArray, List.set_cons_zero, List.set_cons_succ]
      refine wpAnyH_take (i := 16) (oi := _) (v := ?v16) rfl (by kernel_rfl) (by kernel_rfl) (by kernel_rfl) (fun _ _ _ h => h) (Or.inl ⟨by rfl, ?h16⟩) (by assumption) ?r16
      case h16 => (intro wq hSw; go_simp; try (with_reducible rfl))
      try simp only [Act.put, List.setIfInBounds_toArray, List.set_cons_zero, List.set_cons_succ]
      refine wpAnyH_take (i := 17) (oi := _) (v := ?v17) rfl (by kernel_rfl) (by kernel_rfl) (by kernel_rfl) (fun _ _ _ h => h) (Or.inl ⟨by rfl, ?h17⟩) (by assumption) ?r17
      case h17 => (intro wq hSw; go_simp; try (with_reducible rfl))
      try simp only [Act.put, List.setIfInBounds_toArray, List.set_cons_zero, List.set_cons_succ]
      refine wpAnyH_take (i := 18) (oi := _) (v := ?v18) rfl (by kernel_rfl) (by kernel_rfl) (by kernel_rfl) (fun _ _ _ h => h) (Or.inl ⟨by rfl, ?h18⟩) (by assumption) ?r18
      case h18 => (intro wq hSw; go_simp; try (with_reducible rfl))
      try simp only [Act.put, List.setIfInBounds_toArray, List.set_cons_zero, List.set_cons_succ]
      refine wpAnyH_take (i := 19) (oi := _) (v := ?v19) rfl (by kernel_rfl) (by kernel_rfl) (by kernel_rfl) (fun _ _ _ h => h) (Or.inl ⟨by rfl, ?h19⟩) (by assumption) ?r19
      case h19 => (intro wq hSw; go_simp; try (with_reducible rfl))
      try simp only [Act.put, List.setIfInBounds_toArray, List.set_cons_zero, List.set_cons_succ]
      refine wpAnyH_take (i := 20) (oi := _) (v := ?v20) rfl (by kernel_rfl) (by kernel_rfl) (by kernel_rfl) (fun _ _ _ h => h) (Or.inl ⟨by rfl, ?h20⟩) (by assumption) ?r20
      case h20 => (intro wq hSw; go_simp; try (with_reducible rfl))
      try simp only [Act.put, List.setIfInBounds_toArray, List.set_cons_zero, List.set_cons_succ]
      refine wpAnyH_take (i := 21) (oi := _) (v := ?v21) rfl (by kernel_rfl) (by kernel_rfl) (by kernel_rfl) (fun _ _ _ h => h) (Or.inl ⟨by rfl, ?h21⟩) (by assumption) ?r21
      case h21 => (intro wq hSw; go_simp; try (with_reducible rfl))
      try simp only [Act.put, List.setIfInBounds_toArray, List.set_cons_zero, List.set_cons_succ]
      refine wpAnyH_take (i := 22) (oi := _) (v := ?v22) rfl (by kernel_rfl) (by kernel_rfl) (by kernel_rfl) (fun _ _ _ h => h) (Or.inl ⟨by rfl, ?h22⟩) (by assumption) ?r22
      case h22 => (intro wq hSw; go_simp; try (with_reducible rfl))
      try simp only [Act.put, List.setIfInBounds_toArray, List.set_cons_zero, List.set_cons_succ]
      refine wpAnyH_take (i := 23) (oi := _) (v := ?v23) rfl (by kernel_rfl) (by kernel_rfl) (by kernel_rfl) (fun _ _ _ h => h) (Or.inl ⟨by rfl, ?h23⟩) (by assumption) ?r23
      case h23 => (intro wq hSw; go_simp; try (with_reducible rfl))
      try simp only [Act.put, List.setIfInBounds_toArray, List.set_cons_zero, List.set_cons_succ]
      refine wpAnyH_take (i := 24) (oi := _) (v := ?v24) rfl (by kernel_rfl) (by kernel_rfl) (by kernel_rfl) (fun _ _ _ h => h) (Or.inl ⟨by rfl, ?h24⟩) (by assumption) ?r24
      case h24 => (intro wq hSw; go_simp; try (with_reducible rfl))
      try simp only [Act.put, List.setIfInBounds_toArray, List.set_cons_zero, List.set_cons_succ]
      refine wpAnyH_take (i := 25) (oi := _) (v := ?v25) rfl (by kernel_rfl) (by kernel_rfl) (by kernel_rfl) (fun _ _ _ h => h) (Or.inl ⟨by rfl, ?h25⟩) (by assumption) ?r25
      case h25 => (intro wq hSw; go_simp; try (with_reducible rfl))
      try simp only [Act.put, List.setIfInBounds_toArray, List.set_cons_zero, List.set_cons_succ]
      refine wpAnyH_take (i := 26) (oi := _) (v := ?v26) rfl (by kernel_rfl) (by kernel_rfl) (by kernel_rfl) (fun _ _ _ h => h) (Or.inl ⟨by rfl, ?h26⟩) (by assumption) ?r26
      case h26 => (intro wq hSw; go_simp; try (with_reducible rfl))
      try simp only [Act.put, List.setIfInBounds_toArray, List.set_cons_zero, List.set_cons_succ]
      refine wpAnyH_take (i := 27) (oi := _) (v := ?v27) rfl (by kernel_rfl) (by kernel_rfl) (by kernel_rfl) (fun _ _ _ h => h) (Or.inl ⟨by rfl, ?h27⟩) (by assumption) ?r27
      case h27 => (intro wq hSw; go_simp; try (with_reducible rfl))
      try simp only [Act.put, List.setIfInBounds_toArray, List.set_cons_zero, List.set_cons_succ]
      refine wpAnyH_take (i := 28) (oi := _) (v := ?v28) rfl (by kernel_rfl) (by kernel_rfl) (by kernel_rfl) (fun _ _ _ h => h) (Or.inl ⟨by rfl, ?h28⟩) (by assumption) ?r28
      case h28 => (intro wq hSw; go_simp; try (with_reducible rfl))
      try simp only [Act.put, List.setIfInBounds_toArray, List.set_cons_zero, List.set_cons_succ]
      refine wpAnyH_take (i := 29) (oi := _) (v := ?v29) rfl (by kernel_rfl) (by kernel_rfl) (by kernel_rfl) (fun _ _ _ h => h) (Or.inl ⟨by rfl, ?h29⟩) (by assumption) ?r29
      case h29 => (intro wq hSw; go_simp; try (with_reducible rfl))
      try simp only [Act.put, List.setIfInBounds_toArray, List.set_cons_zero, List.set_cons_succ]
      refine wpAnyH_ready (rs := [30]) (by kernel_rfl) (by simp) (AllReadyH.cons rfl (fun K hK => ?_) AllReadyH.nil)
      go_simp
      refine hK.out _ _ (by first | trivial | assumption) (fun hHeld => ?_)
      clear hK K
      try simp only [Act.put, List.setIfInBounds_toArray, List.set_cons_zero, List.set_cons_succ]
      refine wpAnyH_ready (rs := [31]) (by kernel_rfl) (by simp) (AllReadyH.cons rfl (fun K hK => ?_) AllReadyH.nil)
      (refine step_append1 rfl _ _ 80 rfl w.heap.size 26 i0 (.int .u32 0) 4 Tryd.underlying80 hi hz0 hz1 hz2 rfl u3 _ _ rfl (own_alloc hown _).drew wr.heap.size rfl _ (cell_new1d wr _ _) rfl (by rw [ShaM.wl_length]; unfold maxLen; omega) (by rw [ShaM.wl_length]; omega) (by have := HW.out.bel.size; simp; omega) ?_; intro v' w3 hown3 hg3 hv3)
      refine hK.out _ _ (by first | trivial | assumption) (fun hHeld => ?_)
      clear hK K
      try simp only [Act.put, List.setIfInBounds_toArray, List.set_cons_zero, List.set_cons_succ]
      refine wpAnyH_ready (rs := [32]) (by kernel_rfl) (by simp) (AllReadyH.cons rfl (fun K hK => ?_) AllReadyH.nil)
      go_simp
      refine hK.out _ _ (by first | trivial | assumption) (fun hHeld => ?_)
      clear hK K
      try simp only [Act.put, List.setIfInBounds_toArray, List.set_cons_zero, List.set_cons_succ]
      refine wpAnyH_done (by kernel_rfl) ?_ _
      have HW3 : Hid (WdW w w3 v' (ShaM.wl s.data.toList (k + 1))) := Lib.hid (HW.out.append ((alloc_below' wr _).drew) _ _ (by rw [Hnx.out]; exact word_wrap _ _ _ _) hown3 hg3)
      clear hown3 hg3 hv3 hown HW Hnx
      go_wp2
      go_roundw
      case rel => exact ⟨k + 1, by omega, by go_num, HW3.out⟩
      case measure => simp [intOf]; omega
    · obtain rfl : k = 16 := by omega
      have HW := Lib.hid hW; clear hW
      go_wp2
      rw [show ((16 : Nat) : Int) = 16 from rfl]
      go_loopw [3, 5] (fun v i wr => ∃ k : Nat, 16 ≤ k ∧ k ≤ 64 ∧ i = .int .i64 k ∧ WdW w wr v (ShaM.wl s.data.toList k)) (fun _ i _ => 64 - (intOf i).toNat)
      case atStart => exact ⟨16, by omega, by omega, rfl, HW.out⟩
      case round =>
        clear HW hlt hk
        obtain ⟨k, hk0, hk, rfl, hW⟩ := hrel
        by_cases hlt : k < 64
        · have hlen := ShaM.wl_length s.data.toList k
          obtain ⟨g, cap, hv, -, hg, hc⟩ := hW.form (by omega)
          subst hv
          rw [hlen] at hc
          have c15 := hc (k - 15) (by omega)
          have c2 := hc (k - 2) (by omega)
          have c16 := hc (k - 16) (by omega)
          have c7 := hc (k - 7) (by omega)
          have hnx := nextW_hi s.data.toList k (by omega)
          have hown := hW.own
          rw [hlen] at hown
          have HW := Lib.hid hW
          rw [hlen]
          clear hW hc hg
          generalize (ShaM.wl s.data.toList k).getD (k - 15) 0 = x at *
          generalize (ShaM.wl s.data.toList k).getD (k - 2) 0 = y at *
          generalize (ShaM.wl s.data.toList k).getD (k - 16) 0 = v at *
          generalize (ShaM.wl s.data.toList k).getD (k - 7) 0 = z at *
          have Hnx := Lib.hid hnx; have Hlen := Lib.hid hlen
          clear hnx hlen
          have hx := x.toNat_lt; have hy := y.toNat_lt; have hvl := v.toNat_lt; have hz := z.toNat_lt
          have a15 : IntKind.i64.wrap ((k : Int) - 15) = (k : Int) - 15 := IntWalk.i64_in _ (by omega)
          have a2 : IntKind.i64.wrap ((k : Int) - 2) = (k : Int) - 2 := IntWalk.i64_in _ (by omega)
          have a16 : IntKind.i64.wrap ((k : Int) - 16) = (k : Int) - 16 := IntWalk.i64_in _ (by omega)
          have a7 : IntKind.i64.wrap ((k : Int) - 7) = (k : Int) - 7 := IntWalk.i64_in _ (by omega)
          have t15 : ((k : Int) - 15).toNat = k - 15 := by omega
          have t2 : ((k : Int) - 2).toNat = k - 2 := by omega
          have t16 : ((k : Int) - 16).toNat = k - 16 := by omega
          have t7 : ((k : Int) - 7).toNat = k - 7 := by omega
          have p15 : (0 : Int) ≤ (k : Int) - 15 := by omega
          have p2 : (0 : Int) ≤ (k : Int) - 2 := by omega
          have p16 : (0 : Int) ≤ (k : Int) - 16 := by omega
          have p7 : (0 : Int) ≤ (k : Int) - 7 := by omega
          have m15 : (15 : Int) ≤ (k : Int) := by omega
          have m2 : (2 : Int) ≤ (k : Int) := by omega
          have m16 : (16 : Int) ≤ (k : Int) := by omega
          have m7 : (7 : Int) ≤ (k : Int) := by omega
          have q15 : (k : Int) - 15 < (k : Int) := by omega
          have q2 : (k : Int) - 2 < (k : Int) := by omega
          have q16 : (k : Int) - 16 < (k : Int) := by omega
          have q7 : (k : Int) - 7 < (k : Int) := by omega
          have U1 := c_xor
          go_wp2
          go_quiet (fail)
          obtain ⟨wq, hq⟩ : ∃ wq, wr.drewN nq = wq := ⟨_, rfl⟩
          rw [hq]
          have Hw2 : Hid (WdW w wq (.slice (some ⟨g, 0, none⟩) (ShaM.wl s.data.toList k).length cap) (ShaM.wl s.data.toList k)) := Lib.hid (by rw [← hq]; exact HW.out.drewN nq)
          have c16' : wq.cell? ⟨g, k - 16, none⟩ = some (.int .u32 v.toNat) := by rw [← hq]; exact c16
          have c7' : wq.cell? ⟨g, k - 7, none⟩ = some (.int .u32 z.toNat) := by rw [← hq]; exact c7
          have hown' : wq.ownsRow w.heap.size 26 1 (.slice (some ⟨g, 0, none⟩) k cap) k ((ShaM.wl s.data.toList k).map uval) := by rw [← hq]; exact hown
          clear hq HW c15 c2 c16 c7 hown
          go_wp2_with (first | (go_at_call 95; refine (rightW _ _ (by decide) (by decide) _).mono ?_; rintro e w' ⟨rfl, rfl⟩) | (go_at_call 96; refine (downW _ _ (by decide) (by decide) _).mono ?_; rintro e w' ⟨rfl, rfl⟩))
          go_region_law (refine step_append1 rfl _ _ 80 rfl w.heap.size 26 i0 (.int .u32 0) 4 Tryd.underlying80 hi hz0 hz1 hz2 rfl _ _ _ rfl (own_alloc hown' _).drew wq.heap.size rfl _ (cell_new1d wq _ _) rfl (by unfold maxLen; omega) (by omega) (by have := Hw2.out.bel.size; simp; omega) ?_; intro v' w3 hown3 hg3 hv3)
          all_goals
            have HW3 : Hid (WdW w w3 v' (ShaM.wl s.data.toList (k + 1))) := Lib.hid (Hw2.out.append2 ((alloc_below' wq _).drew) _ Hlen.out hown3 hg3 (by rw [Hnx.out]; exact sum_wrap4 v _ z _))
            clear hown3 hg3 hv3 hown' Hw2 Hnx c16' c7'
            go_wp2
            go_roundw
            case rel => exact ⟨k + 1, by omega, by omega, by go_num, HW3.out⟩
            case measure => simp [intOf]; omega
        · obtain rfl : k = 64 := by omega
          have HW := Lib.hid hW; clear hW
          go_wp2
          go_ret
          exact HW.out.post (by rw [ShaM.wl_length]; omega)
end Go.Proofs.YtkdajlhmodmkoaaDoor
