/-
  Layer 8 (tree): Root walked, the code's and the document's.
-/
import Derived.Test.YtkdajlhmodmkoaaDoorTU
import Derived.Test.YtkdajlhmodmkoaaDoorShaO2
namespace Go.Proofs.YtkdajlhmodmkoaaDoor
open Go.RowKit TreeM
set_option linter.unusedVariables false
set_option linter.unusedSimpArgs false

theorem SRead.take {w : World} {A : Option Addr} {len cap : Nat} {L : List ByteArray} (h : SRead w (.slice A len cap) L) (k : Nat) (hk : k ≤ L.length) : SRead w (.slice A k cap) (L.take k) := by
  obtain ⟨A', cap', he, hm, hc⟩ := h
  injection he with e1 e2 e3
  subst e1 e2 e3
  have hl : (L.take k).length = k := by rw [List.length_take]; omega
  refine ⟨A, cap, by rw [hl], by omega, fun i hi => ?_⟩
  obtain ⟨b, o, h1, h2, h3⟩ := hc i (by omega)
  exact ⟨b, o, h1, ⟨h2.1, by omega⟩, by rw [List.getElem_take]; exact h3⟩
theorem SRead.drop {w : World} {b o : Nat} {len cap : Nat} {L : List ByteArray} (h : SRead w (.slice (some ⟨b, o, none⟩) len cap) L) (k : Nat) (hk : k ≤ L.length) : SRead w (.slice (some ⟨b, o + k, none⟩) (L.length - k) (cap - k)) (L.drop k) := by
  obtain ⟨A', cap', he, hm, hc⟩ := h
  injection he with e1 e2 e3
  subst e1 e2 e3
  have hl : (L.drop k).length = L.length - k := List.length_drop
  refine ⟨some ⟨b, o + k, none⟩, cap - k, by rw [hl], by omega, fun i hi => ?_⟩
  obtain ⟨b', o', h1, h2, h3⟩ := hc (k + i) (by omega)
  injection h1 with h1; injection h1 with e4 e5 _
  subst e4 e5
  exact ⟨b, o + k, rfl, ⟨h2.1, by omega⟩, by rw [List.getElem_drop, ← h3, Nat.add_assoc]⟩
set_option maxRecDepth 100000 in
set_option maxHeartbeats 4000000 in
theorem rroot_aux : ∀ (f : Nat) (L : List ByteArray) (w : World) (v : Value), L.length ≤ f → SRead w v L → (∀ s ∈ L, s.size ≤ 80000000) → L.length < 1000000 →
    Calls Tryd.prog 37 #[v] w fun e w' => e = .returned (.string (root L)) ∧ Below w.heap.size w w' := by
  intro f
  induction f with
  | zero =>
    intro L w v hf h hs hl
    obtain rfl := List.length_eq_zero_iff.1 (Nat.le_zero.1 hf)
    obtain ⟨A, cap, rfl, -, -⟩ := h
    rw [root_nil]
    go_enter Tryd.func37, Tryd.ntmps37
    go_wp2_with fail
    refine (rsum_empty _).mono ?_
    rintro e w2 ⟨rfl, hb2⟩
    go_wp2
    go_ret
    exact ⟨rfl, hb2⟩
  | succ f ih =>
    intro L w v hf h hs hl
    by_cases h2 : 2 ≤ L.length
    · have hk1 := split_pos h2
      have hk2 := split_lt h2
      have hroot := root_node L h2
      have h0 := h
      obtain ⟨A, cap, rfl, hm, hc⟩ := id h
      obtain ⟨b, o, rfl, ⟨hbw, hcap⟩, -⟩ := hc 0 (by omega)
      obtain ⟨k, hk⟩ : ∃ k, split L.length = k := ⟨_, rfl⟩
      have hsplit := rsplit_any L.length (by omega)
      rw [hk] at hk1 hk2 hroot hsplit
      have htk := h0.take k (Nat.le_of_lt hk2)
      have hdr := h0.drop k (Nat.le_of_lt hk2)
      have HI1 : Hid (∀ wq, Below w.heap.size w wq → Calls Tryd.prog 37 #[.slice (some ⟨b, o, none⟩) k cap] wq fun e w' => e = .returned (.string (root (L.take k))) ∧ Below wq.heap.size wq w') :=
        Lib.hid fun wq hq => ih _ wq _ (by rw [List.length_take]; omega) (htk.below hq rfl) (fun s hs' => hs s (List.mem_of_mem_take hs')) (by rw [List.length_take]; omega)
      have HI2 : Hid (∀ wq, Below w.heap.size w wq → Calls Tryd.prog 37 #[.slice (some ⟨b, o + k, none⟩) (L.length - k) (cap - k)] wq fun e w' => e = .returned (.string (root (L.drop k))) ∧ Below wq.heap.size wq w') :=
        Lib.hid fun wq hq => ih _ wq _ (by rw [List.length_drop]; omega) (hdr.below hq rfl) (fun s hs' => hs s (List.mem_of_mem_drop hs')) (by rw [List.length_drop]; omega)
      have HRoot : Hid (nodeB (root (L.take k)) (root (L.drop k)) = root L) := Lib.hid hroot.symm
      have HSp := Lib.hid hsplit
      clear ih hs h h0 hc hroot htk hdr hsplit hm hk hf
      generalize root L = R at *
      generalize hr1 : root (L.take k) = r1 at *
      generalize hr2 : root (L.drop k) = r2 at *
      have s1 : r1.size ≤ 40000000 := by rw [← hr1, root_length]; decide
      have s2 : r2.size ≤ 40000000 := by rw [← hr2, root_length]; decide
      clear hr1 hr2
      generalize L.length = n at *
      have n0 : ((n : Int) == 0) = false := by rw [beq_eq_false_iff_ne]; omega
      have n1 : ((n : Int) == 1) = false := by rw [beq_eq_false_iff_ne]; omega
      have e1 : IntKind.u64.wrap (n : Int) = (n : Int) := by show (n : Int) % 18446744073709551616 = _; omega
      have e2 : IntKind.i64.wrap (k : Int) = (k : Int) := IntWalk.i64_in _ (by omega)
      have q0 : (0 : Int) ≤ (k : Int) := by omega
      have q1 : (k : Int) ≤ (n : Int) := by omega
      have q2 : (k : Int) ≤ (cap : Int) := by omega
      have q3 : k ≤ n := by omega
      have q4 : k ≤ cap := by omega
      have q5 : ¬ cap = k := by omega
      go_enter Tryd.func37, Tryd.ntmps37
      go_wp2_with fail
      refine (HSp.out _).mono ?_
      rintro e w2 ⟨rfl, rfl⟩
      go_wp2_with fail
      rename World => w0
      have HW : Hid (Below w0.heap.size w0 w0) := Lib.hid (Below.refl _ _)
      refine wp_region_T (n := 9) (S := fun wq => Below w0.heap.size w0 wq) (by kernel_rfl) (by kernel_rfl) (below_drewN' (Below.refl _ _) 1) (fun hHeld => ?_)
      refine WalkT.take (i := 0) (oi := _) (v := ?vz1) rfl (by decide) (by kernel_rfl) (by kernel_rfl) (fun _ _ _ h => h) (Or.inl ⟨by kernel_rfl, ?hyz1⟩) (by assumption) ?rz1
      case hyz1 => (intro wq hSw; go_simp; try (with_reducible rfl))
      try simp only [Act.put, List.setIfInBounds_toArray, List.set_cons_zero, List.set_cons_succ]
      refine WalkT.take (i := 1) (oi := _) (v := ?vz2) rfl (by decide) (by kernel_rfl) (by kernel_rfl) (fun _ _ _ h => h) (Or.inl ⟨by kernel_rfl, ?hyz2⟩) (by assumption) ?rz2
      case hyz2 => (intro wq hSw; go_simp; try (with_reducible rfl))
      try simp only [Act.put, List.setIfInBounds_toArray, List.set_cons_zero, List.set_cons_succ]
      refine WalkT.take (i := 2) (oi := _) (v := ?vz3) rfl (by decide) (by kernel_rfl) (by kernel_rfl) (fun _ _ _ h => h) (Or.inl ⟨by kernel_rfl, ?hyz3⟩) (by assumption) ?rz3
      case hyz3 => (intro wq hSw; go_simp; try (with_reducible rfl))
      try simp only [Act.put, List.setIfInBounds_toArray, List.set_cons_zero, List.set_cons_succ]
      refine WalkT.take (i := 4) (oi := _) (v := ?vz4) rfl (by decide) (by kernel_rfl) (by kernel_rfl) (fun _ _ _ h => h) (Or.inl ⟨by kernel_rfl, ?hyz4⟩) (by assumption) ?rz4
      case hyz4 => (intro wq hSw; go_simp; try (with_reducible rfl))
      try simp only [Act.put, List.setIfInBounds_toArray, List.set_cons_zero, List.set_cons_succ]
      refine WalkT.take (i := 5) (oi := _) (v := ?vz5) rfl (by decide) (by kernel_rfl) (by kernel_rfl) (fun _ _ _ h => h) (Or.inl ⟨by kernel_rfl, ?hyz5⟩) (by assumption) ?rz5
      case hyz5 => (intro wq hSw; go_simp; try (with_reducible rfl))
      try simp only [Act.put, List.setIfInBounds_toArray, List.set_cons_zero, List.set_cons_succ]
      refine WalkT.take (i := 6) (oi := _) (v := ?vz6) rfl (by decide) (by kernel_rfl) (by kernel_rfl) (fun _ _ _ h => h) (Or.inl ⟨by kernel_rfl, ?hyz6⟩) (by assumption) ?rz6
      case hyz6 => (intro wq hSw; go_simp; try (with_reducible rfl))
      try simp only [Act.put, List.setIfInBounds_toArray, List.set_cons_zero, List.set_cons_succ]
      refine WalkT.one (i := 3) (o := ?oz7) (by kernel_rfl) (by decide) ?hoz7 ?hkz7
      case hoz7 => (simp only [List.getElem?_toArray, List.getElem?_cons_succ, List.getElem?_cons_zero]; exact rfl)
      intro K hK
      go_simp
      refine (HI1.out _ hHeld).mono ?_
      rintro e x3 ⟨rfl, hb⟩
      have hS3 : Below w0.heap.size w0 x3 := Below.trans hHeld (Below.mono hb (Below.size hHeld))
      clear hb hHeld
      go_simp
      refine hK.out _ _ hS3 (fun hHeld => ?_)
      clear hS3
      clear hK K
      try simp only [Act.put, List.setIfInBounds_toArray, List.set_cons_zero, List.set_cons_succ]
      refine WalkT.one (i := 7) (o := ?oz8) (by kernel_rfl) (by decide) ?hoz8 ?hkz8
      case hoz8 => (simp only [List.getElem?_toArray, List.getElem?_cons_succ, List.getElem?_cons_zero]; exact rfl)
      intro K hK
      go_simp
      refine (HI2.out _ hHeld).mono ?_
      rintro e x7 ⟨rfl, hb⟩
      have hS7 : Below w0.heap.size w0 x7 := Below.trans hHeld (Below.mono hb (Below.size hHeld))
      clear hb hHeld
      go_simp
      refine hK.out _ _ hS7 (fun hHeld => ?_)
      clear hS7
      clear hK K
      try simp only [Act.put, List.setIfInBounds_toArray, List.set_cons_zero, List.set_cons_succ]
      refine WalkT.one (i := 8) (o := ?oz9) (by kernel_rfl) (by decide) ?hoz9 ?hkz9
      case hoz9 => (simp only [List.getElem?_toArray, List.getElem?_cons_succ, List.getElem?_cons_zero]; exact rfl)
      intro K hK
      go_simp
      refine (rnodeB _ _ s1 s2 _).mono ?_
      rintro e x8 ⟨rfl, hb⟩
      have hS8 : Below w0.heap.size w0 x8 := Below.trans hHeld (Below.mono hb (Below.size hHeld))
      clear hb hHeld
      go_simp
      refine hK.out _ _ hS8 (fun hHeld => ?_)
      clear hS8
      clear hK K
      try simp only [Act.put, List.setIfInBounds_toArray, List.set_cons_zero, List.set_cons_succ]
      refine WalkT.tail (by kernel_rfl) ?_
      have Hend := Lib.hid (Below.trans HW.out (Below.mono hHeld HW.out.size)); clear hHeld
      simp only [List.drop_succ_cons, List.drop_zero]
      go_wp2
      go_ret
      exact ⟨by rw [← HRoot.out]; rfl, Hend.out⟩
    · match L, h2, hf, h, hs, hl with
      | [], _, _, h, _, _ => exact ih [] w v (by simp) h (by simp) (by simp)
      | [d], _, _, h, hs, _ =>
        obtain ⟨A, cap, rfl, hm, hc⟩ := h
        obtain ⟨b, o, rfl, -, hx⟩ := hc 0 (by simp)
        have hd := hs d (by simp)
        simp only [List.getElem_cons_zero, Nat.add_zero] at hx
        rw [root_one]
        clear ih hc hs hm
        go_enter Tryd.func37, Tryd.ntmps37
        go_wp2_with fail
        refine (rleafB d (by omega) _).mono ?_
        rintro e w2 ⟨rfl, hb2⟩
        go_wp2
        go_ret
        exact ⟨rfl, hb2⟩
      | _ :: _ :: _, h2, _, _, _, _ => simp at h2
theorem rroot_any {w : World} {v : Value} {L : List ByteArray} (h : SRead w v L) (hs : ∀ s ∈ L, s.size ≤ 80000000) (hl : L.length < 1000000) :
    Calls Tryd.prog 37 #[v] w fun e w' => e = .returned (.string (root L)) ∧ Below w.heap.size w w' := rroot_aux L.length L w v (Nat.le_refl _) h hs hl
end Go.Proofs.YtkdajlhmodmkoaaDoor
