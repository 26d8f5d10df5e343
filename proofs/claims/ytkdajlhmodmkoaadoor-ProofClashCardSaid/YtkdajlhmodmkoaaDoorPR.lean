/-
  Layer 9 (proof): the document's Clash walked.
-/
import Derived.Test.YtkdajlhmodmkoaaDoorQB
namespace Go.Proofs.YtkdajlhmodmkoaaDoor
open Go.RowKit TreeM
set_option linter.unusedVariables false
set_option linter.unusedSimpArgs false

set_option maxRecDepth 100000 in
set_option maxHeartbeats 8000000 in
theorem rclash_aux : ∀ (f m n : Nat), n ≤ f → 1 ≤ m → m ≤ n → ∀ (L Q : List ByteArray) (h : ByteArray) (w : World) (vL vP : Value), L.length = n → Q.length = (steps m n).length → SRead w vL L → (∀ s ∈ L, s.size ≤ 80000000) → SRead w vP (Q ++ [h]) → (∀ s ∈ Q, s.size = 32) → h.size = 32 → n < 1000000 →
    Calls Tryd.prog 94 #[.int .i64 (m : Int), vL, vP] w fun e w' => e = .returned (.tuple #[.string (clOut (clash (steps m n) L (h :: Q.reverse))).1, .string (clOut (clash (steps m n) L (h :: Q.reverse))).2.1, .bool (clOut (clash (steps m n) L (h :: Q.reverse))).2.2]) ∧ Below w.heap.size w w' := by
  refine steps_ind ?_ ?_ ?_
  · intro n hn L Q h w vL vP hl hq hr hs hp hw hh hb
    rw [steps_end (Nat.le_refl _)]
    show Calls _ _ _ _ fun e w' => e = .returned (.tuple #[.string ⟨#[]⟩, .string ⟨#[]⟩, .bool false]) ∧ Below w.heap.size w w'
    obtain ⟨b, o, cap, rfl, hcap⟩ := hr.slice hl hn
    obtain ⟨A, capp, rfl⟩ := hp.any rfl
    generalize (Q ++ [h]).length = pl at *
    clear hq hr hs hp hw hh
    go_enter Tryd.func94, Tryd.ntmps94
    go_wp2
    go_ret3
    exact ⟨rfl, Below.refl _ _⟩
  · intro m n h1 hm hk ih L Q h w vL vP hl hq hr hs hp hw hh hb
    have hk2 := split_lt (n := n) (by omega)
    have hk1 := split_pos (n := n) (by omega)
    have hS := steps_first h1 hm hk
    have h39 := rsplit_all n (by omega)
    obtain ⟨k, hke⟩ : ∃ k, split n = k := ⟨_, rfl⟩
    rw [hke] at hk hk1 hk2 hS h39 ih
    rw [hS] at hq ⊢
    rw [List.length_cons] at hq
    obtain ⟨dm, hdm⟩ : ∃ dm, m - k = dm := ⟨_, rfl⟩
    obtain ⟨dn, hdn⟩ : ∃ dn, n - k = dn := ⟨_, rfl⟩
    skip
    obtain ⟨d, hd⟩ : ∃ d, steps m k = d := ⟨_, rfl⟩
    have him := fun (Q' : List ByteArray) (h' : ByteArray) wq vq a1 a2 a3 a4 => rimplied_aux k m k (Nat.le_refl _) (by omega) (by omega) Q' h' wq vq a1 a2 a3 a4 (by omega)
    rw [hd] at hq ih him ⊢
    obtain ⟨b, o, cap, rfl, hcap⟩ := hr.slice hl (by omega)
    obtain ⟨bp, op, capp, rfl, hcapp, hbw, hcell, hsub, hmx⟩ := hp.snoc
    obtain ⟨Q', h', rfl⟩ := snoc_of_pos (Q := Q) (by omega)
    have hw' : ∀ s ∈ Q', s.size = 32 := fun s hs => hw s (List.mem_append_left _ hs)
    have hh' : h'.size = 32 := hw h' (by simp)
    have hlen : Q'.length = d.length := by simp at hq; omega
    have hrev : (Q' ++ [h']).reverse = h' :: Q'.reverse := by simp
    rw [hrev]
    have htk := hr.take k (by omega)
    have hdr := hr.drop k (by omega)
    rw [hl] at hdr
    have HRk := Lib.hid (fun wq (hq : Below w.heap.size w wq) => rroot_any (htk.below hq rfl) (fun s hs' => hs s (List.mem_of_mem_take hs')) (by rw [List.length_take]; omega))
    have HRd := Lib.hid (fun wq (hq : Below w.heap.size w wq) => rroot_any (hdr.below hq rfl) (fun s hs' => hs s (List.mem_of_mem_drop hs')) (by rw [List.length_drop]; omega))
    have hok : own k L = (root (L.take k), root (L.drop k)) := rfl
    obtain ⟨r1, hr1⟩ : ∃ r, root (L.take k) = r := ⟨_, rfl⟩
    obtain ⟨r2, hr2⟩ : ∃ r, root (L.drop k) = r := ⟨_, rfl⟩
    rw [hr1, hr2] at hok; rw [hr1] at HRk; rw [hr2] at HRd
    have r32 : r1.size = 32 ∧ r2.size = 32 := by rw [← hr1, ← hr2]; exact ⟨root_length _, root_length _⟩
    obtain ⟨I, hI⟩ : ∃ I, imp d (h' :: Q'.reverse) = I := ⟨_, rfl⟩
    have hIw : I.1.size = 32 ∧ I.2.size = 32 := by rw [← hI]; exact imp_wide d _ (fun s hs => (List.mem_cons.1 hs).elim (fun e => e ▸ hh') (fun hs => hw' s (List.mem_reverse.1 hs))) (by simp [hlen])
    have hcl := clash_goT (h := h) hI hok
    obtain ⟨C, hC⟩ : ∃ C, clOut (clash d (L.take k) (h' :: Q'.reverse)) = C := ⟨_, rfl⟩
    have HIm : Hid (∀ wq, Below w.heap.size w wq → Calls Tryd.prog 87 #[.int .u64 (m : Int), .int .u64 (k : Int), .slice (some ⟨bp, op, none⟩) (Q' ++ [h']).length capp] wq fun e w' => e = .returned (.tuple #[.string I.1, .string I.2]) ∧ Below wq.heap.size wq w') :=
      Lib.hid fun wq hq => by
        rw [← hI]
        exact him Q' h' wq _ hlen (hsub.below hq rfl) hw' hh'
    have HI : Hid (∀ wq, Below w.heap.size w wq → Calls Tryd.prog 94 #[.int .i64 (m : Int), .slice (some ⟨b, o, none⟩) k cap, .slice (some ⟨bp, op, none⟩) (Q' ++ [h']).length capp] wq fun e w' => e = .returned (.tuple #[.string C.1, .string C.2.1, .bool C.2.2]) ∧ Below wq.heap.size wq w') :=
      Lib.hid fun wq hq => by
        rw [← hC]
        exact ih (L.take k) Q' h' wq _ _ (by rw [List.length_take]; omega) hlen (htk.below hq rfl) (fun s hs' => hs s (List.mem_of_mem_take hs')) (hsub.below hq rfl) hw' hh' (by omega)
    have hEq : clOut (clash (((true : Bool), k) :: d) L (h :: h' :: Q'.reverse)) = if (I.2, h) = (r1, r2) then C else (text I.2 h, text r1 r2, true) := by
      rw [hcl]
      split
      · exact hC
      · rfl
    obtain ⟨R, hR⟩ : ∃ R, clOut (clash (((true : Bool), k) :: d) L (h :: h' :: Q'.reverse)) = R := ⟨_, rfl⟩
    rw [hR] at hEq ⊢
    have H39 := Lib.hid h39
    have hmx' : (Q' ++ [h']).length + 1 ≤ 9223372036854775807 := hmx
    obtain ⟨q, hqe⟩ : ∃ q, (Q' ++ [h']).length = q := ⟨_, rfl⟩
    rw [hqe] at hcell hcapp hmx' HI HIm ⊢
    obtain ⟨N, hN⟩ : ∃ N, q + 1 = N := ⟨_, rfl⟩
    rw [hN] at hcapp hmx' ⊢
    have hs1 := text_inj (a := I.2) (b := h) (c := r1) (d := r2) (by rw [hIw.2, r32.1])
    have Hs := Lib.hid (And.intro hIw.2 (And.intro hh (And.intro r32 (And.intro hs1 hEq))))
    have e1 : IntKind.i64.wrap ((N : Int) - 1) = (q : Int) := by rw [show (N : Int) - 1 = (q : Int) by omega]; exact IntWalk.i64_in _ (by omega)
    have e2 : IntKind.u64.wrap (n : Int) = (n : Int) := by show (n : Int) % 18446744073709551616 = _; omega
    have e3 : IntKind.i64.wrap (k : Int) = (k : Int) := IntWalk.i64_in _ (by omega)
    have e4 : IntKind.u64.wrap (m : Int) = (m : Int) := by show (m : Int) % 18446744073709551616 = _; omega
    have e5 : IntKind.u64.wrap (k : Int) = (k : Int) := by show (k : Int) % 18446744073709551616 = _; omega
    skip
    skip
    have q0 : (0 : Int) ≤ (q : Int) := by omega
    have q1 : (q : Int) < (N : Int) := by omega
    have q2 : (q : Int) ≤ (N : Int) := by omega
    have q3 : (q : Int) ≤ (capp : Int) := by omega
    have q4 : q ≤ N := by omega
    have q5 : q ≤ capp := by omega
    have t0 : (0 : Int) ≤ (k : Int) := by omega
    have t1 : (k : Int) ≤ (n : Int) := by omega
    have t2 : (k : Int) ≤ (cap : Int) := by omega
    have t3 : k ≤ n := by omega
    have t4 : k ≤ cap := by omega
    have t5 : ¬ cap = k := by omega
    have hnk : n - k = dn := hdn
    have n0 : ((m : Int) == (n : Int)) = false := by rw [beq_eq_false_iff_ne]; omega
    have l2 : ((m : Int) ≤ (k : Int)) = True := eq_true (by omega)
    have z1 : ¬ 9223372036854775807 < 1 + r1.size := by omega
    have z2 : ¬ 9223372036854775807 < 1 + r1.size + r2.size := by omega
    have z3 : ¬ 9223372036854775807 < 1 + I.2.size := by have := Hs.out.1; have := Hs.out.2.1; omega
    have z4 : ¬ 9223372036854775807 < 1 + I.2.size + h.size := by have := Hs.out.1; have := Hs.out.2.1; omega
    rw [hdn] at HRd
    have hEq' := hEq
    have Hcell := Lib.hid hcell
    clear ih him hr hs hp hw hh hb hsub hmx hqe hN hl hlen hrev hIw hI hw' hh' h39 hke hS hdm hq hcl hC hok hr1 hr2 r32 hR hbw htk hdr hs1 hEq hEq' hcell hd
    go_enter Tryd.func94, Tryd.ntmps94
    go_wp2_with fail
    refine (H39.out _).mono ?_
    rintro e wq ⟨rfl, hwq⟩
    replace hwq := hwq.symm; subst hwq
    go_wp2_with fail
    refine wp_region_T (n := 10) (S := fun wq => Below w.heap.size w wq) (by kernel_rfl) (by kernel_rfl) (below_drewN' (Below.refl _ _) 1) (fun hHeld => ?_)
    refine WalkT.take (i := 0) (oi := _) (v := ?vta1) rfl (by decide) (by kernel_rfl) (by kernel_rfl) (fun _ _ _ h => h) (Or.inl ⟨by kernel_rfl, ?hyta1⟩) (by assumption) ?rta1
    case hyta1 => (intro wq hSw; go_simp; try (with_reducible rfl))
    try simp only [Act.put, List.setIfInBounds_toArray, List.set_cons_zero, List.set_cons_succ]
    refine WalkT.take (i := 1) (oi := _) (v := ?vta2) rfl (by decide) (by kernel_rfl) (by kernel_rfl) (fun _ _ _ h => h) (Or.inl ⟨by kernel_rfl, ?hyta2⟩) (by assumption) ?rta2
    case hyta2 => (intro wq hSw; go_simp; try (with_reducible rfl))
    try simp only [Act.put, List.setIfInBounds_toArray, List.set_cons_zero, List.set_cons_succ]
    refine WalkT.take (i := 2) (oi := _) (v := ?vta3) rfl (by decide) (by kernel_rfl) (by kernel_rfl) (fun _ _ _ h => h) (Or.inl ⟨by kernel_rfl, ?hyta3⟩) (by assumption) ?rta3
    case hyta3 => (intro wq hSw; go_simp; try (with_reducible rfl))
    try simp only [Act.put, List.setIfInBounds_toArray, List.set_cons_zero, List.set_cons_succ]
    refine WalkT.take (i := 5) (oi := _) (v := ?vta4) rfl (by decide) (by kernel_rfl) (by kernel_rfl) (fun _ _ _ h => h) (Or.inl ⟨by kernel_rfl, ?hyta4⟩) (by assumption) ?rta4
    case hyta4 => (intro wq hSw; go_simp; try (with_reducible rfl))
    try simp only [Act.put, List.setIfInBounds_toArray, List.set_cons_zero, List.set_cons_succ]
    refine WalkT.take (i := 6) (oi := _) (v := ?vta5) rfl (by decide) (by kernel_rfl) (by kernel_rfl) (fun _ _ _ h => h) (Or.inl ⟨by kernel_rfl, ?hyta5⟩) (by assumption) ?rta5
    case hyta5 => (intro wq hSw; go_simp; try (with_reducible rfl))
    try simp only [Act.put, List.setIfInBounds_toArray, List.set_cons_zero, List.set_cons_succ]
    refine WalkT.take (i := 7) (oi := _) (v := ?vta6) rfl (by decide) (by kernel_rfl) (by kernel_rfl) (fun _ _ _ h => h) (Or.inl ⟨by kernel_rfl, ?hyta6⟩) (by assumption) ?rta6
    case hyta6 => (intro wq hSw; go_simp; try (with_reducible rfl))
    try simp only [Act.put, List.setIfInBounds_toArray, List.set_cons_zero, List.set_cons_succ]
    refine WalkT.one (i := 3) (o := ?ota7) (by kernel_rfl) (by decide) ?hota7 ?hkta7
    case hota7 => (simp only [List.getElem?_toArray, List.getElem?_cons_succ, List.getElem?_cons_zero]; exact rfl)
    intro K hK
    go_simp
    refine (HRk.out _ hHeld).mono ?_
    rintro e y3 ⟨rfl, hb⟩
    have hS3 : Below w.heap.size w y3 := Below.trans hHeld (Below.mono hb (Below.size hHeld))
    clear hb hHeld
    go_simp
    refine hK.out _ _ hS3 (fun hHeld => ?_)
    clear hS3
    clear hK K
    try simp only [Act.put, List.setIfInBounds_toArray, List.set_cons_zero, List.set_cons_succ]
    refine WalkT.take (i := 4) (oi := _) (v := ?vta8) rfl (by decide) (by kernel_rfl) (by kernel_rfl) (fun _ _ _ h => h) (Or.inl ⟨by kernel_rfl, ?hyta8⟩) (by assumption) ?rta8
    case hyta8 => (intro wq hSw; go_simp; try (with_reducible rfl))
    try simp only [Act.put, List.setIfInBounds_toArray, List.set_cons_zero, List.set_cons_succ]
    refine WalkT.one (i := 8) (o := ?ota9) (by kernel_rfl) (by decide) ?hota9 ?hkta9
    case hota9 => (simp only [List.getElem?_toArray, List.getElem?_cons_succ, List.getElem?_cons_zero]; exact rfl)
    intro K hK
    go_simp
    refine (HRd.out _ hHeld).mono ?_
    rintro e y8 ⟨rfl, hb⟩
    have hS8 : Below w.heap.size w y8 := Below.trans hHeld (Below.mono hb (Below.size hHeld))
    clear hb hHeld
    go_simp
    refine hK.out _ _ hS8 (fun hHeld => ?_)
    clear hS8
    clear hK K
    try simp only [Act.put, List.setIfInBounds_toArray, List.set_cons_zero, List.set_cons_succ]
    refine WalkT.take (i := 9) (oi := _) (v := ?vta10) rfl (by decide) (by kernel_rfl) (by kernel_rfl) (fun _ _ _ h => h) (Or.inl ⟨by kernel_rfl, ?hyta10⟩) (by assumption) ?rta10
    case hyta10 => (intro wq hSw; go_simp; try (with_reducible rfl))
    try simp only [Act.put, List.setIfInBounds_toArray, List.set_cons_zero, List.set_cons_succ]
    refine WalkT.tail (by kernel_rfl) ?_
    have Hb4 := Lib.hid hHeld; have hcell := cell_belowB hHeld rfl Hcell.out; clear hHeld
    simp only [List.drop_succ_cons, List.drop_zero]
    go_wp2_with fail
    clear hcell
    refine (HIm.out _ Hb4.out).mono ?_
    rintro e w5 ⟨rfl, hb5⟩
    have hcell := cell_belowB hb5 rfl (cell_belowB Hb4.out rfl Hcell.out)
    have Hb5 := Lib.hid (Hb4.out.trans (hb5.mono Hb4.out.size)); clear hb5
    have hs1 := Hs.out.2.2.2.1; have hEq := Hs.out.2.2.2.2
    change text I.2 h = text r1 r2 ↔ _ at hs1
    have hbb := beq_ba (text I.2 h) (text r1 r2)
    have hn3 : (({ data := #[1] } ++ I.2 ++ h : ByteArray).toList != ({ data := #[1] } ++ r1 ++ r2 : ByteArray).toList) = !decide (text I.2 h = text r1 r2) := by
      rw [← hbb]; rfl
    have hn4 : (({ data := #[1] } ++ I.2 ++ h : ByteArray).toList == ({ data := #[1] } ++ r1 ++ r2 : ByteArray).toList) = decide (text I.2 h = text r1 r2) := hbb
    clear hbb
    by_cases he : text I.2 h = text r1 r2
    · rw [decide_eq_true he] at hn3 hn4
      have hp : (I.2, h) = (r1, r2) := Prod.ext_iff.2 (hs1.1 he)
      rw [if_pos hp] at hEq
      have HEq := Lib.hid hEq
      clear hEq hp he hs1
      go_wp2_with fail
      clear hcell hn3 hn4
      refine wp_region_T (n := 11) (S := fun wq => Below w5.heap.size w5 wq) (by kernel_rfl) (by kernel_rfl) (below_drewN' (Below.refl _ _) 1) (fun hHeld => ?_)
      refine WalkT.take (i := 0) (oi := _) (v := ?vtc1) rfl (by decide) (by kernel_rfl) (by kernel_rfl) (fun _ _ _ h => h) (Or.inl ⟨by kernel_rfl, ?hytc1⟩) (by assumption) ?rtc1
      case hytc1 => (intro wq hSw; go_simp; try (with_reducible rfl))
      try simp only [Act.put, List.setIfInBounds_toArray, List.set_cons_zero, List.set_cons_succ]
      refine WalkT.take (i := 1) (oi := _) (v := ?vtc2) rfl (by decide) (by kernel_rfl) (by kernel_rfl) (fun _ _ _ h => h) (Or.inl ⟨by kernel_rfl, ?hytc2⟩) (by assumption) ?rtc2
      case hytc2 => (intro wq hSw; go_simp; try (with_reducible rfl))
      try simp only [Act.put, List.setIfInBounds_toArray, List.set_cons_zero, List.set_cons_succ]
      refine WalkT.take (i := 2) (oi := _) (v := ?vtc3) rfl (by decide) (by kernel_rfl) (by kernel_rfl) (fun _ _ _ h => h) (Or.inl ⟨by kernel_rfl, ?hytc3⟩) (by assumption) ?rtc3
      case hytc3 => (intro wq hSw; go_simp; try (with_reducible rfl))
      try simp only [Act.put, List.setIfInBounds_toArray, List.set_cons_zero, List.set_cons_succ]
      refine WalkT.take (i := 3) (oi := _) (v := ?vtc4) rfl (by decide) (by kernel_rfl) (by kernel_rfl) (fun _ _ _ h => h) (Or.inl ⟨by kernel_rfl, ?hytc4⟩) (by assumption) ?rtc4
      case hytc4 => (intro wq hSw; go_simp; try (with_reducible rfl))
      try simp only [Act.put, List.setIfInBounds_toArray, List.set_cons_zero, List.set_cons_succ]
      refine WalkT.take (i := 4) (oi := _) (v := ?vtc5) rfl (by decide) (by kernel_rfl) (by kernel_rfl) (fun _ _ _ h => h) (Or.inl ⟨by kernel_rfl, ?hytc5⟩) (by assumption) ?rtc5
      case hytc5 => (intro wq hSw; go_simp; try (with_reducible rfl))
      try simp only [Act.put, List.setIfInBounds_toArray, List.set_cons_zero, List.set_cons_succ]
      refine WalkT.take (i := 5) (oi := _) (v := ?vtc6) rfl (by decide) (by kernel_rfl) (by kernel_rfl) (fun _ _ _ h => h) (Or.inl ⟨by kernel_rfl, ?hytc6⟩) (by assumption) ?rtc6
      case hytc6 => (intro wq hSw; go_simp; try (with_reducible rfl))
      try simp only [Act.put, List.setIfInBounds_toArray, List.set_cons_zero, List.set_cons_succ]
      refine WalkT.take (i := 6) (oi := _) (v := ?vtc7) rfl (by decide) (by kernel_rfl) (by kernel_rfl) (fun _ _ _ h => h) (Or.inl ⟨by kernel_rfl, ?hytc7⟩) (by assumption) ?rtc7
      case hytc7 => (intro wq hSw; go_simp; try (with_reducible rfl))
      try simp only [Act.put, List.setIfInBounds_toArray, List.set_cons_zero, List.set_cons_succ]
      refine WalkT.one (i := 7) (o := ?otc8) (by kernel_rfl) (by decide) ?hotc8 ?hktc8
      case hotc8 => (simp only [List.getElem?_toArray, List.getElem?_cons_succ, List.getElem?_cons_zero]; exact rfl)
      intro K hK
      go_simp
      refine (HI.out _ (Hb5.out.trans (Below.mono hHeld Hb5.out.size))).mono ?_
      rintro e y7 ⟨rfl, hb⟩
      have hS7 : Below w5.heap.size w5 y7 := Below.trans hHeld (Below.mono hb (Below.size hHeld))
      clear hb hHeld
      go_simp
      refine hK.out _ _ hS7 (fun hHeld => ?_)
      clear hS7
      clear hK K
      try simp only [Act.put, List.setIfInBounds_toArray, List.set_cons_zero, List.set_cons_succ]
      refine WalkT.take (i := 8) (oi := _) (v := ?vtc9) rfl (by decide) (by kernel_rfl) (by kernel_rfl) (fun _ _ _ h => h) (Or.inl ⟨by kernel_rfl, ?hytc9⟩) (by assumption) ?rtc9
      case hytc9 => (intro wq hSw; go_simp; try (with_reducible rfl))
      try simp only [Act.put, List.setIfInBounds_toArray, List.set_cons_zero, List.set_cons_succ]
      refine WalkT.take (i := 9) (oi := _) (v := ?vtc10) rfl (by decide) (by kernel_rfl) (by kernel_rfl) (fun _ _ _ h => h) (Or.inl ⟨by kernel_rfl, ?hytc10⟩) (by assumption) ?rtc10
      case hytc10 => (intro wq hSw; go_simp; try (with_reducible rfl))
      try simp only [Act.put, List.setIfInBounds_toArray, List.set_cons_zero, List.set_cons_succ]
      refine WalkT.take (i := 10) (oi := _) (v := ?vtc11) rfl (by decide) (by kernel_rfl) (by kernel_rfl) (fun _ _ _ h => h) (Or.inl ⟨by kernel_rfl, ?hytc11⟩) (by assumption) ?rtc11
      case hytc11 => (intro wq hSw; go_simp; try (with_reducible rfl))
      try simp only [Act.put, List.setIfInBounds_toArray, List.set_cons_zero, List.set_cons_succ]
      refine WalkT.tail (by kernel_rfl) ?_
      have Hb6 := Lib.hid (Hb5.out.trans (Below.mono hHeld Hb5.out.size)); clear hHeld
      simp only [List.drop_succ_cons, List.drop_zero]
      go_wp2
      go_ret3
      exact ⟨by rw [HEq.out]; rfl, Hb6.out⟩
    · rw [decide_eq_false he] at hn3 hn4
      have hp : ¬ (I.2, h) = (r1, r2) := fun h => he (hs1.2 (Prod.ext_iff.1 h))
      rw [if_neg hp] at hEq
      have HEq := Lib.hid hEq
      clear hEq hp he hs1
      go_wp2
      go_ret3
      exact ⟨by rw [HEq.out]; rfl, Hb5.out⟩
  · intro m n hm hk ih L Q h w vL vP hl hq hr hs hp hw hh hb
    have hk2 := split_lt (n := n) (by omega)
    have hk1 := split_pos (n := n) (by omega)
    have hS := steps_rest hm hk
    have h39 := rsplit_all n (by omega)
    obtain ⟨k, hke⟩ : ∃ k, split n = k := ⟨_, rfl⟩
    rw [hke] at hk hk1 hk2 hS h39 ih
    rw [hS] at hq ⊢
    rw [List.length_cons] at hq
    obtain ⟨dm, hdm⟩ : ∃ dm, m - k = dm := ⟨_, rfl⟩
    obtain ⟨dn, hdn⟩ : ∃ dn, n - k = dn := ⟨_, rfl⟩
    rw [hdm, hdn] at ih hq ⊢
    obtain ⟨d, hd⟩ : ∃ d, steps dm dn = d := ⟨_, rfl⟩
    have him := fun (Q' : List ByteArray) (h' : ByteArray) wq vq a1 a2 a3 a4 => rimplied_aux dn dm dn (Nat.le_refl _) (by omega) (by omega) Q' h' wq vq a1 a2 a3 a4 (by omega)
    rw [hd] at hq ih him ⊢
    obtain ⟨b, o, cap, rfl, hcap⟩ := hr.slice hl (by omega)
    obtain ⟨bp, op, capp, rfl, hcapp, hbw, hcell, hsub, hmx⟩ := hp.snoc
    obtain ⟨Q', h', rfl⟩ := snoc_of_pos (Q := Q) (by omega)
    have hw' : ∀ s ∈ Q', s.size = 32 := fun s hs => hw s (List.mem_append_left _ hs)
    have hh' : h'.size = 32 := hw h' (by simp)
    have hlen : Q'.length = d.length := by simp at hq; omega
    have hrev : (Q' ++ [h']).reverse = h' :: Q'.reverse := by simp
    rw [hrev]
    have htk := hr.take k (by omega)
    have hdr := hr.drop k (by omega)
    rw [hl] at hdr
    have HRk := Lib.hid (fun wq (hq : Below w.heap.size w wq) => rroot_any (htk.below hq rfl) (fun s hs' => hs s (List.mem_of_mem_take hs')) (by rw [List.length_take]; omega))
    have HRd := Lib.hid (fun wq (hq : Below w.heap.size w wq) => rroot_any (hdr.below hq rfl) (fun s hs' => hs s (List.mem_of_mem_drop hs')) (by rw [List.length_drop]; omega))
    have hok : own k L = (root (L.take k), root (L.drop k)) := rfl
    obtain ⟨r1, hr1⟩ : ∃ r, root (L.take k) = r := ⟨_, rfl⟩
    obtain ⟨r2, hr2⟩ : ∃ r, root (L.drop k) = r := ⟨_, rfl⟩
    rw [hr1, hr2] at hok; rw [hr1] at HRk; rw [hr2] at HRd
    have r32 : r1.size = 32 ∧ r2.size = 32 := by rw [← hr1, ← hr2]; exact ⟨root_length _, root_length _⟩
    obtain ⟨I, hI⟩ : ∃ I, imp d (h' :: Q'.reverse) = I := ⟨_, rfl⟩
    have hIw : I.1.size = 32 ∧ I.2.size = 32 := by rw [← hI]; exact imp_wide d _ (fun s hs => (List.mem_cons.1 hs).elim (fun e => e ▸ hh') (fun hs => hw' s (List.mem_reverse.1 hs))) (by simp [hlen])
    have hcl := clash_goF (h := h) hI hok
    obtain ⟨C, hC⟩ : ∃ C, clOut (clash d (L.drop k) (h' :: Q'.reverse)) = C := ⟨_, rfl⟩
    have HIm : Hid (∀ wq, Below w.heap.size w wq → Calls Tryd.prog 87 #[.int .u64 (dm : Int), .int .u64 (dn : Int), .slice (some ⟨bp, op, none⟩) (Q' ++ [h']).length capp] wq fun e w' => e = .returned (.tuple #[.string I.1, .string I.2]) ∧ Below wq.heap.size wq w') :=
      Lib.hid fun wq hq => by
        rw [← hI]
        exact him Q' h' wq _ hlen (hsub.below hq rfl) hw' hh'
    have HI : Hid (∀ wq, Below w.heap.size w wq → Calls Tryd.prog 94 #[.int .i64 (dm : Int), .slice (some ⟨b, o + k, none⟩) dn (cap - k), .slice (some ⟨bp, op, none⟩) (Q' ++ [h']).length capp] wq fun e w' => e = .returned (.tuple #[.string C.1, .string C.2.1, .bool C.2.2]) ∧ Below wq.heap.size wq w') :=
      Lib.hid fun wq hq => by
        rw [← hC]; subst hdn
        exact ih (L.drop k) Q' h' wq _ _ (by rw [List.length_drop, hl]) hlen (hdr.below hq rfl) (fun s hs' => hs s (List.mem_of_mem_drop hs')) (hsub.below hq rfl) hw' hh' (by omega)
    have hEq : clOut (clash (((false : Bool), k) :: d) L (h :: h' :: Q'.reverse)) = if (h, I.2) = (r1, r2) then C else (text h I.2, text r1 r2, true) := by
      rw [hcl]
      split
      · exact hC
      · rfl
    obtain ⟨R, hR⟩ : ∃ R, clOut (clash (((false : Bool), k) :: d) L (h :: h' :: Q'.reverse)) = R := ⟨_, rfl⟩
    rw [hR] at hEq ⊢
    have H39 := Lib.hid h39
    have hmx' : (Q' ++ [h']).length + 1 ≤ 9223372036854775807 := hmx
    obtain ⟨q, hqe⟩ : ∃ q, (Q' ++ [h']).length = q := ⟨_, rfl⟩
    rw [hqe] at hcell hcapp hmx' HI HIm ⊢
    obtain ⟨N, hN⟩ : ∃ N, q + 1 = N := ⟨_, rfl⟩
    rw [hN] at hcapp hmx' ⊢
    have hs1 := text_inj (a := h) (b := I.2) (c := r1) (d := r2) (by rw [hh, r32.1])
    have Hs := Lib.hid (And.intro hIw.2 (And.intro hh (And.intro r32 (And.intro hs1 hEq))))
    have e1 : IntKind.i64.wrap ((N : Int) - 1) = (q : Int) := by rw [show (N : Int) - 1 = (q : Int) by omega]; exact IntWalk.i64_in _ (by omega)
    have e2 : IntKind.u64.wrap (n : Int) = (n : Int) := by show (n : Int) % 18446744073709551616 = _; omega
    have e3 : IntKind.i64.wrap (k : Int) = (k : Int) := IntWalk.i64_in _ (by omega)
    have e4 : IntKind.u64.wrap (dm : Int) = (dm : Int) := by show (dm : Int) % 18446744073709551616 = _; omega
    have e5 : IntKind.u64.wrap (dn : Int) = (dn : Int) := by show (dn : Int) % 18446744073709551616 = _; omega
    have e6 : IntKind.i64.wrap ((m : Int) - (k : Int)) = (dm : Int) := by rw [show (m : Int) - (k : Int) = (dm : Int) by omega]; exact IntWalk.i64_in _ (by omega)
    have e7 : IntKind.i64.wrap ((n : Int) - (k : Int)) = (dn : Int) := by rw [show (n : Int) - (k : Int) = (dn : Int) by omega]; exact IntWalk.i64_in _ (by omega)
    have q0 : (0 : Int) ≤ (q : Int) := by omega
    have q1 : (q : Int) < (N : Int) := by omega
    have q2 : (q : Int) ≤ (N : Int) := by omega
    have q3 : (q : Int) ≤ (capp : Int) := by omega
    have q4 : q ≤ N := by omega
    have q5 : q ≤ capp := by omega
    have t0 : (0 : Int) ≤ (k : Int) := by omega
    have t1 : (k : Int) ≤ (n : Int) := by omega
    have t2 : (k : Int) ≤ (cap : Int) := by omega
    have t3 : k ≤ n := by omega
    have t4 : k ≤ cap := by omega
    have t5 : ¬ cap = k := by omega
    have hnk : n - k = dn := hdn
    have n0 : ((m : Int) == (n : Int)) = false := by rw [beq_eq_false_iff_ne]; omega
    have l2 : ((m : Int) ≤ (k : Int)) = False := eq_false (by omega)
    have z1 : ¬ 9223372036854775807 < 1 + r1.size := by omega
    have z2 : ¬ 9223372036854775807 < 1 + r1.size + r2.size := by omega
    have z3 : ¬ 9223372036854775807 < 1 + h.size := by have := Hs.out.1; have := Hs.out.2.1; omega
    have z4 : ¬ 9223372036854775807 < 1 + h.size + I.2.size := by have := Hs.out.1; have := Hs.out.2.1; omega
    rw [hdn] at HRd
    have hEq' := hEq
    have Hcell := Lib.hid hcell
    clear ih him hr hs hp hw hh hb hsub hmx hqe hN hl hlen hrev hIw hI hw' hh' h39 hke hS hdm hq hcl hC hok hr1 hr2 r32 hR hbw htk hdr hs1 hEq hEq' hcell hd
    go_enter Tryd.func94, Tryd.ntmps94
    go_wp2_with fail
    refine (H39.out _).mono ?_
    rintro e wq ⟨rfl, hwq⟩
    replace hwq := hwq.symm; subst hwq
    go_wp2_with fail
    refine wp_region_T (n := 10) (S := fun wq => Below w.heap.size w wq) (by kernel_rfl) (by kernel_rfl) (below_drewN' (Below.refl _ _) 1) (fun hHeld => ?_)
    refine WalkT.take (i := 0) (oi := _) (v := ?vtb1) rfl (by decide) (by kernel_rfl) (by kernel_rfl) (fun _ _ _ h => h) (Or.inl ⟨by kernel_rfl, ?hytb1⟩) (by assumption) ?rtb1
    case hytb1 => (intro wq hSw; go_simp; try (with_reducible rfl))
    try simp only [Act.put, List.setIfInBounds_toArray, List.set_cons_zero, List.set_cons_succ]
    refine WalkT.take (i := 1) (oi := _) (v := ?vtb2) rfl (by decide) (by kernel_rfl) (by kernel_rfl) (fun _ _ _ h => h) (Or.inl ⟨by kernel_rfl, ?hytb2⟩) (by assumption) ?rtb2
    case hytb2 => (intro wq hSw; go_simp; try (with_reducible rfl))
    try simp only [Act.put, List.setIfInBounds_toArray, List.set_cons_zero, List.set_cons_succ]
    refine WalkT.take (i := 2) (oi := _) (v := ?vtb3) rfl (by decide) (by kernel_rfl) (by kernel_rfl) (fun _ _ _ h => h) (Or.inl ⟨by kernel_rfl, ?hytb3⟩) (by assumption) ?rtb3
    case hytb3 => (intro wq hSw; go_simp; try (with_reducible rfl))
    try simp only [Act.put, List.setIfInBounds_toArray, List.set_cons_zero, List.set_cons_succ]
    refine WalkT.take (i := 5) (oi := _) (v := ?vtb4) rfl (by decide) (by kernel_rfl) (by kernel_rfl) (fun _ _ _ h => h) (Or.inl ⟨by kernel_rfl, ?hytb4⟩) (by assumption) ?rtb4
    case hytb4 => (intro wq hSw; go_simp; try (with_reducible rfl))
    try simp only [Act.put, List.setIfInBounds_toArray, List.set_cons_zero, List.set_cons_succ]
    refine WalkT.take (i := 6) (oi := _) (v := ?vtb5) rfl (by decide) (by kernel_rfl) (by kernel_rfl) (fun _ _ _ h => h) (Or.inl ⟨by kernel_rfl, ?hytb5⟩) (by assumption) ?rtb5
    case hytb5 => (intro wq hSw; go_simp; try (with_reducible rfl))
    try simp only [Act.put, List.setIfInBounds_toArray, List.set_cons_zero, List.set_cons_succ]
    refine WalkT.take (i := 7) (oi := _) (v := ?vtb6) rfl (by decide) (by kernel_rfl) (by kernel_rfl) (fun _ _ _ h => h) (Or.inl ⟨by kernel_rfl, ?hytb6⟩) (by assumption) ?rtb6
    case hytb6 => (intro wq hSw; go_simp; try (with_reducible rfl))
    try simp only [Act.put, List.setIfInBounds_toArray, List.set_cons_zero, List.set_cons_succ]
    refine WalkT.one (i := 3) (o := ?otb7) (by kernel_rfl) (by decide) ?hotb7 ?hktb7
    case hotb7 => (simp only [List.getElem?_toArray, List.getElem?_cons_succ, List.getElem?_cons_zero]; exact rfl)
    intro K hK
    go_simp
    refine (HRk.out _ hHeld).mono ?_
    rintro e y3 ⟨rfl, hb⟩
    have hS3 : Below w.heap.size w y3 := Below.trans hHeld (Below.mono hb (Below.size hHeld))
    clear hb hHeld
    go_simp
    refine hK.out _ _ hS3 (fun hHeld => ?_)
    clear hS3
    clear hK K
    try simp only [Act.put, List.setIfInBounds_toArray, List.set_cons_zero, List.set_cons_succ]
    refine WalkT.take (i := 4) (oi := _) (v := ?vtb8) rfl (by decide) (by kernel_rfl) (by kernel_rfl) (fun _ _ _ h => h) (Or.inl ⟨by kernel_rfl, ?hytb8⟩) (by assumption) ?rtb8
    case hytb8 => (intro wq hSw; go_simp; try (with_reducible rfl))
    try simp only [Act.put, List.setIfInBounds_toArray, List.set_cons_zero, List.set_cons_succ]
    refine WalkT.one (i := 8) (o := ?otb9) (by kernel_rfl) (by decide) ?hotb9 ?hktb9
    case hotb9 => (simp only [List.getElem?_toArray, List.getElem?_cons_succ, List.getElem?_cons_zero]; exact rfl)
    intro K hK
    go_simp
    refine (HRd.out _ hHeld).mono ?_
    rintro e y8 ⟨rfl, hb⟩
    have hS8 : Below w.heap.size w y8 := Below.trans hHeld (Below.mono hb (Below.size hHeld))
    clear hb hHeld
    go_simp
    refine hK.out _ _ hS8 (fun hHeld => ?_)
    clear hS8
    clear hK K
    try simp only [Act.put, List.setIfInBounds_toArray, List.set_cons_zero, List.set_cons_succ]
    refine WalkT.take (i := 9) (oi := _) (v := ?vtb10) rfl (by decide) (by kernel_rfl) (by kernel_rfl) (fun _ _ _ h => h) (Or.inl ⟨by kernel_rfl, ?hytb10⟩) (by assumption) ?rtb10
    case hytb10 => (intro wq hSw; go_simp; try (with_reducible rfl))
    try simp only [Act.put, List.setIfInBounds_toArray, List.set_cons_zero, List.set_cons_succ]
    refine WalkT.tail (by kernel_rfl) ?_
    have Hb4 := Lib.hid hHeld; have hcell := cell_belowB hHeld rfl Hcell.out; clear hHeld
    simp only [List.drop_succ_cons, List.drop_zero]
    go_wp2_with fail
    clear hcell
    refine (HIm.out _ Hb4.out).mono ?_
    rintro e w5 ⟨rfl, hb5⟩
    have hcell := cell_belowB hb5 rfl (cell_belowB Hb4.out rfl Hcell.out)
    have Hb5 := Lib.hid (Hb4.out.trans (hb5.mono Hb4.out.size)); clear hb5
    have hs1 := Hs.out.2.2.2.1; have hEq := Hs.out.2.2.2.2
    change text h I.2 = text r1 r2 ↔ _ at hs1
    have hbb := beq_ba (text h I.2) (text r1 r2)
    have hn3 : (({ data := #[1] } ++ h ++ I.2 : ByteArray).toList != ({ data := #[1] } ++ r1 ++ r2 : ByteArray).toList) = !decide (text h I.2 = text r1 r2) := by
      rw [← hbb]; rfl
    have hn4 : (({ data := #[1] } ++ h ++ I.2 : ByteArray).toList == ({ data := #[1] } ++ r1 ++ r2 : ByteArray).toList) = decide (text h I.2 = text r1 r2) := hbb
    clear hbb
    by_cases he : text h I.2 = text r1 r2
    · rw [decide_eq_true he] at hn3 hn4
      have hp : (h, I.2) = (r1, r2) := Prod.ext_iff.2 (hs1.1 he)
      rw [if_pos hp] at hEq
      have HEq := Lib.hid hEq
      clear hEq hp he hs1
      go_wp2_with fail
      clear hcell hn3 hn4
      refine wp_region_T (n := 13) (S := fun wq => Below w5.heap.size w5 wq) (by kernel_rfl) (by kernel_rfl) (below_drewN' (Below.refl _ _) 1) (fun hHeld => ?_)
      refine WalkT.take (i := 0) (oi := _) (v := ?vtd1) rfl (by decide) (by kernel_rfl) (by kernel_rfl) (fun _ _ _ h => h) (Or.inl ⟨by kernel_rfl, ?hytd1⟩) (by assumption) ?rtd1
      case hytd1 => (intro wq hSw; go_simp; try (with_reducible rfl))
      try simp only [Act.put, List.setIfInBounds_toArray, List.set_cons_zero, List.set_cons_succ]
      refine WalkT.take (i := 1) (oi := _) (v := ?vtd2) rfl (by decide) (by kernel_rfl) (by kernel_rfl) (fun _ _ _ h => h) (Or.inl ⟨by kernel_rfl, ?hytd2⟩) (by assumption) ?rtd2
      case hytd2 => (intro wq hSw; go_simp; try (with_reducible rfl))
      try simp only [Act.put, List.setIfInBounds_toArray, List.set_cons_zero, List.set_cons_succ]
      refine WalkT.take (i := 2) (oi := _) (v := ?vtd3) rfl (by decide) (by kernel_rfl) (by kernel_rfl) (fun _ _ _ h => h) (Or.inl ⟨by kernel_rfl, ?hytd3⟩) (by assumption) ?rtd3
      case hytd3 => (intro wq hSw; go_simp; try (with_reducible rfl))
      try simp only [Act.put, List.setIfInBounds_toArray, List.set_cons_zero, List.set_cons_succ]
      refine WalkT.take (i := 3) (oi := _) (v := ?vtd4) rfl (by decide) (by kernel_rfl) (by kernel_rfl) (fun _ _ _ h => h) (Or.inl ⟨by kernel_rfl, ?hytd4⟩) (by assumption) ?rtd4
      case hytd4 => (intro wq hSw; go_simp; try (with_reducible rfl))
      try simp only [Act.put, List.setIfInBounds_toArray, List.set_cons_zero, List.set_cons_succ]
      refine WalkT.take (i := 4) (oi := _) (v := ?vtd5) rfl (by decide) (by kernel_rfl) (by kernel_rfl) (fun _ _ _ h => h) (Or.inl ⟨by kernel_rfl, ?hytd5⟩) (by assumption) ?rtd5
      case hytd5 => (intro wq hSw; go_simp; try (with_reducible rfl))
      try simp only [Act.put, List.setIfInBounds_toArray, List.set_cons_zero, List.set_cons_succ]
      refine WalkT.take (i := 5) (oi := _) (v := ?vtd6) rfl (by decide) (by kernel_rfl) (by kernel_rfl) (fun _ _ _ h => h) (Or.inl ⟨by kernel_rfl, ?hytd6⟩) (by assumption) ?rtd6
      case hytd6 => (intro wq hSw; go_simp; try (with_reducible rfl))
      try simp only [Act.put, List.setIfInBounds_toArray, List.set_cons_zero, List.set_cons_succ]
      refine WalkT.take (i := 6) (oi := _) (v := ?vtd7) rfl (by decide) (by kernel_rfl) (by kernel_rfl) (fun _ _ _ h => h) (Or.inl ⟨by kernel_rfl, ?hytd7⟩) (by assumption) ?rtd7
      case hytd7 => (intro wq hSw; go_simp; try (with_reducible rfl))
      try simp only [Act.put, List.setIfInBounds_toArray, List.set_cons_zero, List.set_cons_succ]
      refine WalkT.take (i := 7) (oi := _) (v := ?vtd8) rfl (by decide) (by kernel_rfl) (by kernel_rfl) (fun _ _ _ h => h) (Or.inl ⟨by kernel_rfl, ?hytd8⟩) (by assumption) ?rtd8
      case hytd8 => (intro wq hSw; go_simp; try (with_reducible rfl))
      try simp only [Act.put, List.setIfInBounds_toArray, List.set_cons_zero, List.set_cons_succ]
      refine WalkT.take (i := 8) (oi := _) (v := ?vtd9) rfl (by decide) (by kernel_rfl) (by kernel_rfl) (fun _ _ _ h => h) (Or.inl ⟨by kernel_rfl, ?hytd9⟩) (by assumption) ?rtd9
      case hytd9 => (intro wq hSw; go_simp; try (with_reducible rfl))
      try simp only [Act.put, List.setIfInBounds_toArray, List.set_cons_zero, List.set_cons_succ]
      refine WalkT.one (i := 9) (o := ?otd10) (by kernel_rfl) (by decide) ?hotd10 ?hktd10
      case hotd10 => (simp only [List.getElem?_toArray, List.getElem?_cons_succ, List.getElem?_cons_zero]; exact rfl)
      intro K hK
      go_simp
      refine (HI.out _ (Hb5.out.trans (Below.mono hHeld Hb5.out.size))).mono ?_
      rintro e y9 ⟨rfl, hb⟩
      have hS9 : Below w5.heap.size w5 y9 := Below.trans hHeld (Below.mono hb (Below.size hHeld))
      clear hb hHeld
      go_simp
      refine hK.out _ _ hS9 (fun hHeld => ?_)
      clear hS9
      clear hK K
      try simp only [Act.put, List.setIfInBounds_toArray, List.set_cons_zero, List.set_cons_succ]
      refine WalkT.take (i := 10) (oi := _) (v := ?vtd11) rfl (by decide) (by kernel_rfl) (by kernel_rfl) (fun _ _ _ h => h) (Or.inl ⟨by kernel_rfl, ?hytd11⟩) (by assumption) ?rtd11
      case hytd11 => (intro wq hSw; go_simp; try (with_reducible rfl))
      try simp only [Act.put, List.setIfInBounds_toArray, List.set_cons_zero, List.set_cons_succ]
      refine WalkT.take (i := 11) (oi := _) (v := ?vtd12) rfl (by decide) (by kernel_rfl) (by kernel_rfl) (fun _ _ _ h => h) (Or.inl ⟨by kernel_rfl, ?hytd12⟩) (by assumption) ?rtd12
      case hytd12 => (intro wq hSw; go_simp; try (with_reducible rfl))
      try simp only [Act.put, List.setIfInBounds_toArray, List.set_cons_zero, List.set_cons_succ]
      refine WalkT.take (i := 12) (oi := _) (v := ?vtd13) rfl (by decide) (by kernel_rfl) (by kernel_rfl) (fun _ _ _ h => h) (Or.inl ⟨by kernel_rfl, ?hytd13⟩) (by assumption) ?rtd13
      case hytd13 => (intro wq hSw; go_simp; try (with_reducible rfl))
      try simp only [Act.put, List.setIfInBounds_toArray, List.set_cons_zero, List.set_cons_succ]
      refine WalkT.tail (by kernel_rfl) ?_
      have Hb6 := Lib.hid (Hb5.out.trans (Below.mono hHeld Hb5.out.size)); clear hHeld
      simp only [List.drop_succ_cons, List.drop_zero]
      go_wp2
      go_ret3
      exact ⟨by rw [HEq.out]; rfl, Hb6.out⟩
    · rw [decide_eq_false he] at hn3 hn4
      have hp : ¬ (h, I.2) = (r1, r2) := fun h => he (hs1.2 (Prod.ext_iff.1 h))
      rw [if_neg hp] at hEq
      have HEq := Lib.hid hEq
      clear hEq hp he hs1
      go_wp2
      go_ret3
      exact ⟨by rw [HEq.out]; rfl, Hb5.out⟩
set_option maxRecDepth 100000 in
set_option maxHeartbeats 4000000 in
theorem rClash_arg {w : World} {vL : Value} {L : List ByteArray} (hL : SRead w vL L) (hs : ∀ s ∈ L, s.size ≤ 80000000) (hl : L.length < 1000000) {vP : Value} {P : List ByteArray} (hP : SRead w vP P) (m : Int) (hb : brOk m L.length = false) :
    Calls Tryd.prog 64 #[.int .i64 m, vL, vP] w fun e w' => e = .returned (.tuple #[.string ⟨#[]⟩, .string ⟨#[]⟩, .bool false]) ∧ Below w.heap.size w w' := by
  obtain ⟨n, hn⟩ : ∃ n, L.length = n := ⟨_, rfl⟩
  obtain ⟨A, cap, rfl⟩ := hL.any hn
  obtain ⟨Ap, capp, rfl⟩ := hP.any rfl
  generalize P.length = pl at *
  rw [hn] at hb hl
  unfold brOk at hb
  clear hL hs hn
  by_cases h1 : m < 1
  · have l1 : (m < 1) = True := eq_true h1
    clear hb h1
    go_enter Tryd.func64, Tryd.ntmps64
    go_wp2
    go_ret3
    exact ⟨rfl, Below.refl _ _⟩
  · have l1 : (m < 1) = False := eq_false h1
    have l2 : ((n : Int) < m) = True := eq_true (by simp at hb; omega)
    clear hb h1
    go_enter Tryd.func64, Tryd.ntmps64
    go_wp2
    go_ret3
    exact ⟨rfl, Below.refl _ _⟩

set_option maxRecDepth 100000 in
set_option maxHeartbeats 4000000 in
theorem rClash_no {w : World} {vL : Value} {L : List ByteArray} (hL : SRead w vL L) (hs : ∀ s ∈ L, s.size ≤ 80000000) (hl : L.length < 1000000) {vP : Value} {P : List ByteArray} (hP : SRead w vP P) (m : Nat) (h1 : 1 ≤ m) (h2 : m ≤ L.length) (hb : clOk (m : Int) L P = false) :
    Calls Tryd.prog 64 #[.int .i64 (m : Int), vL, vP] w fun e w' => e = .returned (.tuple #[.string ⟨#[]⟩, .string ⟨#[]⟩, .bool false]) ∧ Below w.heap.size w w' := by
  obtain ⟨n, hn⟩ : ∃ n, L.length = n := ⟨_, rfl⟩
  have hI := fun wq (hq : Below w.heap.size w wq) => rImplied_any (hP.below hq rfl) m n
  have hR := fun wq (hq : Below w.heap.size w wq) => rroot_any (hL.below hq rfl) hs hl
  rw [hn] at h2 hl
  obtain ⟨b, o, cap, rfl, hcap⟩ := hL.slice hn (by omega)
  have htk := hL.take m (by omega)
  have hRt := fun wq (hq : Below w.heap.size w wq) => rroot_any (htk.below hq rfl) (fun s hs' => hs s (List.mem_of_mem_take hs')) (by rw [List.length_take]; omega)
  obtain ⟨Ap, capp, rfl⟩ := hP.any rfl
  have l1 : ((m : Int) < 1) = False := eq_false (by omega)
  have l2 : ((n : Int) < (m : Int)) = False := eq_false (by omega)
  have e1 : IntKind.u64.wrap (m : Int) = (m : Int) := by show (m : Int) % 18446744073709551616 = _; omega
  have e2 : IntKind.u64.wrap (n : Int) = (n : Int) := by show (n : Int) % 18446744073709551616 = _; omega
  have q0 : (0 : Int) ≤ (m : Int) := by omega
  have q1 : (m : Int) ≤ (n : Int) := by omega
  have q2 : (m : Int) ≤ (cap : Int) := by omega
  have q3 : m ≤ n := by omega
  have q4 : m ≤ cap := by omega
  have hk : ¬ (impE m n P = 0 ∧ impB m n P = root L ∧ impA m n P ≠ root (L.take m)) := by
    intro hk
    have : clOk (m : Int) L P = true := by
      unfold clOk brOk
      rw [Int.toNat_natCast, hn]
      simp [hk.1, hk.2.1, hk.2.2]; omega
    rw [this] at hb; cases hb
  have hc := impE_cases m n P
  obtain ⟨a, ha⟩ : ∃ a, impA m n P = a := ⟨_, rfl⟩
  obtain ⟨s, hs'⟩ : ∃ s, impB m n P = s := ⟨_, rfl⟩
  obtain ⟨r, hr⟩ : ∃ r, root L = r := ⟨_, rfl⟩
  obtain ⟨r2, hr2⟩ : ∃ r, root (L.take m) = r := ⟨_, rfl⟩
  rw [ha, hs'] at hc hI
  rw [ha, hs', hr, hr2] at hk
  rw [hr] at hR; rw [hr2] at hRt
  have HI := Lib.hid hI; have HR := Lib.hid hR; have HRt := Lib.hid hRt
  have hd1 := beq_ba s r; have hd2 := beq_ba a r2
  clear hI hR hRt htk hL hs hP ha hs' hr hr2 hn hb
  generalize P.length = pl at *
  rcases hc with ⟨he, ha32, hs32⟩ | ⟨he | he, ha0, hs0⟩
  · rw [he] at HI hk
    clear ha32 hs32
    by_cases hsr : s = r
    · have hn1 : (s.toList == r.toList) = true := by rw [hd1, decide_eq_true hsr]
      have har : a = r2 := by
        by_cases h : a = r2
        · exact h
        · exact absurd ⟨rfl, hsr, h⟩ hk
      have hn2 : (a.toList == r2.toList) = true := by rw [hd2, decide_eq_true har]
      have hn3 : (s.toList != r.toList) = false := by rw [bne, hn1]; rfl
      clear hd1 hd2 hk hsr har
      go_enter Tryd.func64, Tryd.ntmps64
      go_wp2_with fail
      refine (HI.out _ (Below.refl _ _)).mono ?_
      rintro e w2 ⟨rfl, hb2⟩
      have Hb2 := Lib.hid hb2; clear hb2
      go_wp2_with fail
      refine (HR.out _ Hb2.out).mono ?_
      rintro e w3 ⟨rfl, hb3⟩
      have Hb3 := Lib.hid (Hb2.out.trans (hb3.mono Hb2.out.size)); clear hb3
      go_wp2_with fail
      refine (HRt.out _ Hb3.out).mono ?_
      rintro e w4 ⟨rfl, hb4⟩
      have Hb4 := Lib.hid (Hb3.out.trans (hb4.mono Hb3.out.size)); clear hb4
      go_wp2
      go_ret3
      exact ⟨rfl, Hb4.out⟩
    · have hn1 : (s.toList == r.toList) = false := by rw [hd1, decide_eq_false hsr]
      have hn3 : (s.toList != r.toList) = true := by rw [bne, hn1]; rfl
      clear hd1 hd2 hk hsr
      go_enter Tryd.func64, Tryd.ntmps64
      go_wp2_with fail
      refine (HI.out _ (Below.refl _ _)).mono ?_
      rintro e w2 ⟨rfl, hb2⟩
      have Hb2 := Lib.hid hb2; clear hb2
      go_wp2_with fail
      refine (HR.out _ Hb2.out).mono ?_
      rintro e w3 ⟨rfl, hb3⟩
      have Hb3 := Lib.hid (Hb2.out.trans (hb3.mono Hb2.out.size)); clear hb3
      go_wp2
      go_ret3
      exact ⟨rfl, Hb3.out⟩
  · rw [he] at HI
    clear hd1 hd2 hk ha0 hs0 he
    go_enter Tryd.func64, Tryd.ntmps64
    go_wp2_with fail
    refine (HI.out _ (Below.refl _ _)).mono ?_
    rintro e w2 ⟨rfl, hb2⟩
    have Hb2 := Lib.hid hb2; clear hb2
    go_wp2
    go_ret3
    exact ⟨rfl, Hb2.out⟩
  · rw [he] at HI
    clear hd1 hd2 hk ha0 hs0 he
    go_enter Tryd.func64, Tryd.ntmps64
    go_wp2_with fail
    refine (HI.out _ (Below.refl _ _)).mono ?_
    rintro e w2 ⟨rfl, hb2⟩
    have Hb2 := Lib.hid hb2; clear hb2
    go_wp2
    go_ret3
    exact ⟨rfl, Hb2.out⟩

set_option maxRecDepth 100000 in
set_option maxHeartbeats 4000000 in
theorem rClash_yes {w : World} {vL : Value} {L : List ByteArray} (hL : SRead w vL L) (hs : ∀ s ∈ L, s.size ≤ 80000000) (hl : L.length < 1000000) {vP : Value} {P : List ByteArray} (hP : SRead w vP P) (m : Nat) (h1 : 1 ≤ m) (h2 : m ≤ L.length) (hb : clOk (m : Int) L P = true) :
    Calls Tryd.prog 64 #[.int .i64 (m : Int), vL, vP] w fun e w' => e = .returned (.tuple #[.string (clOut (clash (steps m L.length) L P.reverse)).1, .string (clOut (clash (steps m L.length) L P.reverse)).2.1, .bool (clOut (clash (steps m L.length) L P.reverse)).2.2]) ∧ Below w.heap.size w w' := by
  obtain ⟨n, hn⟩ : ∃ n, L.length = n := ⟨_, rfl⟩
  have hI := fun wq (hq : Below w.heap.size w wq) => rImplied_any (hP.below hq rfl) m n
  have hR := fun wq (hq : Below w.heap.size w wq) => rroot_any (hL.below hq rfl) hs hl
  rw [hn] at h2 hl
  obtain ⟨b, o, cap, rfl, hcap⟩ := hL.slice hn (by omega)
  have htk := hL.take m (by omega)
  have hRt := fun wq (hq : Below w.heap.size w wq) => rroot_any (htk.below hq rfl) (fun s hs' => hs s (List.mem_of_mem_take hs')) (by rw [List.length_take]; omega)
  have hk : impE m n P = 0 ∧ impB m n P = root L ∧ impA m n P ≠ root (L.take m) := by
    unfold clOk brOk at hb
    rw [Int.toNat_natCast, hn] at hb
    have h9 : 1 ≤ (m : Int) := by omega
    simpa [and_assoc, h1, h2, h9] using hb
  obtain ⟨hmay, hpl, hpw, -, -⟩ := impE_ok hk.1
  obtain ⟨Q, x, rfl⟩ := snoc_of_pos (Q := P) (by omega)
  have hC := fun wq (hq : Below w.heap.size w wq) => rclash_aux n m n (Nat.le_refl _) h1 h2 L Q x wq _ _ hn (by simp at hpl; omega) (hL.below hq rfl) hs (hP.below hq rfl) (fun s hs' => hpw s (List.mem_append_left _ hs')) (hpw x (by simp)) hl
  rw [show (Q ++ [x]).reverse = x :: Q.reverse by simp]
  obtain ⟨Ap, capp, rfl⟩ := hP.any rfl
  have l1 : ((m : Int) < 1) = False := eq_false (by omega)
  have l2 : ((n : Int) < (m : Int)) = False := eq_false (by omega)
  have e1 : IntKind.u64.wrap (m : Int) = (m : Int) := by show (m : Int) % 18446744073709551616 = _; omega
  have e2 : IntKind.u64.wrap (n : Int) = (n : Int) := by show (n : Int) % 18446744073709551616 = _; omega
  have q0 : (0 : Int) ≤ (m : Int) := by omega
  have q1 : (m : Int) ≤ (n : Int) := by omega
  have q2 : (m : Int) ≤ (cap : Int) := by omega
  have q3 : m ≤ n := by omega
  have q4 : m ≤ cap := by omega
  obtain ⟨a, ha⟩ : ∃ a, impA m n (Q ++ [x]) = a := ⟨_, rfl⟩
  obtain ⟨s, hs'⟩ : ∃ s, impB m n (Q ++ [x]) = s := ⟨_, rfl⟩
  obtain ⟨r, hr⟩ : ∃ r, root L = r := ⟨_, rfl⟩
  obtain ⟨r2, hr2⟩ : ∃ r, root (L.take m) = r := ⟨_, rfl⟩
  rw [ha, hs'] at hI
  rw [ha, hs', hr, hr2] at hk
  rw [hr] at hR; rw [hr2] at hRt
  obtain ⟨hk1, hk2, hk3⟩ := hk
  rw [hk1] at hI
  obtain ⟨R, hRR⟩ : ∃ R, clOut (clash (steps m n) L (x :: Q.reverse)) = R := ⟨_, rfl⟩
  rw [hn, hRR]
  rw [hRR] at hC
  have hn1 : (s.toList == r.toList) = true := by rw [beq_ba, decide_eq_true hk2]
  have hn2 : (a.toList == r2.toList) = false := by rw [beq_ba, decide_eq_false hk3]
  have hn3 : (s.toList != r.toList) = false := by rw [bne, hn1]; rfl
  have HI := Lib.hid hI; have HR := Lib.hid hR; have HRt := Lib.hid hRt; have HC := Lib.hid hC
  generalize (Q ++ [x]).length = pl at *
  clear hI hR hRt htk hL hs hP ha hs' hr hr2 hn hb hk1 hk2 hk3 hpl hpw hmay hRR hC
  go_enter Tryd.func64, Tryd.ntmps64
  go_wp2_with fail
  refine (HI.out _ (Below.refl _ _)).mono ?_
  rintro e w2 ⟨rfl, hb2⟩
  have Hb2 := Lib.hid hb2; clear hb2
  go_wp2_with fail
  refine (HR.out _ Hb2.out).mono ?_
  rintro e w3 ⟨rfl, hb3⟩
  have Hb3 := Lib.hid (Hb2.out.trans (hb3.mono Hb2.out.size)); clear hb3
  go_wp2_with fail
  refine (HRt.out _ Hb3.out).mono ?_
  rintro e w4 ⟨rfl, hb4⟩
  have Hb4 := Lib.hid (Hb3.out.trans (hb4.mono Hb3.out.size)); clear hb4
  go_wp2_with fail
  refine (HC.out _ Hb4.out).mono ?_
  rintro e w5 ⟨rfl, hb5⟩
  have Hb5 := Lib.hid (Hb4.out.trans (hb5.mono Hb4.out.size)); clear hb5
  go_wp2
  go_ret3
  exact ⟨rfl, Hb5.out⟩
theorem rClash_any {w : World} {vL : Value} {L : List ByteArray} (hL : SRead w vL L) (hs : ∀ s ∈ L, s.size ≤ 80000000) (hl : L.length < 1000000) {vP : Value} {P : List ByteArray} (hP : SRead w vP P) (m : Int) :
    Calls Tryd.prog 64 #[.int .i64 m, vL, vP] w fun e w' => e = .returned (.tuple #[.string (clR m L P).1, .string (clR m L P).2.1, .bool (clR m L P).2.2]) ∧ Below w.heap.size w w' := by
  cases hb : brOk m L.length with
  | false =>
    rw [clR_no (show clOk m L P = false by unfold clOk; rw [hb]; rfl)]
    exact rClash_arg hL hs hl hP m hb
  | true =>
    have hm : 1 ≤ m ∧ m ≤ (L.length : Int) := by unfold brOk at hb; simpa using hb
    obtain ⟨j, rfl⟩ : ∃ j : Nat, m = (j : Int) := ⟨m.toNat, by omega⟩
    cases hc : clOk (j : Int) L P with
    | false =>
      rw [clR_no hc]
      exact rClash_no hL hs hl hP j (by omega) (by omega) hc
    | true =>
      have := rClash_yes hL hs hl hP j (by omega) (by omega) hc
      unfold clR
      rw [hc, if_pos rfl, Int.toNat_natCast]
      exact this
end Go.Proofs.YtkdajlhmodmkoaaDoor
