/-
  Layer 8 (tree): TreeParts walked.
-/
import Derived.Test.YtkdajlhmodmkoaaDoorTZ
import Derived.Test.YtkdajlhmodmkoaaDoorShaO2
namespace Go.Proofs.YtkdajlhmodmkoaaDoor
open Go.RowKit TreeM
set_option linter.unusedVariables false
set_option linter.unusedSimpArgs false

theorem pow_and (e : Nat) : 2 ^ e &&& (2 ^ e - 1) = 0 := by
  rw [Nat.and_two_pow_sub_one_eq_mod, Nat.mod_self]
set_option maxRecDepth 100000 in
set_option maxHeartbeats 16000000 in
theorem parts_end {w wx : World} (hW : Below w.heap.size w wx) (hT0 : Tab wx) : True := trivial
set_option maxRecDepth 100000 in
set_option maxHeartbeats 16000000 in
theorem treeParts_walk (A : Option Addr) (len cap : Nat) (L : List ByteArray) (a : Int) (ha : (Lit.int .u64 a).wf = true) {w : World} (hL : SRead w (.slice A len cap) L) (hT : Tab w) (hBru : Bru w) :
    Calls Tryd.prog 12 #[.slice A len cap, .int .u64 a] w fun e w' => e = .returned (.bool true) ∧ Below w.heap.size w w' := by
  obtain ⟨n, hn, rfl⟩ : ∃ n : Nat, n < 18446744073709551616 ∧ a = (n : Int) := by
    simp [Lit.wf, IntKind.min, IntKind.max, IntKind.signed, IntKind.bits] at ha
    exact ⟨a.toNat, by omega, by omega⟩
  have HT0 := Lib.hid hT; have HB0 := Lib.hid hBru; have HL := Lib.hid hL
  clear hT hBru ha hL
  go_enter Tryd.func12, Tryd.ntmps12
  go_wp2_with fail
  refine (cut_any HL.out 24 (by decide)).mono ?_
  rintro e w1 ⟨⟨v1, rfl, ho1⟩, hb1⟩
  have hlen := cutL_length L 24
  have hsz : ∀ s ∈ cutL L 24, s.size ≤ 80000000 := fun s hs => by have := cutL_size L 24 s hs; omega
  generalize cutL L 24 = M at *
  have hr1 := ho1.read (by unfold maxLen; omega)
  obtain ⟨A1, cap1, hve, -, hc1⟩ := id hr1
  subst hve
  have HW := Lib.hid hb1; have Hl := Lib.hid hr1; have Hsz := Lib.hid hsz; have Hc1 := Lib.hid hc1
  clear hb1 ho1 hr1 hsz hc1 HL
  go_wp2_with fail
  refine (split_any n hn _).mono ?_
  rintro e _ ⟨rfl, rfl⟩
  rename World => w1
  have HT := Lib.hid (HT0.out.below HW.out); have HB := Lib.hid (HB0.out.below HW.out)
  clear HT0 HB0
  by_cases hn2 : 2 ≤ n
  · have hk1 := split_lt hn2
    have hk2 := split_half hn2
    have hk3 := split_pow hn2
    have hk4 := split_pos hn2
    obtain ⟨k, hk⟩ : ∃ k, split n = k := ⟨_, rfl⟩
    rw [hk] at hk1 hk2 hk3 hk4 ⊢
    have l1 : (2 : Int) ≤ (n : Int) := by omega
    have d1 : (n ≤ k) = False := eq_false (by omega)
    have d2 : ((k : Int) < (n : Int) - (k : Int)) = False := eq_false (by omega)
    have d3 : bits .and .u64 (k : Int) ((k : Int) - 1) = 0 := by
      rw [show (k : Int) - 1 = ((k - 1 : Nat) : Int) by omega, u64_and_nat _ _ (by omega) (by omega), hk3, pow_and]; rfl
    clear hk hk3
    by_cases hq : M.length < 2
    · by_cases h0 : M.length = 0
      · obtain rfl : M = [] := List.length_eq_zero_iff.1 h0
        clear hq h0 Hc1 Hsz
        go_upto_region 6 with fail
        refine wp_region_T (n := 15) (S := fun wq => Below w1.heap.size w1 wq) (by kernel_rfl) (by kernel_rfl) (below_drewN' (Below.refl _ _) 1) (fun hHeld => ?_)
        refine WalkT.take (i := 0) (oi := _) (v := ?vy1) rfl (by decide) (by kernel_rfl) (by kernel_rfl) (fun _ _ _ h => h) (Or.inl ⟨by kernel_rfl, ?hyy1⟩) (by assumption) ?ry1
        case hyy1 => (intro wq hSw; go_simp; try (with_reducible rfl))
        try simp only [Act.put, List.setIfInBounds_toArray, List.set_cons_zero, List.set_cons_succ]
        refine WalkT.take (i := 1) (oi := _) (v := ?vy2) rfl (by decide) (by kernel_rfl) (by kernel_rfl) (fun _ _ _ h => h) (Or.inl ⟨by kernel_rfl, ?hyy2⟩) (by assumption) ?ry2
        case hyy2 => (intro wq hSw; go_simp; try (with_reducible rfl))
        try simp only [Act.put, List.setIfInBounds_toArray, List.set_cons_zero, List.set_cons_succ]
        refine WalkT.take (i := 2) (oi := _) (v := ?vy3) rfl (by decide) (by kernel_rfl) (by kernel_rfl) (fun _ _ _ h => h) (Or.inl ⟨by kernel_rfl, ?hyy3⟩) (by assumption) ?ry3
        case hyy3 => (intro wq hSw; go_simp; try (with_reducible rfl))
        try simp only [Act.put, List.setIfInBounds_toArray, List.set_cons_zero, List.set_cons_succ]
        refine WalkT.take (i := 3) (oi := _) (v := ?vy4) rfl (by decide) (by kernel_rfl) (by kernel_rfl) (fun _ _ _ h => h) (Or.inl ⟨by kernel_rfl, ?hyy4⟩) (by assumption) ?ry4
        case hyy4 => (intro wq hSw; go_simp; try (with_reducible rfl))
        try simp only [Act.put, List.setIfInBounds_toArray, List.set_cons_zero, List.set_cons_succ]
        refine WalkT.take (i := 4) (oi := _) (v := _) rfl (by decide) (by kernel_rfl) (by kernel_rfl) (fun _ _ _ h => h) (Or.inr ⟨by kernel_rfl, rfl⟩) (by assumption) ?_
        try simp only [Act.put, List.setIfInBounds_toArray, List.set_cons_zero, List.set_cons_succ]
        refine WalkT.take (i := 5) (oi := _) (v := _) rfl (by decide) (by kernel_rfl) (by kernel_rfl) (fun _ _ _ h => h) (Or.inr ⟨by kernel_rfl, rfl⟩) (by assumption) ?_
        try simp only [Act.put, List.setIfInBounds_toArray, List.set_cons_zero, List.set_cons_succ]
        refine WalkT.take (i := 6) (oi := _) (v := _) rfl (by decide) (by kernel_rfl) (by kernel_rfl) (fun _ _ _ h => h) (Or.inr ⟨by kernel_rfl, rfl⟩) (by assumption) ?_
        try simp only [Act.put, List.setIfInBounds_toArray, List.set_cons_zero, List.set_cons_succ]
        refine WalkT.take (i := 7) (oi := _) (v := _) rfl (by decide) (by kernel_rfl) (by kernel_rfl) (fun _ _ _ h => h) (Or.inr ⟨by kernel_rfl, rfl⟩) (by assumption) ?_
        try simp only [Act.put, List.setIfInBounds_toArray, List.set_cons_zero, List.set_cons_succ]
        refine WalkT.take (i := 8) (oi := _) (v := _) rfl (by decide) (by kernel_rfl) (by kernel_rfl) (fun _ _ _ h => h) (Or.inr ⟨by kernel_rfl, rfl⟩) (by assumption) ?_
        try simp only [Act.put, List.setIfInBounds_toArray, List.set_cons_zero, List.set_cons_succ]
        refine WalkT.take (i := 9) (oi := _) (v := _) rfl (by decide) (by kernel_rfl) (by kernel_rfl) (fun _ _ _ h => h) (Or.inr ⟨by kernel_rfl, rfl⟩) (by assumption) ?_
        try simp only [Act.put, List.setIfInBounds_toArray, List.set_cons_zero, List.set_cons_succ]
        refine WalkT.take (i := 10) (oi := _) (v := _) rfl (by decide) (by kernel_rfl) (by kernel_rfl) (fun _ _ _ h => h) (Or.inr ⟨by kernel_rfl, rfl⟩) (by assumption) ?_
        try simp only [Act.put, List.setIfInBounds_toArray, List.set_cons_zero, List.set_cons_succ]
        refine WalkT.take (i := 11) (oi := _) (v := ?vy5) rfl (by decide) (by kernel_rfl) (by kernel_rfl) (fun _ _ _ h => h) (Or.inl ⟨by kernel_rfl, ?hyy5⟩) (by assumption) ?ry5
        case hyy5 => (intro wq hSw; go_simp; try (with_reducible rfl))
        try simp only [Act.put, List.setIfInBounds_toArray, List.set_cons_zero, List.set_cons_succ]
        refine WalkT.take (i := 12) (oi := _) (v := ?vy6) rfl (by decide) (by kernel_rfl) (by kernel_rfl) (fun _ _ _ h => h) (Or.inl ⟨by kernel_rfl, ?hyy6⟩) (by assumption) ?ry6
        case hyy6 => (intro wq hSw; go_simp; try (with_reducible rfl))
        try simp only [Act.put, List.setIfInBounds_toArray, List.set_cons_zero, List.set_cons_succ]
        refine WalkT.one (i := 13) (o := ?oy7) (by kernel_rfl) (by decide) ?hoy7 ?hky7
        case hoy7 => (simp only [List.getElem?_toArray, List.getElem?_cons_succ, List.getElem?_cons_zero]; exact rfl)
        intro K hK
        go_simp
        refine (tfixed_any (HT.out.below hHeld) (HB.out.below hHeld)).mono ?_
        rintro e x13 ⟨rfl, hb⟩
        have hS13 : Below w1.heap.size w1 x13 := Below.trans hHeld (Below.mono hb (Below.size hHeld))
        clear hb hHeld
        go_simp
        refine hK.out _ _ hS13 (fun hHeld => ?_)
        clear hS13
        clear hK K
        try simp only [Act.put, List.setIfInBounds_toArray, List.set_cons_zero, List.set_cons_succ]
        refine WalkT.take (i := 14) (oi := _) (v := ?vy8) rfl (by decide) (by kernel_rfl) (by kernel_rfl) (fun _ _ _ h => h) (Or.inl ⟨by kernel_rfl, ?hyy8⟩) (by assumption) ?ry8
        case hyy8 => (intro wq hSw; go_simp; try (with_reducible rfl))
        try simp only [Act.put, List.setIfInBounds_toArray, List.set_cons_zero, List.set_cons_succ]
        refine WalkT.tail (by kernel_rfl) ?_
        have Hend := Lib.hid (Below.trans HW.out (Below.mono hHeld HW.out.size)); clear hHeld
        simp only [List.drop_succ_cons, List.drop_zero]
        go_wp2
        go_ret
        exact ⟨rfl, Hend.out⟩
      · obtain ⟨S, rfl⟩ : ∃ S, M = [S] := by
          match M, hq, h0 with
          | [S], _, _ => exact ⟨S, rfl⟩
        obtain ⟨b, o, rfl, -, hx⟩ := Hc1.out 0 (by simp)
        have hx : w1.cell? ⟨b, o, none⟩ = some (.string S) := hx
        have hS : S.size ≤ 80000000 := Hsz.out S (by simp)
        have hsz : ∀ s ∈ [S], s.size ≤ 80000000 := Hsz.out
        clear hq h0 Hc1 Hsz
        have Hl0 := Hl; clear Hl
        go_upto_region 6 with fail
        refine wp_region_T (n := 15) (S := fun wq => Below w1.heap.size w1 wq) (by kernel_rfl) (by kernel_rfl) (below_drewN' (Below.refl _ _) 1) (fun hHeld => ?_)
        refine WalkT.take (i := 0) (oi := _) (v := ?vo1) rfl (by decide) (by kernel_rfl) (by kernel_rfl) (fun _ _ _ h => h) (Or.inl ⟨by kernel_rfl, ?hyo1⟩) (by assumption) ?ro1
        case hyo1 => (intro wq hSw; go_simp; try (with_reducible rfl))
        try simp only [Act.put, List.setIfInBounds_toArray, List.set_cons_zero, List.set_cons_succ]
        refine WalkT.take (i := 1) (oi := _) (v := ?vo2) rfl (by decide) (by kernel_rfl) (by kernel_rfl) (fun _ _ _ h => h) (Or.inl ⟨by kernel_rfl, ?hyo2⟩) (by assumption) ?ro2
        case hyo2 => (intro wq hSw; go_simp; try (with_reducible rfl))
        try simp only [Act.put, List.setIfInBounds_toArray, List.set_cons_zero, List.set_cons_succ]
        refine WalkT.take (i := 2) (oi := _) (v := ?vo3) rfl (by decide) (by kernel_rfl) (by kernel_rfl) (fun _ _ _ h => h) (Or.inl ⟨by kernel_rfl, ?hyo3⟩) (by assumption) ?ro3
        case hyo3 => (intro wq hSw; go_simp; try (with_reducible rfl))
        try simp only [Act.put, List.setIfInBounds_toArray, List.set_cons_zero, List.set_cons_succ]
        refine WalkT.take (i := 3) (oi := _) (v := ?vo4) rfl (by decide) (by kernel_rfl) (by kernel_rfl) (fun _ _ _ h => h) (Or.inl ⟨by kernel_rfl, ?hyo4⟩) (by assumption) ?ro4
        case hyo4 => (intro wq hSw; go_simp; try (with_reducible rfl))
        try simp only [Act.put, List.setIfInBounds_toArray, List.set_cons_zero, List.set_cons_succ]
        refine WalkT.take (i := 4) (oi := _) (v := ?vo5) rfl (by decide) (by kernel_rfl) (by kernel_rfl) (fun _ _ _ h => h) (Or.inl ⟨by kernel_rfl, ?hyo5⟩) (by assumption) ?ro5
        case hyo5 => (intro wq hSw; go_simp; try (with_reducible rfl))
        try simp only [Act.put, List.setIfInBounds_toArray, List.set_cons_zero, List.set_cons_succ]
        refine WalkT.take (i := 6) (oi := _) (v := ?vo6) rfl (by decide) (by kernel_rfl) (by kernel_rfl) (fun _ _ _ h => h) (Or.inl ⟨by kernel_rfl, ?hyo6⟩) (by assumption) ?ro6
        case hyo6 => (intro wq hSw; go_simp; try (with_reducible rfl))
        try simp only [Act.put, List.setIfInBounds_toArray, List.set_cons_zero, List.set_cons_succ]
        refine WalkT.take (i := 7) (oi := _) (v := ?vo7) rfl (by decide) (by kernel_rfl) (by kernel_rfl) (fun _ _ _ h => h) (Or.inl ⟨by kernel_rfl, ?hyo7⟩) (by assumption) ?ro7
        case hyo7 => (intro wq hSw; go_simp; try (with_reducible rfl))
        try simp only [Act.put, List.setIfInBounds_toArray, List.set_cons_zero, List.set_cons_succ]
        refine WalkT.take (i := 8) (oi := _) (v := ?vo8) rfl (by decide) (by kernel_rfl) (by kernel_rfl) (fun _ _ _ h => h) (Or.inl ⟨by kernel_rfl, ?hyo8⟩) (by assumption) ?ro8
        case hyo8 => (intro wq hSw; have q3 := cell_belowB hSw rfl hx; go_simp; try (with_reducible rfl))
        try simp only [Act.put, List.setIfInBounds_toArray, List.set_cons_zero, List.set_cons_succ]
        refine WalkT.one (i := 5) (o := ?oo9) (by kernel_rfl) (by decide) ?hoo9 ?hko9
        case hoo9 => (simp only [List.getElem?_toArray, List.getElem?_cons_succ, List.getElem?_cons_zero]; exact rfl)
        intro K hK
        go_simp
        refine (root_any (HT.out.below hHeld) (SRead.below Hl0.out hHeld rfl) hsz (by simp)).mono ?_
        rintro e x5 ⟨rfl, hb⟩
        rw [root_one]
        have hS5 : Below w1.heap.size w1 x5 := Below.trans hHeld (Below.mono hb (Below.size hHeld))
        clear hb hHeld
        go_simp
        refine hK.out _ _ hS5 (fun hHeld => ?_)
        clear hS5
        clear hK K
        try simp only [Act.put, List.setIfInBounds_toArray, List.set_cons_zero, List.set_cons_succ]
        refine WalkT.one (i := 9) (o := ?oo10) (by kernel_rfl) (by decide) ?hoo10 ?hko10
        case hoo10 => (simp only [List.getElem?_toArray, List.getElem?_cons_succ, List.getElem?_cons_zero]; exact rfl)
        intro K hK
        go_simp
        refine (leaf_any (HT.out.below hHeld) S (by omega)).mono ?_
        rintro e x9 ⟨rfl, hb⟩
        have hS9 : Below w1.heap.size w1 x9 := Below.trans hHeld (Below.mono hb (Below.size hHeld))
        clear hb hHeld
        go_simp
        refine hK.out _ _ hS9 (fun hHeld => ?_)
        clear hS9
        clear hK K
        try simp only [Act.put, List.setIfInBounds_toArray, List.set_cons_zero, List.set_cons_succ]
        refine WalkT.take (i := 10) (oi := _) (v := ?vo11) rfl (by decide) (by kernel_rfl) (by kernel_rfl) (fun _ _ _ h => h) (Or.inl ⟨by kernel_rfl, ?hyo11⟩) (by assumption) ?ro11
        case hyo11 => (intro wq hSw; go_simp; try (with_reducible rfl))
        try simp only [Act.put, List.setIfInBounds_toArray, List.set_cons_zero, List.set_cons_succ]
        refine WalkT.take (i := 11) (oi := _) (v := ?vo12) rfl (by decide) (by kernel_rfl) (by kernel_rfl) (fun _ _ _ h => h) (Or.inl ⟨by kernel_rfl, ?hyo12⟩) (by assumption) ?ro12
        case hyo12 => (intro wq hSw; go_simp; try (with_reducible rfl))
        try simp only [Act.put, List.setIfInBounds_toArray, List.set_cons_zero, List.set_cons_succ]
        refine WalkT.take (i := 12) (oi := _) (v := ?vo13) rfl (by decide) (by kernel_rfl) (by kernel_rfl) (fun _ _ _ h => h) (Or.inl ⟨by kernel_rfl, ?hyo13⟩) (by assumption) ?ro13
        case hyo13 => (intro wq hSw; go_simp; try (with_reducible rfl))
        try simp only [Act.put, List.setIfInBounds_toArray, List.set_cons_zero, List.set_cons_succ]
        refine WalkT.one (i := 13) (o := ?oo14) (by kernel_rfl) (by decide) ?hoo14 ?hko14
        case hoo14 => (simp only [List.getElem?_toArray, List.getElem?_cons_succ, List.getElem?_cons_zero]; exact rfl)
        intro K hK
        go_simp
        refine (tfixed_any (HT.out.below hHeld) (HB.out.below hHeld)).mono ?_
        rintro e x13 ⟨rfl, hb⟩
        have hS13 : Below w1.heap.size w1 x13 := Below.trans hHeld (Below.mono hb (Below.size hHeld))
        clear hb hHeld
        go_simp
        refine hK.out _ _ hS13 (fun hHeld => ?_)
        clear hS13
        clear hK K
        try simp only [Act.put, List.setIfInBounds_toArray, List.set_cons_zero, List.set_cons_succ]
        refine WalkT.take (i := 14) (oi := _) (v := ?vo15) rfl (by decide) (by kernel_rfl) (by kernel_rfl) (fun _ _ _ h => h) (Or.inl ⟨by kernel_rfl, ?hyo15⟩) (by assumption) ?ro15
        case hyo15 => (intro wq hSw; go_simp; try (with_reducible rfl))
        try simp only [Act.put, List.setIfInBounds_toArray, List.set_cons_zero, List.set_cons_succ]
        refine WalkT.tail (by kernel_rfl) ?_
        have Hend := Lib.hid (Below.trans HW.out (Below.mono hHeld HW.out.size)); clear hHeld
        simp only [List.drop_succ_cons, List.drop_zero]
        go_wp2
        go_ret
        exact ⟨rfl, Hend.out⟩
    · obtain ⟨q, hqq⟩ : ∃ q, M.length = q := ⟨_, rfl⟩
      have hroot := root_node M (by omega)
      have p1 := split_lt (n := M.length) (by omega)
      have p2 := split_pos (n := M.length) (by omega)
      obtain ⟨b, o, hA, ⟨-, hcq⟩, -⟩ := Hc1.out 0 (by omega)
      subst hA
      have ht := (SRead.take Hl.out (split M.length) (by omega))
      have hd := (SRead.drop Hl.out (split M.length) (by omega))
      have hsz1 : ∀ s ∈ M.take (split M.length), s.size ≤ 80000000 := fun s hs => Hsz.out s (List.mem_of_mem_take hs)
      have hsz2 : ∀ s ∈ M.drop (split M.length), s.size ≤ 80000000 := fun s hs => Hsz.out s (List.mem_of_mem_drop hs)
      have hl1 : (M.take (split M.length)).length = split M.length := by rw [List.length_take]; omega
      have hl2 : (M.drop (split M.length)).length = M.length - split M.length := by rw [List.length_drop]
      have hs1 := root_length (M.take (split M.length)); have hs2 := root_length (M.drop (split M.length))
      obtain ⟨R1, hR1⟩ : ∃ R, root (M.take (split M.length)) = R := ⟨_, rfl⟩
      obtain ⟨R2, hR2⟩ : ∃ R, root (M.drop (split M.length)) = R := ⟨_, rfl⟩
      rw [hR1, hR2] at hroot
      rw [hR1] at hs1; rw [hR2] at hs2
      have hlr := Hl.out
      rw [hqq] at p1 p2 hcq ht hd hsz1 hsz2 hl1 hl2 hR1 hR2 hlen hlr hq ⊢
      have hsp := split_any q (by omega)
      obtain ⟨p, hp⟩ : ∃ p, split q = p := ⟨_, rfl⟩
      rw [hp] at p1 p2 ht hd hsz1 hsz2 hl1 hl2 hR1 hR2 hsp
      have Hl0 := Lib.hid hlr; have Hl1 := Lib.hid ht; have Hl2 := Lib.hid hd; have Hsz1 := Lib.hid hsz1; have Hsz2 := Lib.hid hsz2; have Hlen := Lib.hid hqq; have Hlen1 := Lib.hid hl1; have Hlen2 := Lib.hid hl2; have Hs1 := Lib.hid hs1; have Hs2 := Lib.hid hs2; have HR := Lib.hid hroot; have HR1 := Lib.hid hR1; have HR2 := Lib.hid hR2; have Hsp := Lib.hid hsp
      have l3 : ((q : Int) < 2) = False := eq_false (by omega)
      have e1 : IntKind.u64.wrap (q : Int) = (q : Int) := by show (q : Int) % 18446744073709551616 = _; omega
      have e2 : IntKind.i64.wrap (p : Int) = (p : Int) := IntWalk.i64_in _ (by omega)
      have e3 : IntKind.i64.wrap (q : Int) = (q : Int) := IntWalk.i64_in _ (by omega)
      clear hlr ht hd hsz1 hsz2 hqq hl1 hl2 hs1 hs2 hroot hR1 hR2 hsp hp Hl Hc1 hq
      go_wp2_with fail
      refine (Hsp.out _).mono ?_
      rintro e _ ⟨rfl, rfl⟩
      rename World => w1
      have q0 : (0 : Int) ≤ (p : Int) := by omega
      have q1 : (p : Int) ≤ (q : Int) := by omega
      have q2 : (p : Int) ≤ (cap1 : Int) := by omega
      have q3 : p ≤ q := by omega
      have q4 : p ≤ cap1 := by omega
      have q5 : ¬ cap1 = p := by omega
      have r1 : ((p : Int) < 1) = False := eq_false (by omega)
      have r2 : (q ≤ p) = False := eq_false (by omega)
      go_upto_region 10 with fail
      refine wp_region_T (n := 15) (S := fun wq => Below w1.heap.size w1 wq) (by kernel_rfl) (by kernel_rfl) (below_drewN' (Below.refl _ _) 1) (fun hHeld => ?_)
      refine WalkT.take (i := 0) (oi := _) (v := ?vt1) rfl (by decide) (by kernel_rfl) (by kernel_rfl) (fun _ _ _ h => h) (Or.inl ⟨by kernel_rfl, ?hyt1⟩) (by assumption) ?rt1
      case hyt1 => (intro wq hSw; go_simp; try (with_reducible rfl))
      try simp only [Act.put, List.setIfInBounds_toArray, List.set_cons_zero, List.set_cons_succ]
      refine WalkT.take (i := 2) (oi := _) (v := ?vt2) rfl (by decide) (by kernel_rfl) (by kernel_rfl) (fun _ _ _ h => h) (Or.inl ⟨by kernel_rfl, ?hyt2⟩) (by assumption) ?rt2
      case hyt2 => (intro wq hSw; go_simp; try (with_reducible rfl))
      try simp only [Act.put, List.setIfInBounds_toArray, List.set_cons_zero, List.set_cons_succ]
      refine WalkT.take (i := 3) (oi := _) (v := ?vt3) rfl (by decide) (by kernel_rfl) (by kernel_rfl) (fun _ _ _ h => h) (Or.inl ⟨by kernel_rfl, ?hyt3⟩) (by assumption) ?rt3
      case hyt3 => (intro wq hSw; go_simp; try (with_reducible rfl))
      try simp only [Act.put, List.setIfInBounds_toArray, List.set_cons_zero, List.set_cons_succ]
      refine WalkT.take (i := 4) (oi := _) (v := ?vt4) rfl (by decide) (by kernel_rfl) (by kernel_rfl) (fun _ _ _ h => h) (Or.inl ⟨by kernel_rfl, ?hyt4⟩) (by assumption) ?rt4
      case hyt4 => (intro wq hSw; go_simp; try (with_reducible rfl))
      try simp only [Act.put, List.setIfInBounds_toArray, List.set_cons_zero, List.set_cons_succ]
      refine WalkT.take (i := 6) (oi := _) (v := ?vt5) rfl (by decide) (by kernel_rfl) (by kernel_rfl) (fun _ _ _ h => h) (Or.inl ⟨by kernel_rfl, ?hyt5⟩) (by assumption) ?rt5
      case hyt5 => (intro wq hSw; go_simp; try (with_reducible rfl))
      try simp only [Act.put, List.setIfInBounds_toArray, List.set_cons_zero, List.set_cons_succ]
      refine WalkT.take (i := 7) (oi := _) (v := ?vt6) rfl (by decide) (by kernel_rfl) (by kernel_rfl) (fun _ _ _ h => h) (Or.inl ⟨by kernel_rfl, ?hyt6⟩) (by assumption) ?rt6
      case hyt6 => (intro wq hSw; go_simp; try (with_reducible rfl))
      try simp only [Act.put, List.setIfInBounds_toArray, List.set_cons_zero, List.set_cons_succ]
      refine WalkT.take (i := 8) (oi := _) (v := ?vt7) rfl (by decide) (by kernel_rfl) (by kernel_rfl) (fun _ _ _ h => h) (Or.inl ⟨by kernel_rfl, ?hyt7⟩) (by assumption) ?rt7
      case hyt7 => (intro wq hSw; go_simp; try (with_reducible rfl))
      try simp only [Act.put, List.setIfInBounds_toArray, List.set_cons_zero, List.set_cons_succ]
      refine WalkT.one (i := 1) (o := ?ot8) (by kernel_rfl) (by decide) ?hot8 ?hkt8
      case hot8 => (simp only [List.getElem?_toArray, List.getElem?_cons_succ, List.getElem?_cons_zero]; exact rfl)
      intro K hK
      go_simp
      refine (root_any (HT.out.below hHeld) (SRead.below Hl0.out hHeld rfl) Hsz.out (by rw [Hlen.out]; omega)).mono ?_
      rintro e x1 ⟨rfl, hb⟩
      rw [HR.out]
      have hS1 : Below w1.heap.size w1 x1 := Below.trans hHeld (Below.mono hb (Below.size hHeld))
      clear hb hHeld
      go_simp
      refine hK.out _ _ hS1 (fun hHeld => ?_)
      clear hS1
      clear hK K
      try simp only [Act.put, List.setIfInBounds_toArray, List.set_cons_zero, List.set_cons_succ]
      refine WalkT.one (i := 5) (o := ?ot9) (by kernel_rfl) (by decide) ?hot9 ?hkt9
      case hot9 => (simp only [List.getElem?_toArray, List.getElem?_cons_succ, List.getElem?_cons_zero]; exact rfl)
      intro K hK
      go_simp
      refine (root_any (HT.out.below hHeld) (SRead.below Hl1.out hHeld rfl) Hsz1.out (by rw [Hlen1.out]; omega)).mono ?_
      rintro e x5 ⟨rfl, hb⟩
      rw [HR1.out]
      have hS5 : Below w1.heap.size w1 x5 := Below.trans hHeld (Below.mono hb (Below.size hHeld))
      clear hb hHeld
      go_simp
      refine hK.out _ _ hS5 (fun hHeld => ?_)
      clear hS5
      clear hK K
      try simp only [Act.put, List.setIfInBounds_toArray, List.set_cons_zero, List.set_cons_succ]
      refine WalkT.one (i := 9) (o := ?ot10) (by kernel_rfl) (by decide) ?hot10 ?hkt10
      case hot10 => (simp only [List.getElem?_toArray, List.getElem?_cons_succ, List.getElem?_cons_zero]; exact rfl)
      intro K hK
      go_simp
      refine (root_any (HT.out.below hHeld) (SRead.below Hl2.out hHeld rfl) Hsz2.out (by rw [Hlen2.out]; omega)).mono ?_
      rintro e x9 ⟨rfl, hb⟩
      rw [HR2.out]
      have hS9 : Below w1.heap.size w1 x9 := Below.trans hHeld (Below.mono hb (Below.size hHeld))
      clear hb hHeld
      go_simp
      refine hK.out _ _ hS9 (fun hHeld => ?_)
      clear hS9
      clear hK K
      try simp only [Act.put, List.setIfInBounds_toArray, List.set_cons_zero, List.set_cons_succ]
      refine WalkT.one (i := 10) (o := ?ot11) (by kernel_rfl) (by decide) ?hot11 ?hkt11
      case hot11 => (simp only [List.getElem?_toArray, List.getElem?_cons_succ, List.getElem?_cons_zero]; exact rfl)
      intro K hK
      go_simp
      refine (node_any (HT.out.below hHeld) R1 R2 (by rw [Hs1.out]; decide) (by rw [Hs2.out]; decide)).mono ?_
      rintro e x10 ⟨rfl, hb⟩
      have hS10 : Below w1.heap.size w1 x10 := Below.trans hHeld (Below.mono hb (Below.size hHeld))
      clear hb hHeld
      go_simp
      refine hK.out _ _ hS10 (fun hHeld => ?_)
      clear hS10
      clear hK K
      try simp only [Act.put, List.setIfInBounds_toArray, List.set_cons_zero, List.set_cons_succ]
      refine WalkT.take (i := 11) (oi := _) (v := ?vt12) rfl (by decide) (by kernel_rfl) (by kernel_rfl) (fun _ _ _ h => h) (Or.inl ⟨by kernel_rfl, ?hyt12⟩) (by assumption) ?rt12
      case hyt12 => (intro wq hSw; go_simp; try (with_reducible rfl))
      try simp only [Act.put, List.setIfInBounds_toArray, List.set_cons_zero, List.set_cons_succ]
      refine WalkT.take (i := 12) (oi := _) (v := ?vt13) rfl (by decide) (by kernel_rfl) (by kernel_rfl) (fun _ _ _ h => h) (Or.inl ⟨by kernel_rfl, ?hyt13⟩) (by assumption) ?rt13
      case hyt13 => (intro wq hSw; go_simp; try (with_reducible rfl))
      try simp only [Act.put, List.setIfInBounds_toArray, List.set_cons_zero, List.set_cons_succ]
      refine WalkT.one (i := 13) (o := ?ot14) (by kernel_rfl) (by decide) ?hot14 ?hkt14
      case hot14 => (simp only [List.getElem?_toArray, List.getElem?_cons_succ, List.getElem?_cons_zero]; exact rfl)
      intro K hK
      go_simp
      refine (tfixed_any (HT.out.below hHeld) (HB.out.below hHeld)).mono ?_
      rintro e x13 ⟨rfl, hb⟩
      have hS13 : Below w1.heap.size w1 x13 := Below.trans hHeld (Below.mono hb (Below.size hHeld))
      clear hb hHeld
      go_simp
      refine hK.out _ _ hS13 (fun hHeld => ?_)
      clear hS13
      clear hK K
      try simp only [Act.put, List.setIfInBounds_toArray, List.set_cons_zero, List.set_cons_succ]
      refine WalkT.take (i := 14) (oi := _) (v := ?vt15) rfl (by decide) (by kernel_rfl) (by kernel_rfl) (fun _ _ _ h => h) (Or.inl ⟨by kernel_rfl, ?hyt15⟩) (by assumption) ?rt15
      case hyt15 => (intro wq hSw; go_simp; try (with_reducible rfl))
      try simp only [Act.put, List.setIfInBounds_toArray, List.set_cons_zero, List.set_cons_succ]
      refine WalkT.tail (by kernel_rfl) ?_
      have Hend := Lib.hid (Below.trans HW.out (Below.mono hHeld HW.out.size)); clear hHeld
      simp only [List.drop_succ_cons, List.drop_zero]
      go_wp2
      go_ret
      exact ⟨rfl, Hend.out⟩
  · have l1 : ((2 : Int) ≤ (n : Int)) = False := eq_false (by omega)
    obtain ⟨k, hk⟩ : ∃ k, split n = k := ⟨_, rfl⟩
    have hk1 := split_le n
    rw [hk] at hk1 ⊢
    clear hk
    by_cases hq : M.length < 2
    · by_cases h0 : M.length = 0
      · obtain rfl : M = [] := List.length_eq_zero_iff.1 h0
        clear hq h0 Hc1 Hsz
        go_upto_region 6 with fail
        refine wp_region_T (n := 15) (S := fun wq => Below w1.heap.size w1 wq) (by kernel_rfl) (by kernel_rfl) (below_drewN' (Below.refl _ _) 1) (fun hHeld => ?_)
        refine WalkT.take (i := 0) (oi := _) (v := ?vyb1) rfl (by decide) (by kernel_rfl) (by kernel_rfl) (fun _ _ _ h => h) (Or.inl ⟨by kernel_rfl, ?hyyb1⟩) (by assumption) ?ryb1
        case hyyb1 => (intro wq hSw; go_simp; try (with_reducible rfl))
        try simp only [Act.put, List.setIfInBounds_toArray, List.set_cons_zero, List.set_cons_succ]
        refine WalkT.take (i := 1) (oi := _) (v := ?vyb2) rfl (by decide) (by kernel_rfl) (by kernel_rfl) (fun _ _ _ h => h) (Or.inl ⟨by kernel_rfl, ?hyyb2⟩) (by assumption) ?ryb2
        case hyyb2 => (intro wq hSw; go_simp; try (with_reducible rfl))
        try simp only [Act.put, List.setIfInBounds_toArray, List.set_cons_zero, List.set_cons_succ]
        refine WalkT.take (i := 2) (oi := _) (v := ?vyb3) rfl (by decide) (by kernel_rfl) (by kernel_rfl) (fun _ _ _ h => h) (Or.inl ⟨by kernel_rfl, ?hyyb3⟩) (by assumption) ?ryb3
        case hyyb3 => (intro wq hSw; go_simp; try (with_reducible rfl))
        try simp only [Act.put, List.setIfInBounds_toArray, List.set_cons_zero, List.set_cons_succ]
        refine WalkT.take (i := 3) (oi := _) (v := ?vyb4) rfl (by decide) (by kernel_rfl) (by kernel_rfl) (fun _ _ _ h => h) (Or.inl ⟨by kernel_rfl, ?hyyb4⟩) (by assumption) ?ryb4
        case hyyb4 => (intro wq hSw; go_simp; try (with_reducible rfl))
        try simp only [Act.put, List.setIfInBounds_toArray, List.set_cons_zero, List.set_cons_succ]
        refine WalkT.take (i := 4) (oi := _) (v := _) rfl (by decide) (by kernel_rfl) (by kernel_rfl) (fun _ _ _ h => h) (Or.inr ⟨by kernel_rfl, rfl⟩) (by assumption) ?_
        try simp only [Act.put, List.setIfInBounds_toArray, List.set_cons_zero, List.set_cons_succ]
        refine WalkT.take (i := 5) (oi := _) (v := _) rfl (by decide) (by kernel_rfl) (by kernel_rfl) (fun _ _ _ h => h) (Or.inr ⟨by kernel_rfl, rfl⟩) (by assumption) ?_
        try simp only [Act.put, List.setIfInBounds_toArray, List.set_cons_zero, List.set_cons_succ]
        refine WalkT.take (i := 6) (oi := _) (v := _) rfl (by decide) (by kernel_rfl) (by kernel_rfl) (fun _ _ _ h => h) (Or.inr ⟨by kernel_rfl, rfl⟩) (by assumption) ?_
        try simp only [Act.put, List.setIfInBounds_toArray, List.set_cons_zero, List.set_cons_succ]
        refine WalkT.take (i := 7) (oi := _) (v := _) rfl (by decide) (by kernel_rfl) (by kernel_rfl) (fun _ _ _ h => h) (Or.inr ⟨by kernel_rfl, rfl⟩) (by assumption) ?_
        try simp only [Act.put, List.setIfInBounds_toArray, List.set_cons_zero, List.set_cons_succ]
        refine WalkT.take (i := 8) (oi := _) (v := _) rfl (by decide) (by kernel_rfl) (by kernel_rfl) (fun _ _ _ h => h) (Or.inr ⟨by kernel_rfl, rfl⟩) (by assumption) ?_
        try simp only [Act.put, List.setIfInBounds_toArray, List.set_cons_zero, List.set_cons_succ]
        refine WalkT.take (i := 9) (oi := _) (v := _) rfl (by decide) (by kernel_rfl) (by kernel_rfl) (fun _ _ _ h => h) (Or.inr ⟨by kernel_rfl, rfl⟩) (by assumption) ?_
        try simp only [Act.put, List.setIfInBounds_toArray, List.set_cons_zero, List.set_cons_succ]
        refine WalkT.take (i := 10) (oi := _) (v := _) rfl (by decide) (by kernel_rfl) (by kernel_rfl) (fun _ _ _ h => h) (Or.inr ⟨by kernel_rfl, rfl⟩) (by assumption) ?_
        try simp only [Act.put, List.setIfInBounds_toArray, List.set_cons_zero, List.set_cons_succ]
        refine WalkT.take (i := 11) (oi := _) (v := ?vyb5) rfl (by decide) (by kernel_rfl) (by kernel_rfl) (fun _ _ _ h => h) (Or.inl ⟨by kernel_rfl, ?hyyb5⟩) (by assumption) ?ryb5
        case hyyb5 => (intro wq hSw; go_simp; try (with_reducible rfl))
        try simp only [Act.put, List.setIfInBounds_toArray, List.set_cons_zero, List.set_cons_succ]
        refine WalkT.take (i := 12) (oi := _) (v := ?vyb6) rfl (by decide) (by kernel_rfl) (by kernel_rfl) (fun _ _ _ h => h) (Or.inl ⟨by kernel_rfl, ?hyyb6⟩) (by assumption) ?ryb6
        case hyyb6 => (intro wq hSw; go_simp; try (with_reducible rfl))
        try simp only [Act.put, List.setIfInBounds_toArray, List.set_cons_zero, List.set_cons_succ]
        refine WalkT.one (i := 13) (o := ?oyb7) (by kernel_rfl) (by decide) ?hoyb7 ?hkyb7
        case hoyb7 => (simp only [List.getElem?_toArray, List.getElem?_cons_succ, List.getElem?_cons_zero]; exact rfl)
        intro K hK
        go_simp
        refine (tfixed_any (HT.out.below hHeld) (HB.out.below hHeld)).mono ?_
        rintro e x13 ⟨rfl, hb⟩
        have hS13 : Below w1.heap.size w1 x13 := Below.trans hHeld (Below.mono hb (Below.size hHeld))
        clear hb hHeld
        go_simp
        refine hK.out _ _ hS13 (fun hHeld => ?_)
        clear hS13
        clear hK K
        try simp only [Act.put, List.setIfInBounds_toArray, List.set_cons_zero, List.set_cons_succ]
        refine WalkT.take (i := 14) (oi := _) (v := ?vyb8) rfl (by decide) (by kernel_rfl) (by kernel_rfl) (fun _ _ _ h => h) (Or.inl ⟨by kernel_rfl, ?hyyb8⟩) (by assumption) ?ryb8
        case hyyb8 => (intro wq hSw; go_simp; try (with_reducible rfl))
        try simp only [Act.put, List.setIfInBounds_toArray, List.set_cons_zero, List.set_cons_succ]
        refine WalkT.tail (by kernel_rfl) ?_
        have Hend := Lib.hid (Below.trans HW.out (Below.mono hHeld HW.out.size)); clear hHeld
        simp only [List.drop_succ_cons, List.drop_zero]
        go_wp2
        go_ret
        exact ⟨rfl, Hend.out⟩
      · obtain ⟨S, rfl⟩ : ∃ S, M = [S] := by
          match M, hq, h0 with
          | [S], _, _ => exact ⟨S, rfl⟩
        obtain ⟨b, o, rfl, -, hx⟩ := Hc1.out 0 (by simp)
        have hx : w1.cell? ⟨b, o, none⟩ = some (.string S) := hx
        have hS : S.size ≤ 80000000 := Hsz.out S (by simp)
        have hsz : ∀ s ∈ [S], s.size ≤ 80000000 := Hsz.out
        clear hq h0 Hc1 Hsz
        have Hl0 := Hl; clear Hl
        go_upto_region 6 with fail
        refine wp_region_T (n := 15) (S := fun wq => Below w1.heap.size w1 wq) (by kernel_rfl) (by kernel_rfl) (below_drewN' (Below.refl _ _) 1) (fun hHeld => ?_)
        refine WalkT.take (i := 0) (oi := _) (v := ?vob1) rfl (by decide) (by kernel_rfl) (by kernel_rfl) (fun _ _ _ h => h) (Or.inl ⟨by kernel_rfl, ?hyob1⟩) (by assumption) ?rob1
        case hyob1 => (intro wq hSw; go_simp; try (with_reducible rfl))
        try simp only [Act.put, List.setIfInBounds_toArray, List.set_cons_zero, List.set_cons_succ]
        refine WalkT.take (i := 1) (oi := _) (v := ?vob2) rfl (by decide) (by kernel_rfl) (by kernel_rfl) (fun _ _ _ h => h) (Or.inl ⟨by kernel_rfl, ?hyob2⟩) (by assumption) ?rob2
        case hyob2 => (intro wq hSw; go_simp; try (with_reducible rfl))
        try simp only [Act.put, List.setIfInBounds_toArray, List.set_cons_zero, List.set_cons_succ]
        refine WalkT.take (i := 2) (oi := _) (v := ?vob3) rfl (by decide) (by kernel_rfl) (by kernel_rfl) (fun _ _ _ h => h) (Or.inl ⟨by kernel_rfl, ?hyob3⟩) (by assumption) ?rob3
        case hyob3 => (intro wq hSw; go_simp; try (with_reducible rfl))
        try simp only [Act.put, List.setIfInBounds_toArray, List.set_cons_zero, List.set_cons_succ]
        refine WalkT.take (i := 3) (oi := _) (v := ?vob4) rfl (by decide) (by kernel_rfl) (by kernel_rfl) (fun _ _ _ h => h) (Or.inl ⟨by kernel_rfl, ?hyob4⟩) (by assumption) ?rob4
        case hyob4 => (intro wq hSw; go_simp; try (with_reducible rfl))
        try simp only [Act.put, List.setIfInBounds_toArray, List.set_cons_zero, List.set_cons_succ]
        refine WalkT.take (i := 4) (oi := _) (v := ?vob5) rfl (by decide) (by kernel_rfl) (by kernel_rfl) (fun _ _ _ h => h) (Or.inl ⟨by kernel_rfl, ?hyob5⟩) (by assumption) ?rob5
        case hyob5 => (intro wq hSw; go_simp; try (with_reducible rfl))
        try simp only [Act.put, List.setIfInBounds_toArray, List.set_cons_zero, List.set_cons_succ]
        refine WalkT.take (i := 6) (oi := _) (v := ?vob6) rfl (by decide) (by kernel_rfl) (by kernel_rfl) (fun _ _ _ h => h) (Or.inl ⟨by kernel_rfl, ?hyob6⟩) (by assumption) ?rob6
        case hyob6 => (intro wq hSw; go_simp; try (with_reducible rfl))
        try simp only [Act.put, List.setIfInBounds_toArray, List.set_cons_zero, List.set_cons_succ]
        refine WalkT.take (i := 7) (oi := _) (v := ?vob7) rfl (by decide) (by kernel_rfl) (by kernel_rfl) (fun _ _ _ h => h) (Or.inl ⟨by kernel_rfl, ?hyob7⟩) (by assumption) ?rob7
        case hyob7 => (intro wq hSw; go_simp; try (with_reducible rfl))
        try simp only [Act.put, List.setIfInBounds_toArray, List.set_cons_zero, List.set_cons_succ]
        refine WalkT.take (i := 8) (oi := _) (v := ?vob8) rfl (by decide) (by kernel_rfl) (by kernel_rfl) (fun _ _ _ h => h) (Or.inl ⟨by kernel_rfl, ?hyob8⟩) (by assumption) ?rob8
        case hyob8 => (intro wq hSw; have q3 := cell_belowB hSw rfl hx; go_simp; try (with_reducible rfl))
        try simp only [Act.put, List.setIfInBounds_toArray, List.set_cons_zero, List.set_cons_succ]
        refine WalkT.one (i := 5) (o := ?oob9) (by kernel_rfl) (by decide) ?hoob9 ?hkob9
        case hoob9 => (simp only [List.getElem?_toArray, List.getElem?_cons_succ, List.getElem?_cons_zero]; exact rfl)
        intro K hK
        go_simp
        refine (root_any (HT.out.below hHeld) (SRead.below Hl0.out hHeld rfl) hsz (by simp)).mono ?_
        rintro e x5 ⟨rfl, hb⟩
        rw [root_one]
        have hS5 : Below w1.heap.size w1 x5 := Below.trans hHeld (Below.mono hb (Below.size hHeld))
        clear hb hHeld
        go_simp
        refine hK.out _ _ hS5 (fun hHeld => ?_)
        clear hS5
        clear hK K
        try simp only [Act.put, List.setIfInBounds_toArray, List.set_cons_zero, List.set_cons_succ]
        refine WalkT.one (i := 9) (o := ?oob10) (by kernel_rfl) (by decide) ?hoob10 ?hkob10
        case hoob10 => (simp only [List.getElem?_toArray, List.getElem?_cons_succ, List.getElem?_cons_zero]; exact rfl)
        intro K hK
        go_simp
        refine (leaf_any (HT.out.below hHeld) S (by omega)).mono ?_
        rintro e x9 ⟨rfl, hb⟩
        have hS9 : Below w1.heap.size w1 x9 := Below.trans hHeld (Below.mono hb (Below.size hHeld))
        clear hb hHeld
        go_simp
        refine hK.out _ _ hS9 (fun hHeld => ?_)
        clear hS9
        clear hK K
        try simp only [Act.put, List.setIfInBounds_toArray, List.set_cons_zero, List.set_cons_succ]
        refine WalkT.take (i := 10) (oi := _) (v := ?vob11) rfl (by decide) (by kernel_rfl) (by kernel_rfl) (fun _ _ _ h => h) (Or.inl ⟨by kernel_rfl, ?hyob11⟩) (by assumption) ?rob11
        case hyob11 => (intro wq hSw; go_simp; try (with_reducible rfl))
        try simp only [Act.put, List.setIfInBounds_toArray, List.set_cons_zero, List.set_cons_succ]
        refine WalkT.take (i := 11) (oi := _) (v := ?vob12) rfl (by decide) (by kernel_rfl) (by kernel_rfl) (fun _ _ _ h => h) (Or.inl ⟨by kernel_rfl, ?hyob12⟩) (by assumption) ?rob12
        case hyob12 => (intro wq hSw; go_simp; try (with_reducible rfl))
        try simp only [Act.put, List.setIfInBounds_toArray, List.set_cons_zero, List.set_cons_succ]
        refine WalkT.take (i := 12) (oi := _) (v := ?vob13) rfl (by decide) (by kernel_rfl) (by kernel_rfl) (fun _ _ _ h => h) (Or.inl ⟨by kernel_rfl, ?hyob13⟩) (by assumption) ?rob13
        case hyob13 => (intro wq hSw; go_simp; try (with_reducible rfl))
        try simp only [Act.put, List.setIfInBounds_toArray, List.set_cons_zero, List.set_cons_succ]
        refine WalkT.one (i := 13) (o := ?oob14) (by kernel_rfl) (by decide) ?hoob14 ?hkob14
        case hoob14 => (simp only [List.getElem?_toArray, List.getElem?_cons_succ, List.getElem?_cons_zero]; exact rfl)
        intro K hK
        go_simp
        refine (tfixed_any (HT.out.below hHeld) (HB.out.below hHeld)).mono ?_
        rintro e x13 ⟨rfl, hb⟩
        have hS13 : Below w1.heap.size w1 x13 := Below.trans hHeld (Below.mono hb (Below.size hHeld))
        clear hb hHeld
        go_simp
        refine hK.out _ _ hS13 (fun hHeld => ?_)
        clear hS13
        clear hK K
        try simp only [Act.put, List.setIfInBounds_toArray, List.set_cons_zero, List.set_cons_succ]
        refine WalkT.take (i := 14) (oi := _) (v := ?vob15) rfl (by decide) (by kernel_rfl) (by kernel_rfl) (fun _ _ _ h => h) (Or.inl ⟨by kernel_rfl, ?hyob15⟩) (by assumption) ?rob15
        case hyob15 => (intro wq hSw; go_simp; try (with_reducible rfl))
        try simp only [Act.put, List.setIfInBounds_toArray, List.set_cons_zero, List.set_cons_succ]
        refine WalkT.tail (by kernel_rfl) ?_
        have Hend := Lib.hid (Below.trans HW.out (Below.mono hHeld HW.out.size)); clear hHeld
        simp only [List.drop_succ_cons, List.drop_zero]
        go_wp2
        go_ret
        exact ⟨rfl, Hend.out⟩
    · obtain ⟨q, hqq⟩ : ∃ q, M.length = q := ⟨_, rfl⟩
      have hroot := root_node M (by omega)
      have p1 := split_lt (n := M.length) (by omega)
      have p2 := split_pos (n := M.length) (by omega)
      obtain ⟨b, o, hA, ⟨-, hcq⟩, -⟩ := Hc1.out 0 (by omega)
      subst hA
      have ht := (SRead.take Hl.out (split M.length) (by omega))
      have hd := (SRead.drop Hl.out (split M.length) (by omega))
      have hsz1 : ∀ s ∈ M.take (split M.length), s.size ≤ 80000000 := fun s hs => Hsz.out s (List.mem_of_mem_take hs)
      have hsz2 : ∀ s ∈ M.drop (split M.length), s.size ≤ 80000000 := fun s hs => Hsz.out s (List.mem_of_mem_drop hs)
      have hl1 : (M.take (split M.length)).length = split M.length := by rw [List.length_take]; omega
      have hl2 : (M.drop (split M.length)).length = M.length - split M.length := by rw [List.length_drop]
      have hs1 := root_length (M.take (split M.length)); have hs2 := root_length (M.drop (split M.length))
      obtain ⟨R1, hR1⟩ : ∃ R, root (M.take (split M.length)) = R := ⟨_, rfl⟩
      obtain ⟨R2, hR2⟩ : ∃ R, root (M.drop (split M.length)) = R := ⟨_, rfl⟩
      rw [hR1, hR2] at hroot
      rw [hR1] at hs1; rw [hR2] at hs2
      have hlr := Hl.out
      rw [hqq] at p1 p2 hcq ht hd hsz1 hsz2 hl1 hl2 hR1 hR2 hlen hlr hq ⊢
      have hsp := split_any q (by omega)
      obtain ⟨p, hp⟩ : ∃ p, split q = p := ⟨_, rfl⟩
      rw [hp] at p1 p2 ht hd hsz1 hsz2 hl1 hl2 hR1 hR2 hsp
      have Hl0 := Lib.hid hlr; have Hl1 := Lib.hid ht; have Hl2 := Lib.hid hd; have Hsz1 := Lib.hid hsz1; have Hsz2 := Lib.hid hsz2; have Hlen := Lib.hid hqq; have Hlen1 := Lib.hid hl1; have Hlen2 := Lib.hid hl2; have Hs1 := Lib.hid hs1; have Hs2 := Lib.hid hs2; have HR := Lib.hid hroot; have HR1 := Lib.hid hR1; have HR2 := Lib.hid hR2; have Hsp := Lib.hid hsp
      have l3 : ((q : Int) < 2) = False := eq_false (by omega)
      have e1 : IntKind.u64.wrap (q : Int) = (q : Int) := by show (q : Int) % 18446744073709551616 = _; omega
      have e2 : IntKind.i64.wrap (p : Int) = (p : Int) := IntWalk.i64_in _ (by omega)
      have e3 : IntKind.i64.wrap (q : Int) = (q : Int) := IntWalk.i64_in _ (by omega)
      clear hlr ht hd hsz1 hsz2 hqq hl1 hl2 hs1 hs2 hroot hR1 hR2 hsp hp Hl Hc1 hq
      go_wp2_with fail
      refine (Hsp.out _).mono ?_
      rintro e _ ⟨rfl, rfl⟩
      rename World => w1
      have q0 : (0 : Int) ≤ (p : Int) := by omega
      have q1 : (p : Int) ≤ (q : Int) := by omega
      have q2 : (p : Int) ≤ (cap1 : Int) := by omega
      have q3 : p ≤ q := by omega
      have q4 : p ≤ cap1 := by omega
      have q5 : ¬ cap1 = p := by omega
      have r1 : ((p : Int) < 1) = False := eq_false (by omega)
      have r2 : (q ≤ p) = False := eq_false (by omega)
      go_upto_region 10 with fail
      refine wp_region_T (n := 15) (S := fun wq => Below w1.heap.size w1 wq) (by kernel_rfl) (by kernel_rfl) (below_drewN' (Below.refl _ _) 1) (fun hHeld => ?_)
      refine WalkT.take (i := 0) (oi := _) (v := ?vtb1) rfl (by decide) (by kernel_rfl) (by kernel_rfl) (fun _ _ _ h => h) (Or.inl ⟨by kernel_rfl, ?hytb1⟩) (by assumption) ?rtb1
      case hytb1 => (intro wq hSw; go_simp; try (with_reducible rfl))
      try simp only [Act.put, List.setIfInBounds_toArray, List.set_cons_zero, List.set_cons_succ]
      refine WalkT.take (i := 2) (oi := _) (v := ?vtb2) rfl (by decide) (by kernel_rfl) (by kernel_rfl) (fun _ _ _ h => h) (Or.inl ⟨by kernel_rfl, ?hytb2⟩) (by assumption) ?rtb2
      case hytb2 => (intro wq hSw; go_simp; try (with_reducible rfl))
      try simp only [Act.put, List.setIfInBounds_toArray, List.set_cons_zero, List.set_cons_succ]
      refine WalkT.take (i := 3) (oi := _) (v := ?vtb3) rfl (by decide) (by kernel_rfl) (by kernel_rfl) (fun _ _ _ h => h) (Or.inl ⟨by kernel_rfl, ?hytb3⟩) (by assumption) ?rtb3
      case hytb3 => (intro wq hSw; go_simp; try (with_reducible rfl))
      try simp only [Act.put, List.setIfInBounds_toArray, List.set_cons_zero, List.set_cons_succ]
      refine WalkT.take (i := 4) (oi := _) (v := ?vtb4) rfl (by decide) (by kernel_rfl) (by kernel_rfl) (fun _ _ _ h => h) (Or.inl ⟨by kernel_rfl, ?hytb4⟩) (by assumption) ?rtb4
      case hytb4 => (intro wq hSw; go_simp; try (with_reducible rfl))
      try simp only [Act.put, List.setIfInBounds_toArray, List.set_cons_zero, List.set_cons_succ]
      refine WalkT.take (i := 6) (oi := _) (v := ?vtb5) rfl (by decide) (by kernel_rfl) (by kernel_rfl) (fun _ _ _ h => h) (Or.inl ⟨by kernel_rfl, ?hytb5⟩) (by assumption) ?rtb5
      case hytb5 => (intro wq hSw; go_simp; try (with_reducible rfl))
      try simp only [Act.put, List.setIfInBounds_toArray, List.set_cons_zero, List.set_cons_succ]
      refine WalkT.take (i := 7) (oi := _) (v := ?vtb6) rfl (by decide) (by kernel_rfl) (by kernel_rfl) (fun _ _ _ h => h) (Or.inl ⟨by kernel_rfl, ?hytb6⟩) (by assumption) ?rtb6
      case hytb6 => (intro wq hSw; go_simp; try (with_reducible rfl))
      try simp only [Act.put, List.setIfInBounds_toArray, List.set_cons_zero, List.set_cons_succ]
      refine WalkT.take (i := 8) (oi := _) (v := ?vtb7) rfl (by decide) (by kernel_rfl) (by kernel_rfl) (fun _ _ _ h => h) (Or.inl ⟨by kernel_rfl, ?hytb7⟩) (by assumption) ?rtb7
      case hytb7 => (intro wq hSw; go_simp; try (with_reducible rfl))
      try simp only [Act.put, List.setIfInBounds_toArray, List.set_cons_zero, List.set_cons_succ]
      refine WalkT.one (i := 1) (o := ?otb8) (by kernel_rfl) (by decide) ?hotb8 ?hktb8
      case hotb8 => (simp only [List.getElem?_toArray, List.getElem?_cons_succ, List.getElem?_cons_zero]; exact rfl)
      intro K hK
      go_simp
      refine (root_any (HT.out.below hHeld) (SRead.below Hl0.out hHeld rfl) Hsz.out (by rw [Hlen.out]; omega)).mono ?_
      rintro e x1 ⟨rfl, hb⟩
      rw [HR.out]
      have hS1 : Below w1.heap.size w1 x1 := Below.trans hHeld (Below.mono hb (Below.size hHeld))
      clear hb hHeld
      go_simp
      refine hK.out _ _ hS1 (fun hHeld => ?_)
      clear hS1
      clear hK K
      try simp only [Act.put, List.setIfInBounds_toArray, List.set_cons_zero, List.set_cons_succ]
      refine WalkT.one (i := 5) (o := ?otb9) (by kernel_rfl) (by decide) ?hotb9 ?hktb9
      case hotb9 => (simp only [List.getElem?_toArray, List.getElem?_cons_succ, List.getElem?_cons_zero]; exact rfl)
      intro K hK
      go_simp
      refine (root_any (HT.out.below hHeld) (SRead.below Hl1.out hHeld rfl) Hsz1.out (by rw [Hlen1.out]; omega)).mono ?_
      rintro e x5 ⟨rfl, hb⟩
      rw [HR1.out]
      have hS5 : Below w1.heap.size w1 x5 := Below.trans hHeld (Below.mono hb (Below.size hHeld))
      clear hb hHeld
      go_simp
      refine hK.out _ _ hS5 (fun hHeld => ?_)
      clear hS5
      clear hK K
      try simp only [Act.put, List.setIfInBounds_toArray, List.set_cons_zero, List.set_cons_succ]
      refine WalkT.one (i := 9) (o := ?otb10) (by kernel_rfl) (by decide) ?hotb10 ?hktb10
      case hotb10 => (simp only [List.getElem?_toArray, List.getElem?_cons_succ, List.getElem?_cons_zero]; exact rfl)
      intro K hK
      go_simp
      refine (root_any (HT.out.below hHeld) (SRead.below Hl2.out hHeld rfl) Hsz2.out (by rw [Hlen2.out]; omega)).mono ?_
      rintro e x9 ⟨rfl, hb⟩
      rw [HR2.out]
      have hS9 : Below w1.heap.size w1 x9 := Below.trans hHeld (Below.mono hb (Below.size hHeld))
      clear hb hHeld
      go_simp
      refine hK.out _ _ hS9 (fun hHeld => ?_)
      clear hS9
      clear hK K
      try simp only [Act.put, List.setIfInBounds_toArray, List.set_cons_zero, List.set_cons_succ]
      refine WalkT.one (i := 10) (o := ?otb11) (by kernel_rfl) (by decide) ?hotb11 ?hktb11
      case hotb11 => (simp only [List.getElem?_toArray, List.getElem?_cons_succ, List.getElem?_cons_zero]; exact rfl)
      intro K hK
      go_simp
      refine (node_any (HT.out.below hHeld) R1 R2 (by rw [Hs1.out]; decide) (by rw [Hs2.out]; decide)).mono ?_
      rintro e x10 ⟨rfl, hb⟩
      have hS10 : Below w1.heap.size w1 x10 := Below.trans hHeld (Below.mono hb (Below.size hHeld))
      clear hb hHeld
      go_simp
      refine hK.out _ _ hS10 (fun hHeld => ?_)
      clear hS10
      clear hK K
      try simp only [Act.put, List.setIfInBounds_toArray, List.set_cons_zero, List.set_cons_succ]
      refine WalkT.take (i := 11) (oi := _) (v := ?vtb12) rfl (by decide) (by kernel_rfl) (by kernel_rfl) (fun _ _ _ h => h) (Or.inl ⟨by kernel_rfl, ?hytb12⟩) (by assumption) ?rtb12
      case hytb12 => (intro wq hSw; go_simp; try (with_reducible rfl))
      try simp only [Act.put, List.setIfInBounds_toArray, List.set_cons_zero, List.set_cons_succ]
      refine WalkT.take (i := 12) (oi := _) (v := ?vtb13) rfl (by decide) (by kernel_rfl) (by kernel_rfl) (fun _ _ _ h => h) (Or.inl ⟨by kernel_rfl, ?hytb13⟩) (by assumption) ?rtb13
      case hytb13 => (intro wq hSw; go_simp; try (with_reducible rfl))
      try simp only [Act.put, List.setIfInBounds_toArray, List.set_cons_zero, List.set_cons_succ]
      refine WalkT.one (i := 13) (o := ?otb14) (by kernel_rfl) (by decide) ?hotb14 ?hktb14
      case hotb14 => (simp only [List.getElem?_toArray, List.getElem?_cons_succ, List.getElem?_cons_zero]; exact rfl)
      intro K hK
      go_simp
      refine (tfixed_any (HT.out.below hHeld) (HB.out.below hHeld)).mono ?_
      rintro e x13 ⟨rfl, hb⟩
      have hS13 : Below w1.heap.size w1 x13 := Below.trans hHeld (Below.mono hb (Below.size hHeld))
      clear hb hHeld
      go_simp
      refine hK.out _ _ hS13 (fun hHeld => ?_)
      clear hS13
      clear hK K
      try simp only [Act.put, List.setIfInBounds_toArray, List.set_cons_zero, List.set_cons_succ]
      refine WalkT.take (i := 14) (oi := _) (v := ?vtb15) rfl (by decide) (by kernel_rfl) (by kernel_rfl) (fun _ _ _ h => h) (Or.inl ⟨by kernel_rfl, ?hytb15⟩) (by assumption) ?rtb15
      case hytb15 => (intro wq hSw; go_simp; try (with_reducible rfl))
      try simp only [Act.put, List.setIfInBounds_toArray, List.set_cons_zero, List.set_cons_succ]
      refine WalkT.tail (by kernel_rfl) ?_
      have Hend := Lib.hid (Below.trans HW.out (Below.mono hHeld HW.out.size)); clear hHeld
      simp only [List.drop_succ_cons, List.drop_zero]
      go_wp2
      go_ret
      exact ⟨rfl, Hend.out⟩
theorem treeParts_walk' (A : Option Addr) (len cap : Nat) (L : List ByteArray) {w : World} (hL : SRead w (.slice A len cap) L ∧ ∀ s ∈ L, s.size ≤ maxLen) (a : Int) (ha : (Lit.int .u64 a).wf = true) (hT : Tab w) (hBru : Bru w) :
    Calls Tryd.prog 12 #[.slice A len cap, .int .u64 a] w fun e w' => e = .returned (.bool true) ∧ Below w.heap.size w w' := treeParts_walk A len cap L a ha hL.1 hT hBru
end Go.Proofs.YtkdajlhmodmkoaaDoor
