/-
  Layer 8 (tree): TreePeaks walked.
-/
import Derived.Test.YtkdajlhmodmkoaaDoorTZ
import Derived.Test.YtkdajlhmodmkoaaDoorShaO2
namespace Go.Proofs.YtkdajlhmodmkoaaDoor
open Go.RowKit TreeM
set_option linter.unusedVariables false
set_option linter.unusedSimpArgs false

theorem half_pow (f : Nat) : 2 ^ f / 2 = 2 ^ f / 2 := rfl
theorem and_fact : ∀ l : Nat, l < 25 → ∀ f : Nat, f < 5 → bits .and .i64 (l : Int) ((2 ^ f : Nat) : Int) = if 2 ^ f ≤ l % (2 * 2 ^ f) then ((2 ^ f : Nat) : Int) else 0 := by decide +kernel
theorem mod_low {l n : Nat} (h : l % (2 * n) < n) : l % n = l % (2 * n) := by
  rw [← Nat.mod_mod_of_dvd l (show n ∣ 2 * n from ⟨2, Nat.mul_comm _ _⟩), Nat.mod_eq_of_lt h]
theorem mod_high {l n : Nat} (hn : 0 < n) (h : n ≤ l % (2 * n)) : l % n = l % (2 * n) - n := by
  have h2 := Nat.mod_lt l (show 0 < 2 * n by omega)
  rw [← Nat.mod_mod_of_dvd l (show n ∣ 2 * n from ⟨2, Nat.mul_comm _ _⟩), Nat.mod_eq_sub_mod h, Nat.mod_eq_of_lt (by omega)]
theorem peaks_step (M : List ByteArray) (f a k : Nat) (ha : a = M.length - M.length % (2 * 2 ^ f)) (hk : (peaks M).drop k = peaks (M.drop a)) (hb : 2 ^ f ≤ M.length % (2 * 2 ^ f)) :
    (peaks M)[k]? = some (root ((M.drop a).take (2 ^ f))) ∧ (peaks M).drop (k + 1) = peaks (M.drop (a + 2 ^ f)) ∧ a + 2 ^ f ≤ M.length ∧ a + 2 ^ f = M.length - M.length % 2 ^ f := by
  have hp : 0 < 2 ^ f := Nat.two_pow_pos f
  have hm := mod_high hp hb
  have hle := Nat.mod_le M.length (2 * 2 ^ f)
  have hlt := Nat.mod_lt M.length (show 0 < 2 * 2 ^ f by omega)
  have hl : (M.drop a).length = M.length % (2 * 2 ^ f) := by rw [List.length_drop]; omega
  have hc := peaks_cons (M.drop a) f (by omega) (by omega)
  rw [hc] at hk
  refine ⟨?_, ?_, by omega, by omega⟩
  · have h1 : ((peaks M).drop k)[0]? = (peaks M)[k]? := by rw [List.getElem?_drop, Nat.add_zero]
    rw [← h1, hk]; rfl
  · rw [← List.drop_drop, hk, List.drop_succ_cons, List.drop_zero, List.drop_drop]
set_option maxRecDepth 100000 in
set_option maxHeartbeats 16000000 in
theorem treePeaks_walk (A : Option Addr) (len cap : Nat) (L : List ByteArray) {w : World} (hL : SRead w (.slice A len cap) L) (hT : Tab w) (hBru : Bru w) :
    Calls Tryd.prog 14 #[.slice A len cap] w fun e w' => e = .returned (.bool true) ∧ Below w.heap.size w w' := by
  have HT := Lib.hid hT; have HBru := Lib.hid hBru; have HL := Lib.hid hL
  clear hT hBru hL
  go_enter Tryd.func14, Tryd.ntmps14
  go_wp2_with fail
  refine (cut_any HL.out 24 (by decide)).mono ?_
  rintro e w1 ⟨⟨v1, rfl, ho1⟩, hb1⟩
  have hlen := cutL_length L 24
  have hsz : ∀ s ∈ cutL L 24, s.size ≤ 80000000 := fun s hs => by have := cutL_size L 24 s hs; omega
  generalize cutL L 24 = M at *
  have hl1 := ho1.read (by unfold maxLen; omega)
  obtain ⟨A1, cap1, hve, -, hc1⟩ := id hl1
  subst hve
  have Hsz := Lib.hid hsz; have Hl := Lib.hid hl1; have Hbel := Lib.hid hb1
  clear hsz ho1 hb1 HL hl1 hc1
  have hpl := peaks_short M (by omega)
  go_wp2_with fail
  refine (of_any (HT.out.below Hbel.out) (HBru.out.below Hbel.out) Hl.out Hsz.out (by omega)).mono ?_
  rintro e w5 ⟨⟨u5, rfl, ho5⟩, hb5⟩
  have hu5 := ho5.read hpl
  obtain ⟨A5, c5, hve, -, -⟩ := id hu5
  subst hve
  obtain ⟨g3, hg3⟩ : ∃ g, w5.heap.size = g := ⟨_, rfl⟩
  have hbel := Hbel.out.trans (hb5.mono Hbel.out.size)
  have hb6 := alloc_below' w5 (.cells #[.int .u64 (M.length : Int), .slice A5 (peaks M).length c5] 50)
  have H0 := Lib.hid (And.intro (Blk.new w5 50 #[.int .u64 (M.length : Int), .slice A5 (peaks M).length c5]) (And.intro ((Hl.out.below hb5 rfl).below hb6 rfl) (And.intro (hu5.below hb6 rfl) (hbel.trans (hb6.mono hbel.size)))))
  rw [hg3] at H0
  clear hb5 hbel hb6 ho5 hu5 Hl Hbel
  go_wp2_with fail
  clear hg3
  go_loopw [4, 5, 6] (fun i4 i5 i6 wr => ∃ (e a k n : Nat), e ≤ 5 ∧ n = 2 ^ e / 2 ∧ i4 = .int .i64 (a : Int) ∧ i5 = .int .i64 (k : Int) ∧ i6 = .int .i64 (n : Int) ∧ a ≤ M.length ∧ k ≤ (peaks M).length ∧ a = M.length - M.length % 2 ^ e ∧ (peaks M).drop k = peaks (M.drop a) ∧ Blk wr g3 50 #[.int .u64 (M.length : Int), .slice A5 (peaks M).length c5] ∧ SRead wr (.slice A1 M.length cap1) M ∧ SRead wr (.slice A5 (peaks M).length c5) (peaks M) ∧ Below w.heap.size w wr) (fun _ _ i6 _ => (intOf i6).toNat)
  case atStart => exact ⟨5, 0, 0, 16, by omega, by decide, rfl, rfl, rfl, by omega, by omega, by rw [Nat.mod_eq_of_lt (by omega)]; omega, rfl, H0.out.1, H0.out.2.1, H0.out.2.2.1, H0.out.2.2.2⟩
  case round =>
    clear H0
    obtain ⟨e, a, k, n, he, hn, rfl, rfl, rfl, hal, hkP, ha, hk, hB, hl, hu, hbel⟩ := hrel
    have HB := Lib.hid hB; have Hu := Lib.hid hu; have Hl := Lib.hid hl; have Hbel := Lib.hid hbel
    clear hB hu hl hbel
    rcases (show (∃ f, e = f + 1) ∨ e = 0 from (Nat.eq_zero_or_pos e).elim .inr (fun h => .inl ⟨e - 1, by omega⟩)) with ⟨f, rfl⟩ | rfl
    · have hn2 : n = 2 ^ f := by rw [hn, Nat.pow_succ]; omega
      have hpw : 2 ^ (f + 1) = 2 * 2 ^ f := by rw [Nat.pow_succ]; omega
      rw [hpw] at ha
      have hn0 : 1 ≤ n := by rw [hn2]; exact Nat.two_pow_pos f
      have hand := and_fact M.length (by omega) f (by omega)
      have l1 : (1 : Int) ≤ (n : Int) := by omega
      have hnb : n ≤ 16 := by rw [hn2]; exact Nat.pow_le_pow_right (n := 2) (by decide) (show f ≤ 4 by omega)
      have t1 : (n : Int).tdiv 2 = ((n / 2 : Nat) : Int) := by rw [Int.tdiv_eq_ediv_of_nonneg (by omega)]; omega
      have t2 : IntKind.i64.wrap ((n / 2 : Nat) : Int) = ((n / 2 : Nat) : Int) := IntWalk.i64_in _ (by omega)
      rw [← hn2] at hand
      by_cases hb : 2 ^ f ≤ M.length % (2 * 2 ^ f)
      · obtain ⟨s1, s2, s3, s4⟩ := peaks_step M f a k ha hk hb
        rw [if_pos (by rw [hn2]; exact hb)] at hand
        have hkl := (List.getElem?_eq_some_iff.1 s1).1
        rw [← hn2] at s1 s2 s3 s4
        obtain ⟨Az, cz, hz, -, hcz⟩ := id Hl.out
        obtain ⟨b, o, hA, ⟨-, hcq⟩, -⟩ := hcz a (by omega)
        injection hz with z1 _ z3
        subst z3
        rw [← z1] at hA
        subst hA
        clear hcz z1
        obtain ⟨Az, cz, hz, -, hcz⟩ := id Hu.out
        obtain ⟨b5, o5, hA, -, hp⟩ := hcz k hkl
        injection hz with z1 _ z3
        subst z3
        rw [← z1] at hA
        subst hA
        clear hcz z1
        obtain ⟨R, hR⟩ : ∃ R, root ((M.drop a).take n) = R := ⟨_, rfl⟩
        rw [hR] at s1
        have hp : wr.cell? ⟨b5, o5 + k, none⟩ = some (.string R) := by rw [hp, (List.getElem?_eq_some_iff.1 s1).2]
        obtain ⟨E, hE⟩ : ∃ E, a + n = E := ⟨_, rfl⟩
        rw [hE] at s2 s3 s4
        have hdl : (M.drop a).length = M.length - a := List.length_drop
        have hls : ((M.drop a).take n).length = n := by rw [List.length_take]; omega
        have Hsl := Lib.hid (SRead.take (SRead.drop Hl.out a (by omega)) n (by omega))
        have Hszs : Hid (∀ s ∈ (M.drop a).take n, s.size ≤ 80000000) := Lib.hid fun s hs => Hsz.out s (List.mem_of_mem_drop (List.mem_of_mem_take hs))
        have Hls := Lib.hid hls; have HR := Lib.hid hR; have Hn := Lib.hid hn2; have HE1 := Lib.hid s3; have HE2 := Lib.hid s4; have Hkk := Lib.hid s2
        have e1 : IntKind.i64.wrap ((a : Int) + (n : Int)) = (E : Int) := by rw [show (a : Int) + (n : Int) = (E : Int) by omega]; exact IntWalk.i64_in _ (by omega)
        have e2 : IntKind.i64.wrap ((k : Int) + 1) = (k : Int) + 1 := IntWalk.i64_in _ (by unfold maxLen at hpl; omega)
        have q0 : (0 : Int) ≤ (a : Int) := by omega
        have q1 : (a : Int) ≤ (E : Int) := by omega
        have q2 : (E : Int) ≤ (cap1 : Int) := by omega
        have q3 : a ≤ E := by omega
        have q4 : E ≤ cap1 := by omega
        have q5 : ¬ cap1 = a := by omega
        have q6 : E - a = n := by omega
        have q7 : a ≤ cap1 := by omega
        have r1 : ((peaks M).length ≤ k) = False := eq_false (by omega)
        have r2 : (n = 0) = False := eq_false (by omega)
        have r3 : (k : Int) < ((peaks M).length : Int) := by omega
        have hE64 : E ≤ 24 := by omega
        clear hn hn2 hpw ha hk hb s1 s2 s3 s4 hE hdl hls hR hcq
        go_upto_region 8 with fail
        refine wp_region_T (n := 19) (S := fun wq => Below wr.heap.size wr wq) (by kernel_rfl) (by kernel_rfl) (below_drewN' (Below.refl _ _) 1) (fun hHeld => ?_)
        refine WalkT.take (i := 0) (oi := _) (v := ?va1) rfl (by decide) (by kernel_rfl) (by kernel_rfl) (fun _ _ _ h => h) (Or.inl ⟨by kernel_rfl, ?hya1⟩) (by assumption) ?ra1
        case hya1 => (intro wq hSw; go_simp; try (with_reducible rfl))
        try simp only [Act.put, List.setIfInBounds_toArray, List.set_cons_zero, List.set_cons_succ]
        refine WalkT.take (i := 1) (oi := _) (v := ?va2) rfl (by decide) (by kernel_rfl) (by kernel_rfl) (fun _ _ _ h => h) (Or.inl ⟨by kernel_rfl, ?hya2⟩) (by assumption) ?ra2
        case hya2 => (intro wq hSw; go_simp; try (with_reducible rfl))
        try simp only [Act.put, List.setIfInBounds_toArray, List.set_cons_zero, List.set_cons_succ]
        refine WalkT.take (i := 2) (oi := _) (v := ?va3) rfl (by decide) (by kernel_rfl) (by kernel_rfl) (fun _ _ _ h => h) (Or.inl ⟨by kernel_rfl, ?hya3⟩) (by assumption) ?ra3
        case hya3 => (intro wq hSw; have q9 := Blk.cell ((Below.block hSw _ (Blk.lt HB.out)).trans HB.out) 1; simp only [List.getElem?_toArray, List.getElem?_cons_succ, List.getElem?_cons_zero] at q9; go_simp; try (with_reducible rfl))
        try simp only [Act.put, List.setIfInBounds_toArray, List.set_cons_zero, List.set_cons_succ]
        refine WalkT.take (i := 3) (oi := _) (v := ?va4) rfl (by decide) (by kernel_rfl) (by kernel_rfl) (fun _ _ _ h => h) (Or.inl ⟨by kernel_rfl, ?hya4⟩) (by assumption) ?ra4
        case hya4 => (intro wq hSw; go_simp; try (with_reducible rfl))
        try simp only [Act.put, List.setIfInBounds_toArray, List.set_cons_zero, List.set_cons_succ]
        refine WalkT.take (i := 4) (oi := _) (v := ?va5) rfl (by decide) (by kernel_rfl) (by kernel_rfl) (fun _ _ _ h => h) (Or.inl ⟨by kernel_rfl, ?hya5⟩) (by assumption) ?ra5
        case hya5 => (intro wq hSw; go_simp; try (with_reducible rfl))
        try simp only [Act.put, List.setIfInBounds_toArray, List.set_cons_zero, List.set_cons_succ]
        refine WalkT.take (i := 5) (oi := _) (v := ?va6) rfl (by decide) (by kernel_rfl) (by kernel_rfl) (fun _ _ _ h => h) (Or.inl ⟨by kernel_rfl, ?hya6⟩) (by assumption) ?ra6
        case hya6 => (intro wq hSw; go_simp; try (with_reducible rfl))
        try simp only [Act.put, List.setIfInBounds_toArray, List.set_cons_zero, List.set_cons_succ]
        refine WalkT.take (i := 6) (oi := _) (v := ?va7) rfl (by decide) (by kernel_rfl) (by kernel_rfl) (fun _ _ _ h => h) (Or.inl ⟨by kernel_rfl, ?hya7⟩) (by assumption) ?ra7
        case hya7 => (intro wq hSw; go_simp; try (with_reducible rfl))
        try simp only [Act.put, List.setIfInBounds_toArray, List.set_cons_zero, List.set_cons_succ]
        refine WalkT.take (i := 7) (oi := _) (v := ?va8) rfl (by decide) (by kernel_rfl) (by kernel_rfl) (fun _ _ _ h => h) (Or.inl ⟨by kernel_rfl, ?hya8⟩) (by assumption) ?ra8
        case hya8 => (intro wq hSw; have q9 := Blk.cell ((Below.block hSw _ (Blk.lt HB.out)).trans HB.out) 1; simp only [List.getElem?_toArray, List.getElem?_cons_succ, List.getElem?_cons_zero] at q9; go_simp; try (with_reducible rfl))
        try simp only [Act.put, List.setIfInBounds_toArray, List.set_cons_zero, List.set_cons_succ]
        refine WalkT.take (i := 8) (oi := _) (v := ?va9) rfl (by decide) (by kernel_rfl) (by kernel_rfl) (fun _ _ _ h => h) (Or.inl ⟨by kernel_rfl, ?hya9⟩) (by assumption) ?ra9
        case hya9 => (intro wq hSw; go_simp; try (with_reducible rfl))
        try simp only [Act.put, List.setIfInBounds_toArray, List.set_cons_zero, List.set_cons_succ]
        refine WalkT.take (i := 9) (oi := _) (v := ?va10) rfl (by decide) (by kernel_rfl) (by kernel_rfl) (fun _ _ _ h => h) (Or.inl ⟨by kernel_rfl, ?hya10⟩) (by assumption) ?ra10
        case hya10 => (intro wq hSw; go_simp; try (with_reducible rfl))
        try simp only [Act.put, List.setIfInBounds_toArray, List.set_cons_zero, List.set_cons_succ]
        refine WalkT.take (i := 10) (oi := _) (v := ?va11) rfl (by decide) (by kernel_rfl) (by kernel_rfl) (fun _ _ _ h => h) (Or.inl ⟨by kernel_rfl, ?hya11⟩) (by assumption) ?ra11
        case hya11 => (intro wq hSw; have q9 := cell_belowB hSw rfl hp; go_simp; try (with_reducible rfl))
        try simp only [Act.put, List.setIfInBounds_toArray, List.set_cons_zero, List.set_cons_succ]
        refine WalkT.take (i := 11) (oi := _) (v := ?va12) rfl (by decide) (by kernel_rfl) (by kernel_rfl) (fun _ _ _ h => h) (Or.inl ⟨by kernel_rfl, ?hya12⟩) (by assumption) ?ra12
        case hya12 => (intro wq hSw; go_simp; try (with_reducible rfl))
        try simp only [Act.put, List.setIfInBounds_toArray, List.set_cons_zero, List.set_cons_succ]
        refine WalkT.take (i := 12) (oi := _) (v := ?va13) rfl (by decide) (by kernel_rfl) (by kernel_rfl) (fun _ _ _ h => h) (Or.inl ⟨by kernel_rfl, ?hya13⟩) (by assumption) ?ra13
        case hya13 => (intro wq hSw; go_simp; try (with_reducible rfl))
        try simp only [Act.put, List.setIfInBounds_toArray, List.set_cons_zero, List.set_cons_succ]
        refine WalkT.take (i := 13) (oi := _) (v := ?va14) rfl (by decide) (by kernel_rfl) (by kernel_rfl) (fun _ _ _ h => h) (Or.inl ⟨by kernel_rfl, ?hya14⟩) (by assumption) ?ra14
        case hya14 => (intro wq hSw; go_simp; try (with_reducible rfl))
        try simp only [Act.put, List.setIfInBounds_toArray, List.set_cons_zero, List.set_cons_succ]
        refine WalkT.take (i := 14) (oi := _) (v := ?va15) rfl (by decide) (by kernel_rfl) (by kernel_rfl) (fun _ _ _ h => h) (Or.inl ⟨by kernel_rfl, ?hya15⟩) (by assumption) ?ra15
        case hya15 => (intro wq hSw; go_simp; try (with_reducible rfl))
        try simp only [Act.put, List.setIfInBounds_toArray, List.set_cons_zero, List.set_cons_succ]
        refine WalkT.take (i := 15) (oi := _) (v := ?va16) rfl (by decide) (by kernel_rfl) (by kernel_rfl) (fun _ _ _ h => h) (Or.inl ⟨by kernel_rfl, ?hya16⟩) (by assumption) ?ra16
        case hya16 => (intro wq hSw; go_simp; try (with_reducible rfl))
        try simp only [Act.put, List.setIfInBounds_toArray, List.set_cons_zero, List.set_cons_succ]
        refine WalkT.take (i := 16) (oi := _) (v := ?va17) rfl (by decide) (by kernel_rfl) (by kernel_rfl) (fun _ _ _ h => h) (Or.inl ⟨by kernel_rfl, ?hya17⟩) (by assumption) ?ra17
        case hya17 => (intro wq hSw; go_simp; try (with_reducible rfl))
        try simp only [Act.put, List.setIfInBounds_toArray, List.set_cons_zero, List.set_cons_succ]
        refine WalkT.one (i := 17) (o := ?oa18) (by kernel_rfl) (by decide) ?hoa18 ?hka18
        case hoa18 => (simp only [List.getElem?_toArray, List.getElem?_cons_succ, List.getElem?_cons_zero]; exact rfl)
        intro K hK
        go_simp
        refine (root_any (HT.out.below (Below.trans Hbel.out (Below.mono hHeld Hbel.out.size))) (SRead.below Hsl.out hHeld rfl) Hszs.out (by rw [Hls.out]; omega)).mono ?_
        rintro e x17 ⟨rfl, hb⟩
        rw [HR.out]
        have hS17 : Below wr.heap.size wr x17 := Below.trans hHeld (Below.mono hb (Below.size hHeld))
        clear hb hHeld
        go_simp
        refine hK.out _ _ hS17 (fun hHeld => ?_)
        clear hS17
        clear hK K
        try simp only [Act.put, List.setIfInBounds_toArray, List.set_cons_zero, List.set_cons_succ]
        refine WalkT.take (i := 18) (oi := _) (v := ?va19) rfl (by decide) (by kernel_rfl) (by kernel_rfl) (fun _ _ _ h => h) (Or.inl ⟨by kernel_rfl, ?hya19⟩) (by assumption) ?ra19
        case hya19 => (intro wq hSw; go_simp; try (with_reducible rfl))
        try simp only [Act.put, List.setIfInBounds_toArray, List.set_cons_zero, List.set_cons_succ]
        refine WalkT.tail (by kernel_rfl) ?_
        have HH := Lib.hid hHeld
        simp only [List.drop_succ_cons, List.drop_zero]
        clear hHeld hp
        go_wp2
        go_roundw
        case rel => exact ⟨f, E, k + 1, n / 2, by omega, by have := Hn.out; rw [this], by go_num, by go_num, by go_num, HE1.out, by omega, by rw [← Hn.out]; exact HE2.out, Hkk.out, (HH.out.block _ (Blk.lt HB.out)).trans HB.out, Hl.out.below HH.out rfl, Hu.out.below HH.out rfl, Hbel.out.trans (HH.out.mono Hbel.out.size)⟩
        case measure => simp [intOf] <;> omega
      · have hlow := mod_low (Nat.lt_of_not_le hb)
        rw [if_neg (by rw [hn2]; exact hb)] at hand
        have Hn := Lib.hid hn2; have Hk := Lib.hid hk; have Ha := Lib.hid ha; have Hlow := Lib.hid hlow
        clear hn hn2 hpw ha hk hb hlow
        go_wp2
        go_roundw
        case rel => exact ⟨f, a, k, n / 2, by omega, by have := Hn.out; rw [this], rfl, rfl, by go_num, hal, hkP, by rw [Hlow.out]; exact Ha.out, Hk.out, HB.out, Hl.out, Hu.out, Hbel.out⟩
        case measure => simp [intOf] <;> omega
    · obtain rfl : n = 0 := by rw [hn] <;> decide
      rw [Nat.pow_zero, Nat.mod_one, Nat.sub_zero] at ha
      subst ha
      rw [List.drop_length, peaks_nil, List.drop_eq_nil_iff] at hk
      obtain rfl : k = (peaks M).length := by omega
      clear hn he hal hkP hk
      by_cases h1 : M.length = 1
      · obtain ⟨S, rfl⟩ : ∃ S, M = [S] := List.length_eq_one_iff.1 h1
        have hpS : peaks [S] = [leafB S] := peaks_one [S] 0 rfl
        rw [hpS] at HB Hu ⊢
        obtain ⟨Az, cz, hz, -, hcz⟩ := id Hu.out
        obtain ⟨b5, o5, hA, -, hp⟩ := hcz 0 (by simp)
        injection hz with z1 _ z3
        subst z3
        rw [← z1] at hA
        subst hA
        have hp : wr.cell? ⟨b5, o5, none⟩ = some (.string (leafB S)) := hp
        clear hcz z1
        obtain ⟨Az, cz, hz, -, hcz⟩ := id Hl.out
        obtain ⟨b, o, hA, -, hx⟩ := hcz 0 (by simp)
        injection hz with z1 _ z3
        subst z3
        rw [← z1] at hA
        subst hA
        have hx : wr.cell? ⟨b, o, none⟩ = some (.string S) := hx
        have hS : S.size ≤ 80000000 := Hsz.out S (by simp)
        clear hcz z1 h1 hpS hpl hlen
        go_upto_region 12 with fail
        refine wp_region_T (n := 30) (S := fun wq => Below wr.heap.size wr wq) (by kernel_rfl) (by kernel_rfl) (below_drewN' (Below.refl _ _) 1) (fun hHeld => ?_)
        refine WalkT.take (i := 0) (oi := _) (v := ?vb1) rfl (by decide) (by kernel_rfl) (by kernel_rfl) (fun _ _ _ h => h) (Or.inl ⟨by kernel_rfl, ?hyb1⟩) (by assumption) ?rb1
        case hyb1 => (intro wq hSw; go_simp; try (with_reducible rfl))
        try simp only [Act.put, List.setIfInBounds_toArray, List.set_cons_zero, List.set_cons_succ]
        refine WalkT.take (i := 1) (oi := _) (v := ?vb2) rfl (by decide) (by kernel_rfl) (by kernel_rfl) (fun _ _ _ h => h) (Or.inl ⟨by kernel_rfl, ?hyb2⟩) (by assumption) ?rb2
        case hyb2 => (intro wq hSw; go_simp; try (with_reducible rfl))
        try simp only [Act.put, List.setIfInBounds_toArray, List.set_cons_zero, List.set_cons_succ]
        refine WalkT.take (i := 2) (oi := _) (v := ?vb3) rfl (by decide) (by kernel_rfl) (by kernel_rfl) (fun _ _ _ h => h) (Or.inl ⟨by kernel_rfl, ?hyb3⟩) (by assumption) ?rb3
        case hyb3 => (intro wq hSw; have q9 := Blk.cell ((Below.block hSw _ (Blk.lt HB.out)).trans HB.out) 1; simp only [List.getElem?_toArray, List.getElem?_cons_succ, List.getElem?_cons_zero] at q9; go_simp; try (with_reducible rfl))
        try simp only [Act.put, List.setIfInBounds_toArray, List.set_cons_zero, List.set_cons_succ]
        refine WalkT.take (i := 3) (oi := _) (v := ?vb4) rfl (by decide) (by kernel_rfl) (by kernel_rfl) (fun _ _ _ h => h) (Or.inl ⟨by kernel_rfl, ?hyb4⟩) (by assumption) ?rb4
        case hyb4 => (intro wq hSw; go_simp; try (with_reducible rfl))
        try simp only [Act.put, List.setIfInBounds_toArray, List.set_cons_zero, List.set_cons_succ]
        refine WalkT.take (i := 4) (oi := _) (v := ?vb5) rfl (by decide) (by kernel_rfl) (by kernel_rfl) (fun _ _ _ h => h) (Or.inl ⟨by kernel_rfl, ?hyb5⟩) (by assumption) ?rb5
        case hyb5 => (intro wq hSw; go_simp; try (with_reducible rfl))
        try simp only [Act.put, List.setIfInBounds_toArray, List.set_cons_zero, List.set_cons_succ]
        refine WalkT.take (i := 5) (oi := _) (v := ?vb6) rfl (by decide) (by kernel_rfl) (by kernel_rfl) (fun _ _ _ h => h) (Or.inl ⟨by kernel_rfl, ?hyb6⟩) (by assumption) ?rb6
        case hyb6 => (intro wq hSw; go_simp; try (with_reducible rfl))
        try simp only [Act.put, List.setIfInBounds_toArray, List.set_cons_zero, List.set_cons_succ]
        refine WalkT.take (i := 6) (oi := _) (v := ?vb7) rfl (by decide) (by kernel_rfl) (by kernel_rfl) (fun _ _ _ h => h) (Or.inl ⟨by kernel_rfl, ?hyb7⟩) (by assumption) ?rb7
        case hyb7 => (intro wq hSw; go_simp; try (with_reducible rfl))
        try simp only [Act.put, List.setIfInBounds_toArray, List.set_cons_zero, List.set_cons_succ]
        refine WalkT.take (i := 7) (oi := _) (v := ?vb8) rfl (by decide) (by kernel_rfl) (by kernel_rfl) (fun _ _ _ h => h) (Or.inl ⟨by kernel_rfl, ?hyb8⟩) (by assumption) ?rb8
        case hyb8 => (intro wq hSw; go_simp; try (with_reducible rfl))
        try simp only [Act.put, List.setIfInBounds_toArray, List.set_cons_zero, List.set_cons_succ]
        refine WalkT.take (i := 8) (oi := _) (v := ?vb9) rfl (by decide) (by kernel_rfl) (by kernel_rfl) (fun _ _ _ h => h) (Or.inl ⟨by kernel_rfl, ?hyb9⟩) (by assumption) ?rb9
        case hyb9 => (intro wq hSw; go_simp; try (with_reducible rfl))
        try simp only [Act.put, List.setIfInBounds_toArray, List.set_cons_zero, List.set_cons_succ]
        refine WalkT.take (i := 9) (oi := _) (v := ?vb10) rfl (by decide) (by kernel_rfl) (by kernel_rfl) (fun _ _ _ h => h) (Or.inl ⟨by kernel_rfl, ?hyb10⟩) (by assumption) ?rb10
        case hyb10 => (intro wq hSw; go_simp; try (with_reducible rfl))
        try simp only [Act.put, List.setIfInBounds_toArray, List.set_cons_zero, List.set_cons_succ]
        refine WalkT.take (i := 10) (oi := _) (v := ?vb11) rfl (by decide) (by kernel_rfl) (by kernel_rfl) (fun _ _ _ h => h) (Or.inl ⟨by kernel_rfl, ?hyb11⟩) (by assumption) ?rb11
        case hyb11 => (intro wq hSw; go_simp; try (with_reducible rfl))
        try simp only [Act.put, List.setIfInBounds_toArray, List.set_cons_zero, List.set_cons_succ]
        refine WalkT.take (i := 11) (oi := _) (v := ?vb12) rfl (by decide) (by kernel_rfl) (by kernel_rfl) (fun _ _ _ h => h) (Or.inl ⟨by kernel_rfl, ?hyb12⟩) (by assumption) ?rb12
        case hyb12 => (intro wq hSw; go_simp; try (with_reducible rfl))
        try simp only [Act.put, List.setIfInBounds_toArray, List.set_cons_zero, List.set_cons_succ]
        refine WalkT.take (i := 12) (oi := _) (v := ?vb13) rfl (by decide) (by kernel_rfl) (by kernel_rfl) (fun _ _ _ h => h) (Or.inl ⟨by kernel_rfl, ?hyb13⟩) (by assumption) ?rb13
        case hyb13 => (intro wq hSw; go_simp; try (with_reducible rfl))
        try simp only [Act.put, List.setIfInBounds_toArray, List.set_cons_zero, List.set_cons_succ]
        refine WalkT.take (i := 13) (oi := _) (v := ?vb14) rfl (by decide) (by kernel_rfl) (by kernel_rfl) (fun _ _ _ h => h) (Or.inl ⟨by kernel_rfl, ?hyb14⟩) (by assumption) ?rb14
        case hyb14 => (intro wq hSw; go_simp; try (with_reducible rfl))
        try simp only [Act.put, List.setIfInBounds_toArray, List.set_cons_zero, List.set_cons_succ]
        refine WalkT.take (i := 14) (oi := _) (v := ?vb15) rfl (by decide) (by kernel_rfl) (by kernel_rfl) (fun _ _ _ h => h) (Or.inl ⟨by kernel_rfl, ?hyb15⟩) (by assumption) ?rb15
        case hyb15 => (intro wq hSw; go_simp; try (with_reducible rfl))
        try simp only [Act.put, List.setIfInBounds_toArray, List.set_cons_zero, List.set_cons_succ]
        refine WalkT.take (i := 15) (oi := _) (v := ?vb16) rfl (by decide) (by kernel_rfl) (by kernel_rfl) (fun _ _ _ h => h) (Or.inl ⟨by kernel_rfl, ?hyb16⟩) (by assumption) ?rb16
        case hyb16 => (intro wq hSw; go_simp; try (with_reducible rfl))
        try simp only [Act.put, List.setIfInBounds_toArray, List.set_cons_zero, List.set_cons_succ]
        refine WalkT.take (i := 16) (oi := _) (v := ?vb17) rfl (by decide) (by kernel_rfl) (by kernel_rfl) (fun _ _ _ h => h) (Or.inl ⟨by kernel_rfl, ?hyb17⟩) (by assumption) ?rb17
        case hyb17 => (intro wq hSw; go_simp; try (with_reducible rfl))
        try simp only [Act.put, List.setIfInBounds_toArray, List.set_cons_zero, List.set_cons_succ]
        refine WalkT.take (i := 17) (oi := _) (v := ?vb18) rfl (by decide) (by kernel_rfl) (by kernel_rfl) (fun _ _ _ h => h) (Or.inl ⟨by kernel_rfl, ?hyb18⟩) (by assumption) ?rb18
        case hyb18 => (intro wq hSw; have q9 := Blk.cell ((Below.block hSw _ (Blk.lt HB.out)).trans HB.out) 1; simp only [List.getElem?_toArray, List.getElem?_cons_succ, List.getElem?_cons_zero] at q9; go_simp; try (with_reducible rfl))
        try simp only [Act.put, List.setIfInBounds_toArray, List.set_cons_zero, List.set_cons_succ]
        refine WalkT.take (i := 18) (oi := _) (v := ?vb19) rfl (by decide) (by kernel_rfl) (by kernel_rfl) (fun _ _ _ h => h) (Or.inl ⟨by kernel_rfl, ?hyb19⟩) (by assumption) ?rb19
        case hyb19 => (intro wq hSw; go_simp; try (with_reducible rfl))
        try simp only [Act.put, List.setIfInBounds_toArray, List.set_cons_zero, List.set_cons_succ]
        refine WalkT.take (i := 19) (oi := _) (v := ?vb20) rfl (by decide) (by kernel_rfl) (by kernel_rfl) (fun _ _ _ h => h) (Or.inl ⟨by kernel_rfl, ?hyb20⟩) (by assumption) ?rb20
        case hyb20 => (intro wq hSw; have q9 := cell_belowB hSw rfl hp; go_simp; try (with_reducible rfl))
        try simp only [Act.put, List.setIfInBounds_toArray, List.set_cons_zero, List.set_cons_succ]
        refine WalkT.take (i := 20) (oi := _) (v := ?vb21) rfl (by decide) (by kernel_rfl) (by kernel_rfl) (fun _ _ _ h => h) (Or.inl ⟨by kernel_rfl, ?hyb21⟩) (by assumption) ?rb21
        case hyb21 => (intro wq hSw; go_simp; try (with_reducible rfl))
        try simp only [Act.put, List.setIfInBounds_toArray, List.set_cons_zero, List.set_cons_succ]
        refine WalkT.take (i := 21) (oi := _) (v := ?vb22) rfl (by decide) (by kernel_rfl) (by kernel_rfl) (fun _ _ _ h => h) (Or.inl ⟨by kernel_rfl, ?hyb22⟩) (by assumption) ?rb22
        case hyb22 => (intro wq hSw; go_simp; try (with_reducible rfl))
        try simp only [Act.put, List.setIfInBounds_toArray, List.set_cons_zero, List.set_cons_succ]
        refine WalkT.take (i := 22) (oi := _) (v := ?vb23) rfl (by decide) (by kernel_rfl) (by kernel_rfl) (fun _ _ _ h => h) (Or.inl ⟨by kernel_rfl, ?hyb23⟩) (by assumption) ?rb23
        case hyb23 => (intro wq hSw; have q9 := cell_belowB hSw rfl hx; go_simp; try (with_reducible rfl))
        try simp only [Act.put, List.setIfInBounds_toArray, List.set_cons_zero, List.set_cons_succ]
        refine WalkT.one (i := 23) (o := ?ob24) (by kernel_rfl) (by decide) ?hob24 ?hkb24
        case hob24 => (simp only [List.getElem?_toArray, List.getElem?_cons_succ, List.getElem?_cons_zero]; exact rfl)
        intro K hK
        go_simp
        refine (leaf_any (HT.out.below (Below.trans Hbel.out (Below.mono hHeld Hbel.out.size))) S (by omega)).mono ?_
        rintro e x23 ⟨rfl, hb⟩
        have hS23 : Below wr.heap.size wr x23 := Below.trans hHeld (Below.mono hb (Below.size hHeld))
        clear hb hHeld
        go_simp
        refine hK.out _ _ hS23 (fun hHeld => ?_)
        clear hS23
        clear hK K
        try simp only [Act.put, List.setIfInBounds_toArray, List.set_cons_zero, List.set_cons_succ]
        refine WalkT.take (i := 24) (oi := _) (v := ?vb25) rfl (by decide) (by kernel_rfl) (by kernel_rfl) (fun _ _ _ h => h) (Or.inl ⟨by kernel_rfl, ?hyb25⟩) (by assumption) ?rb25
        case hyb25 => (intro wq hSw; go_simp; try (with_reducible rfl))
        try simp only [Act.put, List.setIfInBounds_toArray, List.set_cons_zero, List.set_cons_succ]
        refine WalkT.take (i := 25) (oi := _) (v := ?vb26) rfl (by decide) (by kernel_rfl) (by kernel_rfl) (fun _ _ _ h => h) (Or.inl ⟨by kernel_rfl, ?hyb26⟩) (by assumption) ?rb26
        case hyb26 => (intro wq hSw; go_simp; try (with_reducible rfl))
        try simp only [Act.put, List.setIfInBounds_toArray, List.set_cons_zero, List.set_cons_succ]
        refine WalkT.take (i := 26) (oi := _) (v := ?vb27) rfl (by decide) (by kernel_rfl) (by kernel_rfl) (fun _ _ _ h => h) (Or.inl ⟨by kernel_rfl, ?hyb27⟩) (by assumption) ?rb27
        case hyb27 => (intro wq hSw; go_simp; try (with_reducible rfl))
        try simp only [Act.put, List.setIfInBounds_toArray, List.set_cons_zero, List.set_cons_succ]
        refine WalkT.take (i := 27) (oi := _) (v := ?vb28) rfl (by decide) (by kernel_rfl) (by kernel_rfl) (fun _ _ _ h => h) (Or.inl ⟨by kernel_rfl, ?hyb28⟩) (by assumption) ?rb28
        case hyb28 => (intro wq hSw; go_simp; try (with_reducible rfl))
        try simp only [Act.put, List.setIfInBounds_toArray, List.set_cons_zero, List.set_cons_succ]
        refine WalkT.one (i := 28) (o := ?ob29) (by kernel_rfl) (by decide) ?hob29 ?hkb29
        case hob29 => (simp only [List.getElem?_toArray, List.getElem?_cons_succ, List.getElem?_cons_zero]; exact rfl)
        intro K hK
        go_simp
        refine (tfixed_any (HT.out.below (Below.trans Hbel.out (Below.mono hHeld Hbel.out.size))) (HBru.out.below (Below.trans Hbel.out (Below.mono hHeld Hbel.out.size)))).mono ?_
        rintro e x28 ⟨rfl, hb⟩
        have hS28 : Below wr.heap.size wr x28 := Below.trans hHeld (Below.mono hb (Below.size hHeld))
        clear hb hHeld
        go_simp
        refine hK.out _ _ hS28 (fun hHeld => ?_)
        clear hS28
        clear hK K
        try simp only [Act.put, List.setIfInBounds_toArray, List.set_cons_zero, List.set_cons_succ]
        refine WalkT.take (i := 29) (oi := _) (v := ?vb30) rfl (by decide) (by kernel_rfl) (by kernel_rfl) (fun _ _ _ h => h) (Or.inl ⟨by kernel_rfl, ?hyb30⟩) (by assumption) ?rb30
        case hyb30 => (intro wq hSw; go_simp; try (with_reducible rfl))
        try simp only [Act.put, List.setIfInBounds_toArray, List.set_cons_zero, List.set_cons_succ]
        refine WalkT.tail (by kernel_rfl) ?_
        have Hend := Lib.hid (Hbel.out.trans (Below.mono hHeld Hbel.out.size)); clear hHeld
        simp only [List.drop_succ_cons, List.drop_zero]
        go_wp2
        go_ret
        exact ⟨rfl, Hend.out⟩
      · have h2 : (M.length = 1) = False := eq_false h1
        have h3 : ((M.length : Int) == 1) = false := by rw [beq_eq_false_iff_ne]; omega
        have h4 : ((M.length : Int) != 1) = true := by rw [bne_iff_ne]; omega
        go_upto_region 12 with fail
        refine wp_region_T (n := 30) (S := fun wq => Below wr.heap.size wr wq) (by kernel_rfl) (by kernel_rfl) (below_drewN' (Below.refl _ _) 1) (fun hHeld => ?_)
        refine WalkT.take (i := 0) (oi := _) (v := ?vc1) rfl (by decide) (by kernel_rfl) (by kernel_rfl) (fun _ _ _ h => h) (Or.inl ⟨by kernel_rfl, ?hyc1⟩) (by assumption) ?rc1
        case hyc1 => (intro wq hSw; go_simp; try (with_reducible rfl))
        try simp only [Act.put, List.setIfInBounds_toArray, List.set_cons_zero, List.set_cons_succ]
        refine WalkT.take (i := 1) (oi := _) (v := ?vc2) rfl (by decide) (by kernel_rfl) (by kernel_rfl) (fun _ _ _ h => h) (Or.inl ⟨by kernel_rfl, ?hyc2⟩) (by assumption) ?rc2
        case hyc2 => (intro wq hSw; go_simp; try (with_reducible rfl))
        try simp only [Act.put, List.setIfInBounds_toArray, List.set_cons_zero, List.set_cons_succ]
        refine WalkT.take (i := 2) (oi := _) (v := ?vc3) rfl (by decide) (by kernel_rfl) (by kernel_rfl) (fun _ _ _ h => h) (Or.inl ⟨by kernel_rfl, ?hyc3⟩) (by assumption) ?rc3
        case hyc3 => (intro wq hSw; have q9 := Blk.cell ((Below.block hSw _ (Blk.lt HB.out)).trans HB.out) 1; simp only [List.getElem?_toArray, List.getElem?_cons_succ, List.getElem?_cons_zero] at q9; go_simp; try (with_reducible rfl))
        try simp only [Act.put, List.setIfInBounds_toArray, List.set_cons_zero, List.set_cons_succ]
        refine WalkT.take (i := 3) (oi := _) (v := ?vc4) rfl (by decide) (by kernel_rfl) (by kernel_rfl) (fun _ _ _ h => h) (Or.inl ⟨by kernel_rfl, ?hyc4⟩) (by assumption) ?rc4
        case hyc4 => (intro wq hSw; go_simp; try (with_reducible rfl))
        try simp only [Act.put, List.setIfInBounds_toArray, List.set_cons_zero, List.set_cons_succ]
        refine WalkT.take (i := 4) (oi := _) (v := ?vc5) rfl (by decide) (by kernel_rfl) (by kernel_rfl) (fun _ _ _ h => h) (Or.inl ⟨by kernel_rfl, ?hyc5⟩) (by assumption) ?rc5
        case hyc5 => (intro wq hSw; go_simp; try (with_reducible rfl))
        try simp only [Act.put, List.setIfInBounds_toArray, List.set_cons_zero, List.set_cons_succ]
        refine WalkT.take (i := 5) (oi := _) (v := ?vc6) rfl (by decide) (by kernel_rfl) (by kernel_rfl) (fun _ _ _ h => h) (Or.inl ⟨by kernel_rfl, ?hyc6⟩) (by assumption) ?rc6
        case hyc6 => (intro wq hSw; go_simp; try (with_reducible rfl))
        try simp only [Act.put, List.setIfInBounds_toArray, List.set_cons_zero, List.set_cons_succ]
        refine WalkT.take (i := 6) (oi := _) (v := ?vc7) rfl (by decide) (by kernel_rfl) (by kernel_rfl) (fun _ _ _ h => h) (Or.inl ⟨by kernel_rfl, ?hyc7⟩) (by assumption) ?rc7
        case hyc7 => (intro wq hSw; go_simp; try (with_reducible rfl))
        try simp only [Act.put, List.setIfInBounds_toArray, List.set_cons_zero, List.set_cons_succ]
        refine WalkT.take (i := 7) (oi := _) (v := ?vc8) rfl (by decide) (by kernel_rfl) (by kernel_rfl) (fun _ _ _ h => h) (Or.inl ⟨by kernel_rfl, ?hyc8⟩) (by assumption) ?rc8
        case hyc8 => (intro wq hSw; go_simp; try (with_reducible rfl))
        try simp only [Act.put, List.setIfInBounds_toArray, List.set_cons_zero, List.set_cons_succ]
        refine WalkT.take (i := 8) (oi := _) (v := ?vc9) rfl (by decide) (by kernel_rfl) (by kernel_rfl) (fun _ _ _ h => h) (Or.inl ⟨by kernel_rfl, ?hyc9⟩) (by assumption) ?rc9
        case hyc9 => (intro wq hSw; go_simp; try (with_reducible rfl))
        try simp only [Act.put, List.setIfInBounds_toArray, List.set_cons_zero, List.set_cons_succ]
        refine WalkT.take (i := 9) (oi := _) (v := ?vc10) rfl (by decide) (by kernel_rfl) (by kernel_rfl) (fun _ _ _ h => h) (Or.inl ⟨by kernel_rfl, ?hyc10⟩) (by assumption) ?rc10
        case hyc10 => (intro wq hSw; go_simp; try (with_reducible rfl))
        try simp only [Act.put, List.setIfInBounds_toArray, List.set_cons_zero, List.set_cons_succ]
        refine WalkT.take (i := 10) (oi := _) (v := ?vc11) rfl (by decide) (by kernel_rfl) (by kernel_rfl) (fun _ _ _ h => h) (Or.inl ⟨by kernel_rfl, ?hyc11⟩) (by assumption) ?rc11
        case hyc11 => (intro wq hSw; go_simp; try (with_reducible rfl))
        try simp only [Act.put, List.setIfInBounds_toArray, List.set_cons_zero, List.set_cons_succ]
        refine WalkT.take (i := 11) (oi := _) (v := ?vc12) rfl (by decide) (by kernel_rfl) (by kernel_rfl) (fun _ _ _ h => h) (Or.inl ⟨by kernel_rfl, ?hyc12⟩) (by assumption) ?rc12
        case hyc12 => (intro wq hSw; go_simp; try (with_reducible rfl))
        try simp only [Act.put, List.setIfInBounds_toArray, List.set_cons_zero, List.set_cons_succ]
        refine WalkT.take (i := 12) (oi := _) (v := ?vc13) rfl (by decide) (by kernel_rfl) (by kernel_rfl) (fun _ _ _ h => h) (Or.inl ⟨by kernel_rfl, ?hyc13⟩) (by assumption) ?rc13
        case hyc13 => (intro wq hSw; go_simp; try (with_reducible rfl))
        try simp only [Act.put, List.setIfInBounds_toArray, List.set_cons_zero, List.set_cons_succ]
        refine WalkT.take (i := 13) (oi := _) (v := ?vc14) rfl (by decide) (by kernel_rfl) (by kernel_rfl) (fun _ _ _ h => h) (Or.inl ⟨by kernel_rfl, ?hyc14⟩) (by assumption) ?rc14
        case hyc14 => (intro wq hSw; go_simp; try (with_reducible rfl))
        try simp only [Act.put, List.setIfInBounds_toArray, List.set_cons_zero, List.set_cons_succ]
        refine WalkT.take (i := 14) (oi := _) (v := ?vc15) rfl (by decide) (by kernel_rfl) (by kernel_rfl) (fun _ _ _ h => h) (Or.inl ⟨by kernel_rfl, ?hyc15⟩) (by assumption) ?rc15
        case hyc15 => (intro wq hSw; go_simp; try (with_reducible rfl))
        try simp only [Act.put, List.setIfInBounds_toArray, List.set_cons_zero, List.set_cons_succ]
        refine WalkT.take (i := 15) (oi := _) (v := ?vc16) rfl (by decide) (by kernel_rfl) (by kernel_rfl) (fun _ _ _ h => h) (Or.inl ⟨by kernel_rfl, ?hyc16⟩) (by assumption) ?rc16
        case hyc16 => (intro wq hSw; go_simp; try (with_reducible rfl))
        try simp only [Act.put, List.setIfInBounds_toArray, List.set_cons_zero, List.set_cons_succ]
        refine WalkT.take (i := 16) (oi := _) (v := _) rfl (by decide) (by kernel_rfl) (by kernel_rfl) (fun _ _ _ h => h) (Or.inr ⟨by kernel_rfl, rfl⟩) (by assumption) ?_
        try simp only [Act.put, List.setIfInBounds_toArray, List.set_cons_zero, List.set_cons_succ]
        refine WalkT.take (i := 17) (oi := _) (v := _) rfl (by decide) (by kernel_rfl) (by kernel_rfl) (fun _ _ _ h => h) (Or.inr ⟨by kernel_rfl, rfl⟩) (by assumption) ?_
        try simp only [Act.put, List.setIfInBounds_toArray, List.set_cons_zero, List.set_cons_succ]
        refine WalkT.take (i := 18) (oi := _) (v := _) rfl (by decide) (by kernel_rfl) (by kernel_rfl) (fun _ _ _ h => h) (Or.inr ⟨by kernel_rfl, rfl⟩) (by assumption) ?_
        try simp only [Act.put, List.setIfInBounds_toArray, List.set_cons_zero, List.set_cons_succ]
        refine WalkT.take (i := 19) (oi := _) (v := _) rfl (by decide) (by kernel_rfl) (by kernel_rfl) (fun _ _ _ h => h) (Or.inr ⟨by kernel_rfl, rfl⟩) (by assumption) ?_
        try simp only [Act.put, List.setIfInBounds_toArray, List.set_cons_zero, List.set_cons_succ]
        refine WalkT.take (i := 20) (oi := _) (v := _) rfl (by decide) (by kernel_rfl) (by kernel_rfl) (fun _ _ _ h => h) (Or.inr ⟨by kernel_rfl, rfl⟩) (by assumption) ?_
        try simp only [Act.put, List.setIfInBounds_toArray, List.set_cons_zero, List.set_cons_succ]
        refine WalkT.take (i := 21) (oi := _) (v := _) rfl (by decide) (by kernel_rfl) (by kernel_rfl) (fun _ _ _ h => h) (Or.inr ⟨by kernel_rfl, rfl⟩) (by assumption) ?_
        try simp only [Act.put, List.setIfInBounds_toArray, List.set_cons_zero, List.set_cons_succ]
        refine WalkT.take (i := 22) (oi := _) (v := _) rfl (by decide) (by kernel_rfl) (by kernel_rfl) (fun _ _ _ h => h) (Or.inr ⟨by kernel_rfl, rfl⟩) (by assumption) ?_
        try simp only [Act.put, List.setIfInBounds_toArray, List.set_cons_zero, List.set_cons_succ]
        refine WalkT.take (i := 23) (oi := _) (v := _) rfl (by decide) (by kernel_rfl) (by kernel_rfl) (fun _ _ _ h => h) (Or.inr ⟨by kernel_rfl, rfl⟩) (by assumption) ?_
        try simp only [Act.put, List.setIfInBounds_toArray, List.set_cons_zero, List.set_cons_succ]
        refine WalkT.take (i := 24) (oi := _) (v := _) rfl (by decide) (by kernel_rfl) (by kernel_rfl) (fun _ _ _ h => h) (Or.inr ⟨by kernel_rfl, rfl⟩) (by assumption) ?_
        try simp only [Act.put, List.setIfInBounds_toArray, List.set_cons_zero, List.set_cons_succ]
        refine WalkT.take (i := 25) (oi := _) (v := ?vc17) rfl (by decide) (by kernel_rfl) (by kernel_rfl) (fun _ _ _ h => h) (Or.inl ⟨by kernel_rfl, ?hyc17⟩) (by assumption) ?rc17
        case hyc17 => (intro wq hSw; go_simp; try (with_reducible rfl))
        try simp only [Act.put, List.setIfInBounds_toArray, List.set_cons_zero, List.set_cons_succ]
        refine WalkT.take (i := 26) (oi := _) (v := ?vc18) rfl (by decide) (by kernel_rfl) (by kernel_rfl) (fun _ _ _ h => h) (Or.inl ⟨by kernel_rfl, ?hyc18⟩) (by assumption) ?rc18
        case hyc18 => (intro wq hSw; go_simp; try (with_reducible rfl))
        try simp only [Act.put, List.setIfInBounds_toArray, List.set_cons_zero, List.set_cons_succ]
        refine WalkT.take (i := 27) (oi := _) (v := ?vc19) rfl (by decide) (by kernel_rfl) (by kernel_rfl) (fun _ _ _ h => h) (Or.inl ⟨by kernel_rfl, ?hyc19⟩) (by assumption) ?rc19
        case hyc19 => (intro wq hSw; go_simp; try (with_reducible rfl))
        try simp only [Act.put, List.setIfInBounds_toArray, List.set_cons_zero, List.set_cons_succ]
        refine WalkT.one (i := 28) (o := ?oc20) (by kernel_rfl) (by decide) ?hoc20 ?hkc20
        case hoc20 => (simp only [List.getElem?_toArray, List.getElem?_cons_succ, List.getElem?_cons_zero]; exact rfl)
        intro K hK
        go_simp
        refine (tfixed_any (HT.out.below (Below.trans Hbel.out (Below.mono hHeld Hbel.out.size))) (HBru.out.below (Below.trans Hbel.out (Below.mono hHeld Hbel.out.size)))).mono ?_
        rintro e x28 ⟨rfl, hb⟩
        have hS28 : Below wr.heap.size wr x28 := Below.trans hHeld (Below.mono hb (Below.size hHeld))
        clear hb hHeld
        go_simp
        refine hK.out _ _ hS28 (fun hHeld => ?_)
        clear hS28
        clear hK K
        try simp only [Act.put, List.setIfInBounds_toArray, List.set_cons_zero, List.set_cons_succ]
        refine WalkT.take (i := 29) (oi := _) (v := ?vc21) rfl (by decide) (by kernel_rfl) (by kernel_rfl) (fun _ _ _ h => h) (Or.inl ⟨by kernel_rfl, ?hyc21⟩) (by assumption) ?rc21
        case hyc21 => (intro wq hSw; go_simp; try (with_reducible rfl))
        try simp only [Act.put, List.setIfInBounds_toArray, List.set_cons_zero, List.set_cons_succ]
        refine WalkT.tail (by kernel_rfl) ?_
        have Hend := Lib.hid (Hbel.out.trans (Below.mono hHeld Hbel.out.size)); clear hHeld
        simp only [List.drop_succ_cons, List.drop_zero]
        go_wp2
        go_ret
        exact ⟨rfl, Hend.out⟩
theorem treePeaks_walk' (A : Option Addr) (len cap : Nat) (L : List ByteArray) {w : World} (hL : SRead w (.slice A len cap) L ∧ ∀ s ∈ L, s.size ≤ maxLen) (hT : Tab w) (hBru : Bru w) :
    Calls Tryd.prog 14 #[.slice A len cap] w fun e w' => e = .returned (.bool true) ∧ Below w.heap.size w w' := treePeaks_walk A len cap L hL.1 hT hBru
end Go.Proofs.YtkdajlhmodmkoaaDoor
