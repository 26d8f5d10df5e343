/-
  Layer 8 (tree): TreeTops walked.
-/
import Derived.Test.YtkdajlhmodmkoaaDoorTZ
import Derived.Test.YtkdajlhmodmkoaaDoorShaO2
namespace Go.Proofs.YtkdajlhmodmkoaaDoor
open Go.RowKit TreeM
set_option linter.unusedVariables false
set_option linter.unusedSimpArgs false

theorem peaks_rightE {w : World} (l : List ByteArray) (hl : l.length < 1000000) {u : Value} (h : SRead w u (peaks l)) :
    Calls Tryd.prog 48 #[.agg #[.int .u64 (l.length : Int), u]] w fun e w' => e = .returned (.bool true) ∧ Below w.heap.size w w' := by
  have := tright_any l.length (by omega) h
  rwa [peaks_right l (by omega)] at this
set_option maxRecDepth 100000 in
set_option maxHeartbeats 16000000 in
theorem treeTops_walk (A : Option Addr) (len cap : Nat) (L : List ByteArray) {w : World} (hL : SRead w (.slice A len cap) L) (hT : Tab w) (hBru : Bru w) :
    Calls Tryd.prog 11 #[.slice A len cap] w fun e w' => e = .returned (.bool true) ∧ Below w.heap.size w w' := by
  have HT := Lib.hid hT; have HBru := Lib.hid hBru; have HL := Lib.hid hL
  clear hT hBru hL
  go_enter Tryd.func11, Tryd.ntmps11
  go_wp2_with fail
  refine (cut_any HL.out 24 (by decide)).mono ?_
  rintro e w1 ⟨⟨v1, rfl, ho1⟩, hb1⟩
  have hlen := cutL_length L 24
  have hsz : ∀ s ∈ cutL L 24, s.size ≤ 80000000 := fun s hs => by have := cutL_size L 24 s hs; omega
  generalize cutL L 24 = M at *
  obtain ⟨A1, cap1, hve, -, -⟩ := id (ho1.read (by unfold maxLen; omega))
  subst hve
  have Hsz := Lib.hid hsz
  have hA := Blk.new w1 50 Z50
  have ho2 : SOwn w.heap.size (w1.alloc (.cells Z50 50)) (.slice A1 M.length cap1) M := own_alloc' ho1 (.cells Z50 50)
  have hb2 := hb1.alloc hb1.size (.cells Z50 50)
  obtain ⟨g3, hg3⟩ : ∃ g, w1.heap.size = g := ⟨_, rfl⟩
  have Hg3 : Hid (w.heap.size ≤ g3) := Lib.hid (by rw [← hg3]; exact hb1.size)
  have H0 := Lib.hid (And.intro hA (And.intro ho2 hb2))
  rw [hg3] at H0
  clear hA ho2 hb2 hsz ho1 hb1 HL
  go_wp2_with fail
  clear hg3
  go_loopw [4] (fun i wr => ∃ (k m : Nat) (u : Value), (k = m ∨ (k = M.length + 1 ∧ m = M.length)) ∧ m ≤ M.length ∧ i = .int .i64 (k : Int) ∧ Blk wr g3 50 #[.int .u64 (m : Int), u] ∧ SOwn w.heap.size wr u (peaks (M.take m)) ∧ SOwn w.heap.size wr (.slice A1 M.length cap1) M ∧ Below w.heap.size w wr) (fun i _ => M.length + 1 - (intOf i).toNat)
  case atStart => exact ⟨0, 0, .slice none 0 0, .inl rfl, by omega, rfl, H0.out.1, SOwn.nil _ _, H0.out.2.1, H0.out.2.2⟩
  case round =>
    clear H0
    obtain ⟨k, m, u, hkm, hm, rfl, hB, hu, hl, hbel⟩ := hrel
    by_cases hle : k ≤ M.length
    · obtain rfl : k = m := by omega
      clear hkm
      have l0 : (k : Int) ≤ (M.length : Int) := by omega
      have c0 := hB.cell 0; have c1 := hB.cell 1
      simp only [List.getElem?_toArray, List.getElem?_cons_succ, List.getElem?_cons_zero] at c0 c1
      have hlen1 : (M.take k).length = k := by rw [List.length_take]; omega
      have hpl := peaks_short (M.take k) (by rw [hlen1]; omega)
      have HB := Lib.hid hB; have Hu := Lib.hid hu; have Hl := Lib.hid hl; have Hbel := Lib.hid hbel; have Hlen := Lib.hid hlen1
      clear hB hu hl hbel hlen1
      go_wp2_with fail
      have hp := peaks_topE (HT.out.below Hbel.out) (M.take k) (by rw [Hlen.out]; omega) (Hu.out.read hpl)
      rw [Hlen.out] at hp
      refine hp.mono ?_
      clear hp
      rintro e w3 ⟨rfl, hb3⟩
      obtain ⟨R, hR⟩ : ∃ R, root (M.take k) = R := ⟨_, rfl⟩
      rw [hR]
      have HR := Lib.hid hR; clear hR
      have hB : Blk _ g3 50 #[.int .u64 (k : Int), u] := (hb3.block _ (Blk.lt HB.out)).trans HB.out; have hu := Hu.out.below hb3; have hl := Hl.out.below hb3; have hbel := Hbel.out.trans (hb3.mono Hbel.out.size)
      clear HB Hu Hl Hbel c0 c1 hb3
      have c0 := Blk.cell hB 0; have c1 := Blk.cell hB 1
      simp only [List.getElem?_toArray, List.getElem?_cons_succ, List.getElem?_cons_zero] at c0 c1
      have HB := Lib.hid hB; have Hu := Lib.hid hu; have Hl := Lib.hid hl; have Hbel := Lib.hid hbel
      clear hB hu hl hbel
      go_wp2_with fail
      have hp := peaks_rightE (M.take k) (by rw [Hlen.out]; omega) (Hu.out.read hpl)
      rw [Hlen.out] at hp
      refine hp.mono ?_
      clear hp
      rintro e w4 ⟨rfl, hb3⟩
      have hB : Blk _ g3 50 #[.int .u64 (k : Int), u] := (hb3.block _ (Blk.lt HB.out)).trans HB.out; have hu := Hu.out.below hb3; have hl := Hl.out.below hb3; have hbel := Hbel.out.trans (hb3.mono Hbel.out.size)
      clear HB Hu Hl Hbel c0 c1 hb3
      have hlr := hl.read (by unfold maxLen; omega)
      obtain ⟨A', cap', he', -, hcc⟩ := id hlr
      have hkc : k ≤ cap1 := by
        by_cases hz : 0 < M.length
        · obtain ⟨b, o, h1, ⟨-, h2⟩, -⟩ := hcc 0 hz
          injection he' with _ _ e3
          omega
        · omega
      have HB := Lib.hid hB; have Hu := Lib.hid hu; have Hl := Lib.hid hl; have Hbel := Lib.hid hbel
      have Hlr := Lib.hid hlr
      clear hB hu hl hbel hlr he' hcc
      have q1 : (k : Int) ≤ (cap1 : Int) := by omega
      go_wp2_with fail
      have hsz1 : ∀ s ∈ M.take k, s.size ≤ 80000000 := fun s hs => Hsz.out s (List.mem_of_mem_take hs)
      refine (root_any (HT.out.below Hbel.out) (SRead.take Hlr.out k hle) hsz1 (by rw [Hlen.out]; omega)).mono ?_
      clear hsz1 Hlr
      rintro e wr ⟨rfl, hb3⟩
      rw [HR.out]
      have hB : Blk wr g3 50 #[.int .u64 (k : Int), u] := (hb3.block _ (Blk.lt HB.out)).trans HB.out; have hu := Hu.out.below hb3; have hl := Hl.out.below hb3; have hbel := Hbel.out.trans (hb3.mono Hbel.out.size)
      clear HB Hu Hl Hbel hb3 q1
      have c0 := hB.cell 0; have c1 := hB.cell 1
      simp only [List.getElem?_toArray, List.getElem?_cons_succ, List.getElem?_cons_zero] at c0 c1
      have HB := Lib.hid hB; have Hu := Lib.hid hu; have Hl := Lib.hid hl; have Hbel := Lib.hid hbel
      have hlr := hl.read (by unfold maxLen; omega)
      have Hlr := Lib.hid hlr
      clear hB hu hl hbel hlr
      have e1 : IntKind.u64.wrap (k : Int) = (k : Int) := by show (k : Int) % 18446744073709551616 = _; omega
      have e2 : IntKind.i64.wrap ((k : Int) + 1) = (k : Int) + 1 := IntWalk.i64_in _ (by omega)
      by_cases hlt : k < M.length
      · have l1 : (k : Int) < (M.length : Int) := by omega
        obtain ⟨A', cap', he', -, hcc⟩ := Hlr.out
        obtain ⟨b, o, h1, -, hcell⟩ := hcc k hlt
        injection he' with e3 _ e4
        subst e4
        rw [← e3] at h1
        subst h1
        have hx : wr.cell? ⟨b, o + k, none⟩ = some (.string M[k]) := hcell
        have htk : M.take k ++ [M[k]] = M.take (k + 1) := (List.take_succ_eq_append_getElem hlt).symm
        have hsz := Hsz.out M[k] (List.getElem_mem hlt)
        have hpl2 := peaks_short (M.take (k + 1)) (by rw [List.length_take]; omega)
        generalize M[k] = S at *
        have Htk := Lib.hid htk
        clear htk e3 hcell hcc Hlr
        go_upto_region 10 with fail
        refine wp_region_T (n := 11) (S := fun wq => Below wr.heap.size wr wq) (by kernel_rfl) (by kernel_rfl) (below_drewN' (Below.refl _ _) 1) (fun hHeld => ?_)
        refine WalkT.take (i := 0) (oi := _) (v := _) rfl (by decide) (by kernel_rfl) (by kernel_rfl) (fun _ _ _ h => h) (yieldsIf_load_row (by kernel_rfl) 50 (Operand.tmp 3) rfl g3 (by rfl) 50 #[.int .u64 (k : Int), u] (0, 0) _ (fun wq h => (Below.block h _ (Blk.lt HB.out)).trans HB.out) Tryd.underlying50 rfl info50) (by assumption) ?_
        try simp only [Act.put, List.setIfInBounds_toArray, List.set_cons_zero, List.set_cons_succ]
        refine WalkT.take (i := 1) (oi := _) (v := ?vt1) rfl (by decide) (by kernel_rfl) (by kernel_rfl) (fun _ _ _ h => h) (Or.inl ⟨by kernel_rfl, ?hyt1⟩) (by assumption) ?rt1
        case hyt1 => (intro wq hSw; go_simp; try (with_reducible rfl))
        try simp only [Act.put, List.setIfInBounds_toArray, List.set_cons_zero, List.set_cons_succ]
        refine WalkT.take (i := 2) (oi := _) (v := ?vt2) rfl (by decide) (by kernel_rfl) (by kernel_rfl) (fun _ _ _ h => h) (Or.inl ⟨by kernel_rfl, ?hyt2⟩) (by assumption) ?rt2
        case hyt2 => (intro wq hSw; go_simp; try (with_reducible rfl))
        try simp only [Act.put, List.setIfInBounds_toArray, List.set_cons_zero, List.set_cons_succ]
        refine WalkT.take (i := 3) (oi := _) (v := ?vt3) rfl (by decide) (by kernel_rfl) (by kernel_rfl) (fun _ _ _ h => h) (Or.inl ⟨by kernel_rfl, ?hyt3⟩) (by assumption) ?rt3
        case hyt3 => (intro wq hSw; go_simp; try (with_reducible rfl))
        try simp only [Act.put, List.setIfInBounds_toArray, List.set_cons_zero, List.set_cons_succ]
        refine WalkT.take (i := 4) (oi := _) (v := ?vt4) rfl (by decide) (by kernel_rfl) (by kernel_rfl) (fun _ _ _ h => h) (Or.inl ⟨by kernel_rfl, ?hyt4⟩) (by assumption) ?rt4
        case hyt4 => (intro wq hSw; have q3 := cell_belowB hSw rfl hx; go_simp; try (with_reducible rfl))
        try simp only [Act.put, List.setIfInBounds_toArray, List.set_cons_zero, List.set_cons_succ]
        refine WalkT.many (rs := [5, 9]) (by kernel_rfl) (by simp) (by simp) ?_
        refine AllT.cons (i := 5) (o := ?ot5) ?hot5 ?hkt5 ?hst5
        case hot5 => (simp only [List.getElem?_toArray, List.getElem?_cons_succ, List.getElem?_cons_zero]; exact rfl)
        case hkt5 =>
          intro K hK
          go_simp
          have hp := peaks_push (HT.out.below (Hbel.out.trans (Below.mono hHeld Hbel.out.size))) (HBru.out.below (Hbel.out.trans (Below.mono hHeld Hbel.out.size))) (M.take k) (by rw [Hlen.out]; omega) ((Hu.out.below hHeld).read hpl) S hsz
          rw [Hlen.out, Htk.out] at hp
          refine hp.mono ?_
          rintro e x5 ⟨⟨u3, rfl, ho3⟩, hb⟩
          clear hp
          obtain ⟨A3, c3, hve, -, -⟩ := id (ho3.read hpl2)
          generalize (peaks (M.take (k + 1))).length = q3 at hve
          subst hve
          have Ho3 := Lib.hid (SOwn.base ho3 (Nat.le_trans Hbel.out.size (Below.size hHeld)))
          have hS5 : Below wr.heap.size wr x5 := Below.trans hHeld (Below.mono hb (Below.size hHeld))
          have hS5k := Lib.hid hS5
          clear hb hHeld ho3
          go_simp
          refine hK.out _ _ hS5 (fun hHeld => ?_)
          clear hS5
          clear hK K
          try simp only [Act.put, List.setIfInBounds_toArray, List.set_cons_zero, List.set_cons_succ]
          refine WalkT.take (i := 6) (oi := _) (v := ?vt6) rfl (by decide) (by kernel_rfl) (by kernel_rfl) (fun _ _ _ h => h) (Or.inl ⟨by kernel_rfl, ?hyt6⟩) (by assumption) ?rt6
          case hyt6 => (intro wq hSw; go_simp; try (with_reducible rfl))
          try simp only [Act.put, List.setIfInBounds_toArray, List.set_cons_zero, List.set_cons_succ]
          refine WalkT.take (i := 7) (oi := _) (v := ?vt7) rfl (by decide) (by kernel_rfl) (by kernel_rfl) (fun _ _ _ h => h) (Or.inl ⟨by kernel_rfl, ?hyt7⟩) (by assumption) ?rt7
          case hyt7 => (intro wq hSw; go_simp; try (with_reducible rfl))
          try simp only [Act.put, List.setIfInBounds_toArray, List.set_cons_zero, List.set_cons_succ]
          refine WalkT.take (i := 8) (oi := _) (v := ?vt8) rfl (by decide) (by kernel_rfl) (by kernel_rfl) (fun _ _ _ h => h) (Or.inl ⟨by kernel_rfl, ?hyt8⟩) (by assumption) ?rt8
          case hyt8 => (intro wq hSw; go_simp; try (with_reducible rfl))
          try simp only [Act.put, List.setIfInBounds_toArray, List.set_cons_zero, List.set_cons_succ]
          refine WalkT.one (i := 9) (o := ?ot9) (by kernel_rfl) (by decide) ?hot9 ?hkt9
          case hot9 => (simp only [List.getElem?_toArray, List.getElem?_cons_succ, List.getElem?_cons_zero]; exact rfl)
          intro K hK
          go_simp
          refine hK.out _ _ (Below.alloc hHeld (Below.size hHeld) _) (fun hHeld => ?_)
          clear hK K
          try simp only [Act.put, List.setIfInBounds_toArray, List.set_cons_zero, List.set_cons_succ]
          refine WalkT.one (i := 10) (o := ?ot10) (by kernel_rfl) (by decide) ?hot10 ?hkt10
          case hot10 => (simp only [List.getElem?_toArray, List.getElem?_cons_succ, List.getElem?_cons_zero]; exact rfl)
          intro K hK
          have hS10 : Below wr.heap.size wr (x5.alloc (.cells #[(.int .u64 ((k : Int) + 1)), (.slice A3 q3 c3)] 50)) := Below.trans hS5k.out (Below.mono (alloc_below' x5 _) (Below.size hS5k.out))
          have HA1 : Hid (Blk (x5.alloc (.cells #[(.int .u64 ((k : Int) + 1)), (.slice A3 q3 c3)] 50)) x5.heap.size 50 #[(.int .u64 ((k : Int) + 1)), (.slice A3 q3 c3)]) := Lib.hid (Blk.new _ _ _); have Ho4 : Hid (SOwn w.heap.size (x5.alloc (.cells #[(.int .u64 ((k : Int) + 1)), (.slice A3 q3 c3)] 50)) (.slice A3 q3 c3) (peaks (M.take (k + 1)))) := Lib.hid (own_alloc' Ho3.out _)
          clear Ho3 hHeld
          go_simp
          refine hK.out _ _ hS10 (fun hHeld => ?_)
          clear hS10
          clear hK K
          try simp only [Act.put, List.setIfInBounds_toArray, List.set_cons_zero, List.set_cons_succ]
          refine WalkT.tail (by kernel_rfl) ?_
          generalize (x5.alloc (.cells #[(.int .u64 ((k : Int) + 1)), (.slice A3 q3 c3)] 50)) = W1 at *
          have hB5 : Blk W1 g3 50 #[.int .u64 (k : Int), u] := (Below.block hHeld _ (Blk.lt HB.out)).trans HB.out
          have hl5 := Hl.out.below hHeld
          have hb5 := Hbel.out.trans (Below.mono hHeld Hbel.out.size)
          have a0 := HA1.out.cell 0; have a1 := HA1.out.cell 1; have z0 := hB5.cell 0; have z1 := hB5.cell 1; have f0 := hB5.frozen 0; have f1 := hB5.frozen 1
          simp only [List.getElem?_toArray, List.getElem?_cons_succ, List.getElem?_cons_zero] at a0 a1 z0 z1
          have HN : Hid (Blk ((W1.setCell ⟨g3, 0, none⟩ (.int .u64 ((k : Int) + 1))).setCell ⟨g3, 1, none⟩ (.slice A3 q3 c3)) g3 50 #[.int .u64 ((k : Int) + 1), .slice A3 q3 c3] ∧ SOwn w.heap.size ((W1.setCell ⟨g3, 0, none⟩ (.int .u64 ((k : Int) + 1))).setCell ⟨g3, 1, none⟩ (.slice A3 q3 c3)) (.slice A3 q3 c3) (peaks (M.take (k + 1))) ∧ SOwn w.heap.size ((W1.setCell ⟨g3, 0, none⟩ (.int .u64 ((k : Int) + 1))).setCell ⟨g3, 1, none⟩ (.slice A3 q3 c3)) (.slice (some ⟨b, o, none⟩) M.length cap1) M ∧ Below w.heap.size w ((W1.setCell ⟨g3, 0, none⟩ (.int .u64 ((k : Int) + 1))).setCell ⟨g3, 1, none⟩ (.slice A3 q3 c3))) :=
            Lib.hid ⟨blk_two hB5 _ _, SOwn.two Ho4.out hB5 _ _, SOwn.two hl5 hB5 _ _, (hb5.setCell (p := ⟨g3, 0, none⟩) Hg3.out _).setCell (p := ⟨g3, 1, none⟩) Hg3.out _⟩
          clear hB5 hl5 hb5 HA1 Ho4 hHeld HB Hl Hu Hbel hx hpl hpl2 Htk Hlen
          simp only [List.drop_succ_cons, List.drop_zero]
          go_wp2
          go_roundw
          case rel => exact ⟨k + 1, k + 1, .slice A3 q3 c3, .inl rfl, by omega, by go_num, by have := HN.out.1; simpa using this, HN.out.2.1, HN.out.2.2.1, HN.out.2.2.2⟩
          case measure => simp [intOf]; omega
        refine AllT.cons (i := 9) (o := ?ot11) ?hot11 ?hkt11 ?hst11
        case hot11 => (simp only [List.getElem?_toArray, List.getElem?_cons_succ, List.getElem?_cons_zero]; exact rfl)
        case hkt11 =>
          intro K hK
          go_simp
          have hA : Blk (wr.drew.alloc (.cells Z50 50)) wr.heap.size 50 Z50 := Blk.new _ _ _
          refine hK.out _ _ (Below.alloc hHeld (Below.size hHeld) _) (fun hHeld => ?_)
          clear hK K
          try simp only [Act.put, List.setIfInBounds_toArray, List.set_cons_zero, List.set_cons_succ]
          refine WalkT.one (i := 5) (o := ?ot12) (by kernel_rfl) (by decide) ?hot12 ?hkt12
          case hot12 => (simp only [List.getElem?_toArray, List.getElem?_cons_succ, List.getElem?_cons_zero]; exact rfl)
          intro K hK
          go_simp
          have hp := peaks_push (HT.out.below (Hbel.out.trans (Below.mono hHeld Hbel.out.size))) (HBru.out.below (Hbel.out.trans (Below.mono hHeld Hbel.out.size))) (M.take k) (by rw [Hlen.out]; omega) ((Hu.out.below hHeld).read hpl) S hsz
          rw [Hlen.out, Htk.out] at hp
          refine hp.mono ?_
          rintro e x5 ⟨⟨u3, rfl, ho3⟩, hb⟩
          clear hp
          obtain ⟨A3, c3, hve, -, -⟩ := id (ho3.read hpl2)
          generalize (peaks (M.take (k + 1))).length = q3 at hve
          subst hve
          have Ho3 := Lib.hid (SOwn.base ho3 (Nat.le_trans Hbel.out.size (Below.size hHeld)))
          have hS5 : Below wr.heap.size wr x5 := Below.trans hHeld (Below.mono hb (Below.size hHeld))
          have hZ : Blk x5 wr.heap.size 50 Z50 := (Below.block hb _ (Blk.lt hA)).trans hA
          clear hA
          have hA := hZ
          clear hZ
          clear hb hHeld ho3
          go_simp
          refine hK.out _ _ hS5 (fun hHeld => ?_)
          clear hS5
          clear hK K
          try simp only [Act.put, List.setIfInBounds_toArray, List.set_cons_zero, List.set_cons_succ]
          refine WalkT.take (i := 6) (oi := _) (v := ?vt13) rfl (by decide) (by kernel_rfl) (by kernel_rfl) (fun _ _ _ h => h) (Or.inl ⟨by kernel_rfl, ?hyt13⟩) (by assumption) ?rt13
          case hyt13 => (intro wq hSw; go_simp; try (with_reducible rfl))
          try simp only [Act.put, List.setIfInBounds_toArray, List.set_cons_zero, List.set_cons_succ]
          refine WalkT.take (i := 7) (oi := _) (v := ?vt14) rfl (by decide) (by kernel_rfl) (by kernel_rfl) (fun _ _ _ h => h) (Or.inl ⟨by kernel_rfl, ?hyt14⟩) (by assumption) ?rt14
          case hyt14 => (intro wq hSw; go_simp; try (with_reducible rfl))
          try simp only [Act.put, List.setIfInBounds_toArray, List.set_cons_zero, List.set_cons_succ]
          refine WalkT.take (i := 8) (oi := _) (v := ?vt15) rfl (by decide) (by kernel_rfl) (by kernel_rfl) (fun _ _ _ h => h) (Or.inl ⟨by kernel_rfl, ?hyt15⟩) (by assumption) ?rt15
          case hyt15 => (intro wq hSw; go_simp; try (with_reducible rfl))
          try simp only [Act.put, List.setIfInBounds_toArray, List.set_cons_zero, List.set_cons_succ]
          refine WalkT.one (i := 10) (o := ?ot16) (by kernel_rfl) (by decide) ?hot16 ?hkt16
          case hot16 => (simp only [List.getElem?_toArray, List.getElem?_cons_succ, List.getElem?_cons_zero]; exact rfl)
          intro K hK
          have z0 := hA.cell 0; have z1 := hA.cell 1; have f0 := hA.frozen 0; have f1 := hA.frozen 1
          simp only [List.getElem?_toArray, List.getElem?_cons_succ, List.getElem?_cons_zero] at z0 z1
          have hS10 : Below wr.heap.size wr ((x5.setCell ⟨wr.heap.size, 0, none⟩ (.int .u64 ((k : Int) + 1))).setCell ⟨wr.heap.size, 1, none⟩ (.slice A3 q3 c3)) := (Below.setCell hHeld (p := ⟨wr.heap.size, 0, none⟩) (Nat.le_refl _) _).setCell (p := ⟨wr.heap.size, 1, none⟩) (Nat.le_refl _) _
          have HA1 := Lib.hid (blk_two hA (.int .u64 ((k : Int) + 1)) (.slice A3 q3 c3)); have Ho4 := Lib.hid (SOwn.two Ho3.out hA (.int .u64 ((k : Int) + 1)) (.slice A3 q3 c3))
          clear hA Ho3 hHeld
          go_simp
          refine hK.out _ _ hS10 (fun hHeld => ?_)
          clear hS10 z0 z1 f0 f1
          clear hK K
          try simp only [Act.put, List.setIfInBounds_toArray, List.set_cons_zero, List.set_cons_succ]
          refine WalkT.tail (by kernel_rfl) ?_
          generalize ((x5.setCell ⟨wr.heap.size, 0, none⟩ (.int .u64 ((k : Int) + 1))).setCell ⟨wr.heap.size, 1, none⟩ (.slice A3 q3 c3)) = W1 at *
          have hB5 : Blk W1 g3 50 #[.int .u64 (k : Int), u] := (Below.block hHeld _ (Blk.lt HB.out)).trans HB.out
          have hl5 := Hl.out.below hHeld
          have hb5 := Hbel.out.trans (Below.mono hHeld Hbel.out.size)
          have a0 := HA1.out.cell 0; have a1 := HA1.out.cell 1; have z0 := hB5.cell 0; have z1 := hB5.cell 1; have f0 := hB5.frozen 0; have f1 := hB5.frozen 1
          simp only [List.getElem?_toArray, List.getElem?_cons_succ, List.getElem?_cons_zero] at a0 a1 z0 z1
          have HN : Hid (Blk ((W1.setCell ⟨g3, 0, none⟩ (.int .u64 ((k : Int) + 1))).setCell ⟨g3, 1, none⟩ (.slice A3 q3 c3)) g3 50 #[.int .u64 ((k : Int) + 1), .slice A3 q3 c3] ∧ SOwn w.heap.size ((W1.setCell ⟨g3, 0, none⟩ (.int .u64 ((k : Int) + 1))).setCell ⟨g3, 1, none⟩ (.slice A3 q3 c3)) (.slice A3 q3 c3) (peaks (M.take (k + 1))) ∧ SOwn w.heap.size ((W1.setCell ⟨g3, 0, none⟩ (.int .u64 ((k : Int) + 1))).setCell ⟨g3, 1, none⟩ (.slice A3 q3 c3)) (.slice (some ⟨b, o, none⟩) M.length cap1) M ∧ Below w.heap.size w ((W1.setCell ⟨g3, 0, none⟩ (.int .u64 ((k : Int) + 1))).setCell ⟨g3, 1, none⟩ (.slice A3 q3 c3))) :=
            Lib.hid ⟨blk_two hB5 _ _, SOwn.two Ho4.out hB5 _ _, SOwn.two hl5 hB5 _ _, (hb5.setCell (p := ⟨g3, 0, none⟩) Hg3.out _).setCell (p := ⟨g3, 1, none⟩) Hg3.out _⟩
          clear hB5 hl5 hb5 HA1 Ho4 hHeld HB Hl Hu Hbel hx hpl hpl2 Htk Hlen
          simp only [List.drop_succ_cons, List.drop_zero]
          go_wp2
          go_roundw
          case rel => exact ⟨k + 1, k + 1, .slice A3 q3 c3, .inl rfl, by omega, by go_num, by have := HN.out.1; simpa using this, HN.out.2.1, HN.out.2.2.1, HN.out.2.2.2⟩
          case measure => simp [intOf]; omega
        exact AllT.nil
      · obtain rfl : k = M.length := by omega
        have l1 : ¬ (M.length : Int) < (M.length : Int) := by omega
        clear Hlr
        go_wp2
        go_roundw
        case rel => exact ⟨M.length + 1, M.length, u, .inr ⟨rfl, rfl⟩, by omega, by go_num, HB.out, Hu.out, Hl.out, Hbel.out⟩
        case measure => simp [intOf] <;> omega
    · obtain ⟨rfl, rfl⟩ : k = M.length + 1 ∧ m = M.length := by omega
      have hpl := peaks_short M (by omega)
      rw [List.take_length] at hu
      obtain ⟨A3, c3, hve, -, -⟩ := id (hu.read hpl)
      generalize hpq : (peaks M).length = q3 at hve
      subst hve
      have HB := Lib.hid hB; have Hu := Lib.hid hu; have Hl := Lib.hid hl; have Hbel := Lib.hid hbel
      clear hB hu hl hbel hkm hm hle hpq
      have l1 : ((M.length : Int) + 1 ≤ (M.length : Int)) = False := eq_false (by omega)
      go_wp2_with fail
      refine (of_any (HT.out.below Hbel.out) (HBru.out.below Hbel.out) (Hl.out.read (by unfold maxLen; omega)) Hsz.out (by omega)).mono ?_
      rintro e w5 ⟨⟨u5, rfl, ho5⟩, hb5⟩
      obtain ⟨A5, c5, hve, -, -⟩ := id (ho5.read hpl)
      generalize hpq : (peaks M).length = q5 at hve
      subst hve
      clear hpq
      have hB : Blk w5 g3 50 #[.int .u64 (M.length : Int), .slice A3 q3 c3] := (hb5.block _ (Blk.lt HB.out)).trans HB.out
      have hbel := Hbel.out.trans (hb5.mono Hbel.out.size)
      obtain ⟨w6, hw6⟩ : ∃ w6, w5.alloc (.cells #[.int .u64 (M.length : Int), .slice A5 q5 c5] 50) = w6 := ⟨_, rfl⟩
      have hb6 : Below w5.heap.size w5 w6 := by rw [← hw6]; exact alloc_below' w5 _
      have hu6 := (Hu.out.below hb5).below hb6
      have ho6 := ho5.below hb6
      have hbel6 := hbel.trans (hb6.mono hbel.size)
      have hB6 : Blk w6 g3 50 #[.int .u64 (M.length : Int), .slice A3 q3 c3] := (hb6.block _ (Blk.lt hB)).trans hB
      have hN6 : Blk w6 w5.heap.size 50 #[.int .u64 (M.length : Int), .slice A5 q5 c5] := by rw [← hw6]; exact Blk.new _ _ _
      have c0 := hB6.cell 0; have c1 := hB6.cell 1; have d0 := hN6.cell 0; have d1 := hN6.cell 1
      simp only [List.getElem?_toArray, List.getElem?_cons_succ, List.getElem?_cons_zero] at c0 c1 d0 d1
      have Hs := Lib.hid (same_any (ho6.read hpl) (hu6.read hpl)); have Hbel6 := Lib.hid hbel6
      clear hB hbel hu6 ho6 hb6 hbel6 hB6 hN6 HB Hu Hl Hbel hb5 ho5
      go_wp2_with fail
      refine Hs.out.mono ?_
      rintro e w8 ⟨rfl, n8, rfl⟩
      have hbel8 := below_drewN' Hbel6.out n8
      have Hbel8 := Lib.hid hbel8
      clear hbel8 c0 c1 d0 d1 hw6
      go_wp2_with fail
      refine (tfixed_any (HT.out.below Hbel8.out) (HBru.out.below Hbel8.out)).mono ?_
      rintro e w9 ⟨rfl, hb9⟩
      have Hbel9 := Lib.hid (Hbel8.out.trans (hb9.mono Hbel8.out.size))
      go_wp2
      go_ret
      exact ⟨rfl, Hbel9.out⟩
theorem treeTops_walk' (A : Option Addr) (len cap : Nat) (L : List ByteArray) {w : World} (hL : SRead w (.slice A len cap) L ∧ ∀ s ∈ L, s.size ≤ maxLen) (hT : Tab w) (hBru : Bru w) :
    Calls Tryd.prog 11 #[.slice A len cap] w fun e w' => e = .returned (.bool true) ∧ Below w.heap.size w w' := treeTops_walk A len cap L hL.1 hT hBru
end Go.Proofs.YtkdajlhmodmkoaaDoor
