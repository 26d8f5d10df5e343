/-
  Layer 2 (sha): ShaParts walked.
-/
import Derived.Test.YtkdajlhmodmkoaaDoorShaL8
import Derived.Test.YtkdajlhmodmkoaaDoorShaO2
import Derived.Deep.CutRange
namespace Go.Proofs.YtkdajlhmodmkoaaDoor
open Go.RowKit
set_option linter.unusedVariables false
set_option linter.unusedSimpArgs false

theorem k_len (x : ByteArray) (k : Nat) (h : k ≤ x.size) : (x.extract 0 k).data.toList.length = k := by
  rw [← ba_size, ByteArray.size_extract]; omega
theorem ext_le2 (x : ByteArray) (k : Nat) : (x.extract k x.size).size = x.size - k := by rw [ByteArray.size_extract]; omega
theorem ext_two (x : ByteArray) (k : Nat) : (x.extract 0 k).data.toList ++ (x.extract k x.size).data.toList = x.data.toList := by
  rw [← ba_append, ByteArray.extract_append_extract]; simp
set_option maxRecDepth 100000 in
set_option maxHeartbeats 16000000 in
theorem shaParts_walk (a : ByteArray) (ha : a.size ≤ maxLen) (b : ByteArray) (hb : b.size ≤ maxLen) (p : Int) (hp : (Lit.int .u16 p).wf = true) {w : World} (hT : Tab w) :
    Calls Tryd.prog 5 #[.string a, .string b, .int .u16 p] w fun e w' => e = .returned (.bool true) ∧ Below w.heap.size w w' := by
  obtain ⟨m, -, h0, h1, h2, h3, hmin⟩ := cut_min a 300 300 rfl
  obtain ⟨n, -, k0, k1, k2, k3, kmin⟩ := cut_min b 300 300 rfl
  have hx := ext_le a m; have hy := ext_le b n
  obtain ⟨P, hP, rfl⟩ : ∃ P : Nat, P < 65536 ∧ p = (P : Int) := by
    simp [Lit.wf, IntKind.min, IntKind.max, IntKind.signed, IntKind.bits] at hp
    exact ⟨p.toNat, by omega, by omega⟩
  have HT0 := Lib.hid hT; clear hT hp
  go_enter Tryd.func5, Tryd.ntmps5
  go_wp2
  go_still (by kernel_rfl)
  obtain ⟨x, hxe⟩ : ∃ x, a.extract 0 m = x := ⟨_, rfl⟩
  obtain ⟨y, hye⟩ : ∃ y, b.extract 0 n = y := ⟨_, rfl⟩
  rw [hxe] at hx; rw [hye] at hy
  rw [hxe, hye]
  clear hxe hye hmin kmin h0 h1 h2 k0 k1 k2
  obtain ⟨k, hk⟩ : ∃ k : Nat, P % (x.size + 1) = k := ⟨_, rfl⟩
  have hkx : k ≤ x.size := by have := Nat.mod_lt P (show 0 < x.size + 1 by omega); omega
  have hrem : (P : Int).tmod ((x.size : Int) + 1) = (k : Int) := by rw [Int.tmod_eq_emod_of_nonneg (by omega), ← hk]; simp
  have hw1 : IntKind.i64.wrap ((x.size : Int) + 1) = (x.size : Int) + 1 := IntWalk.i64_in _ (by omega)
  have hne : ¬ (x.size : Int) + 1 = 0 := by omega
  have hw2 : IntKind.i64.wrap (k : Int) = (k : Int) := IntWalk.i64_in _ (by omega)
  have q0 : (0 : Int) ≤ (k : Int) := by omega
  have q1 : (k : Int) ≤ (x.size : Int) := by omega
  have q2 : k ≤ x.size := hkx
  go_upto_region 3 with fail
  clear hrem hne hk
  have HW : Hid (Below w.heap.size w w.drew) := Lib.hid (below_drewN' (Below.refl _ _) 1)
  have HT := Lib.hid (HT0.out.below HW.out)
  generalize hw0 : w.drew = w0 at *
  clear hw0
  go_cut [10] from 29 to 33 (fun s10 wx => ∃ g, s10 = .pointer (some ⟨g, 0, none⟩) ∧ RunAt wx g (x.extract 0 k).data.toList ∧ Below w.heap.size w wx)
  case first =>
    refine wp_region_T (n := 6) (S := fun wq => Below w0.heap.size w0 wq) (by kernel_rfl) (by kernel_rfl) (below_drewN' (Below.refl _ _) 1) (fun hHeld => ?_)
    refine WalkT.take (i := 1) (oi := _) (v := ?vz1) rfl (by decide) (by kernel_rfl) (by kernel_rfl) (fun _ _ _ h => h) (Or.inl ⟨by kernel_rfl, ?hyz1⟩) (by assumption) ?rz1
    case hyz1 => (intro wq hSw; go_simp; try (with_reducible rfl))
    try simp only [Act.put, List.setIfInBounds_toArray, List.set_cons_zero, List.set_cons_succ]
    refine WalkT.take (i := 2) (oi := _) (v := ?vz2) rfl (by decide) (by kernel_rfl) (by kernel_rfl) (fun _ _ _ h => h) (Or.inl ⟨by kernel_rfl, ?hyz2⟩) (by assumption) ?rz2
    case hyz2 => (intro wq hSw; go_simp; try (with_reducible rfl))
    try simp only [Act.put, List.setIfInBounds_toArray, List.set_cons_zero, List.set_cons_succ]
    refine WalkT.take (i := 3) (oi := _) (v := ?vz3) rfl (by decide) (by kernel_rfl) (by kernel_rfl) (fun _ _ _ h => h) (Or.inl ⟨by kernel_rfl, ?hyz3⟩) (by assumption) ?rz3
    case hyz3 => (intro wq hSw; go_simp; try (with_reducible rfl))
    try simp only [Act.put, List.setIfInBounds_toArray, List.set_cons_zero, List.set_cons_succ]
    refine WalkT.many (rs := [0, 5]) (by kernel_rfl) (by simp) (by simp) ?_
    refine AllT.cons (i := 0) (o := ?oz4) ?hoz4 ?hkz4 ?hsz4
    case hoz4 => (simp only [List.getElem?_toArray, List.getElem?_cons_succ, List.getElem?_cons_zero]; exact rfl)
    case hkz4 =>
      intro K hK
      go_simp
      refine (start_any _).mono ?_
      rintro e x0 ⟨⟨v0, rfl, h0⟩, hb⟩
      obtain ⟨c0, rfl, hs0, ha0, hi0, hr0⟩ := h0.form
      have Hr0 := Lib.hid hr0; clear h0 hr0
      have hS0 : Below w0.heap.size w0 x0 := Below.trans hHeld (Below.mono hb (Below.size hHeld))
      clear hb hHeld
      go_simp
      refine hK.out _ _ hS0 (fun hHeld => ?_)
      clear hS0
      clear hK K
      try simp only [Act.put, List.setIfInBounds_toArray, List.set_cons_zero, List.set_cons_succ]
      refine WalkT.many (rs := [4, 5]) (by kernel_rfl) (by simp) (by simp) ?_
      refine AllT.cons (i := 4) (o := ?oz5) ?hoz5 ?hkz5 ?hsz5
      case hoz5 => (simp only [List.getElem?_toArray, List.getElem?_cons_succ, List.getElem?_cons_zero]; exact rfl)
      case hkz5 =>
        intro K hK
        go_simp
        refine (with_any (HT.out.below hHeld) Hr0.out _ (by show 0 + (x.extract 0 k).size ≤ _; have := ext_le x k; omega)).mono ?_
        rintro e x4 ⟨⟨v4, rfl, h4⟩, hb⟩
        obtain ⟨c4, rfl, hs4, ha4, hi4, hr4⟩ := h4.form
        have Hr4 := Lib.hid hr4; clear h4 hr4
        have hS4 : Below w0.heap.size w0 x4 := Below.trans hHeld (Below.mono hb (Below.size hHeld))
        clear hb hHeld
        go_simp
        refine hK.out _ _ hS4 (fun hHeld => ?_)
        clear hS4
        clear hK K
        try simp only [Act.put, List.setIfInBounds_toArray, List.set_cons_zero, List.set_cons_succ]
        refine WalkT.one (i := 5) (o := ?oz6) (by kernel_rfl) (by decide) ?hoz6 ?hkz6
        case hoz6 => (simp only [List.getElem?_toArray, List.getElem?_cons_succ, List.getElem?_cons_zero]; exact rfl)
        intro K hK
        go_simp
        have hA := Blk.new x4 30 Tryd.zeroCells30
        have hG : w0.heap.size ≤ x4.heap.size := Below.size hHeld
        refine hK.out _ _ (Below.alloc hHeld (Below.size hHeld) _) (fun hHeld => ?_)
        clear hK K
        try simp only [Act.put, List.setIfInBounds_toArray, List.set_cons_zero, List.set_cons_succ]
        refine WalkT.tail (by kernel_rfl) ?_
        simp only [List.drop_succ_cons, List.drop_zero]
        refine wpList_store_row rfl 30 (Operand.tmp 10) (Operand.tmp 33) rfl _ c4 (by rfl) (by rfl) 30 _ hA hi4 (hs4.symm ▸ rfl) ha4 ?_
        have HA := Lib.hid hA; have HG := Lib.hid hG; have HH := Lib.hid hHeld
        clear hA hG hHeld
        go_wp2
        go_meet
        exact ⟨_, rfl, Hr4.out.at_ (HA.out.setRow c4), below_setRow (Below.trans HW.out (Below.mono HH.out HW.out.size)) (Nat.le_trans HW.out.size HG.out) c4⟩
      refine AllT.cons (i := 5) (o := ?oz7) ?hoz7 ?hkz7 ?hsz7
      case hoz7 => (simp only [List.getElem?_toArray, List.getElem?_cons_succ, List.getElem?_cons_zero]; exact rfl)
      case hkz7 =>
        intro K hK
        go_simp
        have hA := Blk.new x0 30 Tryd.zeroCells30
        have hG : w0.heap.size ≤ x0.heap.size := Below.size hHeld
        refine hK.out _ _ (Below.alloc hHeld (Below.size hHeld) _) (fun hHeld => ?_)
        clear hK K
        try simp only [Act.put, List.setIfInBounds_toArray, List.set_cons_zero, List.set_cons_succ]
        refine WalkT.one (i := 4) (o := ?oz8) (by kernel_rfl) (by decide) ?hoz8 ?hkz8
        case hoz8 => (simp only [List.getElem?_toArray, List.getElem?_cons_succ, List.getElem?_cons_zero]; exact rfl)
        intro K hK
        go_simp
        refine (with_any (HT.out.below hHeld) Hr0.out _ (by show 0 + (x.extract 0 k).size ≤ _; have := ext_le x k; omega)).mono ?_
        rintro e x4 ⟨⟨v4, rfl, h4⟩, hb⟩
        obtain ⟨c4, rfl, hs4, ha4, hi4, hr4⟩ := h4.form
        have Hr4 := Lib.hid hr4; clear h4 hr4
        have hS4 : Below w0.heap.size w0 x4 := Below.trans hHeld (Below.mono hb (Below.size hHeld))
        have hZ : Blk x4 _ 30 Tryd.zeroCells30 := (Below.block hb _ (Blk.lt hA)).trans hA
        clear hA
        have hA := hZ
        clear hZ
        clear hb hHeld
        go_simp
        refine hK.out _ _ hS4 (fun hHeld => ?_)
        clear hS4
        clear hK K
        try simp only [Act.put, List.setIfInBounds_toArray, List.set_cons_zero, List.set_cons_succ]
        refine WalkT.tail (by kernel_rfl) ?_
        simp only [List.drop_succ_cons, List.drop_zero]
        refine wpList_store_row rfl 30 (Operand.tmp 10) (Operand.tmp 33) rfl _ c4 (by rfl) (by rfl) 30 _ hA hi4 (hs4.symm ▸ rfl) ha4 ?_
        have HA := Lib.hid hA; have HG := Lib.hid hG; have HH := Lib.hid hHeld
        clear hA hG hHeld
        go_wp2
        go_meet
        exact ⟨_, rfl, Hr4.out.at_ (HA.out.setRow c4), below_setRow (Below.trans HW.out (Below.mono HH.out HW.out.size)) (Nat.le_trans HW.out.size HG.out) c4⟩
      exact AllT.nil
    refine AllT.cons (i := 5) (o := ?oz9) ?hoz9 ?hkz9 ?hsz9
    case hoz9 => (simp only [List.getElem?_toArray, List.getElem?_cons_succ, List.getElem?_cons_zero]; exact rfl)
    case hkz9 =>
      intro K hK
      go_simp
      have hA := Blk.new w0.drew 30 Tryd.zeroCells30
      have hG : w0.heap.size ≤ w0.drew.heap.size := Below.size hHeld
      refine hK.out _ _ (Below.alloc hHeld (Below.size hHeld) _) (fun hHeld => ?_)
      clear hK K
      try simp only [Act.put, List.setIfInBounds_toArray, List.set_cons_zero, List.set_cons_succ]
      refine WalkT.one (i := 0) (o := ?oz10) (by kernel_rfl) (by decide) ?hoz10 ?hkz10
      case hoz10 => (simp only [List.getElem?_toArray, List.getElem?_cons_succ, List.getElem?_cons_zero]; exact rfl)
      intro K hK
      go_simp
      refine (start_any _).mono ?_
      rintro e x0 ⟨⟨v0, rfl, h0⟩, hb⟩
      obtain ⟨c0, rfl, hs0, ha0, hi0, hr0⟩ := h0.form
      have Hr0 := Lib.hid hr0; clear h0 hr0
      have hS0 : Below w0.heap.size w0 x0 := Below.trans hHeld (Below.mono hb (Below.size hHeld))
      have hZ : Blk x0 _ 30 Tryd.zeroCells30 := (Below.block hb _ (Blk.lt hA)).trans hA
      clear hA
      have hA := hZ
      clear hZ
      clear hb hHeld
      go_simp
      refine hK.out _ _ hS0 (fun hHeld => ?_)
      clear hS0
      clear hK K
      try simp only [Act.put, List.setIfInBounds_toArray, List.set_cons_zero, List.set_cons_succ]
      refine WalkT.one (i := 4) (o := ?oz11) (by kernel_rfl) (by decide) ?hoz11 ?hkz11
      case hoz11 => (simp only [List.getElem?_toArray, List.getElem?_cons_succ, List.getElem?_cons_zero]; exact rfl)
      intro K hK
      go_simp
      refine (with_any (HT.out.below hHeld) Hr0.out _ (by show 0 + (x.extract 0 k).size ≤ _; have := ext_le x k; omega)).mono ?_
      rintro e x4 ⟨⟨v4, rfl, h4⟩, hb⟩
      obtain ⟨c4, rfl, hs4, ha4, hi4, hr4⟩ := h4.form
      have Hr4 := Lib.hid hr4; clear h4 hr4
      have hS4 : Below w0.heap.size w0 x4 := Below.trans hHeld (Below.mono hb (Below.size hHeld))
      have hZ : Blk x4 _ 30 Tryd.zeroCells30 := (Below.block hb _ (Blk.lt hA)).trans hA
      clear hA
      have hA := hZ
      clear hZ
      clear hb hHeld
      go_simp
      refine hK.out _ _ hS4 (fun hHeld => ?_)
      clear hS4
      clear hK K
      try simp only [Act.put, List.setIfInBounds_toArray, List.set_cons_zero, List.set_cons_succ]
      refine WalkT.tail (by kernel_rfl) ?_
      simp only [List.drop_succ_cons, List.drop_zero]
      refine wpList_store_row rfl 30 (Operand.tmp 10) (Operand.tmp 33) rfl _ c4 (by rfl) (by rfl) 30 _ hA hi4 (hs4.symm ▸ rfl) ha4 ?_
      have HA := Lib.hid hA; have HG := Lib.hid hG; have HH := Lib.hid hHeld
      clear hA hG hHeld
      go_wp2
      go_meet
      exact ⟨_, rfl, Hr4.out.at_ (HA.out.setRow c4), below_setRow (Below.trans HW.out (Below.mono HH.out HW.out.size)) (Nat.le_trans HW.out.size HG.out) c4⟩
    exact AllT.nil
  case rest =>
    obtain ⟨g10, rfl, ⟨c10, hB10, hs10, hi10, hR10⟩, hW1⟩ := hcut
    clear HT
    have HT := Lib.hid (HT0.out.below hW1); clear HW
    have HB10 := Lib.hid hB10; have HR10 := Lib.hid hR10; have HW := Lib.hid hW1
    clear hB10 hR10 hW1
    generalize wc = w0 at *
    go_upto_region 4 with fail
    go_cut [11] from 34 to 40 (fun s11 wx => ∃ g, s11 = .pointer (some ⟨g, 0, none⟩) ∧ RunAt wx g ((x.extract 0 k).data.toList ++ (x.extract k x.size).data.toList ++ y.data.toList) ∧ RunAt wx g10 (x.extract 0 k).data.toList ∧ Below w.heap.size w wx)
    case first =>
      refine wp_region_T (n := 8) (S := fun wq => Below w0.heap.size w0 wq) (by kernel_rfl) (by kernel_rfl) (below_drewN' (Below.refl _ _) 1) (fun hHeld => ?_)
      refine WalkT.take (i := 0) (oi := _) (v := _) rfl (by decide) (by kernel_rfl) (by kernel_rfl) (fun _ _ _ h => h) (yieldsIf_load_row (by kernel_rfl) 30 (Operand.tmp 10) rfl g10 (by rfl) 30 c10 (0, 0) _ (fun wq h => (Below.block h _ HB10.out.lt).trans HB10.out) Tryd.underlying30 rfl hi10) (by assumption) ?_
      try simp only [Act.put, List.setIfInBounds_toArray, List.set_cons_zero, List.set_cons_succ]
      refine WalkT.take (i := 1) (oi := _) (v := ?vy1) rfl (by decide) (by kernel_rfl) (by kernel_rfl) (fun _ _ _ h => h) (Or.inl ⟨by kernel_rfl, ?hyy1⟩) (by assumption) ?ry1
      case hyy1 => (intro wq hSw; go_simp; try (with_reducible rfl))
      try simp only [Act.put, List.setIfInBounds_toArray, List.set_cons_zero, List.set_cons_succ]
      refine WalkT.take (i := 2) (oi := _) (v := ?vy2) rfl (by decide) (by kernel_rfl) (by kernel_rfl) (fun _ _ _ h => h) (Or.inl ⟨by kernel_rfl, ?hyy2⟩) (by assumption) ?ry2
      case hyy2 => (intro wq hSw; go_simp; try (with_reducible rfl))
      try simp only [Act.put, List.setIfInBounds_toArray, List.set_cons_zero, List.set_cons_succ]
      refine WalkT.take (i := 3) (oi := _) (v := ?vy3) rfl (by decide) (by kernel_rfl) (by kernel_rfl) (fun _ _ _ h => h) (Or.inl ⟨by kernel_rfl, ?hyy3⟩) (by assumption) ?ry3
      case hyy3 => (intro wq hSw; go_simp; try (with_reducible rfl))
      try simp only [Act.put, List.setIfInBounds_toArray, List.set_cons_zero, List.set_cons_succ]
      refine WalkT.take (i := 5) (oi := _) (v := ?vy4) rfl (by decide) (by kernel_rfl) (by kernel_rfl) (fun _ _ _ h => h) (Or.inl ⟨by kernel_rfl, ?hyy4⟩) (by assumption) ?ry4
      case hyy4 => (intro wq hSw; go_simp; try (with_reducible rfl))
      try simp only [Act.put, List.setIfInBounds_toArray, List.set_cons_zero, List.set_cons_succ]
      refine WalkT.many (rs := [4, 7]) (by kernel_rfl) (by simp) (by simp) ?_
      refine AllT.cons (i := 4) (o := ?oy5) ?hoy5 ?hky5 ?hsy5
      case hoy5 => (simp only [List.getElem?_toArray, List.getElem?_cons_succ, List.getElem?_cons_zero]; exact rfl)
      case hky5 =>
        intro K hK
        go_simp
        refine (with_any (HT.out.below hHeld) HR10.out _ (by rw [k_len x k hkx]; have := ext_le2 x k; omega)).mono ?_
        rintro e x4 ⟨⟨v4, rfl, h4⟩, hb⟩
        obtain ⟨c4, rfl, hs4, ha4, hi4, hr4⟩ := h4.form
        have Hr4 := Lib.hid hr4; clear h4 hr4
        have hS4 : Below w0.heap.size w0 x4 := Below.trans hHeld (Below.mono hb (Below.size hHeld))
        clear hb hHeld
        go_simp
        refine hK.out _ _ hS4 (fun hHeld => ?_)
        clear hS4
        clear hK K
        try simp only [Act.put, List.setIfInBounds_toArray, List.set_cons_zero, List.set_cons_succ]
        refine WalkT.many (rs := [6, 7]) (by kernel_rfl) (by simp) (by simp) ?_
        refine AllT.cons (i := 6) (o := ?oy6) ?hoy6 ?hky6 ?hsy6
        case hoy6 => (simp only [List.getElem?_toArray, List.getElem?_cons_succ, List.getElem?_cons_zero]; exact rfl)
        case hky6 =>
          intro K hK
          go_simp
          refine (with_any (HT.out.below hHeld) Hr4.out y (by rw [List.length_append, k_len x k hkx]; have := ext_le2 x k; simp only [Array.length_toList]; show k + (x.extract k x.size).size + _ ≤ _; omega)).mono ?_
          rintro e x6 ⟨⟨v6, rfl, h6⟩, hb⟩
          obtain ⟨c6, rfl, hs6, ha6, hi6, hr6⟩ := h6.form
          have Hr6 := Lib.hid hr6; clear h6 hr6
          have hS6 : Below w0.heap.size w0 x6 := Below.trans hHeld (Below.mono hb (Below.size hHeld))
          clear hb hHeld
          go_simp
          refine hK.out _ _ hS6 (fun hHeld => ?_)
          clear hS6
          clear hK K
          try simp only [Act.put, List.setIfInBounds_toArray, List.set_cons_zero, List.set_cons_succ]
          refine WalkT.one (i := 7) (o := ?oy7) (by kernel_rfl) (by decide) ?hoy7 ?hky7
          case hoy7 => (simp only [List.getElem?_toArray, List.getElem?_cons_succ, List.getElem?_cons_zero]; exact rfl)
          intro K hK
          go_simp
          have hA := Blk.new x6 30 Tryd.zeroCells30
          have hG : w0.heap.size ≤ x6.heap.size := Below.size hHeld
          refine hK.out _ _ (Below.alloc hHeld (Below.size hHeld) _) (fun hHeld => ?_)
          clear hK K
          try simp only [Act.put, List.setIfInBounds_toArray, List.set_cons_zero, List.set_cons_succ]
          refine WalkT.tail (by kernel_rfl) ?_
          simp only [List.drop_succ_cons, List.drop_zero]
          refine wpList_store_row rfl 30 (Operand.tmp 11) (Operand.tmp 40) rfl _ c6 (by rfl) (by rfl) 30 _ hA hi6 (hs6.symm ▸ rfl) ha6 ?_
          have HA := Lib.hid hA; have HG := Lib.hid hG; have HH := Lib.hid hHeld
          clear hA hG hHeld
          go_wp2
          go_meet
          exact ⟨_, rfl, Hr6.out.at_ (HA.out.setRow c6), HR10.out.at_ (Blk.setRow_far ((Below.block HH.out _ HB10.out.lt).trans HB10.out) c6 (by have := HB10.out.lt; have := HG.out; omega)), below_setRow (Below.trans HW.out (Below.mono HH.out HW.out.size)) (Nat.le_trans HW.out.size HG.out) c6⟩
        refine AllT.cons (i := 7) (o := ?oy8) ?hoy8 ?hky8 ?hsy8
        case hoy8 => (simp only [List.getElem?_toArray, List.getElem?_cons_succ, List.getElem?_cons_zero]; exact rfl)
        case hky8 =>
          intro K hK
          go_simp
          have hA := Blk.new x4 30 Tryd.zeroCells30
          have hG : w0.heap.size ≤ x4.heap.size := Below.size hHeld
          refine hK.out _ _ (Below.alloc hHeld (Below.size hHeld) _) (fun hHeld => ?_)
          clear hK K
          try simp only [Act.put, List.setIfInBounds_toArray, List.set_cons_zero, List.set_cons_succ]
          refine WalkT.one (i := 6) (o := ?oy9) (by kernel_rfl) (by decide) ?hoy9 ?hky9
          case hoy9 => (simp only [List.getElem?_toArray, List.getElem?_cons_succ, List.getElem?_cons_zero]; exact rfl)
          intro K hK
          go_simp
          refine (with_any (HT.out.below hHeld) Hr4.out y (by rw [List.length_append, k_len x k hkx]; have := ext_le2 x k; simp only [Array.length_toList]; show k + (x.extract k x.size).size + _ ≤ _; omega)).mono ?_
          rintro e x6 ⟨⟨v6, rfl, h6⟩, hb⟩
          obtain ⟨c6, rfl, hs6, ha6, hi6, hr6⟩ := h6.form
          have Hr6 := Lib.hid hr6; clear h6 hr6
          have hS6 : Below w0.heap.size w0 x6 := Below.trans hHeld (Below.mono hb (Below.size hHeld))
          have hZ : Blk x6 _ 30 Tryd.zeroCells30 := (Below.block hb _ (Blk.lt hA)).trans hA
          clear hA
          have hA := hZ
          clear hZ
          clear hb hHeld
          go_simp
          refine hK.out _ _ hS6 (fun hHeld => ?_)
          clear hS6
          clear hK K
          try simp only [Act.put, List.setIfInBounds_toArray, List.set_cons_zero, List.set_cons_succ]
          refine WalkT.tail (by kernel_rfl) ?_
          simp only [List.drop_succ_cons, List.drop_zero]
          refine wpList_store_row rfl 30 (Operand.tmp 11) (Operand.tmp 40) rfl _ c6 (by rfl) (by rfl) 30 _ hA hi6 (hs6.symm ▸ rfl) ha6 ?_
          have HA := Lib.hid hA; have HG := Lib.hid hG; have HH := Lib.hid hHeld
          clear hA hG hHeld
          go_wp2
          go_meet
          exact ⟨_, rfl, Hr6.out.at_ (HA.out.setRow c6), HR10.out.at_ (Blk.setRow_far ((Below.block HH.out _ HB10.out.lt).trans HB10.out) c6 (by have := HB10.out.lt; have := HG.out; omega)), below_setRow (Below.trans HW.out (Below.mono HH.out HW.out.size)) (Nat.le_trans HW.out.size HG.out) c6⟩
        exact AllT.nil
      refine AllT.cons (i := 7) (o := ?oy10) ?hoy10 ?hky10 ?hsy10
      case hoy10 => (simp only [List.getElem?_toArray, List.getElem?_cons_succ, List.getElem?_cons_zero]; exact rfl)
      case hky10 =>
        intro K hK
        go_simp
        have hA := Blk.new w0.drew 30 Tryd.zeroCells30
        have hG : w0.heap.size ≤ w0.drew.heap.size := Below.size hHeld
        refine hK.out _ _ (Below.alloc hHeld (Below.size hHeld) _) (fun hHeld => ?_)
        clear hK K
        try simp only [Act.put, List.setIfInBounds_toArray, List.set_cons_zero, List.set_cons_succ]
        refine WalkT.one (i := 4) (o := ?oy11) (by kernel_rfl) (by decide) ?hoy11 ?hky11
        case hoy11 => (simp only [List.getElem?_toArray, List.getElem?_cons_succ, List.getElem?_cons_zero]; exact rfl)
        intro K hK
        go_simp
        refine (with_any (HT.out.below hHeld) HR10.out _ (by rw [k_len x k hkx]; have := ext_le2 x k; omega)).mono ?_
        rintro e x4 ⟨⟨v4, rfl, h4⟩, hb⟩
        obtain ⟨c4, rfl, hs4, ha4, hi4, hr4⟩ := h4.form
        have Hr4 := Lib.hid hr4; clear h4 hr4
        have hS4 : Below w0.heap.size w0 x4 := Below.trans hHeld (Below.mono hb (Below.size hHeld))
        have hZ : Blk x4 _ 30 Tryd.zeroCells30 := (Below.block hb _ (Blk.lt hA)).trans hA
        clear hA
        have hA := hZ
        clear hZ
        clear hb hHeld
        go_simp
        refine hK.out _ _ hS4 (fun hHeld => ?_)
        clear hS4
        clear hK K
        try simp only [Act.put, List.setIfInBounds_toArray, List.set_cons_zero, List.set_cons_succ]
        refine WalkT.one (i := 6) (o := ?oy12) (by kernel_rfl) (by decide) ?hoy12 ?hky12
        case hoy12 => (simp only [List.getElem?_toArray, List.getElem?_cons_succ, List.getElem?_cons_zero]; exact rfl)
        intro K hK
        go_simp
        refine (with_any (HT.out.below hHeld) Hr4.out y (by rw [List.length_append, k_len x k hkx]; have := ext_le2 x k; simp only [Array.length_toList]; show k + (x.extract k x.size).size + _ ≤ _; omega)).mono ?_
        rintro e x6 ⟨⟨v6, rfl, h6⟩, hb⟩
        obtain ⟨c6, rfl, hs6, ha6, hi6, hr6⟩ := h6.form
        have Hr6 := Lib.hid hr6; clear h6 hr6
        have hS6 : Below w0.heap.size w0 x6 := Below.trans hHeld (Below.mono hb (Below.size hHeld))
        have hZ : Blk x6 _ 30 Tryd.zeroCells30 := (Below.block hb _ (Blk.lt hA)).trans hA
        clear hA
        have hA := hZ
        clear hZ
        clear hb hHeld
        go_simp
        refine hK.out _ _ hS6 (fun hHeld => ?_)
        clear hS6
        clear hK K
        try simp only [Act.put, List.setIfInBounds_toArray, List.set_cons_zero, List.set_cons_succ]
        refine WalkT.tail (by kernel_rfl) ?_
        simp only [List.drop_succ_cons, List.drop_zero]
        refine wpList_store_row rfl 30 (Operand.tmp 11) (Operand.tmp 40) rfl _ c6 (by rfl) (by rfl) 30 _ hA hi6 (hs6.symm ▸ rfl) ha6 ?_
        have HA := Lib.hid hA; have HG := Lib.hid hG; have HH := Lib.hid hHeld
        clear hA hG hHeld
        go_wp2
        go_meet
        exact ⟨_, rfl, Hr6.out.at_ (HA.out.setRow c6), HR10.out.at_ (Blk.setRow_far ((Below.block HH.out _ HB10.out.lt).trans HB10.out) c6 (by have := HB10.out.lt; have := HG.out; omega)), below_setRow (Below.trans HW.out (Below.mono HH.out HW.out.size)) (Nat.le_trans HW.out.size HG.out) c6⟩
      exact AllT.nil
    case rest =>
      clear HB10 HT HW hi10
      obtain ⟨g11, rfl, ⟨c11, hB11, hs11, hi11, hR11⟩, ⟨c10, hB10, hs10, hi10, hR10⟩, hW1⟩ := hcut
      clear HR10
      rw [ext_two] at hR11
      have HT := Lib.hid (HT0.out.below hW1)
      have hB11' := hB11
      have HR10 := Lib.hid hR10; have HR11 := Lib.hid hR11
      clear hR10 hR11
      go_wp2_with (refine wpList_load_row rfl 30 (Operand.tmp 10) rfl g10 (by rfl) 30 c10 (0, 0) _ hB10 Tryd.underlying30 rfl hi10 ?_)
      refine (with_any HT.out HR10.out y (by rw [k_len x k hkx]; omega)).mono ?_
      rintro e w2 ⟨⟨v2, rfl, h2⟩, hb2⟩
      obtain ⟨c12, rfl, hs12, ha12, hi12, hr12⟩ := h2.form
      have hB12 : Blk (w2.alloc (.cells Tryd.zeroCells30 30)) w2.heap.size 30 Tryd.zeroCells30 := Blk.new _ _ _
      have hB12' := hB12.setRow c12
      have hbA := hW1.trans (hb2.mono hW1.size)
      have hbB : Below w.heap.size w ((w2.alloc (.cells Tryd.zeroCells30 30)).setRow w2.heap.size c12) := below_setRow (hbA.alloc hbA.size _) hbA.size c12
      have hC10 : Blk ((w2.alloc (.cells Tryd.zeroCells30 30)).setRow w2.heap.size c12) g10 30 c10 := Blk.setRow_far (Blk.alloc ((hb2.block _ hB10.lt).trans hB10) _) c12 (by have := hB10.lt; have := hb2.size; omega)
      have hC11 : Blk ((w2.alloc (.cells Tryd.zeroCells30 30)).setRow w2.heap.size c12) g11 30 c11 := Blk.setRow_far (Blk.alloc ((hb2.block _ hB11.lt).trans hB11) _) c12 (by have := hB11.lt; have := hb2.size; omega)
      have HW := Lib.hid hbB; have HR12 := Lib.hid hr12; have HB10 := Lib.hid hC10; have HB11 := Lib.hid hC11
      clear hbB hr12 hC10 hC11 hbA hW1 h2 hb2 hB10 hB11 hB11' HT
      go_wp2_with (refine wpList_store_row rfl 30 (Operand.tmp 12) (Operand.tmp 43) rfl w2.heap.size c12 (by rfl) (by rfl) 30 _ hB12 hi12 (hs12.symm ▸ rfl) ha12 ?_)
      generalize (w2.alloc (.cells Tryd.zeroCells30 30)).setRow w2.heap.size c12 = wA at *
      generalize w2.heap.size = g12 at *
      clear hB12
      have HB12 := Lib.hid hB12'; clear hB12'
      have HT := Lib.hid (HT0.out.below HW.out)
      have l11 : x.data.toList.length = x.size := (ba_size x).symm
      have ly : y.data.toList.length = y.size := (ba_size y).symm
      have hcat : ¬ 9223372036854775807 < x.size + y.size := by omega
      have hcat2 : ¬ 9223372036854775807 < k + y.size := by omega
      have hwr : IntKind.i64.wrap ((x.size : Int) + (y.size : Int)) = (x.size : Int) + (y.size : Int) := IntWalk.i64_in _ (by omega)
      have hs32 := sumB_size (x ++ y)
      obtain ⟨t1, ht1⟩ : ∃ s, sumB (x ++ y) = s := ⟨_, rfl⟩
      obtain ⟨t2, ht2⟩ : ∃ s, sumB (x.extract 0 k ++ y) = s := ⟨_, rfl⟩
      obtain ⟨t3, ht3⟩ : ∃ s, sumB (x.extract 0 k) = s := ⟨_, rfl⟩
      rw [ht1] at hs32
      have Hv1 := Lib.hid ht1; have Hv2 := Lib.hid ht2; have Hv3 := Lib.hid ht3
      clear ht1 ht2 ht3
      have hs32' : ((t1.size : Int) == 32) = true := by rw [beq_iff_eq]; omega
      refine wp_region_T (n := 46) (S := fun wq => Below wA.heap.size wA wq) (by kernel_rfl) (by kernel_rfl) (below_drewN' (Below.refl _ _) 1) (fun hHeld => ?_)
      refine WalkT.take (i := 0) (oi := _) (v := _) rfl (by decide) (by kernel_rfl) (by kernel_rfl) (fun _ _ _ h => h) (yieldsIf_load_row (by kernel_rfl) 30 (Operand.tmp 11) rfl g11 (by rfl) 30 c11 (0, 0) _ (fun wq h => (Below.block h _ HB11.out.lt).trans HB11.out) Tryd.underlying30 rfl hi11) (by assumption) ?_
      try simp only [Act.put, List.setIfInBounds_toArray, List.set_cons_zero, List.set_cons_succ]
      refine WalkT.take (i := 2) (oi := _) (v := ?vx1) rfl (by decide) (by kernel_rfl) (by kernel_rfl) (fun _ _ _ h => h) (Or.inl ⟨by kernel_rfl, ?hyx1⟩) (by assumption) ?rx1
      case hyx1 => (intro wq hSw; go_simp; try (with_reducible rfl))
      try simp only [Act.put, List.setIfInBounds_toArray, List.set_cons_zero, List.set_cons_succ]
      refine WalkT.take (i := 3) (oi := _) (v := ?vx2) rfl (by decide) (by kernel_rfl) (by kernel_rfl) (fun _ _ _ h => h) (Or.inl ⟨by kernel_rfl, ?hyx2⟩) (by assumption) ?rx2
      case hyx2 => (intro wq hSw; go_simp; try (with_reducible rfl))
      try simp only [Act.put, List.setIfInBounds_toArray, List.set_cons_zero, List.set_cons_succ]
      refine WalkT.take (i := 4) (oi := _) (v := ?vx3) rfl (by decide) (by kernel_rfl) (by kernel_rfl) (fun _ _ _ h => h) (Or.inl ⟨by kernel_rfl, ?hyx3⟩) (by assumption) ?rx3
      case hyx3 => (intro wq hSw; go_simp; try (with_reducible rfl))
      try simp only [Act.put, List.setIfInBounds_toArray, List.set_cons_zero, List.set_cons_succ]
      refine WalkT.one (i := 1) (o := ?ox4) (by kernel_rfl) (by decide) ?hox4 ?hkx4
      case hox4 => (simp only [List.getElem?_toArray, List.getElem?_cons_succ, List.getElem?_cons_zero]; exact rfl)
      intro K hK
      go_simp
      refine (end_any' (HT.out.below hHeld) HR11.out (x ++ y) (by rw [List.length_append, l11, ly]; omega) (ba_append x y)).mono ?_
      rintro e x1 ⟨rfl, hb⟩
      rw [Hv1.out]
      have hS1 : Below wA.heap.size wA x1 := Below.trans hHeld (Below.mono hb (Below.size hHeld))
      clear hb hHeld
      go_simp
      refine hK.out _ _ hS1 (fun hHeld => ?_)
      clear hS1
      clear hK K
      try simp only [Act.put, List.setIfInBounds_toArray, List.set_cons_zero, List.set_cons_succ]
      refine WalkT.one (i := 5) (o := ?ox5) (by kernel_rfl) (by decide) ?hox5 ?hkx5
      case hox5 => (simp only [List.getElem?_toArray, List.getElem?_cons_succ, List.getElem?_cons_zero]; exact rfl)
      intro K hK
      go_simp
      refine (sum_any (HT.out.below hHeld) _ (by simp; omega)).mono ?_
      rintro e x5 ⟨rfl, hb⟩
      rw [Hv1.out]
      have hS5 : Below wA.heap.size wA x5 := Below.trans hHeld (Below.mono hb (Below.size hHeld))
      clear hb hHeld
      go_simp
      refine hK.out _ _ hS5 (fun hHeld => ?_)
      clear hS5
      clear hK K
      try simp only [Act.put, List.setIfInBounds_toArray, List.set_cons_zero, List.set_cons_succ]
      refine WalkT.take (i := 6) (oi := _) (v := ?vx6) rfl (by decide) (by kernel_rfl) (by kernel_rfl) (fun _ _ _ h => h) (Or.inl ⟨by kernel_rfl, ?hyx6⟩) (by assumption) ?rx6
      case hyx6 => (intro wq hSw; go_simp; try (with_reducible rfl))
      try simp only [Act.put, List.setIfInBounds_toArray, List.set_cons_zero, List.set_cons_succ]
      refine WalkT.take (i := 7) (oi := _) (v := ?vx7) rfl (by decide) (by kernel_rfl) (by kernel_rfl) (fun _ _ _ h => h) (Or.inl ⟨by kernel_rfl, ?hyx7⟩) (by assumption) ?rx7
      case hyx7 => (intro wq hSw; go_simp; try (with_reducible rfl))
      try simp only [Act.put, List.setIfInBounds_toArray, List.set_cons_zero, List.set_cons_succ]
      refine WalkT.take (i := 8) (oi := _) (v := _) rfl (by decide) (by kernel_rfl) (by kernel_rfl) (fun _ _ _ h => h) (yieldsIf_load_row (by kernel_rfl) 30 (Operand.tmp 12) rfl g12 (by rfl) 30 c12 (0, 0) _ (fun wq h => (Below.block h _ HB12.out.lt).trans HB12.out) Tryd.underlying30 rfl hi12) (by assumption) ?_
      try simp only [Act.put, List.setIfInBounds_toArray, List.set_cons_zero, List.set_cons_succ]
      refine WalkT.take (i := 10) (oi := _) (v := ?vx8) rfl (by decide) (by kernel_rfl) (by kernel_rfl) (fun _ _ _ h => h) (Or.inl ⟨by kernel_rfl, ?hyx8⟩) (by assumption) ?rx8
      case hyx8 => (intro wq hSw; go_simp; try (with_reducible rfl))
      try simp only [Act.put, List.setIfInBounds_toArray, List.set_cons_zero, List.set_cons_succ]
      refine WalkT.take (i := 11) (oi := _) (v := ?vx9) rfl (by decide) (by kernel_rfl) (by kernel_rfl) (fun _ _ _ h => h) (Or.inl ⟨by kernel_rfl, ?hyx9⟩) (by assumption) ?rx9
      case hyx9 => (intro wq hSw; go_simp; try (with_reducible rfl))
      try simp only [Act.put, List.setIfInBounds_toArray, List.set_cons_zero, List.set_cons_succ]
      refine WalkT.take (i := 12) (oi := _) (v := ?vx10) rfl (by decide) (by kernel_rfl) (by kernel_rfl) (fun _ _ _ h => h) (Or.inl ⟨by kernel_rfl, ?hyx10⟩) (by assumption) ?rx10
      case hyx10 => (intro wq hSw; go_simp; try (with_reducible rfl))
      try simp only [Act.put, List.setIfInBounds_toArray, List.set_cons_zero, List.set_cons_succ]
      refine WalkT.take (i := 13) (oi := _) (v := ?vx11) rfl (by decide) (by kernel_rfl) (by kernel_rfl) (fun _ _ _ h => h) (Or.inl ⟨by kernel_rfl, ?hyx11⟩) (by assumption) ?rx11
      case hyx11 => (intro wq hSw; go_simp; try (with_reducible rfl))
      try simp only [Act.put, List.setIfInBounds_toArray, List.set_cons_zero, List.set_cons_succ]
      refine WalkT.take (i := 14) (oi := _) (v := ?vx12) rfl (by decide) (by kernel_rfl) (by kernel_rfl) (fun _ _ _ h => h) (Or.inl ⟨by kernel_rfl, ?hyx12⟩) (by assumption) ?rx12
      case hyx12 => (intro wq hSw; go_simp; try (with_reducible rfl))
      try simp only [Act.put, List.setIfInBounds_toArray, List.set_cons_zero, List.set_cons_succ]
      refine WalkT.one (i := 9) (o := ?ox13) (by kernel_rfl) (by decide) ?hox13 ?hkx13
      case hox13 => (simp only [List.getElem?_toArray, List.getElem?_cons_succ, List.getElem?_cons_zero]; exact rfl)
      intro K hK
      go_simp
      refine (end_any' (HT.out.below hHeld) HR12.out (x.extract 0 k ++ y) (by rw [List.length_append, k_len x k hkx, ly]; omega) (ba_append _ _)).mono ?_
      rintro e x9 ⟨rfl, hb⟩
      rw [Hv2.out]
      have hS9 : Below wA.heap.size wA x9 := Below.trans hHeld (Below.mono hb (Below.size hHeld))
      clear hb hHeld
      go_simp
      refine hK.out _ _ hS9 (fun hHeld => ?_)
      clear hS9
      clear hK K
      try simp only [Act.put, List.setIfInBounds_toArray, List.set_cons_zero, List.set_cons_succ]
      refine WalkT.one (i := 15) (o := ?ox14) (by kernel_rfl) (by decide) ?hox14 ?hkx14
      case hox14 => (simp only [List.getElem?_toArray, List.getElem?_cons_succ, List.getElem?_cons_zero]; exact rfl)
      intro K hK
      go_simp
      refine (sum_any (HT.out.below hHeld) _ (by have := ext_le x k; rw [ByteArray.size_append]; omega)).mono ?_
      rintro e x15 ⟨rfl, hb⟩
      rw [Hv2.out]
      have hS15 : Below wA.heap.size wA x15 := Below.trans hHeld (Below.mono hb (Below.size hHeld))
      clear hb hHeld
      go_simp
      refine hK.out _ _ hS15 (fun hHeld => ?_)
      clear hS15
      clear hK K
      try simp only [Act.put, List.setIfInBounds_toArray, List.set_cons_zero, List.set_cons_succ]
      refine WalkT.take (i := 16) (oi := _) (v := ?vx15) rfl (by decide) (by kernel_rfl) (by kernel_rfl) (fun _ _ _ h => h) (Or.inl ⟨by kernel_rfl, ?hyx15⟩) (by assumption) ?rx15
      case hyx15 => (intro wq hSw; go_simp; try (with_reducible rfl))
      try simp only [Act.put, List.setIfInBounds_toArray, List.set_cons_zero, List.set_cons_succ]
      refine WalkT.take (i := 17) (oi := _) (v := ?vx16) rfl (by decide) (by kernel_rfl) (by kernel_rfl) (fun _ _ _ h => h) (Or.inl ⟨by kernel_rfl, ?hyx16⟩) (by assumption) ?rx16
      case hyx16 => (intro wq hSw; go_simp; try (with_reducible rfl))
      try simp only [Act.put, List.setIfInBounds_toArray, List.set_cons_zero, List.set_cons_succ]
      refine WalkT.take (i := 18) (oi := _) (v := ?vx17) rfl (by decide) (by kernel_rfl) (by kernel_rfl) (fun _ _ _ h => h) (Or.inl ⟨by kernel_rfl, ?hyx17⟩) (by assumption) ?rx17
      case hyx17 => (intro wq hSw; go_simp; try (with_reducible rfl))
      try simp only [Act.put, List.setIfInBounds_toArray, List.set_cons_zero, List.set_cons_succ]
      refine WalkT.take (i := 19) (oi := _) (v := _) rfl (by decide) (by kernel_rfl) (by kernel_rfl) (fun _ _ _ h => h) (yieldsIf_load_row (by kernel_rfl) 30 (Operand.tmp 10) rfl g10 (by rfl) 30 c10 (0, 0) _ (fun wq h => (Below.block h _ HB10.out.lt).trans HB10.out) Tryd.underlying30 rfl hi10) (by assumption) ?_
      try simp only [Act.put, List.setIfInBounds_toArray, List.set_cons_zero, List.set_cons_succ]
      refine WalkT.take (i := 21) (oi := _) (v := ?vx18) rfl (by decide) (by kernel_rfl) (by kernel_rfl) (fun _ _ _ h => h) (Or.inl ⟨by kernel_rfl, ?hyx18⟩) (by assumption) ?rx18
      case hyx18 => (intro wq hSw; go_simp; try (with_reducible rfl))
      try simp only [Act.put, List.setIfInBounds_toArray, List.set_cons_zero, List.set_cons_succ]
      refine WalkT.take (i := 22) (oi := _) (v := ?vx19) rfl (by decide) (by kernel_rfl) (by kernel_rfl) (fun _ _ _ h => h) (Or.inl ⟨by kernel_rfl, ?hyx19⟩) (by assumption) ?rx19
      case hyx19 => (intro wq hSw; go_simp; try (with_reducible rfl))
      try simp only [Act.put, List.setIfInBounds_toArray, List.set_cons_zero, List.set_cons_succ]
      refine WalkT.take (i := 23) (oi := _) (v := ?vx20) rfl (by decide) (by kernel_rfl) (by kernel_rfl) (fun _ _ _ h => h) (Or.inl ⟨by kernel_rfl, ?hyx20⟩) (by assumption) ?rx20
      case hyx20 => (intro wq hSw; go_simp; try (with_reducible rfl))
      try simp only [Act.put, List.setIfInBounds_toArray, List.set_cons_zero, List.set_cons_succ]
      refine WalkT.one (i := 20) (o := ?ox21) (by kernel_rfl) (by decide) ?hox21 ?hkx21
      case hox21 => (simp only [List.getElem?_toArray, List.getElem?_cons_succ, List.getElem?_cons_zero]; exact rfl)
      intro K hK
      go_simp
      refine (end_any' (HT.out.below hHeld) HR10.out (x.extract 0 k) (by rw [k_len x k hkx]; omega) rfl).mono ?_
      rintro e x20 ⟨rfl, hb⟩
      rw [Hv3.out]
      have hS20 : Below wA.heap.size wA x20 := Below.trans hHeld (Below.mono hb (Below.size hHeld))
      clear hb hHeld
      go_simp
      refine hK.out _ _ hS20 (fun hHeld => ?_)
      clear hS20
      clear hK K
      try simp only [Act.put, List.setIfInBounds_toArray, List.set_cons_zero, List.set_cons_succ]
      refine WalkT.one (i := 24) (o := ?ox22) (by kernel_rfl) (by decide) ?hox22 ?hkx22
      case hox22 => (simp only [List.getElem?_toArray, List.getElem?_cons_succ, List.getElem?_cons_zero]; exact rfl)
      intro K hK
      go_simp
      refine (sum_any (HT.out.below hHeld) _ (by have := ext_le x k; omega)).mono ?_
      rintro e x24 ⟨rfl, hb⟩
      rw [Hv3.out]
      have hS24 : Below wA.heap.size wA x24 := Below.trans hHeld (Below.mono hb (Below.size hHeld))
      clear hb hHeld
      go_simp
      refine hK.out _ _ hS24 (fun hHeld => ?_)
      clear hS24
      clear hK K
      try simp only [Act.put, List.setIfInBounds_toArray, List.set_cons_zero, List.set_cons_succ]
      refine WalkT.take (i := 25) (oi := _) (v := ?vx23) rfl (by decide) (by kernel_rfl) (by kernel_rfl) (fun _ _ _ h => h) (Or.inl ⟨by kernel_rfl, ?hyx23⟩) (by assumption) ?rx23
      case hyx23 => (intro wq hSw; go_simp; try (with_reducible rfl))
      try simp only [Act.put, List.setIfInBounds_toArray, List.set_cons_zero, List.set_cons_succ]
      refine WalkT.take (i := 26) (oi := _) (v := ?vx24) rfl (by decide) (by kernel_rfl) (by kernel_rfl) (fun _ _ _ h => h) (Or.inl ⟨by kernel_rfl, ?hyx24⟩) (by assumption) ?rx24
      case hyx24 => (intro wq hSw; go_simp; try (with_reducible rfl))
      try simp only [Act.put, List.setIfInBounds_toArray, List.set_cons_zero, List.set_cons_succ]
      refine WalkT.take (i := 27) (oi := _) (v := ?vx25) rfl (by decide) (by kernel_rfl) (by kernel_rfl) (fun _ _ _ h => h) (Or.inl ⟨by kernel_rfl, ?hyx25⟩) (by assumption) ?rx25
      case hyx25 => (intro wq hSw; go_simp; try (with_reducible rfl))
      try simp only [Act.put, List.setIfInBounds_toArray, List.set_cons_zero, List.set_cons_succ]
      refine WalkT.take (i := 28) (oi := _) (v := _) rfl (by decide) (by kernel_rfl) (by kernel_rfl) (fun _ _ _ h => h) (yieldsIf_load_row (by kernel_rfl) 30 (Operand.tmp 11) rfl g11 (by rfl) 30 c11 (0, 0) _ (fun wq h => (Below.block h _ HB11.out.lt).trans HB11.out) Tryd.underlying30 rfl hi11) (by assumption) ?_
      try simp only [Act.put, List.setIfInBounds_toArray, List.set_cons_zero, List.set_cons_succ]
      refine WalkT.one (i := 29) (o := ?ox26) (by kernel_rfl) (by decide) ?hox26 ?hkx26
      case hox26 => (simp only [List.getElem?_toArray, List.getElem?_cons_succ, List.getElem?_cons_zero]; exact rfl)
      intro K hK
      go_simp
      refine (end_any' (HT.out.below hHeld) HR11.out (x ++ y) (by rw [List.length_append, l11, ly]; omega) (ba_append x y)).mono ?_
      rintro e x29 ⟨rfl, hb⟩
      rw [Hv1.out]
      have hS29 : Below wA.heap.size wA x29 := Below.trans hHeld (Below.mono hb (Below.size hHeld))
      clear hb hHeld
      go_simp
      refine hK.out _ _ hS29 (fun hHeld => ?_)
      clear hS29
      clear hK K
      try simp only [Act.put, List.setIfInBounds_toArray, List.set_cons_zero, List.set_cons_succ]
      refine WalkT.take (i := 30) (oi := _) (v := ?vx27) rfl (by decide) (by kernel_rfl) (by kernel_rfl) (fun _ _ _ h => h) (Or.inl ⟨by kernel_rfl, ?hyx27⟩) (by assumption) ?rx27
      case hyx27 => (intro wq hSw; go_simp; try (with_reducible rfl))
      try simp only [Act.put, List.setIfInBounds_toArray, List.set_cons_zero, List.set_cons_succ]
      refine WalkT.take (i := 31) (oi := _) (v := ?vx28) rfl (by decide) (by kernel_rfl) (by kernel_rfl) (fun _ _ _ h => h) (Or.inl ⟨by kernel_rfl, ?hyx28⟩) (by assumption) ?rx28
      case hyx28 => (intro wq hSw; go_simp; try (with_reducible rfl))
      try simp only [Act.put, List.setIfInBounds_toArray, List.set_cons_zero, List.set_cons_succ]
      refine WalkT.take (i := 32) (oi := _) (v := ?vx29) rfl (by decide) (by kernel_rfl) (by kernel_rfl) (fun _ _ _ h => h) (Or.inl ⟨by kernel_rfl, ?hyx29⟩) (by assumption) ?rx29
      case hyx29 => (intro wq hSw; go_simp; try (with_reducible rfl))
      try simp only [Act.put, List.setIfInBounds_toArray, List.set_cons_zero, List.set_cons_succ]
      refine WalkT.take (i := 33) (oi := _) (v := ?vx30) rfl (by decide) (by kernel_rfl) (by kernel_rfl) (fun _ _ _ h => h) (Or.inl ⟨by kernel_rfl, ?hyx30⟩) (by assumption) ?rx30
      case hyx30 => (intro wq hSw; go_simp; try (with_reducible rfl))
      try simp only [Act.put, List.setIfInBounds_toArray, List.set_cons_zero, List.set_cons_succ]
      refine WalkT.take (i := 34) (oi := _) (v := _) rfl (by decide) (by kernel_rfl) (by kernel_rfl) (fun _ _ _ h => h) (yieldsIf_load_row (by kernel_rfl) 30 (Operand.tmp 11) rfl g11 (by rfl) 30 c11 (0, 0) _ (fun wq h => (Below.block h _ HB11.out.lt).trans HB11.out) Tryd.underlying30 rfl hi11) (by assumption) ?_
      try simp only [Act.put, List.setIfInBounds_toArray, List.set_cons_zero, List.set_cons_succ]
      refine WalkT.take (i := 36) (oi := _) (v := ?vx31) rfl (by decide) (by kernel_rfl) (by kernel_rfl) (fun _ _ _ h => h) (Or.inl ⟨by kernel_rfl, ?hyx31⟩) (by assumption) ?rx31
      case hyx31 => (intro wq hSw; go_simp; try (with_reducible rfl))
      try simp only [Act.put, List.setIfInBounds_toArray, List.set_cons_zero, List.set_cons_succ]
      refine WalkT.take (i := 37) (oi := _) (v := ?vx32) rfl (by decide) (by kernel_rfl) (by kernel_rfl) (fun _ _ _ h => h) (Or.inl ⟨by kernel_rfl, ?hyx32⟩) (by assumption) ?rx32
      case hyx32 => (intro wq hSw; go_simp; try (with_reducible rfl))
      try simp only [Act.put, List.setIfInBounds_toArray, List.set_cons_zero, List.set_cons_succ]
      refine WalkT.take (i := 38) (oi := _) (v := ?vx33) rfl (by decide) (by kernel_rfl) (by kernel_rfl) (fun _ _ _ h => h) (Or.inl ⟨by kernel_rfl, ?hyx33⟩) (by assumption) ?rx33
      case hyx33 => (intro wq hSw; go_simp; try (with_reducible rfl))
      try simp only [Act.put, List.setIfInBounds_toArray, List.set_cons_zero, List.set_cons_succ]
      refine WalkT.take (i := 39) (oi := _) (v := ?vx34) rfl (by decide) (by kernel_rfl) (by kernel_rfl) (fun _ _ _ h => h) (Or.inl ⟨by kernel_rfl, ?hyx34⟩) (by assumption) ?rx34
      case hyx34 => (intro wq hSw; go_simp; try (with_reducible rfl))
      try simp only [Act.put, List.setIfInBounds_toArray, List.set_cons_zero, List.set_cons_succ]
      refine WalkT.take (i := 40) (oi := _) (v := ?vx35) rfl (by decide) (by kernel_rfl) (by kernel_rfl) (fun _ _ _ h => h) (Or.inl ⟨by kernel_rfl, ?hyx35⟩) (by assumption) ?rx35
      case hyx35 => (intro wq hSw; go_simp; try (with_reducible rfl))
      try simp only [Act.put, List.setIfInBounds_toArray, List.set_cons_zero, List.set_cons_succ]
      refine WalkT.one (i := 35) (o := ?ox36) (by kernel_rfl) (by decide) ?hox36 ?hkx36
      case hox36 => (simp only [List.getElem?_toArray, List.getElem?_cons_succ, List.getElem?_cons_zero]; exact rfl)
      intro K hK
      go_simp
      refine (len_any' HR11.out ((x.size : Int) + (y.size : Int)) (by rw [List.length_append, l11, ly]; simp) _).mono ?_
      rintro e x35 ⟨rfl, hb⟩
      have hS35 : Below wA.heap.size wA x35 := Below.trans hHeld (Below.mono hb (Below.size hHeld))
      clear hb hHeld
      go_simp
      refine hK.out _ _ hS35 (fun hHeld => ?_)
      clear hS35
      clear hK K
      try simp only [Act.put, List.setIfInBounds_toArray, List.set_cons_zero, List.set_cons_succ]
      refine WalkT.take (i := 41) (oi := _) (v := ?vx37) rfl (by decide) (by kernel_rfl) (by kernel_rfl) (fun _ _ _ h => h) (Or.inl ⟨by kernel_rfl, ?hyx37⟩) (by assumption) ?rx37
      case hyx37 => (intro wq hSw; go_simp; try (with_reducible rfl))
      try simp only [Act.put, List.setIfInBounds_toArray, List.set_cons_zero, List.set_cons_succ]
      refine WalkT.take (i := 42) (oi := _) (v := ?vx38) rfl (by decide) (by kernel_rfl) (by kernel_rfl) (fun _ _ _ h => h) (Or.inl ⟨by kernel_rfl, ?hyx38⟩) (by assumption) ?rx38
      case hyx38 => (intro wq hSw; go_simp; try (with_reducible rfl))
      try simp only [Act.put, List.setIfInBounds_toArray, List.set_cons_zero, List.set_cons_succ]
      refine WalkT.take (i := 43) (oi := _) (v := ?vx39) rfl (by decide) (by kernel_rfl) (by kernel_rfl) (fun _ _ _ h => h) (Or.inl ⟨by kernel_rfl, ?hyx39⟩) (by assumption) ?rx39
      case hyx39 => (intro wq hSw; go_simp; try (with_reducible rfl))
      try simp only [Act.put, List.setIfInBounds_toArray, List.set_cons_zero, List.set_cons_succ]
      refine WalkT.one (i := 44) (o := ?ox40) (by kernel_rfl) (by decide) ?hox40 ?hkx40
      case hox40 => (simp only [List.getElem?_toArray, List.getElem?_cons_succ, List.getElem?_cons_zero]; exact rfl)
      intro K hK
      go_simp
      refine (fixed_any (HT.out.below hHeld)).mono ?_
      rintro e x44 ⟨rfl, hb⟩
      have hS44 : Below wA.heap.size wA x44 := Below.trans hHeld (Below.mono hb (Below.size hHeld))
      clear hb hHeld
      go_simp
      refine hK.out _ _ hS44 (fun hHeld => ?_)
      clear hS44
      clear hK K
      try simp only [Act.put, List.setIfInBounds_toArray, List.set_cons_zero, List.set_cons_succ]
      refine WalkT.take (i := 45) (oi := _) (v := ?vx41) rfl (by decide) (by kernel_rfl) (by kernel_rfl) (fun _ _ _ h => h) (Or.inl ⟨by kernel_rfl, ?hyx41⟩) (by assumption) ?rx41
      case hyx41 => (intro wq hSw; go_simp; try (with_reducible rfl))
      try simp only [Act.put, List.setIfInBounds_toArray, List.set_cons_zero, List.set_cons_succ]
      refine WalkT.tail (by kernel_rfl) ?_
      have Hend := Lib.hid (Below.trans HW.out (Below.mono hHeld HW.out.size)); clear hHeld
      simp only [List.drop_succ_cons, List.drop_zero]
      go_wp2
      go_ret
      exact ⟨rfl, Hend.out⟩
end Go.Proofs.YtkdajlhmodmkoaaDoor
