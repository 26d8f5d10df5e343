/-
  Layer 2 (sha): ShaRuns walked.
-/
import Derived.Test.YtkdajlhmodmkoaaDoorShaL1
namespace Go.Proofs.YtkdajlhmodmkoaaDoor
open Go.RowKit
set_option linter.unusedVariables false
set_option linter.unusedSimpArgs false

theorem len_any' {v : Value} {l : List UInt8} (h : IsRun v l) (z : Int) (hz : (l.length : Int) = z) (w : World) : Calls Tryd.prog 32 #[v] w fun e w' => e = .returned (.int .i64 z) ∧ Below w.heap.size w w' := by
  subst hz; exact len_any h w
set_option maxRecDepth 100000 in
set_option maxHeartbeats 16000000 in
theorem shaRuns_walk (a : ByteArray) (ha : a.size ≤ maxLen) (b : ByteArray) (hb : b.size ≤ maxLen) {w : World} (hT : Tab w) :
    Calls Tryd.prog 8 #[.string a, .string b] w fun e w' => e = .returned (.bool true) ∧ Below w.heap.size w w' := by
  obtain ⟨m, -, h0, h1, h2, h3, hmin⟩ := cut_min a 200 200 rfl
  obtain ⟨n, -, k0, k1, k2, k3, kmin⟩ := cut_min b 200 200 rfl
  have hx := ext_le a m; have hy := ext_le b n
  have HT0 := Lib.hid hT; clear hT
  go_enter Tryd.func8, Tryd.ntmps8
  go_wp2
  go_still (by kernel_rfl)
  go_wp2_with fail
  clear hmin kmin h0 h1 h2 k0 k1 k2
  obtain ⟨x, hxe⟩ : ∃ x, a.extract 0 m = x := ⟨_, rfl⟩
  obtain ⟨y, hye⟩ : ∃ y, b.extract 0 n = y := ⟨_, rfl⟩
  rw [hxe] at hx; rw [hye] at hy
  rw [hxe, hye]
  clear hxe hye
  refine (start_any _).mono ?_
  rintro e w1 ⟨⟨v1, rfl, h1⟩, hb1⟩
  obtain ⟨c1, rfl, -⟩ := h1.form
  have hb1' : Below w.heap.size w w1 := Below.trans (below_drewN' (Below.refl _ _) 1) (Below.mono hb1 (Nat.le_refl _))
  clear hb1
  go_wp2_with fail
  refine (with_any (HT0.out.below hb1') h1 ⟨#[1]⟩ (by decide)).mono ?_
  rintro e w2 ⟨⟨v2, rfl, h2⟩, hb2⟩
  obtain ⟨cA, rfl, hsA, haA, hiA, hrA⟩ := h2.form
  have hB1 : Blk (w2.alloc (.cells Tryd.zeroCells30 30)) w2.heap.size 30 Tryd.zeroCells30 := Blk.new _ _ _
  have hB1' := hB1.setRow cA
  have hbA := hb1'.trans (hb2.mono hb1'.size)
  have hbB : Below w.heap.size w ((w2.alloc (.cells Tryd.zeroCells30 30)).setRow w2.heap.size cA) := below_setRow (hbA.alloc hbA.size _) hbA.size cA
  have HbB := Lib.hid hbB; have HR := Lib.hid hrA
  clear hbB hb2 hbA h2 hrA h1 hb1'
  go_wp2_with (refine wpList_store_row rfl 30 (Operand.tmp 7) (Operand.tmp 19) rfl w2.heap.size cA (by rfl) (by rfl) 30 _ hB1 hiA (hsA.symm ▸ rfl) haA ?_)
  generalize (w2.alloc (.cells Tryd.zeroCells30 30)).setRow w2.heap.size cA = wA at *
  generalize w2.heap.size = gA at *
  clear hB1
  have HB := Lib.hid hB1'; clear hB1'
  have HT := Lib.hid (HT0.out.below HbB.out); clear HT0
  have hcat : ¬ 9223372036854775807 < x.size + y.size := by omega
  have hwr : IntKind.i64.wrap (1 + (x.size : Int)) = 1 + (x.size : Int) := IntWalk.i64_in _ (by omega)
  refine wp_region_T (n := 48) (S := fun wq => Below wA.heap.size wA wq) (by kernel_rfl) (by kernel_rfl) (below_drewN' (Below.refl _ _) 1) (fun hHeld => ?_)
  refine WalkT.take (i := 0) (oi := _) (v := ?v0) rfl (by decide) (by kernel_rfl) (by kernel_rfl) (fun _ _ _ h => h) (Or.inl ⟨by rfl, ?h0⟩) (by assumption) ?r0
  case h0 => (intro wq hSw; go_simp; try (with_reducible rfl))
  try simp only [Act.put, List.setIfInBounds_toArray, List.set_cons_zero, List.set_cons_succ]
  refine WalkT.take (i := 4) (oi := _) (v := ?v4) rfl (by decide) (by kernel_rfl) (by kernel_rfl) (fun _ _ _ h => h) (Or.inl ⟨by rfl, ?h4⟩) (by assumption) ?r4
  case h4 => (intro wq hSw; go_simp; try (with_reducible rfl))
  try simp only [Act.put, List.setIfInBounds_toArray, List.set_cons_zero, List.set_cons_succ]
  refine WalkT.one (i := 1) (o := ?o1) (by kernel_rfl) (by decide) ?ho1 ?hk1
  case ho1 => (simp only [List.getElem?_toArray, List.getElem?_cons_succ, List.getElem?_cons_zero]; exact rfl)
  intro K hK
  go_simp
  refine (leaf_any (HT.out.below hHeld) x (by omega)).mono ?_
  rintro e x1 ⟨rfl, hb⟩
  rw [leafB_sum]
  have hS1 : Below wA.heap.size wA x1 := Below.trans hHeld (Below.mono hb (Below.size hHeld))
  clear hb hHeld
  go_simp
  refine hK.out _ _ hS1 (fun hHeld => ?_)
  clear hS1
  clear hK K
  try simp only [Act.put, List.setIfInBounds_toArray, List.set_cons_zero, List.set_cons_succ]
  refine WalkT.one (i := 2) (o := ?o2) (by kernel_rfl) (by decide) ?ho2 ?hk2
  case ho2 => (simp only [List.getElem?_toArray, List.getElem?_cons_succ, List.getElem?_cons_zero]; exact rfl)
  intro K hK
  go_simp
  refine (start_any _).mono ?_
  rintro e x2 ⟨⟨v2, rfl, h2⟩, hb⟩
  obtain ⟨c2, rfl, -⟩ := h2.form
  have Hr2 := Lib.hid h2; clear h2
  have hS2 : Below wA.heap.size wA x2 := Below.trans hHeld (Below.mono hb (Below.size hHeld))
  clear hb hHeld
  go_simp
  refine hK.out _ _ hS2 (fun hHeld => ?_)
  clear hS2
  clear hK K
  try simp only [Act.put, List.setIfInBounds_toArray, List.set_cons_zero, List.set_cons_succ]
  refine WalkT.one (i := 3) (o := ?o3) (by kernel_rfl) (by decide) ?ho3 ?hk3
  case ho3 => (simp only [List.getElem?_toArray, List.getElem?_cons_succ, List.getElem?_cons_zero]; exact rfl)
  intro K hK
  go_simp
  refine (with_any (HT.out.below hHeld) Hr2.out ⟨#[0]⟩ (by decide)).mono ?_
  rintro e x3 ⟨⟨v3, rfl, h3⟩, hb⟩
  obtain ⟨c3, rfl, -⟩ := h3.form
  have Hr3 := Lib.hid h3; clear h3
  have hS3 : Below wA.heap.size wA x3 := Below.trans hHeld (Below.mono hb (Below.size hHeld))
  clear hb hHeld
  go_simp
  refine hK.out _ _ hS3 (fun hHeld => ?_)
  clear hS3
  clear hK K
  try simp only [Act.put, List.setIfInBounds_toArray, List.set_cons_zero, List.set_cons_succ]
  refine WalkT.one (i := 5) (o := ?o5) (by kernel_rfl) (by decide) ?ho5 ?hk5
  case ho5 => (simp only [List.getElem?_toArray, List.getElem?_cons_succ, List.getElem?_cons_zero]; exact rfl)
  intro K hK
  go_simp
  refine (with_any (HT.out.below hHeld) Hr3.out x (by show 0 + 1 + x.size ≤ _; omega)).mono ?_
  rintro e x5 ⟨⟨v5, rfl, h5⟩, hb⟩
  obtain ⟨c5, rfl, -⟩ := h5.form
  have Hr5 := Lib.hid h5; clear h5
  have hS5 : Below wA.heap.size wA x5 := Below.trans hHeld (Below.mono hb (Below.size hHeld))
  clear hb hHeld
  go_simp
  refine hK.out _ _ hS5 (fun hHeld => ?_)
  clear hS5
  clear hK K
  try simp only [Act.put, List.setIfInBounds_toArray, List.set_cons_zero, List.set_cons_succ]
  refine WalkT.one (i := 6) (o := ?o6) (by kernel_rfl) (by decide) ?ho6 ?hk6
  case ho6 => (simp only [List.getElem?_toArray, List.getElem?_cons_succ, List.getElem?_cons_zero]; exact rfl)
  intro K hK
  go_simp
  refine (end_any' (HT.out.below hHeld) Hr5.out (⟨#[0]⟩ ++ x) (by simp; omega) (by rw [ba_append]; rfl)).mono ?_
  rintro e x6 ⟨rfl, hb⟩
  have hS6 : Below wA.heap.size wA x6 := Below.trans hHeld (Below.mono hb (Below.size hHeld))
  clear hb hHeld
  go_simp
  refine hK.out _ _ hS6 (fun hHeld => ?_)
  clear hS6
  clear hK K
  try simp only [Act.put, List.setIfInBounds_toArray, List.set_cons_zero, List.set_cons_succ]
  refine WalkT.take (i := 7) (oi := _) (v := ?v7) rfl (by decide) (by kernel_rfl) (by kernel_rfl) (fun _ _ _ h => h) (Or.inl ⟨by rfl, ?h7⟩) (by assumption) ?r7
  case h7 => (intro wq hSw; go_simp; try (with_reducible rfl))
  try simp only [Act.put, List.setIfInBounds_toArray, List.set_cons_zero, List.set_cons_succ]
  refine WalkT.take (i := 8) (oi := _) (v := ?v8) rfl (by decide) (by kernel_rfl) (by kernel_rfl) (fun _ _ _ h => h) (Or.inl ⟨by rfl, ?h8⟩) (by assumption) ?r8
  case h8 => (intro wq hSw; go_simp; try (with_reducible rfl))
  try simp only [Act.put, List.setIfInBounds_toArray, List.set_cons_zero, List.set_cons_succ]
  refine WalkT.take (i := 9) (oi := _) (v := ?v9) rfl (by decide) (by kernel_rfl) (by kernel_rfl) (fun _ _ _ h => h) (Or.inl ⟨by rfl, ?h9⟩) (by assumption) ?r9
  case h9 => (intro wq hSw; go_simp; try (with_reducible rfl))
  try simp only [Act.put, List.setIfInBounds_toArray, List.set_cons_zero, List.set_cons_succ]
  refine WalkT.take (i := 10) (oi := _) (v := ?v10) rfl (by decide) (by kernel_rfl) (by kernel_rfl) (fun _ _ _ h => h) (Or.inl ⟨by rfl, ?h10⟩) (by assumption) ?r10
  case h10 => (intro wq hSw; go_simp; try (with_reducible rfl))
  try simp only [Act.put, List.setIfInBounds_toArray, List.set_cons_zero, List.set_cons_succ]
  refine WalkT.take (i := 12) (oi := _) (v := _) rfl (by decide) (by kernel_rfl) (by kernel_rfl) (fun _ _ _ h => h) (yieldsIf_load_row (by rfl) 30 (Operand.tmp 7) rfl gA (by rfl) 30 cA (0, 0) _ (fun wq h => (Below.block h _ HB.out.lt).trans HB.out) Tryd.underlying30 rfl hiA) (by assumption) ?_
  try simp only [Act.put, List.setIfInBounds_toArray, List.set_cons_zero, List.set_cons_succ]
  refine WalkT.take (i := 13) (oi := _) (v := ?v13) rfl (by decide) (by kernel_rfl) (by kernel_rfl) (fun _ _ _ h => h) (Or.inl ⟨by rfl, ?h13⟩) (by assumption) ?r13
  case h13 => (intro wq hSw; go_simp; try (with_reducible rfl))
  try simp only [Act.put, List.setIfInBounds_toArray, List.set_cons_zero, List.set_cons_succ]
  refine WalkT.take (i := 14) (oi := _) (v := ?v14) rfl (by decide) (by kernel_rfl) (by kernel_rfl) (fun _ _ _ h => h) (Or.inl ⟨by rfl, ?h14⟩) (by assumption) ?r14
  case h14 => (intro wq hSw; go_simp; try (with_reducible rfl))
  try simp only [Act.put, List.setIfInBounds_toArray, List.set_cons_zero, List.set_cons_succ]
  refine WalkT.take (i := 15) (oi := _) (v := ?v15) rfl (by decide) (by kernel_rfl) (by kernel_rfl) (fun _ _ _ h => h) (Or.inl ⟨by rfl, ?h15⟩) (by assumption) ?r15
  case h15 => (intro wq hSw; go_simp; try (with_reducible rfl))
  try simp only [Act.put, List.setIfInBounds_toArray, List.set_cons_zero, List.set_cons_succ]
  refine WalkT.one (i := 11) (o := ?o11) (by kernel_rfl) (by decide) ?ho11 ?hk11
  case ho11 => (simp only [List.getElem?_toArray, List.getElem?_cons_succ, List.getElem?_cons_zero]; exact rfl)
  intro K hK
  go_simp
  refine (node_any (HT.out.below hHeld) x y (by omega) (by omega)).mono ?_
  rintro e x11 ⟨rfl, hb⟩
  rw [nodeB_sum]
  have hS11 : Below wA.heap.size wA x11 := Below.trans hHeld (Below.mono hb (Below.size hHeld))
  clear hb hHeld
  go_simp
  refine hK.out _ _ hS11 (fun hHeld => ?_)
  clear hS11
  clear hK K
  try simp only [Act.put, List.setIfInBounds_toArray, List.set_cons_zero, List.set_cons_succ]
  refine WalkT.one (i := 16) (o := ?o16) (by kernel_rfl) (by decide) ?ho16 ?hk16
  case ho16 => (simp only [List.getElem?_toArray, List.getElem?_cons_succ, List.getElem?_cons_zero]; exact rfl)
  intro K hK
  go_simp
  refine (with_any (HT.out.below hHeld) HR.out _ (by simp; omega)).mono ?_
  rintro e x16 ⟨⟨v16, rfl, h16⟩, hb⟩
  obtain ⟨c16, rfl, -⟩ := h16.form
  have Hr16 := Lib.hid h16; clear h16
  have hS16 : Below wA.heap.size wA x16 := Below.trans hHeld (Below.mono hb (Below.size hHeld))
  clear hb hHeld
  go_simp
  refine hK.out _ _ hS16 (fun hHeld => ?_)
  clear hS16
  clear hK K
  try simp only [Act.put, List.setIfInBounds_toArray, List.set_cons_zero, List.set_cons_succ]
  refine WalkT.one (i := 17) (o := ?o17) (by kernel_rfl) (by decide) ?ho17 ?hk17
  case ho17 => (simp only [List.getElem?_toArray, List.getElem?_cons_succ, List.getElem?_cons_zero]; exact rfl)
  intro K hK
  go_simp
  refine (end_any' (HT.out.below hHeld) Hr16.out (⟨#[1]⟩ ++ x ++ y) (by simp; omega) (by simp [ba_append])).mono ?_
  rintro e x17 ⟨rfl, hb⟩
  have hS17 : Below wA.heap.size wA x17 := Below.trans hHeld (Below.mono hb (Below.size hHeld))
  clear hb hHeld
  go_simp
  refine hK.out _ _ hS17 (fun hHeld => ?_)
  clear hS17
  clear hK K
  try simp only [Act.put, List.setIfInBounds_toArray, List.set_cons_zero, List.set_cons_succ]
  refine WalkT.take (i := 18) (oi := _) (v := ?v18) rfl (by decide) (by kernel_rfl) (by kernel_rfl) (fun _ _ _ h => h) (Or.inl ⟨by rfl, ?h18⟩) (by assumption) ?r18
  case h18 => (intro wq hSw; go_simp; try (with_reducible rfl))
  try simp only [Act.put, List.setIfInBounds_toArray, List.set_cons_zero, List.set_cons_succ]
  refine WalkT.take (i := 19) (oi := _) (v := ?v19) rfl (by decide) (by kernel_rfl) (by kernel_rfl) (fun _ _ _ h => h) (Or.inl ⟨by rfl, ?h19⟩) (by assumption) ?r19
  case h19 => (intro wq hSw; go_simp; try (with_reducible rfl))
  try simp only [Act.put, List.setIfInBounds_toArray, List.set_cons_zero, List.set_cons_succ]
  refine WalkT.take (i := 20) (oi := _) (v := ?v20) rfl (by decide) (by kernel_rfl) (by kernel_rfl) (fun _ _ _ h => h) (Or.inl ⟨by rfl, ?h20⟩) (by assumption) ?r20
  case h20 => (intro wq hSw; go_simp; try (with_reducible rfl))
  try simp only [Act.put, List.setIfInBounds_toArray, List.set_cons_zero, List.set_cons_succ]
  refine WalkT.take (i := 21) (oi := _) (v := ?v21) rfl (by decide) (by kernel_rfl) (by kernel_rfl) (fun _ _ _ h => h) (Or.inl ⟨by rfl, ?h21⟩) (by assumption) ?r21
  case h21 => (intro wq hSw; go_simp; try (with_reducible rfl))
  try simp only [Act.put, List.setIfInBounds_toArray, List.set_cons_zero, List.set_cons_succ]
  refine WalkT.take (i := 23) (oi := _) (v := ?v23) rfl (by decide) (by kernel_rfl) (by kernel_rfl) (fun _ _ _ h => h) (Or.inl ⟨by rfl, ?h23⟩) (by assumption) ?r23
  case h23 => (intro wq hSw; go_simp; try (with_reducible rfl))
  try simp only [Act.put, List.setIfInBounds_toArray, List.set_cons_zero, List.set_cons_succ]
  refine WalkT.one (i := 22) (o := ?o22) (by kernel_rfl) (by decide) ?ho22 ?hk22
  case ho22 => (simp only [List.getElem?_toArray, List.getElem?_cons_succ, List.getElem?_cons_zero]; exact rfl)
  intro K hK
  go_simp
  refine (node_any (HT.out.below hHeld) x _ (by omega) (by decide)).mono ?_
  rintro e x22 ⟨rfl, hb⟩
  rw [nodeB_sum, show ((⟨#[1]⟩ : ByteArray) ++ x ++ ⟨#[]⟩) = ⟨#[1]⟩ ++ x from ba_eq (by simp [ba_append])]
  have hS22 : Below wA.heap.size wA x22 := Below.trans hHeld (Below.mono hb (Below.size hHeld))
  clear hb hHeld
  go_simp
  refine hK.out _ _ hS22 (fun hHeld => ?_)
  clear hS22
  clear hK K
  try simp only [Act.put, List.setIfInBounds_toArray, List.set_cons_zero, List.set_cons_succ]
  refine WalkT.one (i := 24) (o := ?o24) (by kernel_rfl) (by decide) ?ho24 ?hk24
  case ho24 => (simp only [List.getElem?_toArray, List.getElem?_cons_succ, List.getElem?_cons_zero]; exact rfl)
  intro K hK
  go_simp
  refine (node_any (HT.out.below hHeld) _ x (by decide) (by omega)).mono ?_
  rintro e x24 ⟨rfl, hb⟩
  rw [nodeB_sum, show ((⟨#[1]⟩ : ByteArray) ++ ⟨#[]⟩ ++ x) = ⟨#[1]⟩ ++ x from ba_eq (by simp [ba_append])]
  have hS24 : Below wA.heap.size wA x24 := Below.trans hHeld (Below.mono hb (Below.size hHeld))
  clear hb hHeld
  go_simp
  refine hK.out _ _ hS24 (fun hHeld => ?_)
  clear hS24
  clear hK K
  try simp only [Act.put, List.setIfInBounds_toArray, List.set_cons_zero, List.set_cons_succ]
  refine WalkT.take (i := 25) (oi := _) (v := ?v25) rfl (by decide) (by kernel_rfl) (by kernel_rfl) (fun _ _ _ h => h) (Or.inl ⟨by rfl, ?h25⟩) (by assumption) ?r25
  case h25 => (intro wq hSw; go_simp; try (with_reducible rfl))
  try simp only [Act.put, List.setIfInBounds_toArray, List.set_cons_zero, List.set_cons_succ]
  refine WalkT.take (i := 26) (oi := _) (v := ?v26) rfl (by decide) (by kernel_rfl) (by kernel_rfl) (fun _ _ _ h => h) (Or.inl ⟨by rfl, ?h26⟩) (by assumption) ?r26
  case h26 => (intro wq hSw; go_simp; try (with_reducible rfl))
  try simp only [Act.put, List.setIfInBounds_toArray, List.set_cons_zero, List.set_cons_succ]
  refine WalkT.take (i := 27) (oi := _) (v := ?v27) rfl (by decide) (by kernel_rfl) (by kernel_rfl) (fun _ _ _ h => h) (Or.inl ⟨by rfl, ?h27⟩) (by assumption) ?r27
  case h27 => (intro wq hSw; go_simp; try (with_reducible rfl))
  try simp only [Act.put, List.setIfInBounds_toArray, List.set_cons_zero, List.set_cons_succ]
  refine WalkT.take (i := 28) (oi := _) (v := _) rfl (by decide) (by kernel_rfl) (by kernel_rfl) (fun _ _ _ h => h) (yieldsIf_load_row (by rfl) 30 (Operand.tmp 7) rfl gA (by rfl) 30 cA (0, 0) _ (fun wq h => (Below.block h _ HB.out.lt).trans HB.out) Tryd.underlying30 rfl hiA) (by assumption) ?_
  try simp only [Act.put, List.setIfInBounds_toArray, List.set_cons_zero, List.set_cons_succ]
  refine WalkT.take (i := 31) (oi := _) (v := _) rfl (by decide) (by kernel_rfl) (by kernel_rfl) (fun _ _ _ h => h) (yieldsIf_load_row (by rfl) 30 (Operand.tmp 7) rfl gA (by rfl) 30 cA (0, 0) _ (fun wq h => (Below.block h _ HB.out.lt).trans HB.out) Tryd.underlying30 rfl hiA) (by assumption) ?_
  try simp only [Act.put, List.setIfInBounds_toArray, List.set_cons_zero, List.set_cons_succ]
  refine WalkT.one (i := 29) (o := ?o29) (by kernel_rfl) (by decide) ?ho29 ?hk29
  case ho29 => (simp only [List.getElem?_toArray, List.getElem?_cons_succ, List.getElem?_cons_zero]; exact rfl)
  intro K hK
  go_simp
  refine (with_any (HT.out.below hHeld) HR.out ⟨#[]⟩ (by decide)).mono ?_
  rintro e x29 ⟨⟨v29, rfl, h29⟩, hb⟩
  obtain ⟨c29, rfl, -⟩ := h29.form
  have Hr29 := Lib.hid h29; clear h29
  have hS29 : Below wA.heap.size wA x29 := Below.trans hHeld (Below.mono hb (Below.size hHeld))
  clear hb hHeld
  go_simp
  refine hK.out _ _ hS29 (fun hHeld => ?_)
  clear hS29
  clear hK K
  try simp only [Act.put, List.setIfInBounds_toArray, List.set_cons_zero, List.set_cons_succ]
  refine WalkT.one (i := 30) (o := ?o30) (by kernel_rfl) (by decide) ?ho30 ?hk30
  case ho30 => (simp only [List.getElem?_toArray, List.getElem?_cons_succ, List.getElem?_cons_zero]; exact rfl)
  intro K hK
  go_simp
  refine (end_any' (HT.out.below hHeld) Hr29.out ⟨#[1]⟩ (by decide) rfl).mono ?_
  rintro e x30 ⟨rfl, hb⟩
  have hS30 : Below wA.heap.size wA x30 := Below.trans hHeld (Below.mono hb (Below.size hHeld))
  clear hb hHeld
  go_simp
  refine hK.out _ _ hS30 (fun hHeld => ?_)
  clear hS30
  clear hK K
  try simp only [Act.put, List.setIfInBounds_toArray, List.set_cons_zero, List.set_cons_succ]
  refine WalkT.one (i := 32) (o := ?o32) (by kernel_rfl) (by decide) ?ho32 ?hk32
  case ho32 => (simp only [List.getElem?_toArray, List.getElem?_cons_succ, List.getElem?_cons_zero]; exact rfl)
  intro K hK
  go_simp
  refine (end_any' (HT.out.below hHeld) HR.out ⟨#[1]⟩ (by decide) rfl).mono ?_
  rintro e x32 ⟨rfl, hb⟩
  have hS32 : Below wA.heap.size wA x32 := Below.trans hHeld (Below.mono hb (Below.size hHeld))
  clear hb hHeld
  go_simp
  refine hK.out _ _ hS32 (fun hHeld => ?_)
  clear hS32
  clear hK K
  try simp only [Act.put, List.setIfInBounds_toArray, List.set_cons_zero, List.set_cons_succ]
  refine WalkT.take (i := 33) (oi := _) (v := ?v33) rfl (by decide) (by kernel_rfl) (by kernel_rfl) (fun _ _ _ h => h) (Or.inl ⟨by rfl, ?h33⟩) (by assumption) ?r33
  case h33 => (intro wq hSw; go_simp; try (with_reducible rfl))
  try simp only [Act.put, List.setIfInBounds_toArray, List.set_cons_zero, List.set_cons_succ]
  refine WalkT.take (i := 34) (oi := _) (v := ?v34) rfl (by decide) (by kernel_rfl) (by kernel_rfl) (fun _ _ _ h => h) (Or.inl ⟨by rfl, ?h34⟩) (by assumption) ?r34
  case h34 => (intro wq hSw; go_simp; try (with_reducible rfl))
  try simp only [Act.put, List.setIfInBounds_toArray, List.set_cons_zero, List.set_cons_succ]
  refine WalkT.take (i := 35) (oi := _) (v := ?v35) rfl (by decide) (by kernel_rfl) (by kernel_rfl) (fun _ _ _ h => h) (Or.inl ⟨by rfl, ?h35⟩) (by assumption) ?r35
  case h35 => (intro wq hSw; go_simp; try (with_reducible rfl))
  try simp only [Act.put, List.setIfInBounds_toArray, List.set_cons_zero, List.set_cons_succ]
  refine WalkT.take (i := 36) (oi := _) (v := _) rfl (by decide) (by kernel_rfl) (by kernel_rfl) (fun _ _ _ h => h) (yieldsIf_load_row (by rfl) 30 (Operand.tmp 7) rfl gA (by rfl) 30 cA (0, 0) _ (fun wq h => (Below.block h _ HB.out.lt).trans HB.out) Tryd.underlying30 rfl hiA) (by assumption) ?_
  try simp only [Act.put, List.setIfInBounds_toArray, List.set_cons_zero, List.set_cons_succ]
  refine WalkT.take (i := 37) (oi := _) (v := ?v37) rfl (by decide) (by kernel_rfl) (by kernel_rfl) (fun _ _ _ h => h) (Or.inl ⟨by rfl, ?h37⟩) (by assumption) ?r37
  case h37 => (intro wq hSw; go_simp; try (with_reducible rfl))
  try simp only [Act.put, List.setIfInBounds_toArray, List.set_cons_zero, List.set_cons_succ]
  refine WalkT.take (i := 40) (oi := _) (v := ?v40) rfl (by decide) (by kernel_rfl) (by kernel_rfl) (fun _ _ _ h => h) (Or.inl ⟨by rfl, ?h40⟩) (by assumption) ?r40
  case h40 => (intro wq hSw; go_simp; try (with_reducible rfl))
  try simp only [Act.put, List.setIfInBounds_toArray, List.set_cons_zero, List.set_cons_succ]
  refine WalkT.take (i := 41) (oi := _) (v := ?v41) rfl (by decide) (by kernel_rfl) (by kernel_rfl) (fun _ _ _ h => h) (Or.inl ⟨by rfl, ?h41⟩) (by assumption) ?r41
  case h41 => (intro wq hSw; go_simp; try (with_reducible rfl))
  try simp only [Act.put, List.setIfInBounds_toArray, List.set_cons_zero, List.set_cons_succ]
  refine WalkT.take (i := 42) (oi := _) (v := ?v42) rfl (by decide) (by kernel_rfl) (by kernel_rfl) (fun _ _ _ h => h) (Or.inl ⟨by rfl, ?h42⟩) (by assumption) ?r42
  case h42 => (intro wq hSw; go_simp; try (with_reducible rfl))
  try simp only [Act.put, List.setIfInBounds_toArray, List.set_cons_zero, List.set_cons_succ]
  refine WalkT.one (i := 38) (o := ?o38) (by kernel_rfl) (by decide) ?ho38 ?hk38
  case ho38 => (simp only [List.getElem?_toArray, List.getElem?_cons_succ, List.getElem?_cons_zero]; exact rfl)
  intro K hK
  go_simp
  refine (with_any (HT.out.below hHeld) HR.out x (by show 1 + x.size ≤ _; omega)).mono ?_
  rintro e x38 ⟨⟨v38, rfl, h38⟩, hb⟩
  obtain ⟨c38, rfl, -⟩ := h38.form
  have Hr38 := Lib.hid h38; clear h38
  have hS38 : Below wA.heap.size wA x38 := Below.trans hHeld (Below.mono hb (Below.size hHeld))
  clear hb hHeld
  go_simp
  refine hK.out _ _ hS38 (fun hHeld => ?_)
  clear hS38
  clear hK K
  try simp only [Act.put, List.setIfInBounds_toArray, List.set_cons_zero, List.set_cons_succ]
  refine WalkT.one (i := 39) (o := ?o39) (by kernel_rfl) (by decide) ?ho39 ?hk39
  case ho39 => (simp only [List.getElem?_toArray, List.getElem?_cons_succ, List.getElem?_cons_zero]; exact rfl)
  intro K hK
  go_simp
  refine (len_any' Hr38.out (1 + (x.size : Int)) (by simp; omega) _).mono ?_
  rintro e x39 ⟨rfl, hb⟩
  have hS39 : Below wA.heap.size wA x39 := Below.trans hHeld (Below.mono hb (Below.size hHeld))
  clear hb hHeld
  go_simp
  refine hK.out _ _ hS39 (fun hHeld => ?_)
  clear hS39
  clear hK K
  try simp only [Act.put, List.setIfInBounds_toArray, List.set_cons_zero, List.set_cons_succ]
  refine WalkT.take (i := 43) (oi := _) (v := ?v43) rfl (by decide) (by kernel_rfl) (by kernel_rfl) (fun _ _ _ h => h) (Or.inl ⟨by rfl, ?h43⟩) (by assumption) ?r43
  case h43 => (intro wq hSw; go_simp; try (with_reducible rfl))
  try simp only [Act.put, List.setIfInBounds_toArray, List.set_cons_zero, List.set_cons_succ]
  refine WalkT.take (i := 44) (oi := _) (v := ?v44) rfl (by decide) (by kernel_rfl) (by kernel_rfl) (fun _ _ _ h => h) (Or.inl ⟨by rfl, ?h44⟩) (by assumption) ?r44
  case h44 => (intro wq hSw; go_simp; try (with_reducible rfl))
  try simp only [Act.put, List.setIfInBounds_toArray, List.set_cons_zero, List.set_cons_succ]
  refine WalkT.take (i := 45) (oi := _) (v := ?v45) rfl (by decide) (by kernel_rfl) (by kernel_rfl) (fun _ _ _ h => h) (Or.inl ⟨by rfl, ?h45⟩) (by assumption) ?r45
  case h45 => (intro wq hSw; go_simp; try (with_reducible rfl))
  try simp only [Act.put, List.setIfInBounds_toArray, List.set_cons_zero, List.set_cons_succ]
  refine WalkT.one (i := 46) (o := ?o46) (by kernel_rfl) (by decide) ?ho46 ?hk46
  case ho46 => (simp only [List.getElem?_toArray, List.getElem?_cons_succ, List.getElem?_cons_zero]; exact rfl)
  intro K hK
  go_simp
  refine (fixed_any (HT.out.below hHeld)).mono ?_
  rintro e x46 ⟨rfl, hb⟩
  have hS46 : Below wA.heap.size wA x46 := Below.trans hHeld (Below.mono hb (Below.size hHeld))
  clear hb hHeld
  go_simp
  refine hK.out _ _ hS46 (fun hHeld => ?_)
  clear hS46
  clear hK K
  try simp only [Act.put, List.setIfInBounds_toArray, List.set_cons_zero, List.set_cons_succ]
  refine WalkT.take (i := 47) (oi := _) (v := ?v47) rfl (by decide) (by kernel_rfl) (by kernel_rfl) (fun _ _ _ h => h) (Or.inl ⟨by rfl, ?h47⟩) (by assumption) ?r47
  case h47 => (intro wq hSw; go_simp; try (with_reducible rfl))
  try simp only [Act.put, List.setIfInBounds_toArray, List.set_cons_zero, List.set_cons_succ]
  refine WalkT.tail (by kernel_rfl) ?_
  have Hend := Lib.hid (HbB.out.trans (Below.mono hHeld HbB.out.size)); clear hHeld
  simp only [List.drop_succ_cons, List.drop_zero]
  go_wp2
  go_ret
  exact ⟨rfl, Hend.out⟩
end Go.Proofs.YtkdajlhmodmkoaaDoor
