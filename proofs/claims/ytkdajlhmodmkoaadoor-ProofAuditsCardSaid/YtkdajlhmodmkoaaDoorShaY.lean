/-
  Layer 2 (sha): the fixed calls walked.
-/
import Derived.Test.YtkdajlhmodmkoaaDoorShaZ
import Derived.Test.YtkdajlhmodmkoaaDoorShaD
import Derived.Test.YtkdajlhmodmkoaaDoorShaX
namespace Go.Proofs.YtkdajlhmodmkoaaDoor
open Go.RowKit
set_option linter.unusedVariables false
set_option linter.unusedSimpArgs false

theorem hexB_of {s : ByteArray} {l0 l : List UInt8} (h0 : s.data.toList = l0) (h : ShaM.hex (ShaM.sum l0) = l) : hexB (sumB s) = ⟨l.toArray⟩ := by
  unfold hexB sumB
  rw [h0]
  simp only []
  rw [h]
theorem hexB_abc : hexB (sumB ⟨#[97, 98, 99]⟩) = ⟨#[98, 97, 55, 56, 49, 54, 98, 102, 56, 102, 48, 49, 99, 102, 101, 97, 52, 49, 52, 49, 52, 48, 100, 101, 53, 100, 97, 101, 50, 50, 50, 51, 98, 48, 48, 51, 54, 49, 97, 51, 57, 54, 49, 55, 55, 97, 57, 99, 98, 52, 49, 48, 102, 102, 54, 49, 102, 50, 48, 48, 49, 53, 97, 100]⟩ := hexB_of rfl hex_abc
theorem hexB_nil : hexB (sumB ⟨#[]⟩) = ⟨#[101, 51, 98, 48, 99, 52, 52, 50, 57, 56, 102, 99, 49, 99, 49, 52, 57, 97, 102, 98, 102, 52, 99, 56, 57, 57, 54, 102, 98, 57, 50, 52, 50, 55, 97, 101, 52, 49, 101, 52, 54, 52, 57, 98, 57, 51, 52, 99, 97, 52, 57, 53, 57, 57, 49, 98, 55, 56, 53, 50, 98, 56, 53, 53]⟩ := hexB_of rfl hex_nil
theorem hexB_two : hexB ⟨#[15, 160]⟩ = ⟨#[48, 102, 97, 48]⟩ := by unfold hexB; simp only []; rw [hex_two]
section
variable {P : Program}
theorem wpList_load_rowG {ops : Array Oper} {rest : List Oper} {o : Oper} {a : Act} {w : World} {Q : Exit → Act → World → Prop} (hw : Region.wanted o (yielded ops a.tmps) = true) (ty : TypeId) (x : Operand) (ho : o.op = .load ty x)
    (g : Nat) (hx : a.eval x = .pointer (some ⟨g, 0, none⟩)) (t : TypeId) (cs : Array Value) (fr : Nat × Nat) (d : TypeDesc) (hg : w.heap[g]? = some (.cells cs t fr))
    (hu : P.underlying ty = some d) (hd : (match d with | .struct _ | .array _ _ => true | _ => false) = true) (hi : (P.info? ty).map (·.size) = some cs.size)
    (h : wpList P ops Q rest (a.put o.dst (.agg cs)) w) : wpList P ops Q (o :: rest) a w :=
  wpList_step fun K hK => by rw [if_pos hw]; exact wp_load_row ty x ho g hx t cs fr d hg hu hd hi (hK _ _ h)
end
theorem hex_any' (s : ByteArray) (hs : s.size ≤ 100000000) (w : World) : Calls Tryd.prog 26 #[.string s] w fun e w' => e = .returned (.string (hexB s)) ∧ Below w.heap.size w w' := hex_any s hs w
theorem end_any' {w : World} (hT : Tab w) {v : Value} {l : List UInt8} (h : IsRun v l) (s : ByteArray) (hl : l.length ≤ 80000000) (hs : s.data.toList = l) :
    Calls Tryd.prog 31 #[v] w fun e w' => e = .returned (.string (sumB s)) ∧ Below w.heap.size w w' := (end_any hT h (by omega)).mono (by rintro e w' ⟨rfl, hb⟩; exact ⟨by unfold sumB; rw [hs], hb⟩)
set_option maxRecDepth 100000 in
set_option maxHeartbeats 1000000 in
theorem fixed_any {w : World} (hT : Tab w) : Calls Tryd.prog 28 #[] w fun e w' => e = .returned (.bool true) ∧ Below w.heap.size w w' := by
  have HT := Lib.hid hT; clear hT
  go_enter Tryd.func28, Tryd.ntmps28
  go_wp2_with fail
  refine (start_any w).mono ?_
  rintro e w1 ⟨⟨v1, rfl, h1⟩, hb1⟩
  obtain ⟨c1, rfl, hs1, ha1, hi1, hr1⟩ := h1.form
  have hB1 : Blk (w1.alloc (.cells Tryd.zeroCells30 30)) w1.heap.size 30 Tryd.zeroCells30 := Blk.new _ _ _
  have hB1' := hB1.setRow c1
  have hbA : Below w.heap.size w ((w1.alloc (.cells Tryd.zeroCells30 30)).setRow w1.heap.size c1) := below_setRow (hb1.alloc hb1.size _) hb1.size c1
  have HbA := Lib.hid hbA; have Hr1 := Lib.hid hr1
  clear hbA hb1 h1 hr1
  go_wp2_with (first | (refine wpList_store_row rfl 30 (Operand.tmp 1) (Operand.tmp 3) rfl w1.heap.size c1 (by rfl) (by rfl) 30 _ hB1 hi1 (hs1.symm ▸ rfl) ha1 ?_) | (refine wpList_load_row rfl 30 (Operand.tmp 1) rfl w1.heap.size (by rfl) 30 c1 (0, 0) _ hB1' Tryd.underlying30 rfl hi1 ?_))
  generalize (w1.alloc (.cells Tryd.zeroCells30 30)).setRow w1.heap.size c1 = wA at *
  generalize w1.heap.size = g1 at *
  clear hB1
  have HB1 := Lib.hid hB1'; clear hB1'
  refine (with_any (HT.out.below HbA.out) Hr1.out ⟨#[97, 98]⟩ (by decide)).mono ?_
  rintro e w2 ⟨⟨v2, rfl, h2⟩, hb2⟩
  obtain ⟨c2, rfl, hs2, ha2, hi2, hr2⟩ := h2.form
  have hB2 : Blk (w2.alloc (.cells Tryd.zeroCells30 30)) w2.heap.size 30 Tryd.zeroCells30 := Blk.new _ _ _
  have hB2' := hB2.setRow c2
  have hne : g1 ≠ w2.heap.size := by have := hb2.size; have := HB1.out.lt; omega
  have hbB : Below w.heap.size w ((w2.alloc (.cells Tryd.zeroCells30 30)).setRow w2.heap.size c2) := below_setRow ((HbA.out.trans (hb2.mono HbA.out.size)).alloc (HbA.out.trans (hb2.mono HbA.out.size)).size _) (HbA.out.trans (hb2.mono HbA.out.size)).size c2
  have hC1 : Blk ((w2.alloc (.cells Tryd.zeroCells30 30)).setRow w2.heap.size c2) g1 30 c1 := (Blk.alloc ((hb2.block _ HB1.out.lt).trans HB1.out) _).setRow_far c2 hne
  have Hr2 := Lib.hid hr2; have Hb0 := Lib.hid hbB; have HC1 := Lib.hid hC1
  clear hb2 h2 hr2 hbB hC1 hne HB1 HbA
  go_wp2_with (first | (refine wpList_store_row rfl 30 (Operand.tmp 2) (Operand.tmp 5) rfl w2.heap.size c2 (by rfl) (by rfl) 30 _ hB2 hi2 (hs2.symm ▸ rfl) ha2 ?_))
  generalize (w2.alloc (.cells Tryd.zeroCells30 30)).setRow w2.heap.size c2 = wB at *
  generalize w2.heap.size = g2 at *
  clear hB2
  have HC2 := Lib.hid hB2'; clear hB2' 
  go_wp2_with fail
  refine (sum_any (HT.out.below Hb0.out) ⟨#[97, 98, 99]⟩ (by decide)).mono ?_
  rintro e x1 ⟨rfl, hb1⟩
  have Hb1 := Lib.hid (Hb0.out.trans (hb1.mono Hb0.out.size))
  have hD1 := HC1.out; have hD2 := HC2.out
  clear HC1 HC2
  have HC1 := Lib.hid ((hb1.block _ (Blk.lt hD1)).trans hD1); have HC2 := Lib.hid ((hb1.block _ (Blk.lt hD2)).trans hD2)
  clear hD1 hD2 hb1 Hb0
  have hE1 : Blk x1 g1 30 c1 := HC1.out
  have hE2 : Blk x1 g2 30 c2 := HC2.out
  go_wp2_with (first | (refine wpList_load_rowG (by rfl) 30 (Operand.tmp 1) rfl g1 (by rfl) 30 c1 (0, 0) _ hE1 Tryd.underlying30 rfl hi1 ?_) | (refine wpList_load_rowG (by rfl) 30 (Operand.tmp 2) rfl g2 (by rfl) 30 c2 (0, 0) _ hE2 Tryd.underlying30 rfl hi2 ?_))
  clear hE1 hE2
  refine (hex_any' (sumB ⟨#[97, 98, 99]⟩) (by rw [sumB_size]; decide) _).mono ?_
  rintro e x2 ⟨rfl, hb2⟩
  rw [hexB_abc]
  have Hb2 := Lib.hid (Hb1.out.trans (hb2.mono Hb1.out.size))
  have hD1 := HC1.out; have hD2 := HC2.out
  clear HC1 HC2
  have HC1 := Lib.hid ((hb2.block _ (Blk.lt hD1)).trans hD1); have HC2 := Lib.hid ((hb2.block _ (Blk.lt hD2)).trans hD2)
  clear hD1 hD2 hb2 Hb1
  have hE1 : Blk x2 g1 30 c1 := HC1.out
  have hE2 : Blk x2 g2 30 c2 := HC2.out
  go_wp2_with (first | (refine wpList_load_rowG (by rfl) 30 (Operand.tmp 1) rfl g1 (by rfl) 30 c1 (0, 0) _ hE1 Tryd.underlying30 rfl hi1 ?_) | (refine wpList_load_rowG (by rfl) 30 (Operand.tmp 2) rfl g2 (by rfl) 30 c2 (0, 0) _ hE2 Tryd.underlying30 rfl hi2 ?_))
  clear hE1 hE2
  refine (sum_any (HT.out.below Hb2.out) ⟨#[]⟩ (by decide)).mono ?_
  rintro e x3 ⟨rfl, hb3⟩
  have Hb3 := Lib.hid (Hb2.out.trans (hb3.mono Hb2.out.size))
  have hD1 := HC1.out; have hD2 := HC2.out
  clear HC1 HC2
  have HC1 := Lib.hid ((hb3.block _ (Blk.lt hD1)).trans hD1); have HC2 := Lib.hid ((hb3.block _ (Blk.lt hD2)).trans hD2)
  clear hD1 hD2 hb3 Hb2
  have hE1 : Blk x3 g1 30 c1 := HC1.out
  have hE2 : Blk x3 g2 30 c2 := HC2.out
  go_wp2_with (first | (refine wpList_load_rowG (by rfl) 30 (Operand.tmp 1) rfl g1 (by rfl) 30 c1 (0, 0) _ hE1 Tryd.underlying30 rfl hi1 ?_) | (refine wpList_load_rowG (by rfl) 30 (Operand.tmp 2) rfl g2 (by rfl) 30 c2 (0, 0) _ hE2 Tryd.underlying30 rfl hi2 ?_))
  clear hE1 hE2
  refine (hex_any' (sumB ⟨#[]⟩) (by rw [sumB_size]; decide) _).mono ?_
  rintro e x4 ⟨rfl, hb4⟩
  rw [hexB_nil]
  have Hb4 := Lib.hid (Hb3.out.trans (hb4.mono Hb3.out.size))
  have hD1 := HC1.out; have hD2 := HC2.out
  clear HC1 HC2
  have HC1 := Lib.hid ((hb4.block _ (Blk.lt hD1)).trans hD1); have HC2 := Lib.hid ((hb4.block _ (Blk.lt hD2)).trans hD2)
  clear hD1 hD2 hb4 Hb3
  have hE1 : Blk x4 g1 30 c1 := HC1.out
  have hE2 : Blk x4 g2 30 c2 := HC2.out
  go_wp2_with (first | (refine wpList_load_rowG (by rfl) 30 (Operand.tmp 1) rfl g1 (by rfl) 30 c1 (0, 0) _ hE1 Tryd.underlying30 rfl hi1 ?_) | (refine wpList_load_rowG (by rfl) 30 (Operand.tmp 2) rfl g2 (by rfl) 30 c2 (0, 0) _ hE2 Tryd.underlying30 rfl hi2 ?_))
  clear hE1 hE2
  refine (with_any (HT.out.below Hb4.out) Hr2.out ⟨#[99]⟩ (by decide)).mono ?_
  rintro e x5 ⟨⟨v3, rfl, h3⟩, hb5⟩
  obtain ⟨c3, rfl, -⟩ := h3.form
  have Hr3 := Lib.hid h3; clear h3
  have Hb5 := Lib.hid (Hb4.out.trans (hb5.mono Hb4.out.size))
  have hD1 := HC1.out; have hD2 := HC2.out
  clear HC1 HC2
  have HC1 := Lib.hid ((hb5.block _ (Blk.lt hD1)).trans hD1); have HC2 := Lib.hid ((hb5.block _ (Blk.lt hD2)).trans hD2)
  clear hD1 hD2 hb5 Hb4
  have hE1 : Blk x5 g1 30 c1 := HC1.out
  have hE2 : Blk x5 g2 30 c2 := HC2.out
  go_wp2_with (first | (refine wpList_load_rowG (by rfl) 30 (Operand.tmp 1) rfl g1 (by rfl) 30 c1 (0, 0) _ hE1 Tryd.underlying30 rfl hi1 ?_) | (refine wpList_load_rowG (by rfl) 30 (Operand.tmp 2) rfl g2 (by rfl) 30 c2 (0, 0) _ hE2 Tryd.underlying30 rfl hi2 ?_))
  clear hE1 hE2
  refine (end_any' (HT.out.below Hb5.out) Hr3.out ⟨#[97, 98, 99]⟩ (by decide) rfl).mono ?_
  rintro e x6 ⟨rfl, hb6⟩
  have Hb6 := Lib.hid (Hb5.out.trans (hb6.mono Hb5.out.size))
  have hD1 := HC1.out; have hD2 := HC2.out
  clear HC1 HC2
  have HC1 := Lib.hid ((hb6.block _ (Blk.lt hD1)).trans hD1); have HC2 := Lib.hid ((hb6.block _ (Blk.lt hD2)).trans hD2)
  clear hD1 hD2 hb6 Hb5
  have hE1 : Blk x6 g1 30 c1 := HC1.out
  have hE2 : Blk x6 g2 30 c2 := HC2.out
  go_wp2_with (first | (refine wpList_load_rowG (by rfl) 30 (Operand.tmp 1) rfl g1 (by rfl) 30 c1 (0, 0) _ hE1 Tryd.underlying30 rfl hi1 ?_) | (refine wpList_load_rowG (by rfl) 30 (Operand.tmp 2) rfl g2 (by rfl) 30 c2 (0, 0) _ hE2 Tryd.underlying30 rfl hi2 ?_))
  clear hE1 hE2
  refine (sum_any (HT.out.below Hb6.out) ⟨#[97, 98, 99]⟩ (by decide)).mono ?_
  rintro e x7 ⟨rfl, hb7⟩
  have Hb7 := Lib.hid (Hb6.out.trans (hb7.mono Hb6.out.size))
  have hD1 := HC1.out; have hD2 := HC2.out
  clear HC1 HC2
  have HC1 := Lib.hid ((hb7.block _ (Blk.lt hD1)).trans hD1); have HC2 := Lib.hid ((hb7.block _ (Blk.lt hD2)).trans hD2)
  clear hD1 hD2 hb7 Hb6
  have hE1 : Blk x7 g1 30 c1 := HC1.out
  have hE2 : Blk x7 g2 30 c2 := HC2.out
  go_wp2_with (first | (refine wpList_load_rowG (by rfl) 30 (Operand.tmp 1) rfl g1 (by rfl) 30 c1 (0, 0) _ hE1 Tryd.underlying30 rfl hi1 ?_) | (refine wpList_load_rowG (by rfl) 30 (Operand.tmp 2) rfl g2 (by rfl) 30 c2 (0, 0) _ hE2 Tryd.underlying30 rfl hi2 ?_))
  clear hE1 hE2
  refine (len_any Hr1.out _).mono ?_
  rintro e x8 ⟨rfl, hb8⟩
  have Hb8 := Lib.hid (Hb7.out.trans (hb8.mono Hb7.out.size))
  have hD1 := HC1.out; have hD2 := HC2.out
  clear HC1 HC2
  have HC1 := Lib.hid ((hb8.block _ (Blk.lt hD1)).trans hD1); have HC2 := Lib.hid ((hb8.block _ (Blk.lt hD2)).trans hD2)
  clear hD1 hD2 hb8 Hb7
  have hE1 : Blk x8 g1 30 c1 := HC1.out
  have hE2 : Blk x8 g2 30 c2 := HC2.out
  go_wp2_with (first | (refine wpList_load_rowG (by rfl) 30 (Operand.tmp 1) rfl g1 (by rfl) 30 c1 (0, 0) _ hE1 Tryd.underlying30 rfl hi1 ?_) | (refine wpList_load_rowG (by rfl) 30 (Operand.tmp 2) rfl g2 (by rfl) 30 c2 (0, 0) _ hE2 Tryd.underlying30 rfl hi2 ?_))
  clear hE1 hE2
  refine (len_any Hr2.out _).mono ?_
  rintro e x9 ⟨rfl, hb9⟩
  have Hb9 := Lib.hid (Hb8.out.trans (hb9.mono Hb8.out.size))
  have hD1 := HC1.out; have hD2 := HC2.out
  clear HC1 HC2
  have HC1 := Lib.hid ((hb9.block _ (Blk.lt hD1)).trans hD1); have HC2 := Lib.hid ((hb9.block _ (Blk.lt hD2)).trans hD2)
  clear hD1 hD2 hb9 Hb8
  have hE1 : Blk x9 g1 30 c1 := HC1.out
  have hE2 : Blk x9 g2 30 c2 := HC2.out
  go_wp2_with (first | (refine wpList_load_rowG (by rfl) 30 (Operand.tmp 1) rfl g1 (by rfl) 30 c1 (0, 0) _ hE1 Tryd.underlying30 rfl hi1 ?_) | (refine wpList_load_rowG (by rfl) 30 (Operand.tmp 2) rfl g2 (by rfl) 30 c2 (0, 0) _ hE2 Tryd.underlying30 rfl hi2 ?_))
  clear hE1 hE2
  refine (end_any' (HT.out.below Hb9.out) Hr1.out ⟨#[]⟩ (by decide) rfl).mono ?_
  rintro e x10 ⟨rfl, hb10⟩
  have Hb10 := Lib.hid (Hb9.out.trans (hb10.mono Hb9.out.size))
  have hD1 := HC1.out; have hD2 := HC2.out
  clear HC1 HC2
  have HC1 := Lib.hid ((hb10.block _ (Blk.lt hD1)).trans hD1); have HC2 := Lib.hid ((hb10.block _ (Blk.lt hD2)).trans hD2)
  clear hD1 hD2 hb10 Hb9
  have hE1 : Blk x10 g1 30 c1 := HC1.out
  have hE2 : Blk x10 g2 30 c2 := HC2.out
  go_wp2_with (first | (refine wpList_load_rowG (by rfl) 30 (Operand.tmp 1) rfl g1 (by rfl) 30 c1 (0, 0) _ hE1 Tryd.underlying30 rfl hi1 ?_) | (refine wpList_load_rowG (by rfl) 30 (Operand.tmp 2) rfl g2 (by rfl) 30 c2 (0, 0) _ hE2 Tryd.underlying30 rfl hi2 ?_))
  clear hE1 hE2
  refine (sum_any (HT.out.below Hb10.out) ⟨#[]⟩ (by decide)).mono ?_
  rintro e x11 ⟨rfl, hb11⟩
  have Hb11 := Lib.hid (Hb10.out.trans (hb11.mono Hb10.out.size))
  have hD1 := HC1.out; have hD2 := HC2.out
  clear HC1 HC2
  have HC1 := Lib.hid ((hb11.block _ (Blk.lt hD1)).trans hD1); have HC2 := Lib.hid ((hb11.block _ (Blk.lt hD2)).trans hD2)
  clear hD1 hD2 hb11 Hb10
  have hE1 : Blk x11 g1 30 c1 := HC1.out
  have hE2 : Blk x11 g2 30 c2 := HC2.out
  go_wp2_with (first | (refine wpList_load_rowG (by rfl) 30 (Operand.tmp 1) rfl g1 (by rfl) 30 c1 (0, 0) _ hE1 Tryd.underlying30 rfl hi1 ?_) | (refine wpList_load_rowG (by rfl) 30 (Operand.tmp 2) rfl g2 (by rfl) 30 c2 (0, 0) _ hE2 Tryd.underlying30 rfl hi2 ?_))
  clear hE1 hE2
  refine (leaf_any (HT.out.below Hb11.out) ⟨#[120]⟩ (by decide)).mono ?_
  rintro e x12 ⟨rfl, hb12⟩
  rw [leafB_sum, show (⟨#[0]⟩ ++ ⟨#[120]⟩ : ByteArray) = ⟨#[0, 120]⟩ from ba_eq (by rw [ba_append]; rfl)]
  have Hb12 := Lib.hid (Hb11.out.trans (hb12.mono Hb11.out.size))
  have hD1 := HC1.out; have hD2 := HC2.out
  clear HC1 HC2
  have HC1 := Lib.hid ((hb12.block _ (Blk.lt hD1)).trans hD1); have HC2 := Lib.hid ((hb12.block _ (Blk.lt hD2)).trans hD2)
  clear hD1 hD2 hb12 Hb11
  have hE1 : Blk x12 g1 30 c1 := HC1.out
  have hE2 : Blk x12 g2 30 c2 := HC2.out
  go_wp2_with (first | (refine wpList_load_rowG (by rfl) 30 (Operand.tmp 1) rfl g1 (by rfl) 30 c1 (0, 0) _ hE1 Tryd.underlying30 rfl hi1 ?_) | (refine wpList_load_rowG (by rfl) 30 (Operand.tmp 2) rfl g2 (by rfl) 30 c2 (0, 0) _ hE2 Tryd.underlying30 rfl hi2 ?_))
  clear hE1 hE2
  refine (sum_any (HT.out.below Hb12.out) ⟨#[0, 120]⟩ (by decide)).mono ?_
  rintro e x13 ⟨rfl, hb13⟩
  have Hb13 := Lib.hid (Hb12.out.trans (hb13.mono Hb12.out.size))
  have hD1 := HC1.out; have hD2 := HC2.out
  clear HC1 HC2
  have HC1 := Lib.hid ((hb13.block _ (Blk.lt hD1)).trans hD1); have HC2 := Lib.hid ((hb13.block _ (Blk.lt hD2)).trans hD2)
  clear hD1 hD2 hb13 Hb12
  have hE1 : Blk x13 g1 30 c1 := HC1.out
  have hE2 : Blk x13 g2 30 c2 := HC2.out
  go_wp2_with (first | (refine wpList_load_rowG (by rfl) 30 (Operand.tmp 1) rfl g1 (by rfl) 30 c1 (0, 0) _ hE1 Tryd.underlying30 rfl hi1 ?_) | (refine wpList_load_rowG (by rfl) 30 (Operand.tmp 2) rfl g2 (by rfl) 30 c2 (0, 0) _ hE2 Tryd.underlying30 rfl hi2 ?_))
  clear hE1 hE2
  refine (node_any (HT.out.below Hb13.out) ⟨#[108]⟩ ⟨#[114]⟩ (by decide) (by decide)).mono ?_
  rintro e x14 ⟨rfl, hb14⟩
  rw [nodeB_sum, show (⟨#[1]⟩ ++ ⟨#[108]⟩ ++ ⟨#[114]⟩ : ByteArray) = ⟨#[1, 108, 114]⟩ from ba_eq (by rw [ba_append, ba_append]; rfl)]
  have Hb14 := Lib.hid (Hb13.out.trans (hb14.mono Hb13.out.size))
  have hD1 := HC1.out; have hD2 := HC2.out
  clear HC1 HC2
  have HC1 := Lib.hid ((hb14.block _ (Blk.lt hD1)).trans hD1); have HC2 := Lib.hid ((hb14.block _ (Blk.lt hD2)).trans hD2)
  clear hD1 hD2 hb14 Hb13
  have hE1 : Blk x14 g1 30 c1 := HC1.out
  have hE2 : Blk x14 g2 30 c2 := HC2.out
  go_wp2_with (first | (refine wpList_load_rowG (by rfl) 30 (Operand.tmp 1) rfl g1 (by rfl) 30 c1 (0, 0) _ hE1 Tryd.underlying30 rfl hi1 ?_) | (refine wpList_load_rowG (by rfl) 30 (Operand.tmp 2) rfl g2 (by rfl) 30 c2 (0, 0) _ hE2 Tryd.underlying30 rfl hi2 ?_))
  clear hE1 hE2
  refine (sum_any (HT.out.below Hb14.out) ⟨#[1, 108, 114]⟩ (by decide)).mono ?_
  rintro e x15 ⟨rfl, hb15⟩
  have Hb15 := Lib.hid (Hb14.out.trans (hb15.mono Hb14.out.size))
  have hD1 := HC1.out; have hD2 := HC2.out
  clear HC1 HC2
  have HC1 := Lib.hid ((hb15.block _ (Blk.lt hD1)).trans hD1); have HC2 := Lib.hid ((hb15.block _ (Blk.lt hD2)).trans hD2)
  clear hD1 hD2 hb15 Hb14
  have hE1 : Blk x15 g1 30 c1 := HC1.out
  have hE2 : Blk x15 g2 30 c2 := HC2.out
  go_wp2_with (first | (refine wpList_load_rowG (by rfl) 30 (Operand.tmp 1) rfl g1 (by rfl) 30 c1 (0, 0) _ hE1 Tryd.underlying30 rfl hi1 ?_) | (refine wpList_load_rowG (by rfl) 30 (Operand.tmp 2) rfl g2 (by rfl) 30 c2 (0, 0) _ hE2 Tryd.underlying30 rfl hi2 ?_))
  clear hE1 hE2
  refine (hex_any' ⟨#[15, 160]⟩ (by decide) _).mono ?_
  rintro e x16 ⟨rfl, hb16⟩
  rw [hexB_two]
  have Hb16 := Lib.hid (Hb15.out.trans (hb16.mono Hb15.out.size))
  have hD1 := HC1.out; have hD2 := HC2.out
  clear HC1 HC2
  have HC1 := Lib.hid ((hb16.block _ (Blk.lt hD1)).trans hD1); have HC2 := Lib.hid ((hb16.block _ (Blk.lt hD2)).trans hD2)
  clear hD1 hD2 hb16 Hb15
  have hE1 : Blk x16 g1 30 c1 := HC1.out
  have hE2 : Blk x16 g2 30 c2 := HC2.out
  go_wp2
  go_ret
  exact ⟨rfl, Hb16.out⟩
end Go.Proofs.YtkdajlhmodmkoaaDoor
