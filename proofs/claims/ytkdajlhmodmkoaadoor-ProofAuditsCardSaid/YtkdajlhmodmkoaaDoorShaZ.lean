/-
  Layer 2 (sha): Start and Len walked; sums as strings.
-/
import Derived.Test.YtkdajlhmodmkoaaDoorShaN
namespace Go.Proofs.YtkdajlhmodmkoaaDoor
open Go.RowKit
set_option linter.unusedVariables false
set_option linter.unusedSimpArgs false

/-- Sums, as strings. -/
def sumB (s : ByteArray) : ByteArray := ⟨(ShaM.sum s.data.toList).toArray⟩
def leafB (d : ByteArray) : ByteArray := ⟨(leafL d.data.toList).toArray⟩
def nodeB (l r : ByteArray) : ByteArray := ⟨(nodeL l.data.toList r.data.toList).toArray⟩
def hexB (s : ByteArray) : ByteArray := ⟨(ShaM.hex s.data.toList).toArray⟩
theorem sumB_size (s : ByteArray) : (sumB s).size = 32 := by show (ShaM.sum s.data.toList).toArray.size = 32; rw [List.size_toArray]; exact ShaM.sum_length _
theorem leafB_size (s : ByteArray) : (leafB s).size = 32 := by show (leafL s.data.toList).toArray.size = 32; rw [List.size_toArray]; exact ShaM.sum_length _
theorem nodeB_size (l r : ByteArray) : (nodeB l r).size = 32 := by show (nodeL l.data.toList r.data.toList).toArray.size = 32; rw [List.size_toArray]; exact ShaM.sum_length _

theorem start_cells : rcells false (vl ShaM.zero8) (List.replicate 64 0) 0 = Tryd.zeroCells30 := by rfl
set_option maxRecDepth 100000 in
theorem start_any (w : World) : Calls Tryd.prog 29 #[] w (RunPost w []) := by
  have h1 : ∀ v ∈ Tryd.zeroCells30.toList, v.oneCell' = true := by rw [← start_cells]; exact rcells_one
  have hinf : (Tryd.prog.info? 30).map (·.size) = some Tryd.zeroCells30.size := info30
  have hB : Blk (w.alloc (.cells Tryd.zeroCells30 30)) w.heap.size 30 Tryd.zeroCells30 := Blk.new _ _ _
  have hst := run_storeCells_blk (P := Tryd.prog) hB Tryd.zeroCells30 rfl h1
  have Hb : Hid (Below w.heap.size w ((w.alloc (.cells Tryd.zeroCells30 30)).setRow w.heap.size Tryd.zeroCells30)) := Lib.hid (below_setRow (alloc_below' w _) (Nat.le_refl _) _)
  have Hr : Hid (IsRun (.agg Tryd.zeroCells30) []) := Lib.hid ⟨false, ShaM.zero8, List.replicate 64 0, by rw [← start_cells]; rfl, ShaM.Inv.start⟩
  have hB2 := Lib.hid (hB.setRow Tryd.zeroCells30)
  clear hB h1
  go_enter Tryd.func29, Tryd.ntmps29
  go_wp2
  exact bodyPost_ret (v := .agg Tryd.zeroCells30) (results_cell_row Tryd.results29 _ _ w.heap.size 30 Tryd.zeroCells30 (0, 0) _ rfl hB2.out Tryd.underlying30 rfl hinf) rfl ⟨⟨_, rfl, Hr.out⟩, Hb.out⟩
/-- A run's value and where it lies. -/
theorem IsRun.at_ {w : World} {g : Nat} {cs : Array Value} {l : List UInt8} (h : IsRun (.agg cs) l) (hb : Blk w g 30 cs) : RunAt w g l := by
  obtain ⟨cs', he, h1, h2, h3, h4⟩ := h.form
  injection he with he
  subst he
  exact ⟨cs, hb, h1, h3, h4⟩
set_option maxRecDepth 100000 in
theorem len_any {v : Value} {l : List UInt8} (h : IsRun v l) (w : World) : Calls Tryd.prog 32 #[v] w fun e w' => e = .returned (.int .i64 (l.length : Int)) ∧ Below w.heap.size w w' := by
  obtain ⟨cs, rfl, hsz, hall, hinf, hrun⟩ := h.form
  have hn := (hrun.at_ (Blk.new w 30 cs)).n
  clear hall
  go_enter Tryd.func32, Tryd.ntmps32
  go_wp2
  go_ret
  exact ⟨rfl, alloc_below' w _⟩

set_option maxRecDepth 100000 in
theorem sum_any {w : World} (hT : Tab w) (s : ByteArray) (hs : s.size ≤ 80000000) : Calls Tryd.prog 22 #[.string s] w fun e w' => e = .returned (.string (sumB s)) ∧ Below w.heap.size w w' := by
  go_enter Tryd.func22, Tryd.ntmps22
  go_wp2_with fail
  refine (start_any w).mono ?_
  rintro e w1 ⟨⟨v1, rfl, h1⟩, hb1⟩
  obtain ⟨c1, rfl, -⟩ := h1.form
  go_wp2_with fail
  refine (with_any (hT.below hb1) h1 s (by simp; omega)).mono ?_
  rintro e w2 ⟨⟨v2, rfl, h2⟩, hb2⟩
  obtain ⟨c2, rfl, -⟩ := h2.form
  rw [List.nil_append] at h2
  have hb := hb1.trans (hb2.mono hb1.size)
  go_wp2_with fail
  refine (end_any (hT.below hb) h2 (by simp; omega)).mono ?_
  rintro e w3 ⟨rfl, hb3⟩
  go_wp2
  go_ret
  exact ⟨rfl, hb.trans (hb3.mono hb.size)⟩
set_option maxRecDepth 100000 in
theorem leaf_any {w : World} (hT : Tab w) (s : ByteArray) (hs : s.size ≤ 80000000) : Calls Tryd.prog 24 #[.string s] w fun e w' => e = .returned (.string (leafB s)) ∧ Below w.heap.size w w' := by
  go_enter Tryd.func24, Tryd.ntmps24
  go_wp2_with fail
  refine (start_any w).mono ?_
  rintro e w1 ⟨⟨v1, rfl, h1⟩, hb1⟩
  obtain ⟨c1, rfl, -⟩ := h1.form
  go_wp2_with fail
  refine (with_any (hT.below hb1) h1 ⟨#[0]⟩ (by show 0 + 1 ≤ _; omega)).mono ?_
  rintro e w2 ⟨⟨v2, rfl, h2⟩, hb2⟩
  obtain ⟨c2, rfl, -⟩ := h2.form
  have hb := hb1.trans (hb2.mono hb1.size)
  go_wp2_with fail
  refine (with_any (hT.below hb) h2 s (by show 0 + 1 + s.size ≤ _; omega)).mono ?_
  rintro e w3 ⟨⟨v3, rfl, h3⟩, hb3⟩
  obtain ⟨c3, rfl, -⟩ := h3.form
  have h3' : IsRun (.agg c3) (0 :: s.data.toList) := h3
  have hb' := hb.trans (hb3.mono hb.size)
  go_wp2_with fail
  refine (end_any (hT.below hb') h3' (by simp; omega)).mono ?_
  rintro e w4 ⟨rfl, hb4⟩
  go_wp2
  go_ret
  exact ⟨rfl, hb'.trans (hb4.mono hb'.size)⟩
set_option maxRecDepth 100000 in
theorem node_any {w : World} (hT : Tab w) (l r : ByteArray) (hl : l.size ≤ 40000000) (hr : r.size ≤ 40000000) : Calls Tryd.prog 33 #[.string l, .string r] w fun e w' => e = .returned (.string (nodeB l r)) ∧ Below w.heap.size w w' := by
  go_enter Tryd.func33, Tryd.ntmps33
  go_wp2_with fail
  refine (start_any w).mono ?_
  rintro e w1 ⟨⟨v1, rfl, h1⟩, hb1⟩
  obtain ⟨c1, rfl, -⟩ := h1.form
  go_wp2_with fail
  refine (with_any (hT.below hb1) h1 ⟨#[1]⟩ (by show 0 + 1 ≤ _; omega)).mono ?_
  rintro e w2 ⟨⟨v2, rfl, h2⟩, hb2⟩
  obtain ⟨c2, rfl, -⟩ := h2.form
  have hb := hb1.trans (hb2.mono hb1.size)
  go_wp2_with fail
  refine (with_any (hT.below hb) h2 l (by show 0 + 1 + l.size ≤ _; omega)).mono ?_
  rintro e w3 ⟨⟨v3, rfl, h3⟩, hb3⟩
  obtain ⟨c3, rfl, -⟩ := h3.form
  have hb' := hb.trans (hb3.mono hb.size)
  go_wp2_with fail
  refine (with_any (hT.below hb') h3 r (by simp; omega)).mono ?_
  rintro e w4 ⟨⟨v4, rfl, h4⟩, hb4⟩
  obtain ⟨c4, rfl, -⟩ := h4.form
  have h4' : IsRun (.agg c4) (1 :: (l.data.toList ++ r.data.toList)) := h4
  have hb'' := hb'.trans (hb4.mono hb'.size)
  go_wp2_with fail
  refine (end_any (hT.below hb'') h4' (by simp; omega)).mono ?_
  rintro e w5 ⟨rfl, hb5⟩
  go_wp2
  go_ret
  exact ⟨rfl, hb''.trans (hb5.mono hb''.size)⟩
theorem leafB_sum (d : ByteArray) : leafB d = sumB (⟨#[0]⟩ ++ d) := by
  apply ba_eq; show leafL _ = ShaM.sum _; rw [ba_append]; rfl
theorem nodeB_sum (l r : ByteArray) : nodeB l r = sumB (⟨#[1]⟩ ++ l ++ r) := by
  apply ba_eq; show nodeL _ _ = ShaM.sum _; rw [ba_append, ba_append]; rfl
end Go.Proofs.YtkdajlhmodmkoaaDoor
