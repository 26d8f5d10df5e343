/-
  Layer 8 (tree): Top walked, the code's and the document's.
-/
import Derived.Test.YtkdajlhmodmkoaaDoorTI
import Derived.RangeFuncNested
namespace Go.Proofs.YtkdajlhmodmkoaaDoor
open Go.RowKit Go.Shelf TreeM
set_option linter.unusedVariables false
set_option linter.unusedSimpArgs false
attribute [local go_sem] Oper.semAt_some

/-- What Top answers. -/
def topS (n : Nat) (L : List ByteArray) : ByteArray := if rightB n L = true then (if n = 0 then sumB ⟨#[]⟩ else L.dropLast.foldr nodeB (L.getLastD ⟨#[]⟩)) else ⟨#[]⟩
def topE (n : Nat) (L : List ByteArray) : Int := if rightB n L = true then 0 else 1
theorem right_wide {n : Nat} {L : List ByteArray} (h : rightB n L = true) : (∀ s ∈ L, s.size = 32) ∧ ones n = L.length ∧ n ≤ 1099511627776 := by
  unfold rightB wideB at h
  simp only [Bool.and_eq_true, decide_eq_true_eq, beq_iff_eq, List.all_eq_true] at h
  exact ⟨fun s hs => h.2 s hs, h.1.2, h.1.1⟩
theorem KeepsOthers.below {W W' : World} (h : Below W.heap.size W W') : KeepsOthers W W' := ⟨h.size, fun k o hk _ => (h.block k (Array.getElem?_eq_some_iff.1 hk).1).trans hk⟩
abbrev NarrowP : Nat × ByteArray → Prop := fun x => x.2.size ≤ 40000000
/-- What a round makes of what has come. -/
def foldN (h0 : ByteArray) (pre : List (BackT NarrowP)) : ByteArray := pre.foldl (fun h x => nodeB x.1.2 h) h0
theorem foldN_snoc (h0 : ByteArray) (pre : List (BackT NarrowP)) (x : BackT NarrowP) : foldN h0 (pre ++ [x]) = nodeB x.1.2 (foldN h0 pre) := by simp [foldN]
theorem foldN_size : ∀ (pre : List (BackT NarrowP)) (h0 : ByteArray), h0.size = 32 → (foldN h0 pre).size = 32
  | [], h0, h => h
  | x :: pre, h0, h => foldN_size pre (nodeB x.1.2 h0) (nodeB_size _ _)
theorem foldN_all (L : List ByteArray) (hp : ∀ q (h : q < L.length), NarrowP (q, L[q])) (d : BackT NarrowP) (h0 : ByteArray) : foldN h0 (upto (backS L hp d) L.length) = L.foldr nodeB h0 := by
  have : ∀ m, m ≤ L.length → foldN h0 (upto (backS L hp d) (L.length - m)) = (L.drop m).foldr nodeB h0 := by
    intro m
    generalize hk : L.length - m = k
    induction k generalizing m with
    | zero =>
      intro hm
      rw [List.drop_eq_nil_of_le (by omega)]; rfl
    | succ k ih =>
      intro hm
      have h1 := ih (m + 1) (by omega) (by omega)
      have hu := upto_back L hp d m (by omega)
      rw [show L.length - m = k + 1 by omega, show L.length - (m + 1) = k by omega] at hu
      rw [hu, foldN_snoc, h1, List.drop_eq_getElem_cons (show m < L.length by omega)]; rfl
  have h := this 0 (Nat.zero_le _)
  rwa [Nat.sub_zero, List.drop_zero] at h
set_option maxRecDepth 100000 in
set_option maxHeartbeats 2000000 in
theorem top_no {w : World} (n : Nat) (hn : n < 18446744073709551616) {u : Value} {L : List ByteArray} (h : SRead w u L) (hr : rightB n L = false) :
    Calls Tryd.prog 46 #[.agg #[.int .u64 (n : Int), u]] w fun e w' => e = .returned (.tuple #[.string ⟨#[]⟩, .int .i64 1]) ∧ Below w.heap.size w w' := by
  have hw1 := alloc_below' w (.cells #[.int .u64 (n : Int), u] 50)
  have hB : Blk (w.alloc (.cells #[.int .u64 (n : Int), u] 50)) w.heap.size 50 #[.int .u64 (n : Int), u] := Blk.new _ _ _
  have c0 := hB.cell 0
  have c1 := hB.cell 1
  simp only [List.getElem?_toArray, List.getElem?_cons_succ, List.getElem?_cons_zero] at c0 c1
  have h1 := h.below hw1 rfl
  obtain ⟨A, cap, rfl, -, -⟩ := id h
  go_enter Tryd.func46, Tryd.ntmps46
  go_wp2_with fail
  refine (tright_any n hn h1).mono ?_
  rintro e w2 ⟨rfl, hb2⟩
  rw [hr]
  go_wp2
  go_ret2
  exact ⟨rfl, hw1.trans (hb2.mono hw1.size)⟩
set_option maxRecDepth 100000 in
set_option maxHeartbeats 2000000 in
theorem top_zero {w : World} (hT : Tab w) {u : Value} {L : List ByteArray} (h : SRead w u L) (hr : rightB 0 L = true) :
    Calls Tryd.prog 46 #[.agg #[.int .u64 0, u]] w fun e w' => e = .returned (.tuple #[.string (sumB ⟨#[]⟩), .int .i64 0]) ∧ Below w.heap.size w w' := by
  have hw1 := alloc_below' w (.cells #[.int .u64 0, u] 50)
  have hB : Blk (w.alloc (.cells #[.int .u64 0, u] 50)) w.heap.size 50 #[.int .u64 0, u] := Blk.new _ _ _
  have c0 := hB.cell 0
  have c1 := hB.cell 1
  simp only [List.getElem?_toArray, List.getElem?_cons_succ, List.getElem?_cons_zero] at c0 c1
  have h1 := h.below hw1 rfl
  obtain ⟨A, cap, rfl, -, -⟩ := id h
  go_enter Tryd.func46, Tryd.ntmps46
  go_wp2_with fail
  refine (tright_any 0 (by omega) h1).mono ?_
  rintro e w2 ⟨rfl, hb2⟩
  have c0' := cell_belowB hb2 rfl c0
  have hW2 := hw1.trans (hb2.mono hw1.size)
  rw [hr]
  go_wp2_with fail
  refine (sum_any (hT.below hW2) ⟨#[]⟩ (by decide)).mono ?_
  rintro e w3 ⟨rfl, hb3⟩
  go_wp2
  go_ret2
  exact ⟨rfl, hW2.trans (hb3.mono hW2.size)⟩
set_option maxRecDepth 100000 in
set_option maxHeartbeats 4000000 in
theorem top_yes {w : World} (hT : Tab w) (n : Nat) (hn : n < 18446744073709551616) (h0 : n ≠ 0) {u : Value} {L : List ByteArray} {x0 : ByteArray} (h : SRead w u (L ++ [x0])) (hr : rightB n (L ++ [x0]) = true) :
    Calls Tryd.prog 46 #[.agg #[.int .u64 (n : Int), u]] w fun e w' => e = .returned (.tuple #[.string (L.foldr nodeB x0), .int .i64 0]) ∧ Below w.heap.size w w' := by
  obtain ⟨hwd, -, -⟩ := right_wide hr
  have hw1 := alloc_below' w (.cells #[.int .u64 (n : Int), u] 50)
  have hB : Blk (w.alloc (.cells #[.int .u64 (n : Int), u] 50)) w.heap.size 50 #[.int .u64 (n : Int), u] := Blk.new _ _ _
  have c0 := hB.cell 0
  have c1 := hB.cell 1
  simp only [List.getElem?_toArray, List.getElem?_cons_succ, List.getElem?_cons_zero] at c0 c1
  have h1 := h.below hw1 rfl
  obtain ⟨N, hN⟩ : ∃ N, (L ++ [x0]).length = N := ⟨_, rfl⟩
  have hright := fun wx (hx : SRead wx u (L ++ [x0])) => tright_any (w := wx) n hn hx
  have h1' : ∃ A cap, u = .slice A N cap ∧ N ≤ maxLen ∧ N ≤ cap ∧ Cells9 w.heap.size w A (L ++ [x0]) := by
    obtain ⟨A, cap, rfl, hm, hc⟩ := id h
    refine ⟨A, cap, by rw [hN], by rw [← hN]; exact hm, ?_, fun i hi => ?_⟩
    · obtain ⟨b, o, -, h2, -⟩ := hc 0 (by simp)
      rw [← hN]; exact h2.2
    · obtain ⟨b, o, a1, a2, a3⟩ := hc i hi
      exact ⟨b, o, a1, a2.1, a3⟩
  obtain ⟨A, cap, rfl, hm, hcap, hc⟩ := h1'
  rw [hr] at hright
  have hNq : N = L.length + 1 := by rw [← hN]; simp
  have Hc := Lib.hid hc; have Hr := Lib.hid (hright _ h1)
  have Hw1 := Lib.hid hw1; have Hwd := Lib.hid hwd; have HNq := Lib.hid hNq; have HT := Lib.hid hT
  have hN1 : 1 ≤ N := by omega
  have hNx : N ≤ 9223372036854775807 := hm
  obtain ⟨q, hq⟩ : ∃ q, L.length = q := ⟨_, rfl⟩
  have e1 : IntKind.i64.wrap ((N : Int) - 1) = (q : Int) := by rw [show (N : Int) - 1 = (q : Int) by omega]; exact IntWalk.i64_in _ (by omega)
  have q0 : (0 : Int) ≤ (q : Int) := by omega
  have q1 : (q : Int) < (N : Int) := by omega
  have q2 : (q : Int) ≤ (N : Int) := by omega
  have q3 : q ≤ N := by omega
  have Hq := Lib.hid hq
  have q4 : (q : Int) ≤ (cap : Int) := by omega
  have q5 : q ≤ cap := by omega
  obtain ⟨b, o, hA, hbw, hcq⟩ := hc q (by simp; omega)
  have Hbw := Lib.hid hbw
  have hx0 : (L ++ [x0])[q]'(by simp; omega) = x0 := by subst hq; simp
  rw [hx0] at hcq
  subst hA
  clear hc hright h h1 hr hN hwd hw1 hB hNq hq hT hx0 hbw
  refine (callsIn_wide (n := 3)).1 ?_
  refine callsIn_of_wp_marks Tryd.func46 rfl trivial ?_ rfl
  simp only [Tryd.ntmps46, List.size_toArray, List.length_cons, List.length_nil, Nat.reduceAdd, Nat.reduceSub, Array.replicate_succ, Array.replicate_zero, List.push_toArray, List.append_toArray, List.nil_append, List.cons_append]
  gi_wp2_with fail
  refine ⟨trivial, ((callsIn_wide (n := 2)).2 Hr.out).mono ?_⟩
  rintro e w2 ⟨rfl, hb2⟩
  have d0 := cell_belowB hb2 rfl c0
  have d1 := cell_belowB hb2 rfl c1
  have hW2 := Hw1.out.trans (hb2.mono Hw1.out.size)
  have hcq2 := cell_belowB hW2 rfl hcq
  have hn0 : ¬ (n : Int) = 0 := by omega
  have HW2 := Lib.hid hW2
  have d1' := cell_belowB (alloc_below' w2 (.cells #[.string x0] 9)) rfl d1
  clear c0 c1 hcq hb2 hW2 Hr
  gi_wp2_with fail
  refine ⟨trivial, (backward_in Fence.wide 2 trivial rfl _ _ _ _).mono ?_⟩
  rintro e w3 ⟨rfl, rfl⟩
  have hq := Hq.out
  subst hq
  have bH : Boxed ((w2.alloc (.cells #[.string x0] 9)).alloc (.cells #[.slice (some ⟨b, o, none⟩) L.length cap] 25)) w2.heap.size 9 (.string x0) := (Boxed.new w2 9 (.string x0)).alloc _
  have bS : Boxed ((w2.alloc (.cells #[.string x0] 9)).alloc (.cells #[.slice (some ⟨b, o, none⟩) L.length cap] 25)) (w2.heap.size + 1) 25 (.slice (some ⟨b, o, none⟩) L.length cap) := by
    have := Boxed.new (w2.alloc (.cells #[.string x0] 9)) 25 (.slice (some ⟨b, o, none⟩) L.length cap)
    rwa [World.size_alloc] at this
  have hB0 : Below w.heap.size w ((w2.alloc (.cells #[.string x0] 9)).alloc (.cells #[.slice (some ⟨b, o, none⟩) L.length cap] 25)) := (HW2.out.alloc HW2.out.size _).alloc (by have := HW2.out.size; simp; omega) _
  have hsz : ((w2.alloc (.cells #[.string x0] 9)).alloc (.cells #[.slice (some ⟨b, o, none⟩) L.length cap] 25)).heap.size = w2.heap.size + 2 := by simp
  have hs2 := HW2.out.size
  rw [World.size_alloc]
  generalize (w2.alloc (.cells #[.string x0] 9)).alloc (.cells #[.slice (some ⟨b, o, none⟩) L.length cap] 25) = W0 at *
  generalize w2.heap.size = B at *
  have hp : ∀ k (h : k < L.length), NarrowP (k, L[k]) := fun k h => by
    have := Hwd.out L[k] (by simp [List.getElem_mem])
    show L[k].size ≤ 40000000; omega
  have hc9 : Cells9 w.heap.size W0 (some ⟨b, o, none⟩) L := fun i hi => by
    obtain ⟨b', o', a1, a2, a3⟩ := Hc.out.below hB0 i (by simp; omega)
    refine ⟨b', o', a1, a2, ?_⟩
    rw [a3, List.getElem_append_left hi]
  have hmL : L.length ≤ maxLen := by have := HNq.out; omega
  have hI : OwnFrom W0.heap.size (fun (pre : List (BackT NarrowP)) W => Boxed W B 9 (.string (foldN x0 pre)) ∧ Below w.heap.size w W ∧ W0.heap.size ≤ W.heap.size) := fun s X Y row hs hg hr =>
    ⟨hs.1.kept hg (fun e => by have := (hr _ e.symm).1; omega), hs.2.1.grown hg (by omega) (fun k e => by have := (hr k e).1; omega), Nat.le_trans hs.2.2 hg.size⟩
  have hx32 : x0.size = 32 := Hwd.out x0 (by simp)
  have hkb := KB.put (n₀ := w.heap.size) (Bs := B + 1) (B := W0.heap.size) (by omega) (by omega)
  gi_wp2_with fail
  refine wpIn_rangeFunc_ownG rfl (by decide) (gf := 99) (lb := #[.pointer (some ⟨B + 1, 0, none⟩)]) rfl trivial (enters_of Tryd.func99 (by kernel_rfl) rfl)
    (back_stops (p := NarrowP) Fence.wide 2 trivial rfl (by decide) (B + 1) w.heap.size cap (some ⟨b, o, none⟩) L hmL hp ⟨(0, ⟨#[]⟩), by decide⟩ W0 (by omega) (by omega) bS.cell hc9) (fun h k => KB.trans h k) hkb (Below.refl _ _) (fun _ => rfl)
    (fun pre W => Boxed W B 9 (.string (foldN x0 pre)) ∧ Below w.heap.size w W ∧ W0.heap.size ≤ W.heap.size)
    (fun _ _ _ => False) hI (fun _ _ _ _ _ hs _ _ => hs) ⟨bH, hB0, Nat.le_refl _⟩
    (fun x => { tmps := #[.agg #[.int .u64 (n : Int), .slice (some ⟨b, o, none⟩) N cap], .pointer (some ⟨w.heap.size, 0, none⟩), .string ⟨#[]⟩, .int .i64 0, .int .i64 (L.length : Int), .pointer (some ⟨B, 0, none⟩), undef, .string x.1.2, .agg #[.int .u64 (n : Int), .slice (some ⟨b, o, none⟩) N cap], .bool true, .bool false, .pointer (some ⟨w.heap.size, 0, none⟩), .int .u64 (n : Int), .bool false, undef, .pointer (some ⟨w.heap.size, 1, none⟩), .slice (some ⟨b, o, none⟩) N cap, .int .i64 (N : Int), .int .i64 (L.length : Int), .pointer (some ⟨w.heap.size, 1, none⟩), .slice (some ⟨b, o, none⟩) N cap, .int .i64 (L.length : Int), .pointer (some ⟨b, o + L.length, none⟩), .string x0, .pointer (some ⟨w.heap.size, 1, none⟩), .slice (some ⟨b, o, none⟩) N cap, .int .i64 (L.length : Int), .slice (some ⟨b, o, none⟩) L.length cap, .func (.func 99) #[] #[.pointer (some ⟨B + 1, 0, none⟩)], .int .i64 (x.1.1 : Int), .string x.1.2, undef, undef, undef, undef], defers := [] }) ?assign ?body ?done ?stop
  case assign =>
    intro l x W K hK
    gi_wp2
    exact hK
  case body =>
    rintro l pre x W ⟨hbx, hbl, hle⟩ hlt
    have hc := hbx.cell
    have hsx : x.1.2.size ≤ 40000000 := x.2
    have hsh := foldN_size pre x0 hx32
    have hl := hbx.lt
    obtain ⟨h, hh⟩ : ∃ h, foldN x0 pre = h := ⟨_, rfl⟩
    have hsn := foldN_snoc x0 pre x
    rw [hh] at hc hsh hsn
    have Hsn := Lib.hid hsn; have Hbl := Lib.hid hbl; have Hbx := Lib.hid hbx
    clear hsn hbl hbx hh
    gi_wp2_with fail
    refine ⟨trivial, (CallsIn.inRound l ((callsIn_wide (n := 0)).2 (node_any (HT.out.below Hbl.out) x.1.2 h hsx (by omega)))).mono ?_⟩
    rintro e W' ⟨rfl, hb⟩
    have hbx' : Boxed W' B 9 _ := (hb.block B hl).trans Hbx.out
    have hc' := hbx'.cell
    have hf' := hbx'.frozen
    have hbs := hb.size
    have Hb := Lib.hid hb; have Hbx' := Lib.hid hbx'
    clear hb hbx'
    gi_wp2
    refine ⟨((KeepsOthers.below Hb.out).trans (KeepsOthers.setCell W' _ _)).from _, ⟨(Hb.out.mono (by omega)).setCell (p := ⟨B, 0, none⟩) hs2 _, ?_⟩, ?_, ((Hbl.out.trans (Hb.out.mono Hbl.out.size))).setCell (p := ⟨B, 0, none⟩) hs2 _, by rw [World.size_setCell]; omega⟩
    · exact (Below.heap_setCell W' ⟨B, 0, none⟩ _ (B + 1) (by simp)).trans (Hb.out.block (B + 1) (by omega))
    · rw [Hsn.out]; exact Hbx'.out.set _
  case done =>
    rintro D ys W hD rfl ⟨hbx, hbl, hle⟩ hK
    have hc := hbx.cell
    rw [foldN_all] at hc
    gi_wp2
    refine ⟨by simp, .inl ⟨_, _, rfl, run_takeDeferred hK, ?_⟩⟩
    exact ⟨_, results_tmp2 rfl _ _ _, rfl, hbl.trans (belowK_b (w := w) (Nat.le_refl _) W D _ _ (by omega) hK rfl rfl)⟩
  case stop =>
    rintro D c pre W _ _ h _
    exact h.elim
theorem top_any {w : World} (hT : Tab w) (n : Nat) (hn : n < 18446744073709551616) {u : Value} {L : List ByteArray} (h : SRead w u L) :
    Calls Tryd.prog 46 #[.agg #[.int .u64 (n : Int), u]] w fun e w' => e = .returned (.tuple #[.string (topS n L), .int .i64 (topE n L)]) ∧ Below w.heap.size w w' := by
  cases hr : rightB n L with
  | false =>
    have := top_no n hn h hr
    unfold topS topE
    rw [hr]
    simpa using this
  | true =>
    by_cases h0 : n = 0
    · subst h0
      have := top_zero hT h hr
      unfold topS topE
      rw [hr]
      simpa using this
    · obtain ⟨-, hones, -⟩ := right_wide hr
      have hp := ones_pos (n := n) (by omega)
      have hne : L ≠ [] := fun e => by subst e; simp at hones; omega
      have e1 : L.dropLast ++ [L.getLastD ⟨#[]⟩] = L := by
        rw [List.getLastD_eq_getLast?, List.getLast?_eq_some_getLast hne]
        exact List.dropLast_concat_getLast hne
      have := top_yes (L := L.dropLast) (x0 := L.getLastD ⟨#[]⟩) hT n hn h0 (by rw [e1]; exact h) (by rw [e1]; exact hr)
      unfold topS topE
      rw [hr]
      simpa [h0] using this
end Go.Proofs.YtkdajlhmodmkoaaDoor
