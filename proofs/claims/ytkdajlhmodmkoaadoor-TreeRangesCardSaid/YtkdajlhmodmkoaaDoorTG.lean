/-
  Layer 8 (tree): the statements' Ref walked.
-/
import Derived.Test.YtkdajlhmodmkoaaDoorTRS
namespace Go.Proofs.YtkdajlhmodmkoaaDoor
open Go.RowKit TreeM
set_option linter.unusedVariables false
set_option linter.unusedSimpArgs false

theorem results_two_rows {P : Program} {fn : Func} {p q : Tmp} {ty ty2 : TypeId} (h : fn.results = #[.cell p ty, .cell q ty2]) (tmps : Array Value) (w : World)
    (g : Nat) (t : TypeId) (cs : Array Value) (fr : Nat × Nat) (d : TypeDesc) (g2 : Nat) (t2 : TypeId) (cs2 : Array Value) (fr2 : Nat × Nat) (d2 : TypeDesc)
    (hp : tmps.getD p undef = .pointer (some ⟨g, 0, none⟩)) (hg : w.heap[g]? = some (.cells cs t fr))
    (hu : P.underlying ty = some d) (hd : (match d with | .struct _ | .array _ _ => true | _ => false) = true) (hi : (P.info? ty).map (·.size) = some cs.size)
    (hp2 : tmps.getD q undef = .pointer (some ⟨g2, 0, none⟩)) (hg2 : w.heap[g2]? = some (.cells cs2 t2 fr2))
    (hu2 : P.underlying ty2 = some d2) (hd2 : (match d2 with | .struct _ | .array _ _ => true | _ => false) = true) (hi2 : (P.info? ty2).map (·.size) = some cs2.size) :
    (results fn tmps).run P w = .ok (.tuple #[.agg cs, .agg cs2]) w := by
  have hp' : tmps[p]?.getD undef = .pointer (some ⟨g, 0, none⟩) := by simpa using hp
  have hp2' : tmps[q]?.getD undef = .pointer (some ⟨g2, 0, none⟩) := by simpa using hp2
  simp [results, h, hp', hp2', asAddr, run_loadVar_row w g t ty cs fr d hg hu hd hi, run_loadVar_row w g2 t2 ty2 cs2 fr2 d2 hg2 hu2 hd2 hi2]
set_option maxRecDepth 100000 in
set_option maxHeartbeats 2000000 in
theorem ref_any {w : World} (n : Nat) {u : Value} {L : List ByteArray} (h : SRead w u L) :
    Calls Tryd.prog 43 #[.agg #[.int .u64 (n : Int), u]] w fun e w' => (∃ u', e = .returned (.tuple #[.agg #[.int .u64 (n : Int), u'], .agg #[.int .u64 (n : Int), u']]) ∧ SOwn w.heap.size w' u' (cutL L 50)) ∧ Below w.heap.size w w' := by
  obtain ⟨A, cap, rfl, -, -⟩ := id h
  have hb1 := alloc_below' w (.cells #[.int .u64 (n : Int), .slice A L.length cap] 50)
  have hb2 := hb1.trans ((alloc_below' (w.alloc (.cells #[.int .u64 (n : Int), .slice A L.length cap] 50)) (.cells Z50 50)).mono hb1.size)
  have hb3 := hb2.trans ((alloc_below' ((w.alloc (.cells #[.int .u64 (n : Int), .slice A L.length cap] 50)).alloc (.cells Z50 50)) (.cells Z50 51)).mono hb2.size)
  have hA : Blk (((w.alloc (.cells #[.int .u64 (n : Int), .slice A L.length cap] 50)).alloc (.cells Z50 50)).alloc (.cells Z50 51)) w.heap.size 50 #[.int .u64 (n : Int), .slice A L.length cap] := ((Blk.new _ _ _).alloc _).alloc _
  have hB : Blk (((w.alloc (.cells #[.int .u64 (n : Int), .slice A L.length cap] 50)).alloc (.cells Z50 50)).alloc (.cells Z50 51)) (w.heap.size + 1) 50 Z50 := by
    have := Blk.new (w.alloc (.cells #[.int .u64 (n : Int), .slice A L.length cap] 50)) 50 Z50
    rw [World.size_alloc] at this
    exact this.alloc _
  have hC : Blk (((w.alloc (.cells #[.int .u64 (n : Int), .slice A L.length cap] 50)).alloc (.cells Z50 50)).alloc (.cells Z50 51)) (w.heap.size + 1 + 1) 51 Z50 := by
    have := Blk.new ((w.alloc (.cells #[.int .u64 (n : Int), .slice A L.length cap] 50)).alloc (.cells Z50 50)) 51 Z50
    rwa [World.size_alloc, World.size_alloc] at this
  have hr := h.below hb3 rfl
  have H0 := Lib.hid (And.intro hA (And.intro hB (And.intro hC (And.intro hb3 hr))))
  clear hA hB hC hb1 hb2 hb3 hr h
  go_enter Tryd.func43, Tryd.ntmps43
  go_wp2_with fail
  refine (cut_any H0.out.2.2.2.2 50 (by decide)).mono ?_
  rintro e w4 ⟨⟨v4, rfl, ho4⟩, hb4⟩
  have hA : Blk w4 w.heap.size 50 #[.int .u64 (n : Int), .slice A L.length cap] := (hb4.block _ (Blk.lt H0.out.1)).trans H0.out.1
  have hB : Blk w4 (w.heap.size + 1) 50 Z50 := (hb4.block _ (Blk.lt H0.out.2.1)).trans H0.out.2.1
  have hC : Blk w4 (w.heap.size + 1 + 1) 51 Z50 := (hb4.block _ (Blk.lt H0.out.2.2.1)).trans H0.out.2.2.1
  have hb := H0.out.2.2.2.1.trans (hb4.mono H0.out.2.2.2.1.size)
  have ho := SOwn.base ho4 H0.out.2.2.2.1.size
  obtain ⟨A3, c3, hve, -, -⟩ := id (ho.read (by have := cutL_length L 50; unfold maxLen; omega))
  generalize (cutL L 50).length = q3 at hve
  subst hve
  clear H0 hb4 ho4
  have hq := Lib.hid hA
  go_upto_region 2 with fail
  refine wp_region_T (n := 9) (S := fun wq => Blk wq w.heap.size 50 #[.int .u64 (n : Int), .slice A L.length cap]) (by kernel_rfl) (by kernel_rfl) hA.drew (fun hHeld => ?_)
  have hB0 : Blk w4.drew (w.heap.size + 1) 50 Z50 := hB
  have hC0 : Blk w4.drew (w.heap.size + 1 + 1) 51 Z50 := hC
  have hb0 : Below w.heap.size w w4.drew := hb.drew
  have ho0 : SOwn w.heap.size w4.drew (.slice A3 q3 c3) (cutL L 50) := ho
  clear hA hq hB hC hb ho
  generalize w4.drew = wd at *
  have hB := hB0; have hC := hC0; have hb := hb0; have ho := ho0
  clear hB0 hC0 hb0 ho0
  refine WalkT.take (i := 0) (oi := _) (v := ?vz1) rfl (by decide) (by kernel_rfl) (by kernel_rfl) (fun _ _ _ h => h) (Or.inl ⟨by kernel_rfl, ?hyz1⟩) (by assumption) ?rz1
  case hyz1 => (intro wq hSw; go_simp; try (with_reducible rfl))
  try simp only [Act.put, List.setIfInBounds_toArray, List.set_cons_zero, List.set_cons_succ]
  refine WalkT.take (i := 1) (oi := _) (v := ?vz2) rfl (by decide) (by kernel_rfl) (by kernel_rfl) (fun _ _ _ h => h) (Or.inl ⟨by kernel_rfl, ?hyz2⟩) (by assumption) ?rz2
  case hyz2 => (intro wq hSw; have q9 := Blk.cell hSw 0; simp only [List.getElem?_toArray, List.getElem?_cons_succ, List.getElem?_cons_zero] at q9; go_simp; try (with_reducible rfl))
  try simp only [Act.put, List.setIfInBounds_toArray, List.set_cons_zero, List.set_cons_succ]
  refine WalkT.take (i := 2) (oi := _) (v := ?vz3) rfl (by decide) (by kernel_rfl) (by kernel_rfl) (fun _ _ _ h => h) (Or.inl ⟨by kernel_rfl, ?hyz3⟩) (by assumption) ?rz3
  case hyz3 => (intro wq hSw; go_simp; try (with_reducible rfl))
  try simp only [Act.put, List.setIfInBounds_toArray, List.set_cons_zero, List.set_cons_succ]
  refine WalkT.take (i := 3) (oi := _) (v := ?vz4) rfl (by decide) (by kernel_rfl) (by kernel_rfl) (fun _ _ _ h => h) (Or.inl ⟨by kernel_rfl, ?hyz4⟩) (by assumption) ?rz4
  case hyz4 => (intro wq hSw; go_simp; try (with_reducible rfl))
  try simp only [Act.put, List.setIfInBounds_toArray, List.set_cons_zero, List.set_cons_succ]
  refine WalkT.take (i := 4) (oi := _) (v := ?vz5) rfl (by decide) (by kernel_rfl) (by kernel_rfl) (fun _ _ _ h => h) (Or.inl ⟨by kernel_rfl, ?hyz5⟩) (by assumption) ?rz5
  case hyz5 => (intro wq hSw; go_simp; try (with_reducible rfl))
  try simp only [Act.put, List.setIfInBounds_toArray, List.set_cons_zero, List.set_cons_succ]
  refine WalkT.take (i := 5) (oi := _) (v := ?vz6) rfl (by decide) (by kernel_rfl) (by kernel_rfl) (fun _ _ _ h => h) (Or.inl ⟨by kernel_rfl, ?hyz6⟩) (by assumption) ?rz6
  case hyz6 => (intro wq hSw; have q9 := Blk.cell hSw 0; simp only [List.getElem?_toArray, List.getElem?_cons_succ, List.getElem?_cons_zero] at q9; go_simp; try (with_reducible rfl))
  try simp only [Act.put, List.setIfInBounds_toArray, List.set_cons_zero, List.set_cons_succ]
  refine WalkT.take (i := 6) (oi := _) (v := ?vz7) rfl (by decide) (by kernel_rfl) (by kernel_rfl) (fun _ _ _ h => h) (Or.inl ⟨by kernel_rfl, ?hyz7⟩) (by assumption) ?rz7
  case hyz7 => (intro wq hSw; go_simp; try (with_reducible rfl))
  try simp only [Act.put, List.setIfInBounds_toArray, List.set_cons_zero, List.set_cons_succ]
  refine WalkT.take (i := 7) (oi := _) (v := ?vz8) rfl (by decide) (by kernel_rfl) (by kernel_rfl) (fun _ _ _ h => h) (Or.inl ⟨by kernel_rfl, ?hyz8⟩) (by assumption) ?rz8
  case hyz8 => (intro wq hSw; go_simp; try (with_reducible rfl))
  try simp only [Act.put, List.setIfInBounds_toArray, List.set_cons_zero, List.set_cons_succ]
  refine WalkT.one (i := 8) (o := ?oz9) (by kernel_rfl) (by decide) ?hoz9 ?hkz9
  case hoz9 => (simp only [List.getElem?_toArray, List.getElem?_cons_succ, List.getElem?_cons_zero]; exact rfl)
  intro K hK
  have z0 := hB.cell 0; have z1 := hB.cell 1; have f0 := hB.frozen 0; have f1 := hB.frozen 1
  simp only [List.getElem?_toArray, List.getElem?_cons_succ, List.getElem?_cons_zero] at z0 z1
  have hS8 : Blk ((wd.setCell ⟨w.heap.size + 1, 0, none⟩ (.int .u64 (n : Int))).setCell ⟨w.heap.size + 1, 1, none⟩ (.slice A3 q3 c3)) w.heap.size 50 #[.int .u64 (n : Int), .slice A L.length cap] := (Blk.far hHeld (by simp) _).far (by simp) _
  go_simp
  refine hK.out _ _ hS8 (fun hHeld => ?_)
  clear hS8 z0 z1 f0 f1
  clear hK K
  try simp only [Act.put, List.setIfInBounds_toArray, List.set_cons_zero, List.set_cons_succ]
  refine WalkT.tail (by kernel_rfl) ?_
  have hB1 : Blk ((wd.setCell ⟨w.heap.size + 1, 0, none⟩ (.int .u64 (n : Int))).setCell ⟨w.heap.size + 1, 1, none⟩ (.slice A3 q3 c3)) (w.heap.size + 1) 50 #[(.int .u64 (n : Int)), (.slice A3 q3 c3)] := blk_two hB _ _
  have hC1 : Blk ((wd.setCell ⟨w.heap.size + 1, 0, none⟩ (.int .u64 (n : Int))).setCell ⟨w.heap.size + 1, 1, none⟩ (.slice A3 q3 c3)) (w.heap.size + 1 + 1) 51 Z50 := (Blk.far hC (by simp) _).far (by simp) _
  have ho1 : SOwn w.heap.size ((wd.setCell ⟨w.heap.size + 1, 0, none⟩ (.int .u64 (n : Int))).setCell ⟨w.heap.size + 1, 1, none⟩ (.slice A3 q3 c3)) (.slice A3 q3 c3) (cutL L 50) := SOwn.two ho hB _ _
  have hb1 : Below w.heap.size w ((wd.setCell ⟨w.heap.size + 1, 0, none⟩ (.int .u64 (n : Int))).setCell ⟨w.heap.size + 1, 1, none⟩ (.slice A3 q3 c3)) := (hb.setCell (p := ⟨w.heap.size + 1, 0, none⟩) (by simp) _).setCell (p := ⟨w.heap.size + 1, 1, none⟩) (by simp) _
  generalize ((wd.setCell ⟨w.heap.size + 1, 0, none⟩ (.int .u64 (n : Int))).setCell ⟨w.heap.size + 1, 1, none⟩ (.slice A3 q3 c3)) = w5 at *
  have z0 := hC1.cell 0; have z1 := hC1.cell 1; have f0 := hC1.frozen 0; have f1 := hC1.frozen 1
  simp only [List.getElem?_toArray, List.getElem?_cons_succ, List.getElem?_cons_zero] at z0 z1
  have HN := Lib.hid (And.intro (blk_two hC1 (.int .u64 (n : Int)) (.slice A3 q3 c3)) (And.intro (Blk.far (Blk.far hB1 (p := ⟨w.heap.size + 1 + 1, 0, none⟩) (by simp) (.int .u64 (n : Int))) (p := ⟨w.heap.size + 1 + 1, 1, none⟩) (by simp) (.slice A3 q3 c3)) (And.intro (SOwn.two ho1 hC1 (.int .u64 (n : Int)) (.slice A3 q3 c3)) ((hb1.setCell (p := ⟨w.heap.size + 1 + 1, 0, none⟩) (by show w.heap.size ≤ w.heap.size + 1 + 1; omega) (.int .u64 (n : Int))).setCell (p := ⟨w.heap.size + 1 + 1, 1, none⟩) (by show w.heap.size ≤ w.heap.size + 1 + 1; omega) (.slice A3 q3 c3)))))
  clear hB1 hC1 ho1 hb1 hB hC ho hb hHeld
  simp only [List.drop_succ_cons, List.drop_zero]
  go_wp2
  exact bodyPost_ret (v := .tuple #[.agg #[(.int .u64 (n : Int)), (.slice A3 q3 c3)], .agg #[(.int .u64 (n : Int)), (.slice A3 q3 c3)]]) (results_two_rows Tryd.results43 _ _ (w.heap.size + 1) 50 _ (0, 0) _ (w.heap.size + 1 + 1) 51 _ (0, 0) _ rfl HN.out.2.1 Tryd.underlying50 rfl info50 rfl HN.out.1 Tryd.underlying51 rfl info51) rfl ⟨⟨_, rfl, HN.out.2.2.1⟩, HN.out.2.2.2⟩
end Go.Proofs.YtkdajlhmodmkoaaDoor
