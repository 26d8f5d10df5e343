/-
  Layer 2 (sha): End walked.
-/
import Derived.Test.YtkdajlhmodmkoaaDoorShaWX
import Derived.Test.YtkdajlhmodmkoaaDoorShaB
import Derived.Deep.LoopGhost
import Derived.StillTailTactics
import Derived.Test.YtkdajlhmodmkoaaDoorShaO
namespace Go.Proofs.YtkdajlhmodmkoaaDoor
open Go.RowKit
set_option linter.unusedVariables false
set_option linter.unusedSimpArgs false

section
variable {P : Program}
theorem wpStill_load_row {ops : Array Oper} {rest : List Oper} {o : Oper} {a : Act} {w : World} {Q : Act → Prop} (hw : Region.wanted o (yielded ops a.tmps) = true) (ty : TypeId) (x : Operand) (ho : o.op = .load ty x)
    (g : Nat) (hx : a.eval x = .pointer (some ⟨g, 0, none⟩)) (t : TypeId) (cs : Array Value) (fr : Nat × Nat) (d : TypeDesc) (hg : w.heap[g]? = some (.cells cs t fr))
    (hu : P.underlying ty = some d) (hd : (match d with | .struct _ | .array _ _ => true | _ => false) = true) (hi : (P.info? ty).map (·.size) = some cs.size)
    (h : wpStill P ops w Q rest (a.put o.dst (.agg cs))) : wpStill P ops w Q (o :: rest) a := by
  refine wpStill_step fun K hK => ?_
  rw [if_pos hw]
  unfold Oper.still execOp
  simp only [ho, hx, Instr.loadAt, Instr.sureAddr, Sem.run_bind, Sem.run_pure, Result.andThen_ok, run_loadVar_row w g t ty cs fr d hg hu hd hi]
  exact ⟨rfl, hK _ h⟩
end
theorem step_load_row {P : Program} {w : World} {ops : Array Oper} {o : Oper} {a : Act} {K : Act → World → Prop} {Q : Exit → Act → World → Prop} {E : Prop} (hgd : o.guard = none) (ty : TypeId) (x : Operand) (ho : o.op = .load ty x)
    (g : Nat) (hx : a.eval x = .pointer (some ⟨g, 0, none⟩)) (t : TypeId) (cs : Array Value) (fr : Nat × Nat) (d : TypeDesc) (hg : w.heap[g]? = some (.cells cs t fr))
    (hu : P.underlying ty = some d) (hd : (match d with | .struct _ | .array _ _ => true | _ => false) = true) (hi : (P.info? ty).map (·.size) = some cs.size)
    (h : K (a.put o.dst (.agg cs)) w) : if Region.wanted o (yielded ops a.tmps) = true then Oper.wp P o a w K Q else E := by
  rw [if_pos (by simp [Region.wanted, hgd])]
  exact wp_load_row ty x ho g hx t cs fr d hg hu hd hi h
theorem IsRun.form {v : Value} {l : List UInt8} (h : IsRun v l) : ∃ cs, v = .agg cs ∧ cs.size = 74 ∧ cs.all (·.oneCell') = true ∧ (Tryd.prog.info? 30).map (·.size) = some cs.size ∧ IsRun (.agg cs) l := by
  obtain ⟨on, st, left, rfl, hi⟩ := h
  have hs : (rcells on (vl st) left l.length).size = 74 := rcells_size rfl hi.hlen
  exact ⟨_, rfl, hs, by rw [Array.all_eq_true_iff_forall_mem]; intro v hv; exact rcells_one v (by simpa using hv), by rw [hs]; exact info30, on, st, left, rfl, hi⟩
/-- In world w block g is a run that has eaten l. -/
def RunAt (w : World) (g : Nat) (l : List UInt8) : Prop := ∃ cs, Blk w g 30 cs ∧ cs.size = 74 ∧ (Tryd.prog.info? 30).map (·.size) = some cs.size ∧ IsRun (.agg cs) l
theorem RunAt.rb {w : World} {g : Nat} {l : List UInt8} (h : RunAt w g l) : ∃ on st left, RB w g on (vl st) left l.length ∧ ShaM.Inv on st left l := by
  obtain ⟨cs, h1, h2, h3, on, st, left, he, hi⟩ := h
  injection he with he
  subst he
  exact ⟨on, st, left, ⟨h1, rfl, hi.hlen⟩, hi⟩
theorem RunAt.n {w : World} {g : Nat} {l : List UInt8} (h : RunAt w g l) : w.cell? ⟨g, 73, none⟩ = some (.int .i64 (l.length : Int)) := by
  obtain ⟨on, st, left, hr, hi⟩ := h.rb
  exact hr.gN
theorem RunAt.store {w w6 : World} {g : Nat} {l m : List UInt8} {cs : Array Value} (h : RunAt w g l) (hb : Below w.heap.size w w6) (h1 : cs.size = 74) (h2 : (Tryd.prog.info? 30).map (·.size) = some cs.size) (h3 : IsRun (.agg cs) m) : RunAt (w6.setRow g cs) g m := by
  obtain ⟨c0, h0, _⟩ := h
  exact ⟨cs, Blk.setRow ((hb.block g h0.lt).trans h0) cs, h1, h2, h3⟩

/-- Since w began the run in the block just made has eaten l. -/
structure EW (w wr : World) (l : List UInt8) : Prop where
  bel : Below w.heap.size w wr
  run : RunAt wr w.heap.size l
theorem EW.step {w wr w1 : World} {l m : List UInt8} {cs : Array Value} (h : EW w wr l) (hb : Below wr.heap.size wr w1) (h1 : cs.size = 74) (h2 : (Tryd.prog.info? 30).map (·.size) = some cs.size) (h3 : IsRun (.agg cs) m) : EW w (w1.setRow w.heap.size cs) m :=
  ⟨below_setRow (h.bel.trans (hb.mono h.bel.size)) (Nat.le_refl _) cs, h.run.store hb h1 h2 h3⟩
theorem EW.drew {w wr : World} {l : List UInt8} (h : EW w wr l) : EW w wr.drew l := ⟨h.bel.drew, h.run⟩

theorem out_all (v : ShaM.V8) : ((vl v).take 8).flatMap ShaM.out4 = ShaM.out v := rfl
theorem out_snoc (v : ShaM.V8) (k : Nat) (hk : k < 8) : ((vl v).take (k + 1)).flatMap ShaM.out4 = ((vl v).take k).flatMap ShaM.out4 ++ ShaM.out4 ((vl v).getD k 0) := by
  rw [List.take_succ_eq_append_getElem (by exact hk), List.flatMap_append, List.getD_eq_getElem?_getD, List.getElem?_eq_getElem (by exact hk)]; simp
theorem out_take (v : ShaM.V8) (k : Nat) (hk : k ≤ 8) : (((vl v).take k).flatMap ShaM.out4).length = 4 * k := by
  rw [List.length_flatMap]
  match k, hk with
  | 0, _ => rfl
  | 1, _ => rfl
  | 2, _ => rfl
  | 3, _ => rfl
  | 4, _ => rfl
  | 5, _ => rfl
  | 6, _ => rfl
  | 7, _ => rfl
  | 8, _ => rfl
theorem out4_vals (x : UInt32) : #[Value.int .u8 ((x.toNat : Int) / 16777216), Value.int .u8 ((x.toNat : Int) / 65536 % 256), Value.int .u8 ((x.toNat : Int) / 256 % 256), Value.int .u8 ((x.toNat : Int) % 256)].toList = bvals (ShaM.out4 x) := by
  have := x.toNat_lt
  have a : ((UInt8.ofNat (x.toNat / 16777216)).toNat : Int) = (x.toNat : Int) / 16777216 := by simp; omega
  have b : ((UInt8.ofNat (x.toNat / 65536)).toNat : Int) = (x.toNat : Int) / 65536 % 256 := by simp
  have c : ((UInt8.ofNat (x.toNat / 256)).toNat : Int) = (x.toNat : Int) / 256 % 256 := by simp
  have d : ((UInt8.ofNat x.toNat).toNat : Int) = (x.toNat : Int) % 256 := by simp
  simp only [bvals, ShaM.out4, List.map_cons, List.map_nil]
  rw [a, b, c, d]
theorem byte_of (m : Nat) : (strOfNums [IntKind.u8.wrap (m : Int)]).data.toList = [UInt8.ofNat m] := by
  have : IntKind.u8.wrap (m : Int) = (m : Int) % 256 := rfl
  rw [this]; exact byte_data m
theorem len8_step (m k : Nat) (hk : k < 8) : (ShaM.len8 (8 * m)).take (k + 1) = (ShaM.len8 (8 * m)).take k ++ (strOfNums [IntKind.u8.wrap ((m : Int) * 8 / 2 ^ (56 - 8 * k))]).data.toList := by
  have e : (m : Int) * 8 / 2 ^ (56 - 8 * k) = ((8 * m / 2 ^ (56 - 8 * k) : Nat) : Int) := by rw [Int.natCast_ediv, Int.mul_comm]; simp
  rw [e, byte_of]
  match k, hk with
  | 0, _ => rfl
  | 1, _ => rfl
  | 2, _ => rfl
  | 3, _ => rfl
  | 4, _ => rfl
  | 5, _ => rfl
  | 6, _ => rfl
  | 7, _ => simp [ShaM.len8]
set_option maxRecDepth 100000 in
set_option maxHeartbeats 8000000 in
theorem end_any {w : World} (hT : Tab w) {v : Value} {l : List UInt8} (h : IsRun v l) (hl : l.length ≤ 90000000) :
    Calls Tryd.prog 31 #[v] w fun e w' => e = .returned (.string ⟨(ShaM.sum l).toArray⟩) ∧ Below w.heap.size w w' := by
  obtain ⟨cs, rfl, hsz, hall, hinf, hrun⟩ := h.form
  have hB : Blk (w.alloc (.cells cs 30)) w.heap.size 30 cs := Blk.new _ _ _
  have hE : EW w (w.alloc (.cells cs 30)) l := ⟨alloc_below' w _, cs, hB, hsz, hinf, hrun⟩
  have hn := hE.run.n
  have HE := Lib.hid hE; have HT := Lib.hid hT; have Hrun := Lib.hid hrun
  clear h hT hE hrun
  have hcv0 : ∀ (wx : World) (x : Int), (convert 40 9 (.slice (some ⟨wx.heap.size, 0, none⟩) 1 1)).run Tryd.prog (wx.alloc (.cells #[.int .u8 x] 5)).drew = .ok (.string (strOfNums [x])) (wx.alloc (.cells #[.int .u8 x] 5)).drew :=
    fun wx x => conv_string_new (P := Tryd.prog) wx.drew 40 9 5 [x] Tryd.underlying40 Tryd.underlying5 Tryd.underlying9 1 1 rfl 5
  have Hcv := Lib.hid hcv0; clear hcv0
  go_enter Tryd.func31, Tryd.ntmps31
  go_wp2_with (refine wpList_load_row rfl 30 (Operand.tmp 1) rfl w.heap.size (by rfl) 30 cs (0, 0) _ hB Tryd.underlying30 rfl hinf ?_)
  refine (with_any (w := w.alloc (.cells cs 30)) (HT.out.below HE.out.bel) Hrun.out ⟨#[128]⟩ (by show l.length + 1 ≤ _; omega)).mono ?_
  rintro e w1 ⟨⟨v1, rfl, hq⟩, hb1⟩
  obtain ⟨cs1, rfl, hs1, ha1, hi1, hr1⟩ := hq.form
  have hB1 : Blk w1 w.heap.size 30 cs := (hb1.block _ hB.lt).trans hB
  have HE1 : Hid (EW w (w1.setRow w.heap.size cs1) (l ++ [128])) := Lib.hid (HE.out.step hb1 hs1 hi1 hr1)
  clear hq hr1 hb1 hn HE Hrun hB
  go_wp2_with (refine wpList_store_row rfl 30 (Operand.tmp 1) (Operand.tmp 13) rfl w.heap.size cs1 (by rfl) (by rfl) 30 cs hB1 hi1 (hsz.trans hs1.symm) ha1 ?_)
  clear hB1
  go_frame
  go_loopg [] (ShaM.gap l.length) (fun q wr => ∃ j : Nat, j + q = ShaM.gap l.length ∧ EW w wr (l ++ [128] ++ List.replicate j 0))
  case atStart => exact ⟨0, Nat.zero_add _, by simpa using HE1.out⟩
  case round =>
    clear HE1
    obtain ⟨j, hj, hE⟩ := hrel
    have hn := hE.run.n
    have hlen : (l ++ [128] ++ List.replicate j 0).length = l.length + 1 + j := by simp; omega
    rw [hlen] at hn
    by_cases hlt : j < ShaM.gap l.length
    · have ht : (((l.length + 1 + j : Nat) : Int) % 64 != 56) = true := by rw [bne_iff_ne]; unfold ShaM.gap at hlt; omega
      have hjb : j ≤ 63 := by unfold ShaM.gap at hlt; omega
      have Hj := Lib.hid hj
      obtain ⟨c0, hB0, hc0, hi0, hr0⟩ := id hE.run
      have HE := Lib.hid hE; have Hr0 := Lib.hid hr0; have Hlen := Lib.hid hlen
      have hNb : l.length + 1 + j ≤ 90000100 := by omega
      generalize l.length + 1 + j = N at *
      clear hE hr0 hlen hj
      go_wp2_with (refine wpList_load_row rfl 30 (Operand.tmp 1) rfl w.heap.size (by rfl) 30 c0 (0, 0) _ hB0 Tryd.underlying30 rfl hi0 ?_)
      refine (with_any (w := wr) (HT.out.below HE.out.bel) Hr0.out ⟨#[0]⟩ (by rw [Hlen.out]; show N + 1 ≤ _; omega)).mono ?_
      rintro e w2 ⟨⟨v2, rfl, hq⟩, hb2⟩
      obtain ⟨cs2, rfl, hs2, ha2, hi2, hr2⟩ := hq.form
      have hB2 : Blk w2 w.heap.size 30 c0 := (hb2.block _ hB0.lt).trans hB0
      have HE2 : Hid (EW w (w2.setRow w.heap.size cs2) (l ++ [128] ++ List.replicate (j + 1) 0)) := Lib.hid (by
        have := HE.out.step hb2 hs2 hi2 hr2
        rw [List.replicate_succ', ← List.append_assoc]; exact this)
      clear hq hr2 hb2 hn hB0 HE Hr0
      go_wp2_with (refine wpList_store_row rfl 30 (Operand.tmp 1) (Operand.tmp 19) rfl w.heap.size cs2 (by rfl) (by rfl) 30 c0 hB2 hi2 (hc0.trans hs2.symm) ha2 ?_)
      go_frame
      go_roundg (gk - 1)
      case measure => have := Hj.out; omega
      case rel => exact ⟨j + 1, by have := Hj.out; omega, HE2.out⟩
    · have ht : (((l.length + 1 + j : Nat) : Int) % 64 != 56) = false := by rw [bne_eq_false_iff_eq]; unfold ShaM.gap at hlt hj; omega
      obtain rfl : j = ShaM.gap l.length := by omega
      have HE := Lib.hid hE
      generalize l.length + 1 + ShaM.gap l.length = N at *
      clear hE hj hlt
      go_wp2
      generalize hpre : l ++ [128] ++ List.replicate (ShaM.gap l.length) 0 = pre at HE
      have hprl : pre.length ≤ 90000100 := by
        rw [← hpre]; simp only [List.length_append, List.length_replicate, List.length_singleton]; unfold ShaM.gap; omega
      have Hpre := Lib.hid hpre
      clear hpre
      go_loopw [4, 20] (fun _ i wr => ∃ k : Nat, k ≤ 8 ∧ i = .int .i64 (k : Int) ∧ EW w wr (pre ++ (ShaM.len8 (8 * l.length)).take k)) (fun _ i _ => 8 - (intOf i).toNat)
      case atStart => exact ⟨0, by omega, rfl, by simpa using HE.out⟩
      case round =>
        clear HE
        obtain ⟨k, hk, rfl, hE⟩ := hrel
        by_cases hlt : k < 8
        · obtain ⟨c0, hB0, hc0, hi0, hr0⟩ := id hE.run
          have HE := Lib.hid hE; have Hr0 := Lib.hid hr0
          clear hE hr0
          have r0 : (0 : Int) ≤ (k : Int) := by omega
          have r1 : (k : Int) < 8 := by omega
          have a8 : IntKind.i64.wrap (8 * (k : Int)) = 8 * (k : Int) := IntWalk.i64_in _ (by omega)
          have a56 : IntKind.i64.wrap (56 - 8 * (k : Int)) = 56 - 8 * (k : Int) := IntWalk.i64_in _ (by omega)
          have p56 : (0 : Int) ≤ 56 - 8 * (k : Int) := by omega
          have q56 : 56 - 8 * (k : Int) ≤ 64 := by omega
          have q56' : 8 * (k : Int) ≤ 56 := by omega
          have hcv := Hcv.out
          have t56 : (56 - 8 * (k : Int)).toNat = 56 - 8 * k := by omega
          go_wp2
          refine wp_region_T (n := 10) (S := fun wq => Blk wq w.heap.size 30 c0) (by kernel_rfl) (by kernel_rfl) hB0 (fun hHeld => ?_)
          refine WalkT.take (i := 0) (oi := _) (v := _) rfl (by decide) (by kernel_rfl) (by kernel_rfl) (fun _ _ _ h => h) (yieldsIf_load_row (by rfl) 30 (Operand.tmp 1) rfl w.heap.size (by rfl) 30 c0 (0, 0) _ (fun _ h => h) Tryd.underlying30 rfl hi0) (by assumption) ?_
          try simp only [Act.put, List.setIfInBounds_toArray, List.set_cons_zero, List.set_cons_succ]
          refine WalkT.take (i := 1) (oi := _) (v := ?v1) rfl (by decide) (by kernel_rfl) (by kernel_rfl) (fun _ _ _ h => h) (Or.inl ⟨by rfl, ?h1⟩) (by assumption) ?r1
          case h1 => (intro wq hSw; go_simp; try (with_reducible rfl))
          try simp only [Act.put, List.setIfInBounds_toArray, List.set_cons_zero, List.set_cons_succ]
          refine WalkT.take (i := 2) (oi := _) (v := ?v2) rfl (by decide) (by kernel_rfl) (by kernel_rfl) (fun _ _ _ h => h) (Or.inl ⟨by rfl, ?h2⟩) (by assumption) ?r2
          case h2 => (intro wq hSw; go_simp; try (with_reducible rfl))
          try simp only [Act.put, List.setIfInBounds_toArray, List.set_cons_zero, List.set_cons_succ]
          refine WalkT.take (i := 3) (oi := _) (v := ?v3) rfl (by decide) (by kernel_rfl) (by kernel_rfl) (fun _ _ _ h => h) (Or.inl ⟨by rfl, ?h3⟩) (by assumption) ?r3
          case h3 => (intro wq hSw; go_simp; try (with_reducible rfl))
          try simp only [Act.put, List.setIfInBounds_toArray, List.set_cons_zero, List.set_cons_succ]
          refine WalkT.take (i := 4) (oi := _) (v := ?v4) rfl (by decide) (by kernel_rfl) (by kernel_rfl) (fun _ _ _ h => h) (Or.inl ⟨by rfl, ?h4⟩) (by assumption) ?r4
          case h4 => (intro wq hSw; go_simp; try (with_reducible rfl))
          try simp only [Act.put, List.setIfInBounds_toArray, List.set_cons_zero, List.set_cons_succ]
          refine WalkT.take (i := 5) (oi := _) (v := ?v5) rfl (by decide) (by kernel_rfl) (by kernel_rfl) (fun _ _ _ h => h) (Or.inl ⟨by rfl, ?h5⟩) (by assumption) ?r5
          case h5 => (intro wq hSw; go_simp; try (with_reducible rfl))
          try simp only [Act.put, List.setIfInBounds_toArray, List.set_cons_zero, List.set_cons_succ]
          refine WalkT.take (i := 6) (oi := _) (v := ?v6) rfl (by decide) (by kernel_rfl) (by kernel_rfl) (fun _ _ _ h => h) (Or.inl ⟨by rfl, ?h6⟩) (by assumption) ?r6
          case h6 => (intro wq hSw; go_simp; try (with_reducible rfl))
          try simp only [Act.put, List.setIfInBounds_toArray, List.set_cons_zero, List.set_cons_succ]
          refine WalkT.one (i := 7) (o := ?o7) (by kernel_rfl) (by decide) ?ho7 ?hk7
          case ho7 => (simp only [List.getElem?_toArray, List.getElem?_cons_succ, List.getElem?_cons_zero]; exact rfl)
          intro K hK
          go_simp
          refine hK.out _ _ (Blk.alloc hHeld _) (fun hHeld => ?_)
          clear hK K
          try simp only [Act.put, List.setIfInBounds_toArray, List.set_cons_zero, List.set_cons_succ]
          refine WalkT.one (i := 8) (o := ?o8) (by kernel_rfl) (by decide) ?ho8 ?hk8
          case ho8 => (simp only [List.getElem?_toArray, List.getElem?_cons_succ, List.getElem?_cons_zero]; exact rfl)
          intro K hK
          go_simp
          refine hK.out _ _ hHeld (fun hHeld => ?_)
          clear hK K
          try simp only [Act.put, List.setIfInBounds_toArray, List.set_cons_zero, List.set_cons_succ]
          refine WalkT.one (i := 9) (o := ?o9) (by kernel_rfl) (by decide) ?ho9 ?hk9
          case ho9 => (simp only [List.getElem?_toArray, List.getElem?_cons_succ, List.getElem?_cons_zero]; exact rfl)
          intro K hK
          go_simp
          refine (with_any (HT.out.below ((HE.out.bel.alloc HE.out.bel.size _).drew)) Hr0.out _ (by rw [strOfNums_size, List.length_append, List.length_take]; have := hprl; simp; omega)).mono ?_
          rintro e w9 ⟨⟨v9, rfl, hq⟩, hb9⟩
          rw [List.append_assoc, ← len8_step _ _ hlt] at hq
          obtain ⟨cs9, rfl, hs9, ha9, hi9, hr9⟩ := hq.form
          have hB9 : Blk w9 w.heap.size 30 c0 := (hb9.block _ (Blk.lt hHeld)).trans hHeld
          have HE9 : Hid (EW w (w9.setRow w.heap.size cs9) (pre ++ (ShaM.len8 (8 * l.length)).take (k + 1))) := Lib.hid (HE.out.step (((alloc_below' wr _).drew).trans (hb9.mono (by simp))) hs9 hi9 hr9)
          go_simp
          refine hK.out _ _ hB9 (fun hHeld => ?_)
          clear hq hr9 hb9 HE Hr0 hB0
          clear hK K
          try simp only [Act.put, List.setIfInBounds_toArray, List.set_cons_zero, List.set_cons_succ]
          refine WalkT.tail (by kernel_rfl) ?_
          simp only [List.drop_succ_cons, List.drop_zero]
          refine wpList_store_row rfl 30 (Operand.tmp 1) (Operand.tmp 32) rfl w.heap.size cs9 (by rfl) (by rfl) 30 c0 hB9 hi9 (hc0.trans hs9.symm) ha9 ?_
          go_wp2
          go_roundw
          case rel => exact ⟨k + 1, by omega, by go_num, HE9.out⟩
          case measure => simp [intOf]; omega
        · obtain rfl : k = 8 := by omega
          rw [List.take_of_length_le (by simp [ShaM.len8_length])] at hE
          have hpad : pre ++ ShaM.len8 (8 * l.length) = ShaM.padded l := by rw [← Hpre.out]; rfl
          rw [hpad] at hE
          obtain ⟨on, st, left, hRB, hinv⟩ := hE.run.rb
          have Hsum := Lib.hid (ShaM.Inv.sum l hinv)
          have H0 : Hid (BdW w wr (.slice none 0 0) []) := Lib.hid (BdW.nil hE.bel)
          have hrg := hRB.range
          clear hE hpad hRB hinv Hpre hlt hk
          obtain ⟨i5, hj5, hy0, hy1, hy2⟩ := info_parts winfo5
          go_wp2_with (refine wpList_load_mid rfl 27 (Operand.tmp 34) rfl w.heap.size 1 (by rfl) ((vl st).map uval) _ hrg Tryd.underlying27 rfl (inf27l _) ?_)
          clear hrg
          go_loopw [5, 7, 36] (fun v _ i wx => ∃ k : Nat, k ≤ 8 ∧ i = .int .i64 (k : Int) ∧ BdW w wx v (((vl st).take k).flatMap ShaM.out4)) (fun _ _ i _ => 8 - (intOf i).toNat)
          case atStart => exact ⟨0, by omega, rfl, H0.out⟩
          case round =>
            clear H0
            obtain ⟨k, hk, rfl, hbd⟩ := hrel
            by_cases hlt : k < 8
            · have hix := fun wx => index27 st wx k hlt
              unfold ucells at hix
              have hsn := Lib.hid (out_snoc st k hlt)
              have hown := hbd.own
              have hlen := out_take st k (Nat.le_of_lt hlt)
              rw [hlen] at hown
              generalize (vl st).getD k 0 = x at *
              have Hbd := Lib.hid hbd; have Hlen := Lib.hid hlen
              clear hbd hlen hn ht
              rename World => wx
              have hxl := x.toNat_lt
              have r0 : (0 : Int) ≤ (k : Int) := by omega
              have r1 : (k : Int) < 8 := by omega
              go_wp2_with (refine wpList_appendN rfl _ _ 40 rfl w.heap.size 5 i5 (.int .u8 0) 1 Tryd.underlying40 hj5 hy0 hy1 hy2 rfl _ _ _ rfl (own_alloc' hown _) wx.heap.size 4 rfl _ _ _ (heap_alloc_new wx _) rfl (by decide) (by intro u hu; simp at hu; rcases hu with rfl | rfl | rfl | rfl <;> rfl) (by unfold maxLen; omega) (by omega) (by have := Hbd.out.bel.size; simp; omega) ?_; intro v' w3 hown3 hg3 hv3)
              have Hn : Hid (BdW w w3 v' (((vl st).take (k + 1)).flatMap ShaM.out4)) := Lib.hid (by
                rw [hsn.out]
                exact Hbd.out.append (alloc_below' wx _) Hlen.out rfl hown3 hg3 (out4_vals x))
              go_roundw
              case rel => exact ⟨k + 1, by omega, by go_num, Hn.out⟩
              case measure => simp [intOf]; omega
            · obtain rfl : k = 8 := by omega
              rw [out_all] at hbd
              have hcv := conv_own (P := Tryd.prog) Tryd.underlying40 Tryd.underlying5 Tryd.underlying9 hbd.own
              rw [Hsum.out] at hcv
              have Hbl := Lib.hid hbd.bel
              clear hbd
              go_wp2
              go_ret
              exact ⟨rfl, Hbl.out⟩
end Go.Proofs.YtkdajlhmodmkoaaDoor
