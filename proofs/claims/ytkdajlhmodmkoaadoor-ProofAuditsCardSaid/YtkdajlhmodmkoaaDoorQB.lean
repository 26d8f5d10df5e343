/-
  Several texts of this seat as one (for the limit of files): OI, PH, PK, PZ.
-/
import Derived.Test.YtkdajlhmodmkoaaDoorQA
import Derived.OrdersIn
import Derived.TacticsIn
import Derived.RangeFuncCalls
import Derived.Laws.StructEq
/-
  Small laws: a drawn region in a round of a range over a function, walked as ShaO's: under a condition on the world, its last operations in their order.
-/
namespace Go.Proofs.YtkdajlhmodmkoaaDoor
open Go.RowKit
set_option linter.unusedVariables false
set_option linter.unusedSimpArgs false
section
variable {P : Program} {Q : Exit → Act → World → Prop}
theorem Oper.wpIn_round {l n : Nat} {o : Oper} {a : Act} {w : World} {K : Act → World → Prop} (hd : ∀ c, o.op ≠ .defer c) (h : Oper.wp P o a w K Q) : Oper.wpIn (Fence.wide.inRound l) n P o a w K Q := by
  unfold Oper.wp at h
  unfold Oper.wpIn
  refine ⟨fun _ _ => trivial, ?_⟩
  rw [Fence.inRound_round, Oper.semAt_some l _ _ hd]
  generalize (execOp a.eval o).run P w = r at *
  cases r with
  | ok x w' =>
    cases x with
    | enter f args =>
      simp only [Oper.upon, Oper.uponIn] at h ⊢
      exact ⟨fun h => by simp [Fence.wide] at h, CallsIn.inRound l (callsIn_wide.2 h)⟩
    | row row args =>
      simp only [Oper.upon, Oper.uponIn] at h ⊢
      exact ⟨fun h => by simp [Fence.wide] at h, fun c cs _ => let ⟨v, w', r, s⟩ := h c cs; ⟨v, w', r, stepsIn_wide.2 s⟩⟩
    | value v => exact h
    | skip => exact h
    | defer d => exact h
    | _ => exact h.elim
  | halt x w' => cases x <;> simp only [Oper.upon, Oper.uponIn] at h ⊢ <;> exact h
theorem wpAnyIn_round {l n : Nat} {ops : Array Oper} {md : Region.Mode} (hno : ∀ a w, Q .outgrown a w → False) (hd : ∀ (j : Nat) (o : Oper), ops[j]? = some o → ∀ c, o.op ≠ .defer c) :
    ∀ (f : Nat) (listed : Array Bool) (a : Act) (w : World), wpAny P md ops Q f listed a w → wpAnyIn (Fence.wide.inRound l) n P md ops Q f listed a w
  | 0, listed, a, w, h => h
  | f + 1, listed, a, w, h => by
    refine ⟨h.1, fun i hi => ?_⟩
    have h1 := h.2 i hi
    unfold wpOp at h1
    unfold wpOpIn
    split at h1
    · rename_i hn; simp only [hn]; exact wpAnyIn_round hno hd f _ a w h1
    · rename_i o ho
      simp only [ho]
      split at h1
      · rename_i hw
        simp only [hw, if_true]
        rcases h1 with h1 | h1
        · exact Oper.wpIn_mono (fun a w hh => wpAnyIn_round hno hd f _ a w hh) (Oper.wpIn_round (hd i o ho) h1)
        · obtain ⟨-, a0, w0, h0⟩ := h1; exact (hno _ _ h0).elim
      · rename_i hw
        rw [if_neg hw]
        exact ⟨fun _ _ => trivial, wpAnyIn_round hno hd f _ _ w h1⟩
def noDeferB (l : List Oper) : Bool := l.all fun o => match o.op with | .defer _ => false | _ => true
theorem noDefer_spec {l : List Oper} (h : noDeferB l = true) (j : Nat) (o : Oper) (ho : l.toArray[j]? = some o) (c : Call) : o.op ≠ .defer c := by
  intro hc
  have hm : o ∈ l := List.mem_of_getElem? (by simpa using ho)
  have := List.all_eq_true.1 h o hm
  rw [hc] at this
  cases this
variable {S : World → Prop} {l : List Oper}
theorem any_of_T {a : Act} {w : World} (n : Nat) (S : World → Prop) (hB : (Region.noSelect l.toArray && decide (n < l.length) && Region.sinkB .any l.toArray n && Region.chainB .any l.toArray n) = true)
    (h : WalkT P l Q S n n (Array.replicate l.length false) a w) : wpAny P .any l.toArray Q l.length (Array.replicate l.length false) a w := by
  simp only [Bool.and_eq_true, decide_eq_true_eq] at hB
  obtain ⟨⟨⟨hsel, hn⟩, hs⟩, hc⟩ := hB
  have inv0 : HeadInv .any l.toArray n (Array.replicate l.length false) :=
    ⟨by simp, fun j oj _ hl => (by rw [getD_replicate_false] at hl; cases hl), fun t _ ht => getD_in (by simpa using ht) (getD_replicate_false _ _)⟩
  have hdl : (l.drop n).length = l.length - n := by simp
  have := AnyT.any (Q := Q) (g := l.length - n) (fun listed a' w' hL => by
    have := wpAny_of_seq (md := .any) (Q' := Q) (l.drop n) n listed a' w' (fun j => by simp [List.getElem?_drop]) (by rw [hdl]; exact hL.1) hL.2
    rwa [hdl] at this) _ _ _ _ (h hs hc hsel hn inv0)
  rwa [show n + (l.length - n) = l.length by omega] at this
theorem wpIn_region_TR {id r d : Nat} {a : Act} {w : World} (n : Nat) (S : World → Prop) (hno : ∀ a w, Q .outgrown a w → False) (hm : P.follows .mixedOrders = true)
    (hB : (Region.noSelect l.toArray && decide (n < l.length) && Region.sinkB .any l.toArray n && Region.chainB .any l.toArray n) = true) (hd : noDeferB l = true) (hS : S w.drew)
    (h : S w.drew → WalkT P l Q S n n (Array.replicate l.length false) a w.drew) : (Code.region id l.toArray true).wpIn (Fence.wide.inRound r) d P Q a w := by
  refine wpIn_region_any hm ?_
  have := any_of_T n S hB (h hS)
  rw [List.size_toArray]
  exact wpAnyIn_round hno (noDefer_spec hd) _ _ _ _ this
end
end Go.Proofs.YtkdajlhmodmkoaaDoor

/-
  Layer 9 (proof): the code's Implied walked.
-/
namespace Go.Proofs.YtkdajlhmodmkoaaDoor
open Go.RowKit Go.Shelf TreeM
set_option linter.unusedVariables false
set_option linter.unusedSimpArgs false
attribute [local go_sem] Oper.semAt_some

theorem cell_blt {w : World} {b o : Nat} {v : Value} (h : w.cell? ⟨b, o, none⟩ = some v) : b < w.heap.size := by
  rcases Nat.lt_or_ge b w.heap.size with h' | h'
  · exact h'
  · simp [World.cell?, Array.getElem?_eq_none h'] at h
theorem rev_getD {P q : List ByteArray} {n : Nat} (hq : P.reverse = q) (hl : P.length = n + 1) (i : Nat) (hi : i ≤ n) (h : n - i < P.length) : q.getD i ⟨#[]⟩ = P[n - i] := by
  subst hq
  rw [List.getD_eq_getElem?_getD, List.getElem?_reverse (by omega), show P.length - 1 - i = n - i by omega, List.getElem?_eq_getElem h]
  rfl
theorem wp_of_normal {P : Program} {c : Code} {Q : Exit → Act → World → Prop} {a : Act} {w : World} (h : c.wp P (fun e a w => e = .normal ∧ Q .normal a w) a w) : c.wp P Q a w := wp_mono h (fun e a w ⟨he, hq⟩ => he ▸ hq)

set_option maxRecDepth 100000 in
set_option maxHeartbeats 2000000 in
theorem cimplied_no {w : World} (hT : Tab w) {v : Value} {P : List ByteArray} (h : SRead w v P) (m n : Nat) (hm : mayB m n = false) :
    Calls Tryd.prog 54 #[.int .u64 (m : Int), .int .u64 (n : Int), v] w fun e w' => e = .returned (.tuple #[.string ⟨#[]⟩, .string ⟨#[]⟩, .int .i64 1]) ∧ Below w.heap.size w w' := by
  obtain ⟨A, cap, rfl⟩ := h.any rfl
  obtain ⟨N, hN⟩ : ∃ N, P.length = N := ⟨_, rfl⟩
  rw [hN]
  have h82 := fun wq => cmay_any m n wq
  rw [hm] at h82
  have hw1 := alloc_below' w (.cells #[.slice A N cap] 25)
  have H82 := Lib.hid h82; have Hw1 := Lib.hid hw1
  clear h82 hw1 h hT hN hm
  go_enter Tryd.func54, Tryd.ntmps54
  go_wp2_with fail
  refine (H82.out _).mono ?_
  rintro e wq ⟨rfl, hwq⟩
  replace hwq := hwq.symm; subst hwq
  go_wp2
  go_ret3
  exact ⟨rfl, Hw1.out⟩
set_option maxRecDepth 100000 in
set_option maxHeartbeats 2000000 in
theorem cimplied_short {w : World} (hT : Tab w) {v : Value} {P : List ByteArray} (h : SRead w v P) (m n : Nat) (hm : mayB m n = true) (hw : wholeB P (stepsN m n) = false) :
    Calls Tryd.prog 54 #[.int .u64 (m : Int), .int .u64 (n : Int), v] w fun e w' => e = .returned (.tuple #[.string ⟨#[]⟩, .string ⟨#[]⟩, .int .i64 11]) ∧ Below w.heap.size w w' := by
  obtain ⟨A, cap, rfl⟩ := h.any rfl
  obtain ⟨N, hN⟩ : ∃ N, P.length = N := ⟨_, rfl⟩
  rw [hN]
  obtain ⟨K, hK⟩ : ∃ K, stepsN m n = K := ⟨_, rfl⟩
  rw [hK] at hw
  have h82 := cmay_any m n (w.alloc (.cells #[.slice A N cap] 25))
  rw [hm] at h82
  have hw1 := alloc_below' w (.cells #[.slice A N cap] 25)
  have hB5 : Blk (w.alloc (.cells #[.slice A N cap] 25)) w.heap.size 25 #[.slice A N cap] := Blk.new _ _ _
  have c5 := hB5.cell 0
  simp only [List.getElem?_toArray, List.getElem?_cons_succ, List.getElem?_cons_zero] at c5
  rw [hN] at h
  have h0 := h.below hw1 rfl
  obtain ⟨w0, hw0⟩ : ∃ w0, w.alloc (.cells #[.slice A N cap] 25) = w0 := ⟨_, rfl⟩
  rw [hw0] at h82 hw1 hB5 c5 h0
  have h56 : ∀ wq, Below w0.heap.size w0 wq → Calls Tryd.prog 56 #[.int .u64 (m : Int), .int .u64 (n : Int)] wq fun e w' => e = .returned (.int .i64 (K : Int)) ∧ Below wq.heap.size wq w' := fun wq hq => by rw [← hK]; exact cStepsN_any m n
  have h83 : ∀ wq, Below w0.heap.size w0 wq → Calls Tryd.prog 83 #[.slice A N cap, .int .i64 (K : Int)] wq fun e w' => e = .returned (.bool false) ∧ w' = wq := fun wq hq => by
    have := cwhole_any (h0.below hq rfl) K
    rw [hw] at this
    exact this
  have H82 := Lib.hid h82; have H56 := Lib.hid h56; have H83 := Lib.hid h83; have Hw1 := Lib.hid hw1; have HB5 := Lib.hid hB5
  clear h82 h56 h83 hw1 hB5 h h0 hT hN hK hm hw
  go_enter Tryd.func54, Tryd.ntmps54
  go_wp2_with fail
  refine H82.out.mono ?_
  rintro e wq ⟨rfl, hwq⟩
  replace hwq := hwq.symm; subst hwq
  go_wp2_with fail
  refine wp_region_T (n := 5) (S := fun wq => Below w0.heap.size w0 wq) (by kernel_rfl) (by kernel_rfl) (below_drewN' (Below.refl _ _) 1) (fun hHeld => ?_)
  refine WalkT.take (i := 0) (oi := _) (v := ?va1) rfl (by decide) (by kernel_rfl) (by kernel_rfl) (fun _ _ _ h => h) (Or.inl ⟨by kernel_rfl, ?hya1⟩) (by assumption) ?ra1
  case hya1 => (intro wq hSw; have q9 := cell_belowB hSw rfl c5; go_simp; try (with_reducible rfl))
  try simp only [Act.put, List.setIfInBounds_toArray, List.set_cons_zero, List.set_cons_succ]
  refine WalkT.take (i := 1) (oi := _) (v := ?va2) rfl (by decide) (by kernel_rfl) (by kernel_rfl) (fun _ _ _ h => h) (Or.inl ⟨by kernel_rfl, ?hya2⟩) (by assumption) ?ra2
  case hya2 => (intro wq hSw; go_simp; try (with_reducible rfl))
  try simp only [Act.put, List.setIfInBounds_toArray, List.set_cons_zero, List.set_cons_succ]
  refine WalkT.take (i := 2) (oi := _) (v := ?va3) rfl (by decide) (by kernel_rfl) (by kernel_rfl) (fun _ _ _ h => h) (Or.inl ⟨by kernel_rfl, ?hya3⟩) (by assumption) ?ra3
  case hya3 => (intro wq hSw; go_simp; try (with_reducible rfl))
  try simp only [Act.put, List.setIfInBounds_toArray, List.set_cons_zero, List.set_cons_succ]
  refine WalkT.one (i := 3) (o := ?oa4) (by kernel_rfl) (by decide) ?hoa4 ?hka4
  case hoa4 => (simp only [List.getElem?_toArray, List.getElem?_cons_succ, List.getElem?_cons_zero]; exact rfl)
  intro K hK
  go_simp
  refine (H56.out _ hHeld).mono ?_
  rintro e y3 ⟨rfl, hb⟩
  have hS3 : Below w0.heap.size w0 y3 := Below.trans hHeld (Below.mono hb (Below.size hHeld))
  clear hb hHeld
  go_simp
  refine hK.out _ _ hS3 (fun hHeld => ?_)
  clear hS3
  clear hK K
  try simp only [Act.put, List.setIfInBounds_toArray, List.set_cons_zero, List.set_cons_succ]
  refine WalkT.one (i := 4) (o := ?oa5) (by kernel_rfl) (by decide) ?hoa5 ?hka5
  case hoa5 => (simp only [List.getElem?_toArray, List.getElem?_cons_succ, List.getElem?_cons_zero]; exact rfl)
  intro K hK
  go_simp
  refine (H83.out _ hHeld).mono ?_
  rintro e yq ⟨rfl, hyq⟩
  replace hyq := hyq.symm; subst hyq
  go_simp
  refine hK.out _ _ hHeld (fun hHeld => ?_)
  clear hK K
  try simp only [Act.put, List.setIfInBounds_toArray, List.set_cons_zero, List.set_cons_succ]
  refine WalkT.tail (by kernel_rfl) ?_
  have Hend := Lib.hid (Hw1.out.trans (Below.mono hHeld Hw1.out.size)); clear hHeld
  simp only [List.drop_succ_cons, List.drop_zero]
  go_wp2
  go_ret3
  exact ⟨rfl, Hend.out⟩
/-YES-/
set_option maxRecDepth 100000 in
set_option maxHeartbeats 4000000 in
theorem cimplied_yes {w : World} (hT : Tab w) {v : Value} {P : List ByteArray} (h : SRead w v P) (m n : Nat) (hm : mayB m n = true) (hw : wholeB P (stepsN m n) = true) :
    Calls Tryd.prog 54 #[.int .u64 (m : Int), .int .u64 (n : Int), v] w fun e w' => e = .returned (.tuple #[.string (imp (steps m n) P.reverse).1, .string (imp (steps m n) P.reverse).2, .int .i64 0]) ∧ Below w.heap.size w w' := by
  obtain ⟨m1, m2, m3⟩ := may_yes hm
  obtain ⟨hw1', hw2'⟩ := whole_yes hw
  have hN1 : 1 ≤ P.length := by rw [hw1', stepsN_yes hm]; omega
  have h79 := fun wq => csteps_any (w := wq) m n m1 m2 m3
  have hpl := hw1'
  rw [stepsN_yes hm] at hpl
  have hsl := steps_short 40 m n (by omega) m1

  obtain ⟨bp, op, cap, rfl, hcap⟩ := h.slice rfl hN1
  obtain ⟨N, hN⟩ : ∃ N, P.length = N := ⟨_, rfl⟩
  rw [hN]
  obtain ⟨K, hK⟩ : ∃ K, stepsN m n = K := ⟨_, rfl⟩
  rw [hK] at hw
  have h82 := cmay_any m n (w.alloc (.cells #[.slice (some ⟨bp, op, none⟩) N cap] 25))
  rw [hm] at h82
  have hw1 := alloc_below' w (.cells #[.slice (some ⟨bp, op, none⟩) N cap] 25)
  have hB5 : Blk (w.alloc (.cells #[.slice (some ⟨bp, op, none⟩) N cap] 25)) w.heap.size 25 #[.slice (some ⟨bp, op, none⟩) N cap] := Blk.new _ _ _
  have c5 := hB5.cell 0
  simp only [List.getElem?_toArray, List.getElem?_cons_succ, List.getElem?_cons_zero] at c5
  rw [hN] at h
  have h0 := h.below hw1 rfl
  obtain ⟨w0, hw0⟩ : ∃ w0, w.alloc (.cells #[.slice (some ⟨bp, op, none⟩) N cap] 25) = w0 := ⟨_, rfl⟩
  rw [hw0] at h82 hw1 hB5 c5 h0
  have h56 : ∀ wq, Below w0.heap.size w0 wq → Calls Tryd.prog 56 #[.int .u64 (m : Int), .int .u64 (n : Int)] wq fun e w' => e = .returned (.int .i64 (K : Int)) ∧ Below wq.heap.size wq w' := fun wq hq => by rw [← hK]; exact cStepsN_any m n
  have h83 : ∀ wq, Below w0.heap.size w0 wq → Calls Tryd.prog 83 #[.slice (some ⟨bp, op, none⟩) N cap, .int .i64 (K : Int)] wq fun e w' => e = .returned (.bool true) ∧ w' = wq := fun wq hq => by
    have := cwhole_any (h0.below hq rfl) K
    rw [hw] at this
    exact this
  have H82 := Lib.hid h82; have H56 := Lib.hid h56; have H83 := Lib.hid h83; have Hw1 := Lib.hid hw1; have HB5 := Lib.hid hB5
  obtain ⟨ss, hss⟩ : ∃ ss, steps m n = ss := ⟨_, rfl⟩
  rw [hss] at hpl hsl h79 ⊢
  obtain ⟨q, hq⟩ : ∃ q, P.reverse = q := ⟨_, rfl⟩
  rw [hq]
  have Hq := Lib.hid hq; clear hq
  obtain ⟨p0, hp0⟩ : ∃ p0, P[0]? = some p0 := ⟨P[0], List.getElem?_eq_getElem _⟩
  have hcp0 : w0.cell? ⟨bp, op, none⟩ = some (.string p0) := by
    obtain ⟨A', cap', he, -, hc⟩ := h0
    injection he with q1 q2 q3
    obtain ⟨b', o', he2, -, hx⟩ := hc 0 (by omega)
    rw [← q1] at he2; injection he2 with he2; injection he2 with e1 e2 _; subst e1 e2
    rw [Nat.add_zero] at hx; rw [hx]
    rw [List.getElem?_eq_getElem (by omega)] at hp0
    rw [Option.some.inj hp0]
  have Hlen := Lib.hid (And.intro hpl (And.intro hsl (And.intro hw2' hN))); have Hp0 := Lib.hid hp0; have H79 := Lib.hid h79; have H0 := Lib.hid h0; have HT := Lib.hid hT
  have hN2 : (0 : Int) < (N : Int) := by omega
  have hNm : N ≤ 41 := by omega
  have hN3 : 0 < N := by omega
  clear h82 h56 h83 hw1 hB5 h h0 hT hN hK hm hw hw1' hw2' hp0 hpl hsl h79 m1 m2 m3 hN1
  refine (callsIn_wide (n := 3)).1 ?_
  refine callsIn_of_wp_marks Tryd.func54 rfl trivial ?_ rfl
  simp only [Tryd.ntmps54, List.size_toArray, List.length_cons, List.length_nil, Nat.reduceAdd, Nat.reduceSub, Array.replicate_succ, Array.replicate_zero, List.push_toArray, List.append_toArray, List.nil_append, List.cons_append]
  gi_wp2_with fail
  refine ⟨trivial, ((callsIn_wide (n := 2)).2 H82.out).mono ?_⟩
  rintro e wq ⟨rfl, hwq⟩
  replace hwq := hwq.symm; subst hwq
  gi_wp2_with fail
  refine wpIn_wide.2 (wp_of_normal ?_)
  refine wp_region_T (n := 5) (S := fun wq => Below w0.heap.size w0 wq) (by kernel_rfl) (by kernel_rfl) (below_drewN' (Below.refl _ _) 1) (fun hHeld => ?_)
  refine WalkT.take (i := 0) (oi := _) (v := ?vb1) rfl (by decide) (by kernel_rfl) (by kernel_rfl) (fun _ _ _ h => nomatch h.1) (Or.inl ⟨by kernel_rfl, ?hyb1⟩) (by assumption) ?rb1
  case hyb1 => (intro wq hSw; have q9 := cell_belowB hSw rfl c5; go_simp; try (with_reducible rfl))
  try simp only [Act.put, List.setIfInBounds_toArray, List.set_cons_zero, List.set_cons_succ]
  refine WalkT.take (i := 1) (oi := _) (v := ?vb2) rfl (by decide) (by kernel_rfl) (by kernel_rfl) (fun _ _ _ h => nomatch h.1) (Or.inl ⟨by kernel_rfl, ?hyb2⟩) (by assumption) ?rb2
  case hyb2 => (intro wq hSw; go_simp; try (with_reducible rfl))
  try simp only [Act.put, List.setIfInBounds_toArray, List.set_cons_zero, List.set_cons_succ]
  refine WalkT.take (i := 2) (oi := _) (v := ?vb3) rfl (by decide) (by kernel_rfl) (by kernel_rfl) (fun _ _ _ h => nomatch h.1) (Or.inl ⟨by kernel_rfl, ?hyb3⟩) (by assumption) ?rb3
  case hyb3 => (intro wq hSw; go_simp; try (with_reducible rfl))
  try simp only [Act.put, List.setIfInBounds_toArray, List.set_cons_zero, List.set_cons_succ]
  refine WalkT.one (i := 3) (o := ?ob4) (by kernel_rfl) (by decide) ?hob4 ?hkb4
  case hob4 => (simp only [List.getElem?_toArray, List.getElem?_cons_succ, List.getElem?_cons_zero]; exact rfl)
  intro K hK
  go_simp
  refine (H56.out _ hHeld).mono ?_
  rintro e y3 ⟨rfl, hb⟩
  have hS3 : Below w0.heap.size w0 y3 := Below.trans hHeld (Below.mono hb (Below.size hHeld))
  clear hb hHeld
  go_simp
  refine hK.out _ _ hS3 (fun hHeld => ?_)
  clear hS3
  clear hK K
  try simp only [Act.put, List.setIfInBounds_toArray, List.set_cons_zero, List.set_cons_succ]
  refine WalkT.one (i := 4) (o := ?ob5) (by kernel_rfl) (by decide) ?hob5 ?hkb5
  case hob5 => (simp only [List.getElem?_toArray, List.getElem?_cons_succ, List.getElem?_cons_zero]; exact rfl)
  intro K hK
  go_simp
  refine (H83.out _ hHeld).mono ?_
  rintro e yq ⟨rfl, hyq⟩
  replace hyq := hyq.symm; subst hyq
  go_simp
  refine hK.out _ _ hHeld (fun hHeld => ?_)
  clear hK K
  try simp only [Act.put, List.setIfInBounds_toArray, List.set_cons_zero, List.set_cons_succ]
  refine WalkT.tail (by kernel_rfl) ?_
  simp only [List.drop_succ_cons, List.drop_zero]
  go_wp2
  gi_wp2_with fail
  obtain ⟨g5, hg5⟩ : ∃ g, w.heap.size = g := ⟨_, rfl⟩
  have hWA := Hw1.out.trans (hHeld.mono Hw1.out.size)
  have c5 := cell_belowB hHeld rfl c5
  have hcp0 := cell_belowB hHeld rfl hcp0
  have HWA := Lib.hid hWA; have Hy3 := Lib.hid hWA.size
  have H0A := Lib.hid (H0.out.below hHeld rfl)
  clear hWA hHeld H82 H56 H83 HB5 hw0 Hw1 H0

  rw [hg5] at c5 ⊢
  have Hg5 := Lib.hid hg5; clear hg5
  have Hc := Lib.hid (And.intro c5 hcp0)
  refine wpIn_wide.2 (wp_mono (Q := fun e a' w' => e = .normal ∧ ∃ g9 g10 : Nat, a' = { tmps := #[.int .u64 (m : Int), .int .u64 (n : Int), .slice (some ⟨bp, op, none⟩) N cap, undef, undef, .pointer (some ⟨g5, 0, none⟩), .string ⟨#[]⟩, .string ⟨#[]⟩, .int .i64 0, .pointer (some ⟨g9, 0, none⟩), .pointer (some ⟨g10, 0, none⟩), undef, undef, undef, .bool false, .int .u64 (m : Int), .int .u64 (n : Int), .bool true, .bool false, .bool false, .slice (some ⟨bp, op, none⟩) N cap, .int .u64 (m : Int), .int .u64 (n : Int), .int .i64 (K : Int), .bool true, .bool false, .slice (some ⟨bp, op, none⟩) N cap, .pointer (some ⟨bp, op, none⟩), .string p0, .slice (some ⟨bp, op, none⟩) N cap, .pointer (some ⟨bp, op, none⟩), .string p0, undef, undef, undef, undef, undef, undef, undef, undef, undef, undef, undef, undef, undef, undef, undef, undef, undef, undef, undef, undef, undef, undef, undef, undef, undef, undef, undef], defers := [] } ∧ Boxed w' g9 9 (.string p0) ∧ Boxed w' g10 9 (.string p0) ∧ g9 ≠ g10 ∧ y3.heap.size ≤ g9 ∧ y3.heap.size ≤ g10 ∧ Below y3.heap.size y3 w') ?_ ?_)
  · refine wp_region_T (n := 9) (S := fun wq => Below y3.heap.size y3 wq) (by kernel_rfl) (by kernel_rfl) (below_drewN' (Below.refl _ _) 1) (fun hHeld => ?_)
    clear c5 hcp0
    generalize y3.drew = x0 at *
    refine WalkT.take (i := 0) (oi := _) (v := ?vc1) rfl (by decide) (by kernel_rfl) (by kernel_rfl) (fun _ _ _ h => nomatch h.1) (Or.inl ⟨by kernel_rfl, ?hyc1⟩) (by assumption) ?rc1
    case hyc1 => (intro wq hSw; have q9 := cell_belowB hSw rfl Hc.out.1; go_simp; try (with_reducible rfl))
    try simp only [Act.put, List.setIfInBounds_toArray, List.set_cons_zero, List.set_cons_succ]
    refine WalkT.take (i := 1) (oi := _) (v := ?vc2) rfl (by decide) (by kernel_rfl) (by kernel_rfl) (fun _ _ _ h => nomatch h.1) (Or.inl ⟨by kernel_rfl, ?hyc2⟩) (by assumption) ?rc2
    case hyc2 => (intro wq hSw; go_simp; try (with_reducible rfl))
    try simp only [Act.put, List.setIfInBounds_toArray, List.set_cons_zero, List.set_cons_succ]
    refine WalkT.take (i := 2) (oi := _) (v := ?vc3) rfl (by decide) (by kernel_rfl) (by kernel_rfl) (fun _ _ _ h => nomatch h.1) (Or.inl ⟨by kernel_rfl, ?hyc3⟩) (by assumption) ?rc3
    case hyc3 => (intro wq hSw; have q9 := cell_belowB hSw rfl Hc.out.2; go_simp; try (with_reducible rfl))
    try simp only [Act.put, List.setIfInBounds_toArray, List.set_cons_zero, List.set_cons_succ]
    refine WalkT.take (i := 3) (oi := _) (v := ?vc4) rfl (by decide) (by kernel_rfl) (by kernel_rfl) (fun _ _ _ h => nomatch h.1) (Or.inl ⟨by kernel_rfl, ?hyc4⟩) (by assumption) ?rc4
    case hyc4 => (intro wq hSw; have q9 := cell_belowB hSw rfl Hc.out.1; go_simp; try (with_reducible rfl))
    try simp only [Act.put, List.setIfInBounds_toArray, List.set_cons_zero, List.set_cons_succ]
    refine WalkT.take (i := 4) (oi := _) (v := ?vc5) rfl (by decide) (by kernel_rfl) (by kernel_rfl) (fun _ _ _ h => nomatch h.1) (Or.inl ⟨by kernel_rfl, ?hyc5⟩) (by assumption) ?rc5
    case hyc5 => (intro wq hSw; go_simp; try (with_reducible rfl))
    try simp only [Act.put, List.setIfInBounds_toArray, List.set_cons_zero, List.set_cons_succ]
    refine WalkT.take (i := 5) (oi := _) (v := ?vc6) rfl (by decide) (by kernel_rfl) (by kernel_rfl) (fun _ _ _ h => nomatch h.1) (Or.inl ⟨by kernel_rfl, ?hyc6⟩) (by assumption) ?rc6
    case hyc6 => (intro wq hSw; have q9 := cell_belowB hSw rfl Hc.out.2; go_simp; try (with_reducible rfl))
    try simp only [Act.put, List.setIfInBounds_toArray, List.set_cons_zero, List.set_cons_succ]
    refine WalkT.many (rs := [6, 7]) (by kernel_rfl) (by simp) (by simp) ?_
    refine AllT.cons (i := 6) (o := ?oc7) ?hoc7 ?hkc7 ?hsc7
    case hoc7 => (simp only [List.getElem?_toArray, List.getElem?_cons_succ, List.getElem?_cons_zero]; exact rfl)
    case hkc7 =>
      intro K hK
      go_simp
      have hSa : Below y3.heap.size y3 (x0.alloc (.cells #[.string ⟨#[]⟩] 9)) := hHeld.alloc hHeld.size _
      have hn := Boxed.new x0 9 (.string ⟨#[]⟩)
      have hle := hHeld.size
      refine hK.out _ _ hSa (fun hHeld => ?_)
      clear hSa
      skip
      generalize x0.alloc (.cells #[.string ⟨#[]⟩] 9) = x1 at *
      generalize x0.heap.size = ga at *
      have Ha := Lib.hid (And.intro hn hle); clear hn hle
      clear hK K
      try simp only [Act.put, List.setIfInBounds_toArray, List.set_cons_zero, List.set_cons_succ]
      refine WalkT.one (i := 7) (o := ?oc8) (by kernel_rfl) (by decide) ?hoc8 ?hkc8
      case hoc8 => (simp only [List.getElem?_toArray, List.getElem?_cons_succ, List.getElem?_cons_zero]; exact rfl)
      intro K hK
      go_simp
      have hSa : Below y3.heap.size y3 (x1.alloc (.cells #[.string ⟨#[]⟩] 9)) := hHeld.alloc hHeld.size _
      have hn := Boxed.new x1 9 (.string ⟨#[]⟩)
      have hle := hHeld.size
      have ha1 := Ha.out.1.alloc (.cells #[.string ⟨#[]⟩] 9)
      have hlt := Ha.out.1.lt
      refine hK.out _ _ hSa (fun hHeld => ?_)
      clear hSa
      skip
      generalize x1.alloc (.cells #[.string ⟨#[]⟩] 9) = x2 at *
      generalize x1.heap.size = gb at *
      have Hb := Lib.hid (And.intro ha1 (And.intro hn (And.intro hlt (And.intro Ha.out.2 hle)))); clear hn hle ha1 hlt Ha
      clear hK K
      try simp only [Act.put, List.setIfInBounds_toArray, List.set_cons_zero, List.set_cons_succ]
      refine WalkT.one (i := 8) (o := ?oc9) (by kernel_rfl) (by decide) ?hoc9 ?hkc9
      case hoc9 => (simp only [List.getElem?_toArray, List.getElem?_cons_succ, List.getElem?_cons_zero]; exact rfl)
      intro K hK
      have c9 := Hb.out.1.cell; have f9 := Hb.out.1.frozen
      go_simp
      have hSa : Below y3.heap.size y3 (x2.setCell ⟨ga, 0, none⟩ (.string p0)) := hHeld.setCell (p := ⟨ga, 0, none⟩) Hb.out.2.2.2.1 _
      refine hK.out _ _ hSa (fun hHeld => ?_)
      clear hSa c9 f9
      clear hK K
      try simp only [Act.put, List.setIfInBounds_toArray, List.set_cons_zero, List.set_cons_succ]
      refine WalkT.tail (by kernel_rfl) ?_
      have hne : ga ≠ gb := by have := Hb.out.2.2.1; omega
      have c10 := (Hb.out.2.1.other (Ne.symm hne) (.string p0)).cell; have f10 := (Hb.out.2.1.other (Ne.symm hne) (.string p0)).frozen
      have hfin : Boxed ((x2.setCell ⟨ga, 0, none⟩ (.string p0)).setCell ⟨gb, 0, none⟩ (.string p0)) ga 9 (.string p0) ∧ Boxed ((x2.setCell ⟨ga, 0, none⟩ (.string p0)).setCell ⟨gb, 0, none⟩ (.string p0)) gb 9 (.string p0) ∧ ga ≠ gb ∧ y3.heap.size ≤ ga ∧ y3.heap.size ≤ gb ∧ Below y3.heap.size y3 ((x2.setCell ⟨ga, 0, none⟩ (.string p0)).setCell ⟨gb, 0, none⟩ (.string p0)) := ⟨(Hb.out.1.set _).other hne _, (Hb.out.2.1.other (Ne.symm hne) _).set _, hne, Hb.out.2.2.2.1, Hb.out.2.2.2.2, hHeld.setCell (p := ⟨gb, 0, none⟩) Hb.out.2.2.2.2 _⟩
      have Hfin := Lib.hid hfin; clear hfin hHeld hne
      simp only [List.drop_succ_cons, List.drop_zero]
      go_wp2
      exact ⟨ga, gb, ⟨rfl, rfl⟩, Hfin.out⟩
    refine AllT.cons (i := 7) (o := ?oc10) ?hoc10 ?hkc10 ?hsc10
    case hoc10 => (simp only [List.getElem?_toArray, List.getElem?_cons_succ, List.getElem?_cons_zero]; exact rfl)
    case hkc10 =>
      intro K hK
      go_simp
      have hSa : Below y3.heap.size y3 (x0.alloc (.cells #[.string ⟨#[]⟩] 9)) := hHeld.alloc hHeld.size _
      have hn := Boxed.new x0 9 (.string ⟨#[]⟩)
      have hle := hHeld.size
      refine hK.out _ _ hSa (fun hHeld => ?_)
      clear hSa
      skip
      generalize x0.alloc (.cells #[.string ⟨#[]⟩] 9) = x1 at *
      generalize x0.heap.size = ga at *
      have Ha := Lib.hid (And.intro hn hle); clear hn hle
      clear hK K
      try simp only [Act.put, List.setIfInBounds_toArray, List.set_cons_zero, List.set_cons_succ]
      refine WalkT.one (i := 6) (o := ?oc11) (by kernel_rfl) (by decide) ?hoc11 ?hkc11
      case hoc11 => (simp only [List.getElem?_toArray, List.getElem?_cons_succ, List.getElem?_cons_zero]; exact rfl)
      intro K hK
      go_simp
      have hSa : Below y3.heap.size y3 (x1.alloc (.cells #[.string ⟨#[]⟩] 9)) := hHeld.alloc hHeld.size _
      have hn := Boxed.new x1 9 (.string ⟨#[]⟩)
      have hle := hHeld.size
      have ha1 := Ha.out.1.alloc (.cells #[.string ⟨#[]⟩] 9)
      have hlt := Ha.out.1.lt
      refine hK.out _ _ hSa (fun hHeld => ?_)
      clear hSa
      skip
      generalize x1.alloc (.cells #[.string ⟨#[]⟩] 9) = x2 at *
      generalize x1.heap.size = gb at *
      have Hb := Lib.hid (And.intro ha1 (And.intro hn (And.intro hlt (And.intro Ha.out.2 hle)))); clear hn hle ha1 hlt Ha
      clear hK K
      try simp only [Act.put, List.setIfInBounds_toArray, List.set_cons_zero, List.set_cons_succ]
      refine WalkT.one (i := 8) (o := ?oc12) (by kernel_rfl) (by decide) ?hoc12 ?hkc12
      case hoc12 => (simp only [List.getElem?_toArray, List.getElem?_cons_succ, List.getElem?_cons_zero]; exact rfl)
      intro K hK
      have c9 := Hb.out.2.1.cell; have f9 := Hb.out.2.1.frozen
      go_simp
      have hSa : Below y3.heap.size y3 (x2.setCell ⟨gb, 0, none⟩ (.string p0)) := hHeld.setCell (p := ⟨gb, 0, none⟩) Hb.out.2.2.2.2 _
      refine hK.out _ _ hSa (fun hHeld => ?_)
      clear hSa c9 f9
      clear hK K
      try simp only [Act.put, List.setIfInBounds_toArray, List.set_cons_zero, List.set_cons_succ]
      refine WalkT.tail (by kernel_rfl) ?_
      have hne : gb ≠ ga := by have := Hb.out.2.2.1; omega
      have c10 := (Hb.out.1.other (Ne.symm hne) (.string p0)).cell; have f10 := (Hb.out.1.other (Ne.symm hne) (.string p0)).frozen
      have hfin : Boxed ((x2.setCell ⟨gb, 0, none⟩ (.string p0)).setCell ⟨ga, 0, none⟩ (.string p0)) gb 9 (.string p0) ∧ Boxed ((x2.setCell ⟨gb, 0, none⟩ (.string p0)).setCell ⟨ga, 0, none⟩ (.string p0)) ga 9 (.string p0) ∧ gb ≠ ga ∧ y3.heap.size ≤ gb ∧ y3.heap.size ≤ ga ∧ Below y3.heap.size y3 ((x2.setCell ⟨gb, 0, none⟩ (.string p0)).setCell ⟨ga, 0, none⟩ (.string p0)) := ⟨(Hb.out.2.1.set _).other hne _, (Hb.out.1.other (Ne.symm hne) _).set _, hne, Hb.out.2.2.2.2, Hb.out.2.2.2.1, hHeld.setCell (p := ⟨ga, 0, none⟩) Hb.out.2.2.2.1 _⟩
      have Hfin := Lib.hid hfin; clear hfin hHeld hne
      simp only [List.drop_succ_cons, List.drop_zero]
      go_wp2
      exact ⟨gb, ga, ⟨rfl, rfl⟩, Hfin.out⟩
    exact AllT.nil
  · rintro e a' wB ⟨rfl, g9, g10, rfl, hb9, hb10, hne, h9, h10, hbB⟩
    have hWB := HWA.out.trans (hbB.mono HWA.out.size)
    have c5 := cell_belowB hbB rfl Hc.out.1
    have H0B := Lib.hid (H0A.out.below hbB rfl)
    have hbpy : bp < y3.heap.size := by
      obtain ⟨A', cap', he, -, hc⟩ := H0A.out
      injection he with q1 q2 q3
      have hl := Hlen.out.1
      obtain ⟨b', o', he2, h3, -⟩ := hc 0 (by omega)
      rw [← q1] at he2; injection he2 with he2; injection he2 with e1 e2 _; subst e1
      exact h3.1
    have Hlt := Lib.hid (And.intro hbpy (And.intro h9 (And.intro h10 (And.intro hne (And.intro (cell_blt Hc.out.1) hbB.size)))))
    clear hcp0 hHeld H0A h9 h10 hbpy
    have Hb9 := Lib.hid hb9; have Hb10 := Lib.hid hb10; have HWB := Lib.hid hWB; have Hc5 := Lib.hid c5
    clear hb9 hb10 hWB c5 hbB HWA Hc hne
    gi_wp2_with fail
    refine ⟨trivial, ((callsIn_wide (n := 2)).2 (H79.out _)).mono ?_⟩
    rintro e wC ⟨⟨sv, rfl, hsto⟩, hbC⟩
    have hssl : ss.length ≤ maxLen := by have := Hlen.out.2.1; unfold maxLen; omega
    have hst := hsto.read hssl
    obtain ⟨As, cs, rfl, -, hsc⟩ := id hst
    have hge : ∀ i, i < ss.length → ∃ b o, As = some ⟨b, o, none⟩ ∧ wB.heap.size ≤ b := fun i hi => by
      rcases hsto.2 with ⟨hv, h0⟩ | ⟨g, cap', cur, hv, hg, -⟩
      · injection hv with _ q2; omega
      · injection hv with q1 _ _; exact ⟨g, 0, q1, hg⟩
    have Hsc := Lib.hid hsc; have Hge := Lib.hid hge
    have HWC := Lib.hid (HWB.out.trans (hbC.mono HWB.out.size))
    have Hb9' := Lib.hid ((hbC.block _ Hb9.out.lt).trans Hb9.out); have Hb10' := Lib.hid ((hbC.block _ Hb10.out.lt).trans Hb10.out)
    have Hc5' := Lib.hid (cell_belowB hbC rfl Hc5.out)
    have H0C := Lib.hid (H0B.out.below hbC rfl)
    have HsBC := Lib.hid hbC.size
    have h910 : g9 < wB.heap.size ∧ g10 < wB.heap.size := ⟨Hb9.out.lt, Hb10.out.lt⟩
    have H910 := Lib.hid h910
    clear hsto hst hsc hge hbC HWB Hb9 Hb10 Hc5 H0B H79 h910
    gi_wp2_with fail
    refine ⟨trivial, (backwardP_in Fence.wide 2 trivial rfl _ _ _ _).mono ?_⟩
    rintro e w3 ⟨rfl, hw3⟩
    replace hw3 := hw3.symm; subst hw3
    have hbS := Boxed.new wC 91 (.slice As ss.length cs)
    have hba := alloc_below' wC (.cells #[.slice As ss.length cs] 91)
    obtain ⟨Bs, hBs⟩ : ∃ Bs, wC.heap.size = Bs := ⟨_, rfl⟩
    have hsz : (wC.alloc (.cells #[.slice As ss.length cs] 91)).heap.size = Bs + 1 := by rw [World.size_alloc, hBs]
    have hW0 := HWC.out.trans (hba.mono HWC.out.size)
    have hb9 : Boxed _ _ _ _ := (hba.block _ (Boxed.lt Hb9'.out)).trans Hb9'.out
    have hb10 : Boxed _ _ _ _ := (hba.block _ (Boxed.lt Hb10'.out)).trans Hb10'.out
    have c5 := cell_belowB hba rfl Hc5'.out
    have h0 := H0C.out.below hba rfl
    have hc94 : Cells94 (Bs + 1) g9 g10 (wC.alloc (.cells #[.slice As ss.length cs] 91)) As ss := fun i hi => by
      obtain ⟨b, o, e1, e2, e3, e4⟩ := Hsc.out i hi
      obtain ⟨b', o', f1, f2⟩ := Hge.out i hi
      rw [e1] at f1; injection f1 with f1; injection f1 with f3 f4 _; subst f3 f4
      refine ⟨b, o, e1, ⟨by omega, ?_, ?_⟩, cell_belowB hba rfl e3, cell_belowB hba rfl e4⟩
      · have := H910.out.1; omega
      · have := H910.out.2; omega
    rw [hBs] at hbS ⊢
    generalize wC.alloc (.cells #[.slice As ss.length cs] 91) = W0 at *
    have HBs : Hid (g9 < Bs ∧ g10 < Bs ∧ bp < Bs ∧ g5 < Bs) := Lib.hid (by have := H910.out; have := Hlt.out.1; have := Hlt.out.2.2.2.2.1; have := Hlt.out.2.2.2.2.2; have := HsBC.out; omega)
    have Hne9 : Hid (bp ≠ g9 ∧ bp ≠ g10 ∧ g5 ≠ g9 ∧ g5 ≠ g10 ∧ g9 ≠ g10) := Lib.hid (by have := Hlt.out.1; have := Hlt.out.2.1; have := Hlt.out.2.2.1; have := Hlt.out.2.2.2.2.1; have := Hlt.out.2.2.2.1; omega)
    have Hgw : Hid (w.heap.size ≤ g9 ∧ w.heap.size ≤ g10) := Lib.hid (by have := Hlt.out.2.1; have := Hlt.out.2.2.1; have := Hy3.out; omega)
    have HW0 := Lib.hid hW0
    clear hba HWC Hb9' Hb10' Hc5' H0C Hsc Hge hBs HsBC Hlt hW0 H910
    have hq := Hq.out
    have hql : q.length = ss.length + 1 := by rw [← hq, List.length_reverse]; exact Hlen.out.1
    have hqL : q[ss.length]? = some p0 := by
      rw [← hq, List.getElem?_reverse (by have := Hlen.out.1; omega)]
      rw [show P.length - 1 - ss.length = 0 by have := Hlen.out.1; omega]
      exact Hp0.out
    have hp : ∀ k (h : k < ss.length), (fun x : NSt => x.1 < N) (k, ss[k]) := fun k h => by
      have := Hlen.out.1; have := Hlen.out.2.2.2; show k < N; omega
    have hcell : ∀ i, i < N → ∃ x, q.getD i ⟨#[]⟩ = x ∧ x.size = 32 ∧ W0.cell? ⟨bp, op + (ss.length - i), none⟩ = some (.string x) := fun i hi => by
      have hPl := Hlen.out.1
      have hPn := Hlen.out.2.2.2
      obtain ⟨A', cap', he, -, hc⟩ := h0
      injection he with q1 q2 q3
      obtain ⟨b', o', he2, -, hx⟩ := hc (ss.length - i) (by omega)
      rw [← q1] at he2; injection he2 with he2; injection he2 with e1 e2 _; subst e1 e2
      refine ⟨P[ss.length - i]'(by omega), ?_, Hlen.out.2.2.1 _ (List.getElem_mem _), hx⟩
      exact rev_getD Hq.out hPl i (by omega) _
    have h32 : p0.size = 32 := by
      have := Hp0.out
      exact Hlen.out.2.2.1 p0 (List.mem_of_getElem? this)
    have hNs : N = ss.length + 1 := by have := Hlen.out.1; have := Hlen.out.2.2.2; omega
    have Hcell := Lib.hid hcell
    have hI : OwnFrom W0.heap.size (fun (pre : List (BackP (fun x : NSt => x.1 < N))) W => Boxed W g9 9 (.string (foldI q (p0, p0) pre).1) ∧ Boxed W g10 9 (.string (foldI q (p0, p0) pre).2) ∧ KX (Bs + 1) g9 g10 W0 W ∧ Below w.heap.size w W ∧ W0.heap.size ≤ W.heap.size) := fun s X Y row hs hg hr =>
      ⟨hs.1.kept hg (fun e => by have := (hr _ e.symm).1; have := HBs.out; omega), hs.2.1.kept hg (fun e => by have := (hr _ e.symm).1; have := HBs.out; omega),
       fun k h1 h2 h3 => (hg.block k (by have := hs.2.2.2.2; omega) (fun e => by have := (hr _ e.symm).1; omega)).trans (hs.2.2.1 k h1 h2 h3),
       hs.2.2.2.1.grown hg hs.2.2.2.1.size (fun k e => by have := (hr k e).1; have := HW0.out.size; omega), Nat.le_trans hs.2.2.2.2 hg.size⟩
    have hAx : ∀ (x : BackP (fun x : NSt => x.1 < N)) a', OwnFrom W0.heap.size (fun (_ : Unit) W => ∃ g12, a' = ({ tmps := #[.int .u64 (m : Int), .int .u64 (n : Int), .slice (some ⟨bp, op, none⟩) N cap, undef, undef, .pointer (some ⟨g5, 0, none⟩), .string ⟨#[]⟩, .string ⟨#[]⟩, .int .i64 0, .pointer (some ⟨g9, 0, none⟩), .pointer (some ⟨g10, 0, none⟩), .int .i64 (x.1.1 : Int), .pointer (some ⟨g12, 0, none⟩), undef, .bool false, .int .u64 (m : Int), .int .u64 (n : Int), .bool true, .bool false, .bool false, .slice (some ⟨bp, op, none⟩) N cap, .int .u64 (m : Int), .int .u64 (n : Int), .int .i64 (K : Int), .bool true, .bool false, .slice (some ⟨bp, op, none⟩) N cap, .pointer (some ⟨bp, op, none⟩), .string p0, .slice (some ⟨bp, op, none⟩) N cap, .pointer (some ⟨bp, op, none⟩), .string p0, .int .u64 (m : Int), .int .u64 (n : Int), .slice As ss.length cs, .func (.func 102) #[] #[.pointer (some ⟨Bs, 0, none⟩)], .int .i64 (x.1.1 : Int), .agg #[.bool x.1.2.1, .int .u64 (x.1.2.2 : Int)], undef, undef, undef, undef, undef, undef, undef, undef, undef, undef, undef, undef, undef, undef, undef, undef, undef, undef, undef, undef, undef], defers := [] } : Act) ∧ Blk W g12 94 #[.bool x.1.2.1, .int .u64 (x.1.2.2 : Int)]) := fun x a' s X Y row hs hg hr => by
      obtain ⟨g12, e1, e2⟩ := hs
      exact ⟨g12, e1, (hg.block g12 e2.lt (fun e => by
        obtain ⟨-, ob, ho, hoc⟩ := hr _ e.symm
        have e2' : X.heap[g12]? = some _ := e2
        rw [e2'] at ho; injection ho with ho; subst ho; cases hoc)).trans e2⟩
    have hb0 := Below.refl W0.heap.size W0
    have HNs := Lib.hid hNs; clear hNs
    gi_wp2_with fail
    refine wpIn_rangeFunc_ownH rfl (by decide) (gf := 102) (lb := #[.pointer (some ⟨Bs, 0, none⟩)]) rfl trivial (enters_of Tryd.func102 (by kernel_rfl) rfl)
      (backP_stops (p := fun x : NSt => x.1 < N) Fence.wide 2 trivial rfl (by decide) Bs (Bs + 1) g9 g10 cs (by omega) (by have := HBs.out; omega) (by have := HBs.out; omega) As ss hssl hp ⟨(0, (true, 0)), hN3⟩ W0 (by omega) hbS.cell hc94) (fun h k => KX.trans h k) (fun W l ob o' hl _ _ _ => KX.put W l o' (by omega)) hb0 (fun _ => rfl)
      (fun pre W => Boxed W g9 9 (.string (foldI q (p0, p0) pre).1) ∧ Boxed W g10 9 (.string (foldI q (p0, p0) pre).2) ∧ KX (Bs + 1) g9 g10 W0 W ∧ Below w.heap.size w W ∧ W0.heap.size ≤ W.heap.size)
      (fun _ _ _ => False) hI (fun _ _ _ _ _ hs _ _ => hs) ⟨hb9, hb10, KX.refl _ _ _ _, HW0.out, Nat.le_refl _⟩
      (fun x a' W => ∃ g12, a' = ({ tmps := #[.int .u64 (m : Int), .int .u64 (n : Int), .slice (some ⟨bp, op, none⟩) N cap, undef, undef, .pointer (some ⟨g5, 0, none⟩), .string ⟨#[]⟩, .string ⟨#[]⟩, .int .i64 0, .pointer (some ⟨g9, 0, none⟩), .pointer (some ⟨g10, 0, none⟩), .int .i64 (x.1.1 : Int), .pointer (some ⟨g12, 0, none⟩), undef, .bool false, .int .u64 (m : Int), .int .u64 (n : Int), .bool true, .bool false, .bool false, .slice (some ⟨bp, op, none⟩) N cap, .int .u64 (m : Int), .int .u64 (n : Int), .int .i64 (K : Int), .bool true, .bool false, .slice (some ⟨bp, op, none⟩) N cap, .pointer (some ⟨bp, op, none⟩), .string p0, .slice (some ⟨bp, op, none⟩) N cap, .pointer (some ⟨bp, op, none⟩), .string p0, .int .u64 (m : Int), .int .u64 (n : Int), .slice As ss.length cs, .func (.func 102) #[] #[.pointer (some ⟨Bs, 0, none⟩)], .int .i64 (x.1.1 : Int), .agg #[.bool x.1.2.1, .int .u64 (x.1.2.2 : Int)], undef, undef, undef, undef, undef, undef, undef, undef, undef, undef, undef, undef, undef, undef, undef, undef, undef, undef, undef, undef, undef], defers := [] } : Act) ∧ Blk W g12 94 #[.bool x.1.2.1, .int .u64 (x.1.2.2 : Int)]) hAx ?assign ?body ?done ?stop
    case assign =>
      intro l pre x W K hi hK
      gi_wp2
      refine hK _ _ (((KeepsOthers.below (alloc_below' W _))).from _) (KX.of_below (alloc_below' W _) (by have := hi.2.2.2.2; omega)) ⟨hi.1.alloc _, hi.2.1.alloc _, hi.2.2.1.trans (KX.of_below (alloc_below' W _) (by have := hi.2.2.2.2; omega)), hi.2.2.2.1.trans ((alloc_below' W _).mono hi.2.2.2.1.size), by rw [World.size_alloc]; have := hi.2.2.2.2; omega⟩ ⟨_, rfl, Blk.new _ _ _⟩
    case body =>
      rintro l pre x a' W hll hlr ⟨hb9, hb10, hkx, hbw, hle⟩ ⟨g12, rfl, hb12⟩ hlt
      have c5 : W.cell? ⟨g5, 0, none⟩ = _ := (hkx.cell (o := 0) (by have := HBs.out; omega) Hne9.out.2.2.1 Hne9.out.2.2.2.1).trans c5
      obtain ⟨⟨xi, xb, xk⟩, hxi⟩ := x
      replace hxi : xi < N := hxi
      obtain ⟨h, hh, hh32, hcp⟩ := Hcell.out xi hxi
      have hcp : W.cell? ⟨bp, op + (ss.length - xi), none⟩ = _ := (hkx.cell (by have := HBs.out; omega) Hne9.out.1 Hne9.out.2.1).trans hcp
      have d0 := hb12.cell 0
      simp only [List.getElem?_toArray, List.getElem?_cons_succ, List.getElem?_cons_zero] at d0
      have hsn := foldI_snoc q (p0, p0) pre ⟨(xi, xb, xk), hxi⟩
      have hwd := foldI_wide q pre (p0, p0) ⟨h32, h32⟩
      obtain ⟨⟨r1, r2⟩, hr12⟩ : ∃ rs, foldI q (p0, p0) pre = rs := ⟨_, rfl⟩
      rw [hr12] at hb9 hb10 hsn hwd
      dsimp only at hb9 hb10 hwd
      have c9 := hb9.cell; have c10 := hb10.cell
      obtain ⟨j, hj⟩ : ∃ j, ss.length - xi = j := ⟨_, rfl⟩
      rw [hj] at hcp
      have j0 : (0 : Int) ≤ (j : Int) := by omega
      have j1 : (j : Int) < (N : Int) := by have := HNs.out; omega
      have e1 : IntKind.i64.wrap ((N : Int) - 1) = (N : Int) - 1 := IntWalk.i64_in _ (by omega)
      have e2 : IntKind.i64.wrap ((N : Int) - 1 - (xi : Int)) = (j : Int) := by rw [show (N : Int) - 1 - (xi : Int) = (j : Int) by have := HNs.out; omega]; exact IntWalk.i64_in _ (by omega)
      simp only [impStep] at hsn
      rw [hh] at hsn
      have Hsn := Lib.hid hsn; have Hsz := Lib.hid (And.intro hwd.1 (And.intro hwd.2 hh32)); have Hbw := Lib.hid hbw; have Hkx := Lib.hid hkx; have Hb9 := Lib.hid hb9; have Hb10 := Lib.hid hb10; have Hll := Lib.hid (And.intro hll hle)
      clear hsn hwd hbw hkx hb9 hb10 hlr hlt hr12 hh hll hle hb12 hj
      have hTW := HT.out.below Hbw.out
      have HTW := Lib.hid hTW; clear hTW
      dsimp only
      cases xb with
      | true =>
        gi_wp2_with fail
        refine ⟨trivial, (CallsIn.inRound l ((callsIn_wide (n := 0)).2 (node_any HTW.out _ _ (by have := Hsz.out.2.1; omega) (by have := Hsz.out.2.2; omega)))).mono ?_⟩
        rintro e W' ⟨rfl, hb⟩
        have hb9 : Boxed _ _ _ _ := (hb.block _ (Boxed.lt Hb9.out)).trans Hb9.out
        have hb10 : Boxed _ _ _ _ := (hb.block _ (Boxed.lt Hb10.out)).trans Hb10.out
        have c10 := hb10.cell; have f10 := hb10.frozen
        have Hb := Lib.hid hb; have Hb9' := Lib.hid hb9; have Hb10' := Lib.hid hb10
        clear hb hb9 hb10 c9 d0
        gi_wp2
        refine ⟨((KeepsOthers.below Hb.out).trans (KeepsOthers.setCell W' _ _)).from _, (KX.of_below Hb.out (by have := Hll.out.2; omega)).trans (KX.set2 W' _), ?_, ?_, (Hkx.out.trans (KX.of_below Hb.out (by have := Hll.out.2; omega))).trans (KX.set2 W' _), (Hbw.out.trans (Hb.out.mono Hbw.out.size)).setCell (p := ⟨g10, 0, none⟩) Hgw.out.2 _, by rw [World.size_setCell]; have := Hll.out.2; have := Hb.out.size; omega⟩
        · rw [Hsn.out]; exact Hb9'.out.other Hne9.out.2.2.2.2 _
        · rw [Hsn.out]; exact Hb10'.out.set _
      | false =>
        gi_wp2_with fail
        refine wpIn_region_TR (n := 6) (S := fun wq => Below W.heap.size W wq) (fun _ _ h => h) (by kernel_rfl) (by kernel_rfl) (by kernel_rfl) (below_drewN' (Below.refl _ _) 1) (fun hHeld => ?_)
        refine WalkT.take (i := 0) (oi := _) (v := ?vd1) rfl (by decide) (by kernel_rfl) (by kernel_rfl) (fun _ _ _ h => h) (Or.inl ⟨by kernel_rfl, ?hyd1⟩) (by assumption) ?rd1
        case hyd1 => (intro wq hSw; go_simp; try (with_reducible rfl))
        try simp only [Act.put, List.setIfInBounds_toArray, List.set_cons_zero, List.set_cons_succ]
        refine WalkT.take (i := 1) (oi := _) (v := ?vd2) rfl (by decide) (by kernel_rfl) (by kernel_rfl) (fun _ _ _ h => h) (Or.inl ⟨by kernel_rfl, ?hyd2⟩) (by assumption) ?rd2
        case hyd2 => (intro wq hSw; have q9 := cell_belowB hSw rfl c9; go_simp; try (with_reducible rfl))
        try simp only [Act.put, List.setIfInBounds_toArray, List.set_cons_zero, List.set_cons_succ]
        refine WalkT.take (i := 3) (oi := _) (v := ?vd3) rfl (by decide) (by kernel_rfl) (by kernel_rfl) (fun _ _ _ h => h) (Or.inl ⟨by kernel_rfl, ?hyd3⟩) (by assumption) ?rd3
        case hyd3 => (intro wq hSw; go_simp; try (with_reducible rfl))
        try simp only [Act.put, List.setIfInBounds_toArray, List.set_cons_zero, List.set_cons_succ]
        refine WalkT.take (i := 4) (oi := _) (v := ?vd4) rfl (by decide) (by kernel_rfl) (by kernel_rfl) (fun _ _ _ h => h) (Or.inl ⟨by kernel_rfl, ?hyd4⟩) (by assumption) ?rd4
        case hyd4 => (intro wq hSw; have q9 := cell_belowB hSw rfl c10; go_simp; try (with_reducible rfl))
        try simp only [Act.put, List.setIfInBounds_toArray, List.set_cons_zero, List.set_cons_succ]
        refine WalkT.one (i := 2) (o := ?od5) (by kernel_rfl) (by decide) ?hod5 ?hkd5
        case hod5 => (simp only [List.getElem?_toArray, List.getElem?_cons_succ, List.getElem?_cons_zero]; exact rfl)
        intro K hK
        go_simp
        refine (node_any (HTW.out.below hHeld) _ _ (by have := Hsz.out.2.2; omega) (by have := Hsz.out.1; omega)).mono ?_
        rintro e z2 ⟨rfl, hb⟩
        have hS2 : Below W.heap.size W z2 := Below.trans hHeld (Below.mono hb (Below.size hHeld))
        clear hb hHeld
        go_simp
        refine hK.out _ _ hS2 (fun hHeld => ?_)
        clear hS2
        clear hK K
        try simp only [Act.put, List.setIfInBounds_toArray, List.set_cons_zero, List.set_cons_succ]
        refine WalkT.one (i := 5) (o := ?od6) (by kernel_rfl) (by decide) ?hod6 ?hkd6
        case hod6 => (simp only [List.getElem?_toArray, List.getElem?_cons_succ, List.getElem?_cons_zero]; exact rfl)
        intro K hK
        go_simp
        refine (node_any (HTW.out.below hHeld) _ _ (by have := Hsz.out.2.2; omega) (by have := Hsz.out.2.1; omega)).mono ?_
        rintro e z5 ⟨rfl, hb⟩
        have hS5 : Below W.heap.size W z5 := Below.trans hHeld (Below.mono hb (Below.size hHeld))
        clear hb hHeld
        go_simp
        refine hK.out _ _ hS5 (fun hHeld => ?_)
        clear hS5
        clear hK K
        try simp only [Act.put, List.setIfInBounds_toArray, List.set_cons_zero, List.set_cons_succ]
        refine WalkT.tail (by kernel_rfl) ?_
        have Hb := Lib.hid hHeld; clear hHeld
        have hb9 : Boxed _ _ _ _ := (Hb.out.block _ (Boxed.lt Hb9.out)).trans Hb9.out
        have hb10 : Boxed _ _ _ _ := (Hb.out.block _ (Boxed.lt Hb10.out)).trans Hb10.out
        have k9 := hb9.cell; have f9 := hb9.frozen
        have k10 := (hb10.other (Ne.symm Hne9.out.2.2.2.2) (.string (nodeB h r1))).cell; have f10 := (hb10.other (Ne.symm Hne9.out.2.2.2.2) (.string (nodeB h r1))).frozen
        have Hb9' := Lib.hid hb9; have Hb10' := Lib.hid hb10
        clear hb9 hb10 c9 c10
        simp only [List.drop_succ_cons, List.drop_zero]
        go_wp2
        refine ⟨(((KeepsOthers.below Hb.out).trans (KeepsOthers.setCell z5 _ _)).trans (KeepsOthers.setCell _ _ _)).from _, ((KX.of_below Hb.out (by have := Hll.out.2; omega)).trans (KX.set1 z5 _)).trans (KX.set2 _ _), ?_, ?_, ((Hkx.out.trans (KX.of_below Hb.out (by have := Hll.out.2; omega))).trans (KX.set1 z5 _)).trans (KX.set2 _ _), ((Hbw.out.trans (Hb.out.mono Hbw.out.size)).setCell (p := ⟨g9, 0, none⟩) Hgw.out.1 _).setCell (p := ⟨g10, 0, none⟩) Hgw.out.2 _, by rw [World.size_setCell, World.size_setCell]; have := Hll.out.2; have := Hb.out.size; omega⟩
        · rw [Hsn.out]; exact (Hb9'.out.set _).other Hne9.out.2.2.2.2 _
        · rw [Hsn.out]; exact (Hb10'.out.other (Ne.symm Hne9.out.2.2.2.2) _).set _
    case done =>
      rintro D ys W hD rfl ⟨hb9, hb10, hkx, hbl, hle⟩ hK
      rw [foldI_all ss hp ⟨(0, (true, 0)), hN3⟩ q hql p0 hqL] at hb9 hb10
      have c9 : W.drew.cell? ⟨g9, 0, none⟩ = _ := hb9.cell; have c10 : W.drew.cell? ⟨g10, 0, none⟩ = _ := hb10.cell
      have Hbl := Lib.hid (And.intro hbl hle); have HK := Lib.hid hK
      clear hb9 hb10 hkx hbl hle hK
      gi_wp2_with fail
      refine wpIn_wide.2 (wp_of_normal ?_)
      refine wp_region_T (n := 3) (S := fun wq => wq = W.drew) (by kernel_rfl) (by kernel_rfl) rfl (fun hHeld => ?_)
      refine WalkT.take (i := 0) (oi := _) (v := ?vf1) rfl (by decide) (by kernel_rfl) (by kernel_rfl) (fun _ _ _ h => nomatch h.1) (Or.inl ⟨by kernel_rfl, ?hyf1⟩) (by assumption) ?rf1
      case hyf1 => (intro wq hSw; subst hSw; go_simp; try (with_reducible rfl))
      try simp only [Act.put, List.setIfInBounds_toArray, List.set_cons_zero, List.set_cons_succ]
      refine WalkT.take (i := 1) (oi := _) (v := ?vf2) rfl (by decide) (by kernel_rfl) (by kernel_rfl) (fun _ _ _ h => nomatch h.1) (Or.inl ⟨by kernel_rfl, ?hyf2⟩) (by assumption) ?rf2
      case hyf2 => (intro wq hSw; subst hSw; go_simp; try (with_reducible rfl))
      try simp only [Act.put, List.setIfInBounds_toArray, List.set_cons_zero, List.set_cons_succ]
      refine WalkT.take (i := 2) (oi := _) (v := ?vf3) rfl (by decide) (by kernel_rfl) (by kernel_rfl) (fun _ _ _ h => nomatch h.1) (Or.inl ⟨by kernel_rfl, ?hyf3⟩) (by assumption) ?rf3
      case hyf3 => (intro wq hSw; go_simp; try (with_reducible rfl))
      try simp only [Act.put, List.setIfInBounds_toArray, List.set_cons_zero, List.set_cons_succ]
      refine WalkT.tail (by kernel_rfl) ?_
      clear hHeld
      simp only [List.drop_succ_cons, List.drop_zero]
      go_wp2
      gi_wp2
      refine ⟨by simp, .inl ⟨_, _, rfl, run_takeDeferred HK.out, ?_⟩⟩
      exact ⟨_, results_tmp3 rfl _ _ _, rfl, (Below.drew Hbl.out.1).trans (belowK_b (w := w) (Nat.le_refl _) W.drew D _ _ (by have := HW0.out.size; omega) HK.out rfl rfl)⟩
    case stop =>
      rintro D c pre W _ _ h _
      exact h.elim
theorem cImplied_any {w : World} (hT : Tab w) {v : Value} {P : List ByteArray} (h : SRead w v P) (m n : Nat) :
    Calls Tryd.prog 54 #[.int .u64 (m : Int), .int .u64 (n : Int), v] w fun e w' => e = .returned (.tuple #[.string (impA m n P), .string (impB m n P), .int .i64 (impE m n P)]) ∧ Below w.heap.size w w' := by
  cases hm : mayB m n with
  | false =>
    obtain ⟨e1, e2, e3⟩ := impE_may (P := P) hm
    rw [e1, e2, e3]; exact cimplied_no hT h m n hm
  | true =>
    cases hw : wholeB P (stepsN m n) with
    | false =>
      obtain ⟨e1, e2, e3⟩ := impE_whole hm hw
      rw [e1, e2, e3]; exact cimplied_short hT h m n hm hw
    | true =>
      obtain ⟨e1, e2, e3⟩ := impE_yes hm hw
      rw [e1, e2, e3]; exact cimplied_yes hT h m n hm hw
end Go.Proofs.YtkdajlhmodmkoaaDoor

/-
  Layer 9 (proof): the code's Clash walked.
-/
namespace Go.Proofs.YtkdajlhmodmkoaaDoor
open Go.RowKit TreeM
set_option linter.unusedVariables false
set_option linter.unusedSimpArgs false

theorem steps_cons {m n k : Nat} {b : Bool} {d : List (Bool × Nat)} (h1 : 1 ≤ m) (h2 : m ≤ n) (he : steps m n = (b, k) :: d) : 1 ≤ k ∧ k < n ∧ m < n ∧ (b = true → m ≤ k ∧ steps m k = d) ∧ (b = false → k < m ∧ steps (m - k) (n - k) = d) := by
  by_cases hm : m < n
  · have a := split_lt (n := n) (by omega)
    have c := split_pos (n := n) (by omega)
    by_cases hk : m ≤ split n
    · rw [steps_first h1 hm hk] at he
      injection he with e1 e2
      injection e1 with e3 e4
      subst e3 e4 e2
      exact ⟨c, a, hm, fun _ => ⟨hk, rfl⟩, (fun h => by cases h)⟩
    · rw [steps_rest hm (by omega)] at he
      injection he with e1 e2
      injection e1 with e3 e4
      subst e3 e4 e2
      exact ⟨c, a, hm, (fun h => by cases h), fun _ => ⟨by omega, rfl⟩⟩
  · rw [steps_end (by omega)] at he; cases he
theorem wp_cut {P : Program} {c : Code} {Q : Exit → Act → World → Prop} {a : Act} {w : World} (Post : Act → Act → World → Prop) (h1 : c.wp P (fun e a' w' => e = .normal ∧ Post a a' w') a w) (h2 : ∀ a' w', Post a a' w' → Q .normal a' w') : c.wp P Q a w :=
  wp_mono h1 (fun e a w ⟨he, hq⟩ => he ▸ h2 _ _ hq)
theorem run_eq106a (a b c d : ByteArray) (w : World) (R : Bool) (hR : ((a.toList == c.toList) && (b.toList == d.toList)) = R) : (Op.equalIn 10000 106 (.agg #[.string a, .string b]) (.agg #[.string c, .string d])).run Tryd.prog w = .ok R w := by
  show (Op.equalIn (9998 + 1 + 1) 106 _ _).run Tryd.prog w = _
  rw [Op.equalIn]
  simp only [Sem.run_bind, run_underlying Tryd.underlying106, Result.andThen_ok]
  subst hR
  cases h1 : (a.toList == c.toList) <;> cases h2 : (b.toList == d.toList) <;> simp [go_sem, List.range', h1, h2]
theorem beq_ba0 (x y : ByteArray) : (x.toList == y.toList) = decide (x = y) := by
  rw [ByteArray.toList_eq, ByteArray.toList_eq]
  by_cases h : x = y
  · subst h; simp
  · rw [decide_eq_false h, beq_eq_false_iff_ne]; intro hq; exact h (ba_list hq)
theorem run_eq106 (a b c d : ByteArray) (w : World) : (Op.equalIn 10000 106 (.agg #[.string a, .string b]) (.agg #[.string c, .string d])).run Tryd.prog w = .ok (decide ((a, b) = (c, d))) w := by
  refine run_eq106a a b c d w _ ?_
  rw [beq_ba0, beq_ba0]
  by_cases h1 : a = c <;> by_cases h2 : b = d <;> simp [h1, h2]
theorem info106 : (Tryd.prog.info? 106).map (·.size) = some 2 := by kernel_rfl
theorem clash_goT {k : Nat} {d : List (Bool × Nat)} {lc q : List ByteArray} {h : ByteArray} {I : ByteArray × ByteArray} {r1 r2 : ByteArray} (hI : imp d q = I) (hok : own k lc = (r1, r2)) : clash ((true, k) :: d) lc (h :: q) = if (I.2, h) = (r1, r2) then clash d (lc.take k) q else some ((I.2, h), (r1, r2)) := by
  rw [clash_true, told_true, hok]
  show (if ((imp d q).2, h) = (r1, r2) then clash d (lc.take k) q else some (((imp d q).2, h), (r1, r2))) = _
  rw [hI]
theorem clash_goF {k : Nat} {d : List (Bool × Nat)} {lc q : List ByteArray} {h : ByteArray} {I : ByteArray × ByteArray} {r1 r2 : ByteArray} (hI : imp d q = I) (hok : own k lc = (r1, r2)) : clash ((false, k) :: d) lc (h :: q) = if (h, I.2) = (r1, r2) then clash d (lc.drop k) q else some ((h, I.2), (r1, r2)) := by
  rw [clash_false, told_false, hok]
  show (if (h, (imp d q).2) = (r1, r2) then clash d (lc.drop k) q else some ((h, (imp d q).2), (r1, r2))) = _
  rw [hI]
theorem beq_ba (x y : ByteArray) : (x.toList == y.toList) = decide (x = y) := by
  rw [ByteArray.toList_eq, ByteArray.toList_eq]
  by_cases h : x = y
  · subst h; simp
  · rw [decide_eq_false h, beq_eq_false_iff_ne]; intro hq; exact h (ba_list hq)

set_option maxRecDepth 100000 in
set_option maxHeartbeats 4000000 in
theorem cclash_arg {w : World} (hT : Tab w) {vL : Value} {L : List ByteArray} (hL : SRead w vL L) (hs : ∀ s ∈ L, s.size ≤ 80000000) (hl : L.length < 1000000) {vP : Value} {P : List ByteArray} (hP : SRead w vP P) (m : Int) (hb : brOk m L.length = false) :
    Calls Tryd.prog 63 #[.int .i64 m, vL, vP] w fun e w' => e = .returned (.tuple #[.string ⟨#[]⟩, .string ⟨#[]⟩, .bool false]) ∧ Below w.heap.size w w' := by
  obtain ⟨n, hn⟩ : ∃ n, L.length = n := ⟨_, rfl⟩
  obtain ⟨A, cap, rfl⟩ := hL.any hn
  obtain ⟨Ap, capp, rfl⟩ := hP.any rfl
  generalize P.length = pl at *
  rw [hn] at hb hl
  unfold brOk at hb
  clear hL hs hn hT
  by_cases h1 : m < 1
  · have l1 : (m < 1) = True := eq_true h1
    clear hb h1
    go_enter Tryd.func63, Tryd.ntmps63
    go_wp2
    go_ret3
    exact ⟨rfl, Below.refl _ _⟩
  · have l1 : (m < 1) = False := eq_false h1
    have l2 : ((n : Int) < m) = True := eq_true (by simp at hb; omega)
    clear hb h1
    go_enter Tryd.func63, Tryd.ntmps63
    go_wp2
    go_ret3
    exact ⟨rfl, Below.refl _ _⟩
set_option maxRecDepth 100000 in
set_option maxHeartbeats 4000000 in
theorem cclash_no {w : World} (hT : Tab w) {vL : Value} {L : List ByteArray} (hL : SRead w vL L) (hs : ∀ s ∈ L, s.size ≤ 80000000) (hl : L.length < 1000000) {vP : Value} {P : List ByteArray} (hP : SRead w vP P) (m : Nat) (h1 : 1 ≤ m) (h2 : m ≤ L.length) (hb : clOk (m : Int) L P = false) :
    Calls Tryd.prog 63 #[.int .i64 (m : Int), vL, vP] w fun e w' => e = .returned (.tuple #[.string ⟨#[]⟩, .string ⟨#[]⟩, .bool false]) ∧ Below w.heap.size w w' := by
  obtain ⟨n, hn⟩ : ∃ n, L.length = n := ⟨_, rfl⟩
  have hI := fun wq (hq : Below w.heap.size w wq) => cImplied_any (hT.below hq) (hP.below hq rfl) m n
  have hR := fun wq (hq : Below w.heap.size w wq) => root_any (hT.below hq) (hL.below hq rfl) hs hl
  rw [hn] at h2 hl
  obtain ⟨b, o, cap, rfl, hcap⟩ := hL.slice hn (by omega)
  have htk := hL.take m (by omega)
  have hRt := fun wq (hq : Below w.heap.size w wq) => root_any (hT.below hq) (htk.below hq rfl) (fun s hs' => hs s (List.mem_of_mem_take hs')) (by rw [List.length_take]; omega)
  obtain ⟨Ap, capp, rfl⟩ := hP.any rfl
  have l1 : ((m : Int) < 1) = False := eq_false (by omega)
  have l2 : ((n : Int) < (m : Int)) = False := eq_false (by omega)
  have e1 : IntKind.u64.wrap (m : Int) = (m : Int) := by show (m : Int) % 18446744073709551616 = _; omega
  have e2 : IntKind.u64.wrap (n : Int) = (n : Int) := by show (n : Int) % 18446744073709551616 = _; omega
  have q0 : (0 : Int) ≤ (m : Int) := by omega
  have q1 : (m : Int) ≤ (n : Int) := by omega
  have q2 : (m : Int) ≤ (cap : Int) := by omega
  have q3 : m ≤ n := by omega
  have q4 : m ≤ cap := by omega
  have hk : ¬ (impE m n P = 0 ∧ impB m n P = root L ∧ impA m n P ≠ root (L.take m)) := by
    intro hk
    have : clOk (m : Int) L P = true := by
      unfold clOk brOk
      rw [Int.toNat_natCast, hn]
      simp [hk.1, hk.2.1, hk.2.2]; omega
    rw [this] at hb; cases hb
  have hc := impE_cases m n P
  obtain ⟨a, ha⟩ : ∃ a, impA m n P = a := ⟨_, rfl⟩
  obtain ⟨s, hs'⟩ : ∃ s, impB m n P = s := ⟨_, rfl⟩
  obtain ⟨r, hr⟩ : ∃ r, root L = r := ⟨_, rfl⟩
  obtain ⟨r2, hr2⟩ : ∃ r, root (L.take m) = r := ⟨_, rfl⟩
  rw [ha, hs'] at hc hI
  rw [ha, hs', hr, hr2] at hk
  rw [hr] at hR; rw [hr2] at hRt
  have HI := Lib.hid hI; have HR := Lib.hid hR; have HRt := Lib.hid hRt
  have hd1 := beq_ba s r; have hd2 := beq_ba a r2
  clear hI hR hRt htk hL hs hT hP ha hs' hr hr2 hn hb
  generalize P.length = pl at *
  rcases hc with ⟨he, ha32, hs32⟩ | ⟨he | he, ha0, hs0⟩
  · rw [he] at HI hk
    clear ha32 hs32
    by_cases hsr : s = r
    · have hn1 : (s.toList == r.toList) = true := by rw [hd1, decide_eq_true hsr]
      have har : a = r2 := by
        by_cases h : a = r2
        · exact h
        · exact absurd ⟨rfl, hsr, h⟩ hk
      have hn2 : (a.toList == r2.toList) = true := by rw [hd2, decide_eq_true har]
      have hn3 : (s.toList != r.toList) = false := by rw [bne, hn1]; rfl
      clear hd1 hd2 hk hsr har
      go_enter Tryd.func63, Tryd.ntmps63
      go_wp2_with fail
      refine (HI.out _ (Below.refl _ _)).mono ?_
      rintro e w2 ⟨rfl, hb2⟩
      have Hb2 := Lib.hid hb2; clear hb2
      go_wp2_with fail
      refine (HR.out _ Hb2.out).mono ?_
      rintro e w3 ⟨rfl, hb3⟩
      have Hb3 := Lib.hid (Hb2.out.trans (hb3.mono Hb2.out.size)); clear hb3
      go_wp2_with fail
      refine (HRt.out _ Hb3.out).mono ?_
      rintro e w4 ⟨rfl, hb4⟩
      have Hb4 := Lib.hid (Hb3.out.trans (hb4.mono Hb3.out.size)); clear hb4
      go_wp2
      go_ret3
      exact ⟨rfl, Hb4.out⟩
    · have hn1 : (s.toList == r.toList) = false := by rw [hd1, decide_eq_false hsr]
      have hn3 : (s.toList != r.toList) = true := by rw [bne, hn1]; rfl
      clear hd1 hd2 hk hsr
      go_enter Tryd.func63, Tryd.ntmps63
      go_wp2_with fail
      refine (HI.out _ (Below.refl _ _)).mono ?_
      rintro e w2 ⟨rfl, hb2⟩
      have Hb2 := Lib.hid hb2; clear hb2
      go_wp2_with fail
      refine (HR.out _ Hb2.out).mono ?_
      rintro e w3 ⟨rfl, hb3⟩
      have Hb3 := Lib.hid (Hb2.out.trans (hb3.mono Hb2.out.size)); clear hb3
      go_wp2
      go_ret3
      exact ⟨rfl, Hb3.out⟩
  · rw [he] at HI
    clear hd1 hd2 hk ha0 hs0 he
    go_enter Tryd.func63, Tryd.ntmps63
    go_wp2_with fail
    refine (HI.out _ (Below.refl _ _)).mono ?_
    rintro e w2 ⟨rfl, hb2⟩
    have Hb2 := Lib.hid hb2; clear hb2
    go_wp2
    go_ret3
    exact ⟨rfl, Hb2.out⟩
  · rw [he] at HI
    clear hd1 hd2 hk ha0 hs0 he
    go_enter Tryd.func63, Tryd.ntmps63
    go_wp2_with fail
    refine (HI.out _ (Below.refl _ _)).mono ?_
    rintro e w2 ⟨rfl, hb2⟩
    have Hb2 := Lib.hid hb2; clear hb2
    go_wp2
    go_ret3
    exact ⟨rfl, Hb2.out⟩
set_option maxRecDepth 100000 in
set_option maxHeartbeats 4000000 in
theorem cclash_yes {w : World} (hT : Tab w) {vL : Value} {L : List ByteArray} (hL : SRead w vL L) (hs : ∀ s ∈ L, s.size ≤ 80000000) (hl : L.length < 1000000) {vP : Value} {P : List ByteArray} (hP : SRead w vP P) (m : Nat) (h1 : 1 ≤ m) (h2 : m ≤ L.length) (hb : clOk (m : Int) L P = true) :
    Calls Tryd.prog 63 #[.int .i64 (m : Int), vL, vP] w fun e w' => e = .returned (.tuple #[.string (clOut (clash (steps m L.length) L P.reverse)).1, .string (clOut (clash (steps m L.length) L P.reverse)).2.1, .bool (clOut (clash (steps m L.length) L P.reverse)).2.2]) ∧ Below w.heap.size w w' := by
  obtain ⟨n, hn⟩ : ∃ n, L.length = n := ⟨_, rfl⟩
  have hI := fun wq (hq : Below w.heap.size w wq) => cImplied_any (hT.below hq) (hP.below hq rfl) m n
  have hR := fun wq (hq : Below w.heap.size w wq) => root_any (hT.below hq) (hL.below hq rfl) hs hl
  rw [hn] at h2 hl
  obtain ⟨b, o, cap, rfl, hcap⟩ := hL.slice hn (by omega)
  have htk := hL.take m (by omega)
  have hRt := fun wq (hq : Below w.heap.size w wq) => root_any (hT.below hq) (htk.below hq rfl) (fun s hs' => hs s (List.mem_of_mem_take hs')) (by rw [List.length_take]; omega)
  obtain ⟨Ap, capp, rfl⟩ := hP.any rfl
  have l1 : ((m : Int) < 1) = False := eq_false (by omega)
  have l2 : ((n : Int) < (m : Int)) = False := eq_false (by omega)
  have e1 : IntKind.u64.wrap (m : Int) = (m : Int) := by show (m : Int) % 18446744073709551616 = _; omega
  have e2 : IntKind.u64.wrap (n : Int) = (n : Int) := by show (n : Int) % 18446744073709551616 = _; omega
  have q0 : (0 : Int) ≤ (m : Int) := by omega
  have q1 : (m : Int) ≤ (n : Int) := by omega
  have q2 : (m : Int) ≤ (cap : Int) := by omega
  have q3 : m ≤ n := by omega
  have q4 : m ≤ cap := by omega
  have hk : impE m n P = 0 ∧ impB m n P = root L ∧ impA m n P ≠ root (L.take m) := by
    unfold clOk brOk at hb
    rw [Int.toNat_natCast, hn] at hb
    have h9 : 1 ≤ (m : Int) := by omega
    simpa [and_assoc, h1, h2, h9] using hb
  obtain ⟨hmay, hpl, hpw, -, -⟩ := impE_ok hk.1
  obtain ⟨a, ha⟩ : ∃ a, impA m n P = a := ⟨_, rfl⟩
  obtain ⟨s, hs'⟩ : ∃ s, impB m n P = s := ⟨_, rfl⟩
  obtain ⟨r, hr⟩ : ∃ r, root L = r := ⟨_, rfl⟩
  obtain ⟨r2, hr2⟩ : ∃ r, root (L.take m) = r := ⟨_, rfl⟩
  rw [ha, hs'] at hI
  rw [ha, hs', hr, hr2] at hk
  rw [hr] at hR; rw [hr2] at hRt
  obtain ⟨hk1, hk2, hk3⟩ := hk
  rw [hk1] at hI
  have h79 := fun wq => csteps_any (w := wq) m n h1 h2 (by omega)
  have hsl := steps_short 40 m n (by omega) h1
  obtain ⟨R, hRR⟩ : ∃ R, clOut (clash (steps m n) L P.reverse) = R := ⟨_, rfl⟩
  rw [hn, hRR]
  have hst0 := hRR
  obtain ⟨ss, hss⟩ : ∃ ss, steps m n = ss := ⟨_, rfl⟩
  rw [hss] at hpl hsl hst0 h79
  have hn1 : (s.toList == r.toList) = true := by rw [beq_ba, decide_eq_true hk2]
  have hn2 : (a.toList == r2.toList) = false := by rw [beq_ba, decide_eq_false hk3]
  have hn3 : (s.toList != r.toList) = false := by rw [bne, hn1]; rfl
  have HI := Lib.hid hI; have HR := Lib.hid hR; have HRt := Lib.hid hRt; have H79 := Lib.hid h79
  have HL := Lib.hid (And.intro hL (And.intro hs hn)); have HP := Lib.hid (And.intro hP (And.intro hpw hpl)); have HT := Lib.hid hT
  obtain ⟨pl, hple⟩ : ∃ pl, P.length = pl := ⟨_, rfl⟩
  obtain ⟨N, hN⟩ : ∃ N, ss.length = N := ⟨_, rfl⟩
  have HS := Lib.hid (And.intro hss (And.intro hst0 (And.intro hple hN))); have H12 := Lib.hid (And.intro h1 h2)
  rw [hple] at HI ⊢
  rw [hN] at hsl
  clear hI hR hRt htk hL hs hT hP ha hs' hr hr2 hn hb hk1 hk2 hk3 h79 hpl hpw hmay hRR hss hst0 hple hN h1 h2
  go_enter Tryd.func63, Tryd.ntmps63
  go_wp2_with fail
  refine (HI.out _ (Below.refl _ _)).mono ?_
  rintro e w2 ⟨rfl, hb2⟩
  have Hb2 := Lib.hid hb2; clear hb2
  go_wp2_with fail
  refine (HR.out _ Hb2.out).mono ?_
  rintro e w3 ⟨rfl, hb3⟩
  have Hb3 := Lib.hid (Hb2.out.trans (hb3.mono Hb2.out.size)); clear hb3
  go_wp2_with fail
  refine (HRt.out _ Hb3.out).mono ?_
  rintro e w4 ⟨rfl, hb4⟩
  have Hb4 := Lib.hid (Hb3.out.trans (hb4.mono Hb3.out.size)); clear hb4
  go_wp2_with fail
  refine (H79.out _).mono ?_
  rintro e wa ⟨⟨sv, rfl, hsto⟩, hba⟩
  have hbwa := Hb4.out.trans (hba.mono Hb4.out.size)
  have hst := hsto.read (by have := HS.out.2.2.2; unfold maxLen; omega)
  obtain ⟨As, cs, rfl, -, -⟩ := id hst
  rw [HS.out.2.2.2] at hst ⊢
  have HST := Lib.hid hst; have HBA := Lib.hid hbwa
  have HTa := Lib.hid (HT.out.below hbwa)
  have HLa := Lib.hid (HL.out.1.below hbwa rfl); have HPa := Lib.hid (HP.out.1.below hbwa rfl)
  clear hsto hba hst hbwa HI HR HRt Hb2 Hb3 Hb4 H79 hn1 hn2 hn3 l1 l2 e1 e2 q0 q1 q2 q3 q4
  go_wp2
  go_loopw [1, 2, 9, 10, 67] (fun lv pv mv nv iv wr => ∃ (i : Nat) (m' : Nat) (lc Pc : List ByteArray) (Al : Option Addr) (cl : Nat) (Ap : Option Addr) (cp : Nat), iv = .int .i64 (i : Int) ∧ i ≤ N ∧ mv = .int .u64 (m' : Int) ∧ nv = .int .u64 (lc.length : Int) ∧ lv = .slice Al lc.length cl ∧ pv = .slice Ap Pc.length cp ∧ SRead wa (.slice Al lc.length cl) lc ∧ SRead wa (.slice Ap Pc.length cp) Pc ∧ (∀ s ∈ lc, s.size ≤ 80000000) ∧ lc.length < 1000000 ∧ (∀ s ∈ Pc, s.size = 32) ∧ 1 ≤ m' ∧ m' ≤ lc.length ∧ steps m' lc.length = ss.drop i ∧ Pc.length = (ss.drop i).length + 1 ∧ clOut (clash (ss.drop i) lc Pc.reverse) = R ∧ Below wa.heap.size wa wr) (fun _ _ _ _ iv _ => N - (intOf iv).toNat)
  case atStart => exact ⟨0, m, L, P, _, _, _, _, rfl, Nat.zero_le _, rfl, by rw [HL.out.2.2], by rw [HL.out.2.2], by rw [HS.out.2.2.1], by rw [HL.out.2.2]; exact HLa.out, HPa.out, HL.out.2.1, by rw [HL.out.2.2]; exact hl, HP.out.2.1, H12.out.1, by rw [HL.out.2.2]; exact H12.out.2, by rw [HL.out.2.2]; exact HS.out.1, HP.out.2.2, HS.out.2.1, Below.refl _ _⟩
  case round =>
    obtain ⟨i, m', lc, Pc, Al, cl, Ap, cp, rfl, hiN, rfl, rfl, rfl, rfl, hlr, hpr, hsz, hlc, hpw, hm1, hm2, hstp, hpl, hR, hbel⟩ := hrel
    clear HLa HPa H12
    by_cases hlt : i < N
    · have l3 : (i : Int) < (N : Int) := by omega
      have hlts : i < ss.length := by rw [HS.out.2.2.2]; exact hlt
      obtain ⟨b, k, hbk⟩ : ∃ b k, ss[i] = (b, k) := ⟨_, _, rfl⟩
      have hdrop : ss.drop i = (b, k) :: ss.drop (i + 1) := by rw [List.drop_eq_getElem_cons hlts, hbk]
      rw [hdrop] at hstp hpl hR
      obtain ⟨hk1, hk2, hmn, hst1, hst2⟩ := steps_cons hm1 hm2 hstp
      obtain ⟨d, hd⟩ : ∃ d, ss.drop (i + 1) = d := ⟨_, rfl⟩
      rw [hd] at hdrop hst1 hst2 hpl hR
      have Hd := Lib.hid hd
      rw [List.length_cons] at hpl
      have hstw := HST.out.below hbel rfl
      obtain ⟨As', cs', hse, -, hsc⟩ := hstw
      injection hse with p1 p2 p3
      subst p1 p3
      obtain ⟨bs, os, rfl, -, cb, ck⟩ := hsc i hlts
      clear hsc p2
      rw [hbk] at cb ck
      dsimp only at cb ck
      obtain ⟨Q, h, rfl⟩ := snoc_of_pos (Q := Pc) (by omega)
      obtain ⟨bp, op, cp', hpe, hcapp, hbpl, hcph, hpq, -⟩ := hpr.snoc
      injection hpe with p1 p2 p3
      subst p1 p3
      rw [show (Q ++ [h]).reverse = h :: Q.reverse by simp] at hR
      have hQl : Q.length = d.length + 1 := by simp at hpl; omega
      have hQw : ∀ s ∈ Q, s.size = 32 := fun s hs => hpw s (List.mem_append_left _ hs)
      have hh32 : h.size = 32 := hpw h (by simp)
      obtain ⟨bl, ol, cl', hle, hcapl⟩ := hlr.slice rfl (by omega)
      injection hle with p1 p2 p3
      subst p1 p3
      have htk := hlr.take k (by omega)
      have hdr := hlr.drop k (by omega)
      have HRk := Lib.hid (fun wq (hq : Below wa.heap.size wa wq) => root_any (HTa.out.below hq) (htk.below hq rfl) (fun s hs' => hsz s (List.mem_of_mem_take hs')) (by rw [List.length_take]; omega))
      have HRd := Lib.hid (fun wq (hq : Below wa.heap.size wa wq) => root_any (HTa.out.below hq) (hdr.below hq rfl) (fun s hs' => hsz s (List.mem_of_mem_drop hs')) (by rw [List.length_drop]; omega))
      have hcph := cell_belowB hbel rfl hcph
      have hok : own k lc = (root (lc.take k), root (lc.drop k)) := rfl
      obtain ⟨r1, hr1⟩ : ∃ r, root (lc.take k) = r := ⟨_, rfl⟩
      obtain ⟨r2', hr2'⟩ : ∃ r, root (lc.drop k) = r := ⟨_, rfl⟩
      rw [hr1, hr2'] at hok; rw [hr1] at HRk; rw [hr2'] at HRd
      have hIm : ∀ (mm nn : Nat), 1 ≤ mm → mm ≤ nn → nn ≤ 1000000 → steps mm nn = d → ∀ wq, Below wa.heap.size wa wq → Calls Tryd.prog 54 #[.int .u64 (mm : Int), .int .u64 (nn : Int), .slice (some ⟨bp, op, none⟩) Q.length cp] wq fun e w' => e = .returned (.tuple #[.string (imp d Q.reverse).1, .string (imp d Q.reverse).2, .int .i64 0]) ∧ Below wq.heap.size wq w' := fun mm nn a1 a2 a3 a4 wq hq => by
        have h0 := impE_mk (P := Q) (may_mk a1 a2 (by omega)) (by rw [a4]; exact hQl) hQw
        obtain ⟨-, -, -, f1, f2⟩ := impE_ok h0
        have := cImplied_any (HTa.out.below hq) (hpq.below hq rfl) mm nn
        rw [h0, f1, f2, a4] at this
        exact this
      obtain ⟨I, hI⟩ : ∃ I, imp d Q.reverse = I := ⟨_, rfl⟩
      rw [hI] at hIm
      have hIw : I.1.size = 32 ∧ I.2.size = 32 := by rw [← hI]; exact imp_wide d Q.reverse (fun s hs => hQw s (List.mem_reverse.1 hs)) (by rw [List.length_reverse]; exact hQl)
      have r32 : r1.size = 32 ∧ r2'.size = 32 := by rw [← hr1, ← hr2']; exact ⟨root_length _, root_length _⟩
      obtain ⟨n', hn'⟩ : ∃ n', lc.length = n' := ⟨_, rfl⟩
      rw [hn'] at hk2 hmn hm2 hst2 hlc hcapl HRd ⊢
      have hn'' : (Q ++ [h]).length = Q.length + 1 := by simp
      rw [hn'']
      obtain ⟨ql, hql⟩ : ∃ q, Q.length = q := ⟨_, rfl⟩
      rw [hql] at hcapp hcph hIm ⊢
      obtain ⟨pN, hpN⟩ : ∃ p, ql + 1 = p := ⟨_, rfl⟩
      rw [hpN] at hcapp ⊢
      obtain ⟨dn, hdn⟩ : ∃ dn, n' - k = dn := ⟨_, rfl⟩
      obtain ⟨dm, hdm⟩ : ∃ dm, m' - k = dm := ⟨_, rfl⟩
      rw [hdn] at HRd
      have hql64 : ql ≤ 100 := by have h7 : d.length ≤ N := by (rw [← Hd.out, List.length_drop]; have := HS.out.2.2.2; omega)
                                  omega
      have e1 : IntKind.i64.wrap ((pN : Int) - 1) = (ql : Int) := by rw [show (pN : Int) - 1 = (ql : Int) by omega]; exact IntWalk.i64_in _ (by omega)
      have s0 : (0 : Int) ≤ (ql : Int) := by omega
      have s1 : (ql : Int) < (pN : Int) := by omega
      have s2 : (ql : Int) ≤ (pN : Int) := by omega
      have s3 : (ql : Int) ≤ (cp : Int) := by omega
      have s4 : ql ≤ pN := by omega
      have s5 : ql ≤ cp := by omega
      have t0 : (0 : Int) ≤ (k : Int) := by omega
      have t1 : (k : Int) ≤ (n' : Int) := by omega
      have t2 : (k : Int) ≤ (cl : Int) := by omega
      have t3 : k ≤ n' := by omega
      have t4 : k ≤ cl := by omega
      have t5 : ¬ cl = k := by omega
      have hnk : n' - k = dn := hdn
      have i0 : (0 : Int) ≤ (i : Int) := by omega
      have Hlr := Lib.hid hlr; have Hbel := Lib.hid hbel; have HQ := Lib.hid (And.intro hpq (And.intro hQw (And.intro hql (And.intro hQl hpN)))); have Hsz := Lib.hid (And.intro hsz hn'); have HRR := Lib.hid hR; have HIm := Lib.hid hIm; have HI2 := Lib.hid (And.intro hI (And.intro hIw (And.intro r32 hh32))); have Hok := Lib.hid hok; have Hst1 := Lib.hid hst1; have Hst2 := Lib.hid hst2
      have Hml := Lib.hid (And.intro hm1 (And.intro hm2 (And.intro hk1 (And.intro hk2 hlc))))
      clear hlr hpr hsz hpw hstp hpl hR hst1 hst2 htk hdr hok hr1 hr2' hIm hI hIw r32 hh32 hQl hQw hpq hbpl hcapl hcapp hn' hql hpN hbk hdrop hd hlts hn'' hdn hm1 hm2 hmn hk1 hk2 hlc hbel hql64
      have hB15 := Blk.new wr 94 #[.bool b, .int .u64 (k : Int)]
      have hba := alloc_below' wr (.cells #[.bool b, .int .u64 (k : Int)] 94)
      have hbel1 := Hbel.out.trans (hba.mono Hbel.out.size)
      have hcph1 := cell_belowB hba rfl hcph
      have hwr := Hbel.out.size
      obtain ⟨g15, hg15⟩ : ∃ g, wr.heap.size = g := ⟨_, rfl⟩
      obtain ⟨w1, hw1⟩ : ∃ w1, wr.alloc (.cells #[.bool b, .int .u64 (k : Int)] 94) = w1 := ⟨_, rfl⟩
      rw [hw1] at hB15 hbel1 hcph1; rw [hg15] at hB15 hwr
      have HB15 := Lib.hid hB15; have Hbel1 := Lib.hid hbel1; have Hwr := Lib.hid hwr
      clear hB15 hba hbel1 hcph Hbel hwr
      go_upto_region 13 with fail
      clear hw1 hg15 cb ck hcph1
      have d0 := HB15.out.cell 0; have d1 := HB15.out.cell 1
      simp only [List.getElem?_toArray, List.getElem?_cons_succ, List.getElem?_cons_zero] at d0 d1
      refine wp_cut (fun a a' w' => ∃ g18 : Nat, a' = ((((((((((((a.put (some 81) (.slice (some ⟨bl, ol, none⟩) n' cl)).put (some 82) (.pointer (some ⟨g15, 1, none⟩))).put (some 83) (.int .u64 (k : Int))).put (some 84) (.slice (some ⟨bl, ol, none⟩) k cl)).put (some 85) (.string r1)).put (some 86) (.slice (some ⟨bl, ol, none⟩) n' cl)).put (some 87) (.pointer (some ⟨g15, 1, none⟩))).put (some 88) (.int .u64 (k : Int))).put (some 89) (.slice (some ⟨bl, ol + k, none⟩) dn (cl - k))).put (some 90) (.string r2')).put (some 91) (.agg #[.string r1, .string r2'])).put (some 18) (.pointer (some ⟨g18, 0, none⟩))) ∧ Blk w' g18 106 #[.string r1, .string r2'] ∧ w1.heap.size ≤ g18 ∧ Below w1.heap.size w1 w') ?_ ?_
      · refine wp_region_T (n := 12) (S := fun wq => Below w1.heap.size w1 wq) (by kernel_rfl) (by kernel_rfl) (below_drewN' (Below.refl _ _) 1) (fun hHeld => ?_)
        generalize w1.drew = x0 at *
        refine WalkT.take (i := 0) (oi := _) (v := ?vg1) rfl (by decide) (by kernel_rfl) (by kernel_rfl) (fun _ _ _ h => nomatch h.1) (Or.inl ⟨by kernel_rfl, ?hyg1⟩) (by assumption) ?rg1
        case hyg1 => (intro wq hSw; go_simp; try (with_reducible rfl))
        try simp only [Act.put, List.setIfInBounds_toArray, List.set_cons_zero, List.set_cons_succ]
        refine WalkT.take (i := 1) (oi := _) (v := ?vg2) rfl (by decide) (by kernel_rfl) (by kernel_rfl) (fun _ _ _ h => nomatch h.1) (Or.inl ⟨by kernel_rfl, ?hyg2⟩) (by assumption) ?rg2
        case hyg2 => (intro wq hSw; go_simp; try (with_reducible rfl))
        try simp only [Act.put, List.setIfInBounds_toArray, List.set_cons_zero, List.set_cons_succ]
        refine WalkT.take (i := 2) (oi := _) (v := ?vg3) rfl (by decide) (by kernel_rfl) (by kernel_rfl) (fun _ _ _ h => nomatch h.1) (Or.inl ⟨by kernel_rfl, ?hyg3⟩) (by assumption) ?rg3
        case hyg3 => (intro wq hSw; have q9 := cell_belowB hSw rfl d1; go_simp; try (with_reducible rfl))
        try simp only [Act.put, List.setIfInBounds_toArray, List.set_cons_zero, List.set_cons_succ]
        refine WalkT.take (i := 3) (oi := _) (v := ?vg4) rfl (by decide) (by kernel_rfl) (by kernel_rfl) (fun _ _ _ h => nomatch h.1) (Or.inl ⟨by kernel_rfl, ?hyg4⟩) (by assumption) ?rg4
        case hyg4 => (intro wq hSw; go_simp; try (with_reducible rfl))
        try simp only [Act.put, List.setIfInBounds_toArray, List.set_cons_zero, List.set_cons_succ]
        refine WalkT.take (i := 5) (oi := _) (v := ?vg5) rfl (by decide) (by kernel_rfl) (by kernel_rfl) (fun _ _ _ h => nomatch h.1) (Or.inl ⟨by kernel_rfl, ?hyg5⟩) (by assumption) ?rg5
        case hyg5 => (intro wq hSw; go_simp; try (with_reducible rfl))
        try simp only [Act.put, List.setIfInBounds_toArray, List.set_cons_zero, List.set_cons_succ]
        refine WalkT.take (i := 6) (oi := _) (v := ?vg6) rfl (by decide) (by kernel_rfl) (by kernel_rfl) (fun _ _ _ h => nomatch h.1) (Or.inl ⟨by kernel_rfl, ?hyg6⟩) (by assumption) ?rg6
        case hyg6 => (intro wq hSw; go_simp; try (with_reducible rfl))
        try simp only [Act.put, List.setIfInBounds_toArray, List.set_cons_zero, List.set_cons_succ]
        refine WalkT.take (i := 7) (oi := _) (v := ?vg7) rfl (by decide) (by kernel_rfl) (by kernel_rfl) (fun _ _ _ h => nomatch h.1) (Or.inl ⟨by kernel_rfl, ?hyg7⟩) (by assumption) ?rg7
        case hyg7 => (intro wq hSw; have q9 := cell_belowB hSw rfl d1; go_simp; try (with_reducible rfl))
        try simp only [Act.put, List.setIfInBounds_toArray, List.set_cons_zero, List.set_cons_succ]
        refine WalkT.take (i := 8) (oi := _) (v := ?vg8) rfl (by decide) (by kernel_rfl) (by kernel_rfl) (fun _ _ _ h => nomatch h.1) (Or.inl ⟨by kernel_rfl, ?hyg8⟩) (by assumption) ?rg8
        case hyg8 => (intro wq hSw; go_simp; try (with_reducible rfl))
        try simp only [Act.put, List.setIfInBounds_toArray, List.set_cons_zero, List.set_cons_succ]
        refine WalkT.many (rs := [4, 11]) (by kernel_rfl) (by simp) (by simp) ?_
        refine AllT.cons (i := 4) (o := ?og9) ?hog9 ?hkg9 ?hsg9
        case hog9 => (simp only [List.getElem?_toArray, List.getElem?_cons_succ, List.getElem?_cons_zero]; exact rfl)
        case hkg9 =>
          intro K hK
          go_simp
          refine (HRk.out _ (Hbel1.out.trans (hHeld.mono Hbel1.out.size))).mono ?_
          rintro e y4 ⟨rfl, hb⟩
          have hS4 : Below w1.heap.size w1 y4 := Below.trans hHeld (Below.mono hb (Below.size hHeld))
          clear hb hHeld
          go_simp
          refine hK.out _ _ hS4 (fun hHeld => ?_)
          clear hS4
          clear hK K
          try simp only [Act.put, List.setIfInBounds_toArray, List.set_cons_zero, List.set_cons_succ]
          refine WalkT.many (rs := [9, 11]) (by kernel_rfl) (by simp) (by simp) ?_
          refine AllT.cons (i := 9) (o := ?og10) ?hog10 ?hkg10 ?hsg10
          case hog10 => (simp only [List.getElem?_toArray, List.getElem?_cons_succ, List.getElem?_cons_zero]; exact rfl)
          case hkg10 =>
            intro K hK
            go_simp
            refine (HRd.out _ (Hbel1.out.trans (hHeld.mono Hbel1.out.size))).mono ?_
            rintro e y9 ⟨rfl, hb⟩
            have hS9 : Below w1.heap.size w1 y9 := Below.trans hHeld (Below.mono hb (Below.size hHeld))
            clear hb hHeld
            go_simp
            refine hK.out _ _ hS9 (fun hHeld => ?_)
            clear hS9
            clear hK K
            try simp only [Act.put, List.setIfInBounds_toArray, List.set_cons_zero, List.set_cons_succ]
            refine WalkT.take (i := 10) (oi := _) (v := ?vg11) rfl (by decide) (by kernel_rfl) (by kernel_rfl) (fun _ _ _ h => nomatch h.1) (Or.inl ⟨by kernel_rfl, ?hyg11⟩) (by assumption) ?rg11
            case hyg11 => (intro wq hSw; go_simp; try (with_reducible rfl))
            try simp only [Act.put, List.setIfInBounds_toArray, List.set_cons_zero, List.set_cons_succ]
            refine WalkT.one (i := 11) (o := ?og12) (by kernel_rfl) (by decide) ?hog12 ?hkg12
            case hog12 => (simp only [List.getElem?_toArray, List.getElem?_cons_succ, List.getElem?_cons_zero]; exact rfl)
            intro K hK
            have hle := hHeld.size
            go_simp
            have hSa : Below w1.heap.size w1 (y9.alloc (.cells #[.string ⟨#[]⟩, .string ⟨#[]⟩] 106)) := hHeld.alloc hHeld.size _
            have hn := Blk.new y9 106 #[.string ⟨#[]⟩, .string ⟨#[]⟩]
            refine hK.out _ _ hSa (fun hHeld => ?_)
            clear hSa
            generalize y9.alloc (.cells #[.string ⟨#[]⟩, .string ⟨#[]⟩] 106) = xa at *
            generalize y9.heap.size = ga at *
            have Ha := Lib.hid (And.intro hn hle); clear hn hle
            clear hK K
            try simp only [Act.put, List.setIfInBounds_toArray, List.set_cons_zero, List.set_cons_succ]
            refine WalkT.tail (by kernel_rfl) ?_
            have hset : Blk ((xa.setCell ⟨ga, 0, none⟩ (.string r1)).setCell ⟨ga, 1, none⟩ (.string r2')) ga 106 #[.string r1, .string r2'] := blk_two Ha.out.1 _ _
            have hfin : Below w1.heap.size w1 ((xa.setCell ⟨ga, 0, none⟩ (.string r1)).setCell ⟨ga, 1, none⟩ (.string r2')) := (hHeld.setCell (p := ⟨ga, 0, none⟩) Ha.out.2 _).setCell (p := ⟨ga, 1, none⟩) Ha.out.2 _
            have k0 : _ = some (Value.string ⟨#[]⟩) := (Ha.out.1.cell 0).trans rfl; have k1 : _ = some (Value.string ⟨#[]⟩) := ((Ha.out.1.set_ 0 (.string r1)).cell 1).trans rfl; have f0 := Ha.out.1.frozen 0; have f1 := (Ha.out.1.set_ 0 (.string r1)).frozen 1
            have Hfin := Lib.hid (And.intro hset (And.intro Ha.out.2 hfin)); clear hset hfin hHeld
            simp only [List.drop_succ_cons, List.drop_zero]
            go_wp2
            exact Hfin.out
          refine AllT.cons (i := 11) (o := ?og13) ?hog13 ?hkg13 ?hsg13
          case hog13 => (simp only [List.getElem?_toArray, List.getElem?_cons_succ, List.getElem?_cons_zero]; exact rfl)
          case hkg13 =>
            intro K hK
            have hle := hHeld.size
            go_simp
            have hSa : Below w1.heap.size w1 (y4.alloc (.cells #[.string ⟨#[]⟩, .string ⟨#[]⟩] 106)) := hHeld.alloc hHeld.size _
            have hn := Blk.new y4 106 #[.string ⟨#[]⟩, .string ⟨#[]⟩]
            refine hK.out _ _ hSa (fun hHeld => ?_)
            clear hSa
            generalize y4.alloc (.cells #[.string ⟨#[]⟩, .string ⟨#[]⟩] 106) = xa at *
            generalize y4.heap.size = ga at *
            have Ha := Lib.hid (And.intro hn hle); clear hn hle
            clear hK K
            try simp only [Act.put, List.setIfInBounds_toArray, List.set_cons_zero, List.set_cons_succ]
            refine WalkT.one (i := 9) (o := ?og14) (by kernel_rfl) (by decide) ?hog14 ?hkg14
            case hog14 => (simp only [List.getElem?_toArray, List.getElem?_cons_succ, List.getElem?_cons_zero]; exact rfl)
            intro K hK
            go_simp
            refine (HRd.out _ (Hbel1.out.trans (hHeld.mono Hbel1.out.size))).mono ?_
            rintro e y9 ⟨rfl, hb⟩
            have hS9 : Below w1.heap.size w1 y9 := Below.trans hHeld (Below.mono hb (Below.size hHeld))
            have Ha : Hid (Blk _ _ _ _ ∧ _) := Lib.hid (And.intro ((hb.block _ (Blk.lt Ha.out.1)).trans Ha.out.1) Ha.out.2)
            clear hb hHeld
            go_simp
            refine hK.out _ _ hS9 (fun hHeld => ?_)
            clear hS9
            clear hK K
            try simp only [Act.put, List.setIfInBounds_toArray, List.set_cons_zero, List.set_cons_succ]
            refine WalkT.take (i := 10) (oi := _) (v := ?vg15) rfl (by decide) (by kernel_rfl) (by kernel_rfl) (fun _ _ _ h => nomatch h.1) (Or.inl ⟨by kernel_rfl, ?hyg15⟩) (by assumption) ?rg15
            case hyg15 => (intro wq hSw; go_simp; try (with_reducible rfl))
            try simp only [Act.put, List.setIfInBounds_toArray, List.set_cons_zero, List.set_cons_succ]
            refine WalkT.tail (by kernel_rfl) ?_
            have hset : Blk ((y9.setCell ⟨ga, 0, none⟩ (.string r1)).setCell ⟨ga, 1, none⟩ (.string r2')) ga 106 #[.string r1, .string r2'] := blk_two Ha.out.1 _ _
            have hfin : Below w1.heap.size w1 ((y9.setCell ⟨ga, 0, none⟩ (.string r1)).setCell ⟨ga, 1, none⟩ (.string r2')) := (hHeld.setCell (p := ⟨ga, 0, none⟩) Ha.out.2 _).setCell (p := ⟨ga, 1, none⟩) Ha.out.2 _
            have k0 : _ = some (Value.string ⟨#[]⟩) := (Ha.out.1.cell 0).trans rfl; have k1 : _ = some (Value.string ⟨#[]⟩) := ((Ha.out.1.set_ 0 (.string r1)).cell 1).trans rfl; have f0 := Ha.out.1.frozen 0; have f1 := (Ha.out.1.set_ 0 (.string r1)).frozen 1
            have Hfin := Lib.hid (And.intro hset (And.intro Ha.out.2 hfin)); clear hset hfin hHeld
            simp only [List.drop_succ_cons, List.drop_zero]
            go_wp2
            exact Hfin.out
          exact AllT.nil
        refine AllT.cons (i := 11) (o := ?og16) ?hog16 ?hkg16 ?hsg16
        case hog16 => (simp only [List.getElem?_toArray, List.getElem?_cons_succ, List.getElem?_cons_zero]; exact rfl)
        case hkg16 =>
          intro K hK
          have hle := hHeld.size
          go_simp
          have hSa : Below w1.heap.size w1 (x0.alloc (.cells #[.string ⟨#[]⟩, .string ⟨#[]⟩] 106)) := hHeld.alloc hHeld.size _
          have hn := Blk.new x0 106 #[.string ⟨#[]⟩, .string ⟨#[]⟩]
          refine hK.out _ _ hSa (fun hHeld => ?_)
          clear hSa
          generalize x0.alloc (.cells #[.string ⟨#[]⟩, .string ⟨#[]⟩] 106) = xa at *
          generalize x0.heap.size = ga at *
          have Ha := Lib.hid (And.intro hn hle); clear hn hle
          clear hK K
          try simp only [Act.put, List.setIfInBounds_toArray, List.set_cons_zero, List.set_cons_succ]
          refine WalkT.one (i := 4) (o := ?og17) (by kernel_rfl) (by decide) ?hog17 ?hkg17
          case hog17 => (simp only [List.getElem?_toArray, List.getElem?_cons_succ, List.getElem?_cons_zero]; exact rfl)
          intro K hK
          go_simp
          refine (HRk.out _ (Hbel1.out.trans (hHeld.mono Hbel1.out.size))).mono ?_
          rintro e y4 ⟨rfl, hb⟩
          have hS4 : Below w1.heap.size w1 y4 := Below.trans hHeld (Below.mono hb (Below.size hHeld))
          have Ha : Hid (Blk _ _ _ _ ∧ _) := Lib.hid (And.intro ((hb.block _ (Blk.lt Ha.out.1)).trans Ha.out.1) Ha.out.2)
          clear hb hHeld
          go_simp
          refine hK.out _ _ hS4 (fun hHeld => ?_)
          clear hS4
          clear hK K
          try simp only [Act.put, List.setIfInBounds_toArray, List.set_cons_zero, List.set_cons_succ]
          refine WalkT.one (i := 9) (o := ?og18) (by kernel_rfl) (by decide) ?hog18 ?hkg18
          case hog18 => (simp only [List.getElem?_toArray, List.getElem?_cons_succ, List.getElem?_cons_zero]; exact rfl)
          intro K hK
          go_simp
          refine (HRd.out _ (Hbel1.out.trans (hHeld.mono Hbel1.out.size))).mono ?_
          rintro e y9 ⟨rfl, hb⟩
          have hS9 : Below w1.heap.size w1 y9 := Below.trans hHeld (Below.mono hb (Below.size hHeld))
          have Ha : Hid (Blk _ _ _ _ ∧ _) := Lib.hid (And.intro ((hb.block _ (Blk.lt Ha.out.1)).trans Ha.out.1) Ha.out.2)
          clear hb hHeld
          go_simp
          refine hK.out _ _ hS9 (fun hHeld => ?_)
          clear hS9
          clear hK K
          try simp only [Act.put, List.setIfInBounds_toArray, List.set_cons_zero, List.set_cons_succ]
          refine WalkT.take (i := 10) (oi := _) (v := ?vg19) rfl (by decide) (by kernel_rfl) (by kernel_rfl) (fun _ _ _ h => nomatch h.1) (Or.inl ⟨by kernel_rfl, ?hyg19⟩) (by assumption) ?rg19
          case hyg19 => (intro wq hSw; go_simp; try (with_reducible rfl))
          try simp only [Act.put, List.setIfInBounds_toArray, List.set_cons_zero, List.set_cons_succ]
          refine WalkT.tail (by kernel_rfl) ?_
          have hset : Blk ((y9.setCell ⟨ga, 0, none⟩ (.string r1)).setCell ⟨ga, 1, none⟩ (.string r2')) ga 106 #[.string r1, .string r2'] := blk_two Ha.out.1 _ _
          have hfin : Below w1.heap.size w1 ((y9.setCell ⟨ga, 0, none⟩ (.string r1)).setCell ⟨ga, 1, none⟩ (.string r2')) := (hHeld.setCell (p := ⟨ga, 0, none⟩) Ha.out.2 _).setCell (p := ⟨ga, 1, none⟩) Ha.out.2 _
          have k0 : _ = some (Value.string ⟨#[]⟩) := (Ha.out.1.cell 0).trans rfl; have k1 : _ = some (Value.string ⟨#[]⟩) := ((Ha.out.1.set_ 0 (.string r1)).cell 1).trans rfl; have f0 := Ha.out.1.frozen 0; have f1 := (Ha.out.1.set_ 0 (.string r1)).frozen 1
          have Hfin := Lib.hid (And.intro hset (And.intro Ha.out.2 hfin)); clear hset hfin hHeld
          simp only [List.drop_succ_cons, List.drop_zero]
          go_wp2
          exact Hfin.out
        exact AllT.nil
      · rintro a' w3 ⟨g18, rfl, hB18, hg18, hb3⟩
        simp only [Act.put, List.setIfInBounds_toArray, List.set_cons_zero, List.set_cons_succ]
        have hB15 : Blk _ _ _ _ := (hb3.block _ (Blk.lt HB15.out)).trans HB15.out
        have hbel3 := Hbel1.out.trans (hb3.mono Hbel1.out.size)
        have hsz1 := Hbel1.out.size
        have hle3 := hbel3.size
        have hB19 := Blk.new w3 106 #[.string ⟨#[]⟩, .string ⟨#[]⟩]
        have hba := alloc_below' w3 (.cells #[.string ⟨#[]⟩, .string ⟨#[]⟩] 106)
        have hB15' : Blk _ _ _ _ := (hba.block _ hB15.lt).trans hB15
        have hB18' : Blk _ _ _ _ := (hba.block _ hB18.lt).trans hB18
        have hlt18 := hB18.lt
        have hbel4 := hbel3.trans (hba.mono hbel3.size)
        obtain ⟨g19, hg19⟩ : ∃ g, w3.heap.size = g := ⟨_, rfl⟩
        obtain ⟨w4, hw4⟩ : ∃ w4, w3.alloc (.cells #[.string ⟨#[]⟩, .string ⟨#[]⟩] 106) = w4 := ⟨_, rfl⟩
        rw [hw4] at hB19 hB15' hB18' hbel4; rw [hg19] at hB19 hlt18 hle3
        have HB15 := Lib.hid hB15'; have HB18 := Lib.hid hB18'; have HB19 := Lib.hid hB19; have Hbel4 := Lib.hid hbel4
        have Hg := Lib.hid (And.intro (show wa.heap.size ≤ g19 by omega) (show g18 ≠ g19 by omega))
        clear hB15 hB15' hB18 hB18' hB19 hbel4 hba hb3 hbel3 hsz1 hle3 hlt18 hg18 Hbel1 HRk HRd d0 d1
        go_upto_region 15 with fail
        clear hw4 hg19
        have d0 := HB15.out.cell 0; have d1 := HB15.out.cell 1
        simp only [List.getElem?_toArray, List.getElem?_cons_succ, List.getElem?_cons_zero] at d0 d1
        cases b
        · have hst := (Hst2.out rfl)
          have e5 : IntKind.u64.wrap ((m' : Int) - (k : Int)) = (dm : Int) := by rw [show (m' : Int) - (k : Int) = (dm : Int) by have := hst.1; omega]; show (dm : Int) % 18446744073709551616 = _; have := Hml.out; omega
          have e6 : IntKind.u64.wrap ((n' : Int) - (k : Int)) = (dn : Int) := by rw [show (n' : Int) - (k : Int) = (dn : Int) by have := Hml.out; omega]; show (dn : Int) % 18446744073709551616 = _; have := Hml.out; omega
          go_wp2_with fail
          go_quiet (fail)
          go_wp2_with fail
          refine (HIm.out dm dn (by have := hst.1; omega) (by have := Hml.out; omega) (by have := Hml.out; omega) (by rw [← hdm, ← hnk]; exact hst.2) _ (below_drewN' Hbel4.out _)).mono ?_
          rintro e w5 ⟨rfl, hb5⟩
          have hB18 : Blk w5 g18 106 _ := (hb5.block _ (Blk.lt HB18.out)).trans HB18.out
          have hB19 : Blk w5 g19 106 _ := (hb5.block _ (Blk.lt HB19.out)).trans HB19.out
          have hbel5 := (below_drewN' Hbel4.out _).trans (hb5.mono (below_drewN' Hbel4.out _).size)
          have hset := blk_two hB19 (.string h) (.string I.2)
          have hset18 : Blk ((w5.setCell ⟨g19, 0, none⟩ (.string h)).setCell ⟨g19, 1, none⟩ (.string I.2)) g18 106 _ := (hB18.far (p := ⟨g19, 0, none⟩) Hg.out.2 _).far (p := ⟨g19, 1, none⟩) Hg.out.2 _
          have hbel6 := (hbel5.setCell (p := ⟨g19, 0, none⟩) Hg.out.1 (.string h)).setCell (p := ⟨g19, 1, none⟩) Hg.out.1 (.string I.2)
          have k0 : _ = some (Value.string ⟨#[]⟩) := (hB19.cell 0).trans rfl
          have k1 : _ = some (Value.string ⟨#[]⟩) := ((hB19.set_ 0 (.string h)).cell 1).trans rfl
          have f0 := hB19.frozen 0; have f1 := (hB19.set_ 0 (.string h)).frozen 1
          have k2 := hset.cell 0; have k3 := hset.cell 1; have k4 := hset18.cell 0; have k5 := hset18.cell 1
          simp only [List.getElem?_toArray, List.getElem?_cons_succ, List.getElem?_cons_zero] at k2 k3 k4 k5
          obtain ⟨w6, hw6⟩ : ∃ w6, (w5.setCell ⟨g19, 0, none⟩ (.string h)).setCell ⟨g19, 1, none⟩ (.string I.2) = w6 := ⟨_, rfl⟩
          rw [hw6] at hset hset18 hbel6 k2 k3 k4 k5
          have HT6 := Lib.hid (And.intro hset (And.intro hset18 hbel6))
          clear hB18 hB19 hb5 hbel5 hset hset18 hbel6 HB15 HB18 HB19 Hbel4 d0 d1
          have hcl := clash_goF (h := h) HI2.out.1 Hok.out
          have heq := run_eq106 h I.2 r1 r2' w6
          have hRR := HRR.out
          rw [hcl] at hRR
          by_cases he : (h, I.2) = (r1, r2')
          · rw [decide_eq_true he] at heq
            rw [if_pos he] at hRR
            have hlen : (lc.drop k).length = dn := by rw [List.length_drop]; have := Hsz.out.2; omega
            have hlr2 : SRead wa (.slice (some ⟨bl, ol + k, none⟩) (lc.drop k).length (cl - k)) (lc.drop k) := by rw [hlen, ← hnk, ← Hsz.out.2]; exact Hlr.out.drop k (by have := Hsz.out.2; omega)
            have hlv : (Value.slice (some ⟨bl, ol + k, none⟩) dn (cl - k)) = .slice (some ⟨bl, ol + k, none⟩) (lc.drop k).length (cl - k) := by rw [hlen]
            have hnv : (Value.int .u64 (dn : Int)) = .int .u64 (((lc.drop k).length : Nat) : Int) := by rw [hlen]
            have hpv : (Value.slice (some ⟨bp, op, none⟩) ql cp) = .slice (some ⟨bp, op, none⟩) Q.length cp := by rw [HQ.out.2.2.1]
            have hmm : 1 ≤ dm ∧ dm ≤ dn := by have := hst.1; have := Hml.out; omega
            have hss : steps dm dn = ss.drop (i + 1) := by rw [Hd.out]; rw [← hdm, ← hnk]; exact hst.2
            have hnlt : dn < 1000000 := by have := Hml.out; omega
            have Hend := Lib.hid (And.intro hRR (And.intro hlen (And.intro hlr2 (And.intro hlv (And.intro hnv (And.intro hpv (And.intro hmm (And.intro hss hnlt))))))))
            clear hRR hcl he hlen hlr2 hlv hnv hpv hmm hss hnlt
            go_wp2
            go_roundw
            case rel => exact ⟨i + 1, dm, lc.drop k, Q, some ⟨bl, ol + k, none⟩, cl - k, some ⟨bp, op, none⟩, cp, by go_num, by omega, rfl, Hend.out.2.2.2.2.1, Hend.out.2.2.2.1, Hend.out.2.2.2.2.2.1, Hend.out.2.2.1, HQ.out.1, fun s hs => Hsz.out.1 s (List.mem_of_mem_drop hs), by rw [Hend.out.2.1]; exact Hend.out.2.2.2.2.2.2.2.2, HQ.out.2.1, Hend.out.2.2.2.2.2.2.1.1, by rw [Hend.out.2.1]; exact Hend.out.2.2.2.2.2.2.1.2, by rw [Hend.out.2.1]; exact Hend.out.2.2.2.2.2.2.2.1, by rw [Hd.out]; exact HQ.out.2.2.2.1, by rw [Hd.out]; exact Hend.out.1, HT6.out.2.2⟩
            case measure => simp [intOf]; omega
          · rw [decide_eq_false he] at heq
            rw [if_neg he] at hRR
            have hRR : R = (text h I.2, text r1 r2', true) := hRR.symm
            have Hend := Lib.hid hRR
            clear hRR hcl he
            go_wp2_with fail
            clear k2 k3 k4 k5 heq
            refine wp_region_T (n := 4) (S := fun wq => Below w6.heap.size w6 wq) (by kernel_rfl) (by kernel_rfl) (below_drewN' (Below.refl _ _) 1) (fun hHeld => ?_)
            refine WalkT.take (i := 0) (oi := _) (v := _) rfl (by decide) (by kernel_rfl) (by kernel_rfl) (fun _ _ _ h => h) (yieldsIf_load_row (by kernel_rfl) 106 (Operand.tmp 19) rfl g19 (by rfl) 106 _ (0, 0) _ (fun wq h => (Below.block h _ (Blk.lt HT6.out.1)).trans HT6.out.1) Tryd.underlying106 rfl info106) (by assumption) ?_
            try simp only [Act.put, List.setIfInBounds_toArray, List.set_cons_zero, List.set_cons_succ]
            refine WalkT.take (i := 2) (oi := _) (v := _) rfl (by decide) (by kernel_rfl) (by kernel_rfl) (fun _ _ _ h => h) (yieldsIf_load_row (by kernel_rfl) 106 (Operand.tmp 18) rfl g18 (by rfl) 106 _ (0, 0) _ (fun wq h => (Below.block h _ (Blk.lt HT6.out.2.1)).trans HT6.out.2.1) Tryd.underlying106 rfl info106) (by assumption) ?_
            try simp only [Act.put, List.setIfInBounds_toArray, List.set_cons_zero, List.set_cons_succ]
            refine WalkT.one (i := 1) (o := ?ohf1) (by kernel_rfl) (by decide) ?hohf1 ?hkhf1
            case hohf1 => (simp only [List.getElem?_toArray, List.getElem?_cons_succ, List.getElem?_cons_zero]; exact rfl)
            intro K hK
            go_simp
            refine (text_any h I.2 (by have := HI2.out.2.1; have := HI2.out.2.2.2; omega) (by have := HI2.out.2.1; have := HI2.out.2.2.2; omega) _).mono ?_
            rintro e y1 ⟨rfl, hb⟩
            have hS1 : Below w6.heap.size w6 y1 := Below.trans hHeld (Below.mono hb (Below.size hHeld))
            clear hb hHeld
            go_simp
            refine hK.out _ _ hS1 (fun hHeld => ?_)
            clear hS1
            clear hK K
            try simp only [Act.put, List.setIfInBounds_toArray, List.set_cons_zero, List.set_cons_succ]
            refine WalkT.one (i := 3) (o := ?ohf2) (by kernel_rfl) (by decide) ?hohf2 ?hkhf2
            case hohf2 => (simp only [List.getElem?_toArray, List.getElem?_cons_succ, List.getElem?_cons_zero]; exact rfl)
            intro K hK
            go_simp
            refine (text_any r1 r2' (by have := HI2.out.2.2.1; omega) (by have := HI2.out.2.2.1; omega) _).mono ?_
            rintro e y3 ⟨rfl, hb⟩
            have hS3 : Below w6.heap.size w6 y3 := Below.trans hHeld (Below.mono hb (Below.size hHeld))
            clear hb hHeld
            go_simp
            refine hK.out _ _ hS3 (fun hHeld => ?_)
            clear hS3
            clear hK K
            try simp only [Act.put, List.setIfInBounds_toArray, List.set_cons_zero, List.set_cons_succ]
            refine WalkT.tail (by kernel_rfl) ?_
            have Hb := Lib.hid hHeld; clear hHeld
            simp only [List.drop_succ_cons, List.drop_zero]
            go_wp2
            go_ret3
            have hb7 := HT6.out.2.2.trans (Below.mono Hb.out HT6.out.2.2.size)
            exact ⟨by rw [Hend.out]; rfl, HBA.out.trans (Below.mono hb7 HBA.out.size)⟩
        · have hst := (Hst1.out rfl)
          go_wp2_with fail
          go_quiet (fail)
          go_wp2_with fail
          refine (HIm.out m' k Hml.out.1 hst.1 (by have := Hml.out; omega) hst.2 _ (below_drewN' Hbel4.out _)).mono ?_
          rintro e w5 ⟨rfl, hb5⟩
          have hB18 : Blk w5 g18 106 _ := (hb5.block _ (Blk.lt HB18.out)).trans HB18.out
          have hB19 : Blk w5 g19 106 _ := (hb5.block _ (Blk.lt HB19.out)).trans HB19.out
          have hbel5 := (below_drewN' Hbel4.out _).trans (hb5.mono (below_drewN' Hbel4.out _).size)
          have hset := blk_two hB19 (.string I.2) (.string h)
          have hset18 : Blk ((w5.setCell ⟨g19, 0, none⟩ (.string I.2)).setCell ⟨g19, 1, none⟩ (.string h)) g18 106 _ := (hB18.far (p := ⟨g19, 0, none⟩) Hg.out.2 _).far (p := ⟨g19, 1, none⟩) Hg.out.2 _
          have hbel6 := (hbel5.setCell (p := ⟨g19, 0, none⟩) Hg.out.1 (.string I.2)).setCell (p := ⟨g19, 1, none⟩) Hg.out.1 (.string h)
          have k0 : _ = some (Value.string ⟨#[]⟩) := (hB19.cell 0).trans rfl
          have k1 : _ = some (Value.string ⟨#[]⟩) := ((hB19.set_ 0 (.string I.2)).cell 1).trans rfl
          have f0 := hB19.frozen 0; have f1 := (hB19.set_ 0 (.string I.2)).frozen 1
          have k2 := hset.cell 0; have k3 := hset.cell 1; have k4 := hset18.cell 0; have k5 := hset18.cell 1
          simp only [List.getElem?_toArray, List.getElem?_cons_succ, List.getElem?_cons_zero] at k2 k3 k4 k5
          obtain ⟨w6, hw6⟩ : ∃ w6, (w5.setCell ⟨g19, 0, none⟩ (.string I.2)).setCell ⟨g19, 1, none⟩ (.string h) = w6 := ⟨_, rfl⟩
          rw [hw6] at hset hset18 hbel6 k2 k3 k4 k5
          have HT6 := Lib.hid (And.intro hset (And.intro hset18 hbel6))
          clear hB18 hB19 hb5 hbel5 hset hset18 hbel6 HB15 HB18 HB19 Hbel4 d0 d1
          have hcl := clash_goT (h := h) HI2.out.1 Hok.out
          have heq := run_eq106 I.2 h r1 r2' w6
          have hRR := HRR.out
          rw [hcl] at hRR
          by_cases he : (I.2, h) = (r1, r2')
          · rw [decide_eq_true he] at heq
            rw [if_pos he] at hRR
            have hlen : (lc.take k).length = k := by rw [List.length_take]; have := Hsz.out.2; omega
            have hlr2 : SRead wa (.slice (some ⟨bl, ol, none⟩) (lc.take k).length (cl)) (lc.take k) := by rw [hlen]; exact Hlr.out.take k (by have := Hsz.out.2; omega)
            have hlv : (Value.slice (some ⟨bl, ol, none⟩) k (cl)) = .slice (some ⟨bl, ol, none⟩) (lc.take k).length (cl) := by rw [hlen]
            have hnv : (Value.int .u64 (k : Int)) = .int .u64 (((lc.take k).length : Nat) : Int) := by rw [hlen]
            have hpv : (Value.slice (some ⟨bp, op, none⟩) ql cp) = .slice (some ⟨bp, op, none⟩) Q.length cp := by rw [HQ.out.2.2.1]
            have hmm : 1 ≤ m' ∧ m' ≤ k := by have := hst.1; have := Hml.out; omega
            have hss : steps m' k = ss.drop (i + 1) := by rw [Hd.out]; exact hst.2
            have hnlt : k < 1000000 := by have := Hml.out; omega
            have Hend := Lib.hid (And.intro hRR (And.intro hlen (And.intro hlr2 (And.intro hlv (And.intro hnv (And.intro hpv (And.intro hmm (And.intro hss hnlt))))))))
            clear hRR hcl he hlen hlr2 hlv hnv hpv hmm hss hnlt
            go_wp2
            go_roundw
            case rel => exact ⟨i + 1, m', lc.take k, Q, some ⟨bl, ol, none⟩, cl, some ⟨bp, op, none⟩, cp, by go_num, by omega, rfl, Hend.out.2.2.2.2.1, Hend.out.2.2.2.1, Hend.out.2.2.2.2.2.1, Hend.out.2.2.1, HQ.out.1, fun s hs => Hsz.out.1 s (List.mem_of_mem_take hs), by rw [Hend.out.2.1]; exact Hend.out.2.2.2.2.2.2.2.2, HQ.out.2.1, Hend.out.2.2.2.2.2.2.1.1, by rw [Hend.out.2.1]; exact Hend.out.2.2.2.2.2.2.1.2, by rw [Hend.out.2.1]; exact Hend.out.2.2.2.2.2.2.2.1, by rw [Hd.out]; exact HQ.out.2.2.2.1, by rw [Hd.out]; exact Hend.out.1, HT6.out.2.2⟩
            case measure => simp [intOf]; omega
          · rw [decide_eq_false he] at heq
            rw [if_neg he] at hRR
            have hRR : R = (text I.2 h, text r1 r2', true) := hRR.symm
            have Hend := Lib.hid hRR
            clear hRR hcl he
            go_wp2_with fail
            clear k2 k3 k4 k5 heq
            refine wp_region_T (n := 4) (S := fun wq => Below w6.heap.size w6 wq) (by kernel_rfl) (by kernel_rfl) (below_drewN' (Below.refl _ _) 1) (fun hHeld => ?_)
            refine WalkT.take (i := 0) (oi := _) (v := _) rfl (by decide) (by kernel_rfl) (by kernel_rfl) (fun _ _ _ h => h) (yieldsIf_load_row (by kernel_rfl) 106 (Operand.tmp 19) rfl g19 (by rfl) 106 _ (0, 0) _ (fun wq h => (Below.block h _ (Blk.lt HT6.out.1)).trans HT6.out.1) Tryd.underlying106 rfl info106) (by assumption) ?_
            try simp only [Act.put, List.setIfInBounds_toArray, List.set_cons_zero, List.set_cons_succ]
            refine WalkT.take (i := 2) (oi := _) (v := _) rfl (by decide) (by kernel_rfl) (by kernel_rfl) (fun _ _ _ h => h) (yieldsIf_load_row (by kernel_rfl) 106 (Operand.tmp 18) rfl g18 (by rfl) 106 _ (0, 0) _ (fun wq h => (Below.block h _ (Blk.lt HT6.out.2.1)).trans HT6.out.2.1) Tryd.underlying106 rfl info106) (by assumption) ?_
            try simp only [Act.put, List.setIfInBounds_toArray, List.set_cons_zero, List.set_cons_succ]
            refine WalkT.one (i := 1) (o := ?oht1) (by kernel_rfl) (by decide) ?hoht1 ?hkht1
            case hoht1 => (simp only [List.getElem?_toArray, List.getElem?_cons_succ, List.getElem?_cons_zero]; exact rfl)
            intro K hK
            go_simp
            refine (text_any I.2 h (by have := HI2.out.2.1; have := HI2.out.2.2.2; omega) (by have := HI2.out.2.1; have := HI2.out.2.2.2; omega) _).mono ?_
            rintro e y1 ⟨rfl, hb⟩
            have hS1 : Below w6.heap.size w6 y1 := Below.trans hHeld (Below.mono hb (Below.size hHeld))
            clear hb hHeld
            go_simp
            refine hK.out _ _ hS1 (fun hHeld => ?_)
            clear hS1
            clear hK K
            try simp only [Act.put, List.setIfInBounds_toArray, List.set_cons_zero, List.set_cons_succ]
            refine WalkT.one (i := 3) (o := ?oht2) (by kernel_rfl) (by decide) ?hoht2 ?hkht2
            case hoht2 => (simp only [List.getElem?_toArray, List.getElem?_cons_succ, List.getElem?_cons_zero]; exact rfl)
            intro K hK
            go_simp
            refine (text_any r1 r2' (by have := HI2.out.2.2.1; omega) (by have := HI2.out.2.2.1; omega) _).mono ?_
            rintro e y3 ⟨rfl, hb⟩
            have hS3 : Below w6.heap.size w6 y3 := Below.trans hHeld (Below.mono hb (Below.size hHeld))
            clear hb hHeld
            go_simp
            refine hK.out _ _ hS3 (fun hHeld => ?_)
            clear hS3
            clear hK K
            try simp only [Act.put, List.setIfInBounds_toArray, List.set_cons_zero, List.set_cons_succ]
            refine WalkT.tail (by kernel_rfl) ?_
            have Hb := Lib.hid hHeld; clear hHeld
            simp only [List.drop_succ_cons, List.drop_zero]
            go_wp2
            go_ret3
            have hb7 := HT6.out.2.2.trans (Below.mono Hb.out HT6.out.2.2.size)
            exact ⟨by rw [Hend.out]; rfl, HBA.out.trans (Below.mono hb7 HBA.out.size)⟩
    · obtain rfl : i = N := by omega
      have l3 : ¬ (i : Int) < (i : Int) := by omega
      have hdr : ss.drop i = [] := List.drop_eq_nil_of_le (by have := HS.out.2.2.2; omega)
      rw [hdr] at hR
      have HRn : Hid (R = (⟨#[]⟩, ⟨#[]⟩, false)) := Lib.hid (by rw [← hR]; rfl)
      have Hbel := Lib.hid (HBA.out.trans (Below.mono hbel HBA.out.size))
      clear hdr hR hlr hpr hsz hlc hpw hm1 hm2 hstp hpl hbel
      go_wp2
      go_ret3
      exact ⟨by rw [HRn.out]; rfl, Hbel.out⟩
theorem cClash_any {w : World} (hT : Tab w) {vL : Value} {L : List ByteArray} (hL : SRead w vL L) (hs : ∀ s ∈ L, s.size ≤ 80000000) (hl : L.length < 1000000) {vP : Value} {P : List ByteArray} (hP : SRead w vP P) (m : Int) :
    Calls Tryd.prog 63 #[.int .i64 m, vL, vP] w fun e w' => e = .returned (.tuple #[.string (clR m L P).1, .string (clR m L P).2.1, .bool (clR m L P).2.2]) ∧ Below w.heap.size w w' := by
  cases hb : brOk m L.length with
  | false =>
    rw [clR_no (show clOk m L P = false by unfold clOk; rw [hb]; rfl)]
    exact cclash_arg hT hL hs hl hP m hb
  | true =>
    have hm : 1 ≤ m ∧ m ≤ (L.length : Int) := by unfold brOk at hb; simpa using hb
    obtain ⟨j, rfl⟩ : ∃ j : Nat, m = (j : Int) := ⟨m.toNat, by omega⟩
    cases hc : clOk (j : Int) L P with
    | false =>
      rw [clR_no hc]
      exact cclash_no hT hL hs hl hP j (by omega) (by omega) hc
    | true =>
      have := cclash_yes hT hL hs hl hP j (by omega) (by omega) hc
      unfold clR
      rw [hc, if_pos rfl, Int.toNat_natCast]
      exact this
end Go.Proofs.YtkdajlhmodmkoaaDoor

/-
  Layer 9 (proof): the fixed calls walked.
-/
namespace Go.Proofs.YtkdajlhmodmkoaaDoor
open Go.RowKit TreeM
set_option linter.unusedVariables false
set_option linter.unusedSimpArgs false

set_option maxRecDepth 100000 in
theorem leaf_a : leafL [97] = [2, 42, 105, 121, 230, 218, 183, 170, 90, 228, 195, 229, 228, 95, 126, 151, 113, 18, 167, 230, 53, 147, 130, 13, 190, 193, 236, 115, 138, 36, 249, 60] := by decide +kernel
set_option maxRecDepth 100000 in
theorem leaf_b : leafL [98] = [87, 235, 53, 97, 93, 71, 243, 78, 199, 20, 202, 205, 245, 253, 116, 96, 138, 94, 142, 16, 39, 36, 232, 11, 36, 178, 135, 192, 194, 123, 106, 49] := by decide +kernel
set_option maxRecDepth 100000 in
theorem leaf_c : leafL [99] = [89, 127, 203, 49, 40, 45, 52, 101, 76, 32, 13, 52, 24, 252, 165, 112, 92, 100, 142, 191, 50, 110, 199, 61, 141, 222, 241, 24, 65, 248, 118, 216] := by decide +kernel
set_option maxRecDepth 100000 in
theorem node_ab : nodeL [2, 42, 105, 121, 230, 218, 183, 170, 90, 228, 195, 229, 228, 95, 126, 151, 113, 18, 167, 230, 53, 147, 130, 13, 190, 193, 236, 115, 138, 36, 249, 60] [87, 235, 53, 97, 93, 71, 243, 78, 199, 20, 202, 205, 245, 253, 116, 96, 138, 94, 142, 16, 39, 36, 232, 11, 36, 178, 135, 192, 194, 123, 106, 49] = [177, 55, 152, 95, 244, 132, 251, 96, 13, 185, 49, 7, 199, 123, 3, 101, 200, 13, 120, 245, 180, 41, 222, 208, 253, 151, 54, 29, 7, 121, 153, 235] := by decide +kernel
set_option maxRecDepth 100000 in
theorem node_cc : nodeL [89, 127, 203, 49, 40, 45, 52, 101, 76, 32, 13, 52, 24, 252, 165, 112, 92, 100, 142, 191, 50, 110, 199, 61, 141, 222, 241, 24, 65, 248, 118, 216] [89, 127, 203, 49, 40, 45, 52, 101, 76, 32, 13, 52, 24, 252, 165, 112, 92, 100, 142, 191, 50, 110, 199, 61, 141, 222, 241, 24, 65, 248, 118, 216] = [248, 35, 101, 159, 64, 247, 139, 17, 151, 119, 242, 146, 198, 46, 245, 119, 250, 177, 192, 126, 188, 157, 247, 17, 90, 114, 110, 233, 252, 148, 231, 251] := by decide +kernel
set_option maxRecDepth 100000 in
theorem node_abc : nodeL [177, 55, 152, 95, 244, 132, 251, 96, 13, 185, 49, 7, 199, 123, 3, 101, 200, 13, 120, 245, 180, 41, 222, 208, 253, 151, 54, 29, 7, 121, 153, 235] [89, 127, 203, 49, 40, 45, 52, 101, 76, 32, 13, 52, 24, 252, 165, 112, 92, 100, 142, 191, 50, 110, 199, 61, 141, 222, 241, 24, 65, 248, 118, 216] = [54, 100, 46, 115, 194, 84, 10, 177, 33, 227, 166, 191, 149, 69, 176, 162, 73, 130, 205, 131, 14, 177, 61, 60, 209, 157, 227, 206, 108, 2, 30, 193] := by decide +kernel
def nA : ByteArray := nodeB (leafB ⟨#[97]⟩) (leafB ⟨#[98]⟩)
def nC : ByteArray := leafB ⟨#[99]⟩
theorem nA_size : nA.size = 32 := nodeB_size _ _
theorem nC_size : nC.size = 32 := leafB_size _
theorem want_node : nodeB nA nC = wantB := rfl
theorem nodeB_list (a b : ByteArray) : (nodeB a b).data.toList = nodeL a.data.toList b.data.toList := rfl
theorem leafB_list (a : ByteArray) : (leafB a).data.toList = leafL a.data.toList := rfl
theorem cc_ne : nodeB nC nC ≠ wantB := by
  intro h
  have h2 : nodeL (leafL [99]) (leafL [99]) = nodeL (nodeL (leafL [97]) (leafL [98])) (leafL [99]) := by
    have h3 : (nodeB nC nC).data.toList = wantB.data.toList := by rw [h]
    unfold nC wantB at h3
    simp only [nodeB_list, leafB_list] at h3
    exact h3
  rw [leaf_a, leaf_b, leaf_c, node_ab, node_cc, node_abc] at h2
  revert h2
  decide
theorem root_ab : root [⟨#[97]⟩, ⟨#[98]⟩] = nA := by
  rw [root_node _ (by decide), show split (List.length [(⟨#[97]⟩ : ByteArray), ⟨#[98]⟩]) = 1 from by decide]
  rfl
theorem bridge_abc : bridge 2 abc = [nA, nC] := by
  rw [bridge_first (by decide) (by decide) (by decide), show split abc.length = 2 from by decide]
  show bridge 2 [⟨#[97]⟩, ⟨#[98]⟩] ++ [root [⟨#[99]⟩]] = _
  have h := bridge_end [(⟨#[97]⟩ : ByteArray), ⟨#[98]⟩]
  rw [show ([(⟨#[97]⟩ : ByteArray), ⟨#[98]⟩] : List ByteArray).length = 2 from rfl] at h
  rw [h, root_ab]
  rfl
theorem audit_abc : audit 2 abc = [nA] := by
  rw [audit_rest (by decide) (by decide), show split abc.length = 2 from by decide]
  show audit 0 [⟨#[99]⟩] ++ [root [⟨#[97]⟩, ⟨#[98]⟩]] = _
  rw [audit_end rfl, root_ab]
  rfl
theorem bridge_abc_any {w : World} (hT : Tab w) {v : Value} (h : SRead w v abc) : Calls Tryd.prog 52 #[.int .i64 2, v] w fun e w' => (∃ b o cap, e = .returned (.tuple #[.slice (some ⟨b, o, none⟩) 2 cap, .int .i64 0]) ∧ 2 ≤ cap ∧ SRead w' (.slice (some ⟨b, o, none⟩) 2 cap) [nA, nC]) ∧ Below w.heap.size w w' := by
  refine (cBridge_any hT h abc_small (by decide) 2).mono fun e w' ⟨⟨u, h1, h2⟩, hb⟩ => ⟨?_, hb⟩
  have e1 : brL 2 abc = [nA, nC] := bridge_abc
  rw [e1] at h2
  have h3 := h2.read (by simp [maxLen])
  obtain ⟨b, o, cap, rfl, hc⟩ := h3.slice rfl (by simp)
  exact ⟨b, o, cap, h1, hc, h3⟩
theorem bridge_zero_any {w : World} (hT : Tab w) {v : Value} (h : SRead w v abc) : Calls Tryd.prog 52 #[.int .i64 0, v] w fun e w' => (∃ A cap, e = .returned (.tuple #[.slice A 0 cap, .int .i64 1])) ∧ Below w.heap.size w w' := by
  refine (cBridge_any hT h abc_small (by decide) 0).mono fun e w' ⟨⟨u, h1, h2⟩, hb⟩ => ⟨?_, hb⟩
  obtain ⟨A, cap, rfl⟩ := (h2.read (by decide)).any (show (brL 0 abc).length = 0 from rfl)
  exact ⟨A, cap, h1⟩
theorem audit_abc_any {w : World} (hT : Tab w) {v : Value} (h : SRead w v abc) : Calls Tryd.prog 59 #[.int .i64 2, v] w fun e w' => (∃ A cap, e = .returned (.tuple #[.slice A 1 cap, .int .i64 0]) ∧ SRead w' (.slice A 1 cap) [nA]) ∧ Below w.heap.size w w' := by
  refine (cAudit_any hT h abc_small (by decide) 2).mono fun e w' ⟨⟨u, h1, h2⟩, hb⟩ => ⟨?_, hb⟩
  have e1 : auL 2 abc = [nA] := audit_abc
  rw [e1] at h2
  have h3 := h2.read (by simp [maxLen])
  obtain ⟨A, cap, rfl⟩ := h3.any rfl
  exact ⟨A, cap, h1, h3⟩
theorem audit_three_any {w : World} (hT : Tab w) {v : Value} (h : SRead w v abc) : Calls Tryd.prog 59 #[.int .i64 3, v] w fun e w' => (∃ A cap, e = .returned (.tuple #[.slice A 0 cap, .int .i64 1])) ∧ Below w.heap.size w w' := by
  refine (cAudit_any hT h abc_small (by decide) 3).mono fun e w' ⟨⟨u, h1, h2⟩, hb⟩ => ⟨?_, hb⟩
  obtain ⟨A, cap, rfl⟩ := (h2.read (by decide)).any (show (auL 3 abc).length = 0 from rfl)
  exact ⟨A, cap, h1⟩
theorem implied_abc_any {w : World} (hT : Tab w) {v : Value} (h : SRead w v [nA, nC]) : Calls Tryd.prog 54 #[.int .u64 2, .int .u64 3, v] w fun e w' => e = .returned (.tuple #[.string nA, .string wantB, .int .i64 0]) ∧ Below w.heap.size w w' := by
  have := cImplied_any hT h 2 3
  obtain ⟨e1, e2, e3⟩ := imp_of_bridge 2 abc (by decide) (by decide) (by decide)
  rw [bridge_abc, show abc.length = 3 from rfl] at e1 e2 e3
  rw [e1, e2, e3, root_abc, show abc.take 2 = [⟨#[97]⟩, ⟨#[98]⟩] from rfl, root_ab] at this
  exact this
theorem steps23 : stepsN 2 3 = 2 := by decide
theorem steps33 : stepsN 3 3 = 1 := by decide
theorem steps03 : stepsN 0 3 = 0 := by decide
theorem implied_short_any {w : World} (hT : Tab w) {v : Value} (h : SRead w v [nA]) : Calls Tryd.prog 54 #[.int .u64 2, .int .u64 3, v] w fun e w' => e = .returned (.tuple #[.string ⟨#[]⟩, .string ⟨#[]⟩, .int .i64 11]) ∧ Below w.heap.size w w' := by
  have := cImplied_any hT h 2 3
  obtain ⟨e1, e2, e3⟩ := impE_whole (m := 2) (n := 3) (P := [nA]) (by decide) (by rw [steps23]; rfl)
  rw [e1, e2, e3] at this
  exact this
theorem implied_arg_any {w : World} (hT : Tab w) {v : Value} (h : SRead w v [nA, nC]) : Calls Tryd.prog 54 #[.int .u64 4, .int .u64 3, v] w fun e w' => e = .returned (.tuple #[.string ⟨#[]⟩, .string ⟨#[]⟩, .int .i64 1]) ∧ Below w.heap.size w w' := by
  have := cImplied_any hT h 4 3
  obtain ⟨e1, e2, e3⟩ := impE_may (m := 4) (n := 3) (P := [nA, nC]) (by decide)
  rw [e1, e2, e3] at this
  exact this
theorem up_abc_any {w : World} (hT : Tab w) {v : Value} (h : SRead w v [nA]) : Calls Tryd.prog 61 #[.int .u64 2, .int .u64 3, .string nC, v] w fun e w' => e = .returned (.tuple #[.string wantB, .int .i64 0]) ∧ Below w.heap.size w w' := by
  have := cUp_any hT h 2 3 nC
  obtain ⟨e1, e2⟩ := up_of_audit 2 abc (by decide) (by decide)
  rw [audit_abc, show abc.length = 3 from rfl] at e1 e2
  have e1' : upE 2 3 nC [nA] = 0 := e1
  have e2' : upS 2 3 nC [nA] = root abc := e2
  rw [e1', e2', root_abc] at this
  exact this
theorem up_three_any {w : World} (hT : Tab w) {v : Value} (h : SRead w v [nA]) : Calls Tryd.prog 61 #[.int .u64 3, .int .u64 3, .string nC, v] w fun e w' => e = .returned (.tuple #[.string ⟨#[]⟩, .int .i64 1]) ∧ Below w.heap.size w w' := by
  have := cUp_any hT h 3 3 nC
  obtain ⟨e1, e2⟩ := upE_arg (i := 3) (n := 3) (leaf := nC) (P := [nA]) rfl
  rw [e1, e2] at this
  exact this
theorem clash_abc_any {w : World} (hT : Tab w) {v u : Value} (h : SRead w v abc) (hp : SRead w u [nA, nC]) : Calls Tryd.prog 63 #[.int .i64 2, v, u] w fun e w' => e = .returned (.tuple #[.string ⟨#[]⟩, .string ⟨#[]⟩, .bool false]) ∧ Below w.heap.size w w' := by
  have := cClash_any hT h abc_small (by decide) hp 2
  have e := clR_bridge 2 abc (by decide) (by decide) (by decide)
  rw [bridge_abc] at e
  have e' : clR 2 abc [nA, nC] = (⟨#[]⟩, ⟨#[]⟩, false) := e
  rw [e'] at this
  exact this
theorem imp_cc : impB 2 3 [nC, nC] = nodeB nC nC := by
  obtain ⟨-, -, -, -, e⟩ := impE_ok (impE_mk (m := 2) (n := 3) (P := [nC, nC]) (by decide) (by decide) (by intro s hs; simp at hs; rw [hs]; exact nC_size))
  rw [e]
  have h : steps 2 3 = [(true, 2)] := by decide
  rw [h]
  rfl
theorem clash_cc_any {w : World} (hT : Tab w) {v u : Value} (h : SRead w v abc) (hp : SRead w u [nC, nC]) : Calls Tryd.prog 63 #[.int .i64 2, v, u] w fun e w' => e = .returned (.tuple #[.string ⟨#[]⟩, .string ⟨#[]⟩, .bool false]) ∧ Below w.heap.size w w' := by
  have := cClash_any hT h abc_small (by decide) hp 2
  have e' : clR 2 abc [nC, nC] = (⟨#[]⟩, ⟨#[]⟩, false) := by
    refine clR_no ?_
    unfold clOk
    have e2 : impB (2 : Int).toNat abc.length [nC, nC] = nodeB nC nC := imp_cc
    rw [e2, root_abc, decide_eq_false cc_ne]
    simp
  rw [e'] at this
  exact this
theorem steps_c {w : World} (m n k : Nat) (h : stepsN m n = k) : Calls Tryd.prog 56 #[.int .u64 (m : Int), .int .u64 (n : Int)] w fun e w' => e = .returned (.int .i64 (k : Int)) ∧ Below w.heap.size w w' := by rw [← h]; exact cStepsN_any m n
theorem steps23_any (w : World) : Calls Tryd.prog 56 #[.int .u64 2, .int .u64 3] w fun e w' => e = .returned (.int .i64 2) ∧ Below w.heap.size w w' := steps_c 2 3 2 steps23
theorem steps33_any (w : World) : Calls Tryd.prog 56 #[.int .u64 3, .int .u64 3] w fun e w' => e = .returned (.int .i64 1) ∧ Below w.heap.size w w' := steps_c 3 3 1 steps33
theorem steps03_any (w : World) : Calls Tryd.prog 56 #[.int .u64 0, .int .u64 3] w fun e w' => e = .returned (.int .i64 0) ∧ Below w.heap.size w w' := steps_c 0 3 0 steps03
set_option maxRecDepth 100000 in
set_option maxHeartbeats 4000000 in
theorem pfixed_any {w : World} (hT : Tab w) : Calls Tryd.prog 58 #[] w fun e w' => e = .returned (.bool true) ∧ Below w.heap.size w w' := by
  have HT := Lib.hid hT; clear hT
  obtain ⟨x0, hx0⟩ : ∃ x0, w.alloc (.cells (svals abc).toArray 9) = x0 := ⟨_, rfl⟩
  obtain ⟨lv, hlv⟩ : ∃ lv, Value.slice (some ⟨w.heap.size, 0, none⟩) 3 3 = lv := ⟨_, rfl⟩
  have Hb0 : Hid (Below w.heap.size w x0) := Lib.hid (by rw [← hx0]; exact alloc_below' w _)
  have Hl0 : Hid (SRead x0 lv abc) := Lib.hid (by rw [← hx0, ← hlv]; exact (SOwn.made (base := w.heap.size) abc (Nat.le_refl _) (by decide)).read (by decide))
  have hx0' : w.alloc (.cells #[.string ⟨#[97]⟩, .string ⟨#[98]⟩, .string ⟨#[99]⟩] 9) = x0 := hx0
  clear hx0
  go_enter Tryd.func58, Tryd.ntmps58
  go_wp2_with fail
  clear hx0' hlv
  refine (leaf_any (HT.out.below Hb0.out) ⟨#[97]⟩ (by decide)).mono ?_
  rintro e x1 ⟨rfl, hb1⟩
  have Hb1 := Lib.hid (Hb0.out.trans (hb1.mono Hb0.out.size))
  have Hl1 := Lib.hid (Hl0.out.below hb1 rfl)
  clear Hb0 Hl0 hb1
  go_wp2_with fail
  refine (leaf_any (HT.out.below Hb1.out) ⟨#[98]⟩ (by decide)).mono ?_
  rintro e x2 ⟨rfl, hb2⟩
  have Hb2 := Lib.hid (Hb1.out.trans (hb2.mono Hb1.out.size))
  have Hl2 := Lib.hid (Hl1.out.below hb2 rfl)
  clear Hb1 Hl1 hb2
  go_wp2_with fail
  refine (node_any (HT.out.below Hb2.out) _ _ (by rw [leafB_size]; decide) (by rw [leafB_size]; decide)).mono ?_
  rintro e x3 ⟨rfl, hb3⟩
  rw [show nodeB (leafB ⟨#[97]⟩) (leafB ⟨#[98]⟩) = nA from rfl]
  have Hb3 := Lib.hid (Hb2.out.trans (hb3.mono Hb2.out.size))
  have Hl3 := Lib.hid (Hl2.out.below hb3 rfl)
  clear Hb2 Hl2 hb3
  go_wp2_with fail
  refine (leaf_any (HT.out.below Hb3.out) ⟨#[99]⟩ (by decide)).mono ?_
  rintro e x4 ⟨rfl, hb4⟩
  rw [show leafB ⟨#[99]⟩ = nC from rfl]
  have Hb4 := Lib.hid (Hb3.out.trans (hb4.mono Hb3.out.size))
  have Hl4 := Lib.hid (Hl3.out.below hb4 rfl)
  clear Hb3 Hl3 hb4
  go_wp2_with fail
  refine (bridge_abc_any (HT.out.below Hb4.out) Hl4.out).mono ?_
  rintro e x5 ⟨⟨pb, po, pc, rfl, hpc, ho⟩, hb5⟩
  have Hp5 := Lib.hid ho
  have Ht := Lib.hid (ho.take 1 (by simp))
  have pc1 : (1 : Int) ≤ (pc : Int) := by omega
  have pc2 : 1 ≤ pc := by omega
  clear ho hpc
  have Hb5 := Lib.hid (Hb4.out.trans (hb5.mono Hb4.out.size))
  have Hl5 := Lib.hid (Hl4.out.below hb5 rfl)
  clear Hb4 Hl4 hb5
  have Ht5 := Ht; clear Ht
  have Hq5 : Hid (SRead x5 (.slice (some ⟨pb, po, none⟩) 1 pc) [nA]) := Lib.hid Ht5.out
  clear Ht5
  go_wp2_with fail
  refine (implied_abc_any (HT.out.below Hb5.out) Hp5.out).mono ?_
  rintro e x6 ⟨rfl, hb6⟩
  have Hb6 := Lib.hid (Hb5.out.trans (hb6.mono Hb5.out.size))
  have Hl6 := Lib.hid (Hl5.out.below hb6 rfl)
  have Hp6 := Lib.hid (Hp5.out.below hb6 rfl)
  have Hq6 := Lib.hid (Hq5.out.below hb6 rfl)
  clear Hb5 Hl5 Hp5 Hq5 hb6
  go_wp2_with fail
  refine (implied_short_any (HT.out.below Hb6.out) Hq6.out).mono ?_
  rintro e x7 ⟨rfl, hb7⟩
  have Hb7 := Lib.hid (Hb6.out.trans (hb7.mono Hb6.out.size))
  have Hl7 := Lib.hid (Hl6.out.below hb7 rfl)
  have Hp7 := Lib.hid (Hp6.out.below hb7 rfl)
  have Hq7 := Lib.hid (Hq6.out.below hb7 rfl)
  clear Hb6 Hl6 Hp6 Hq6 hb7
  go_wp2_with fail
  refine (implied_arg_any (HT.out.below Hb7.out) Hp7.out).mono ?_
  rintro e x8 ⟨rfl, hb8⟩
  have Hb8 := Lib.hid (Hb7.out.trans (hb8.mono Hb7.out.size))
  have Hl8 := Lib.hid (Hl7.out.below hb8 rfl)
  have Hp8 := Lib.hid (Hp7.out.below hb8 rfl)
  have Hq8 := Lib.hid (Hq7.out.below hb8 rfl)
  clear Hb7 Hl7 Hp7 Hq7 hb8
  go_wp2_with fail
  refine (bridge_zero_any (HT.out.below Hb8.out) Hl8.out).mono ?_
  rintro e x9 ⟨⟨A1, cap1, rfl⟩, hb9⟩
  have Hb9 := Lib.hid (Hb8.out.trans (hb9.mono Hb8.out.size))
  have Hl9 := Lib.hid (Hl8.out.below hb9 rfl)
  have Hp9 := Lib.hid (Hp8.out.below hb9 rfl)
  have Hq9 := Lib.hid (Hq8.out.below hb9 rfl)
  clear Hb8 Hl8 Hp8 Hq8 hb9
  go_wp2_with fail
  refine (audit_abc_any (HT.out.below Hb9.out) Hl9.out).mono ?_
  rintro e x10 ⟨⟨A2, cap2, rfl, ho⟩, hb10⟩
  have Hr10 := Lib.hid ho
  clear ho
  have Hb10 := Lib.hid (Hb9.out.trans (hb10.mono Hb9.out.size))
  have Hl10 := Lib.hid (Hl9.out.below hb10 rfl)
  have Hp10 := Lib.hid (Hp9.out.below hb10 rfl)
  have Hq10 := Lib.hid (Hq9.out.below hb10 rfl)
  clear Hb9 Hl9 Hp9 Hq9 hb10
  go_wp2_with fail
  refine (up_abc_any (HT.out.below Hb10.out) Hr10.out).mono ?_
  rintro e x11 ⟨rfl, hb11⟩
  have Hb11 := Lib.hid (Hb10.out.trans (hb11.mono Hb10.out.size))
  have Hl11 := Lib.hid (Hl10.out.below hb11 rfl)
  have Hp11 := Lib.hid (Hp10.out.below hb11 rfl)
  have Hq11 := Lib.hid (Hq10.out.below hb11 rfl)
  have Hr11 := Lib.hid (Hr10.out.below hb11 rfl)
  clear Hb10 Hl10 Hp10 Hq10 Hr10 hb11
  go_wp2_with fail
  refine (up_three_any (HT.out.below Hb11.out) Hr11.out).mono ?_
  rintro e x12 ⟨rfl, hb12⟩
  have Hb12 := Lib.hid (Hb11.out.trans (hb12.mono Hb11.out.size))
  have Hl12 := Lib.hid (Hl11.out.below hb12 rfl)
  have Hp12 := Lib.hid (Hp11.out.below hb12 rfl)
  have Hq12 := Lib.hid (Hq11.out.below hb12 rfl)
  have Hr12 := Lib.hid (Hr11.out.below hb12 rfl)
  clear Hb11 Hl11 Hp11 Hq11 Hr11 hb12
  go_wp2_with fail
  refine (audit_three_any (HT.out.below Hb12.out) Hl12.out).mono ?_
  rintro e x13 ⟨⟨A3, cap3, rfl⟩, hb13⟩
  have Hb13 := Lib.hid (Hb12.out.trans (hb13.mono Hb12.out.size))
  have Hl13 := Lib.hid (Hl12.out.below hb13 rfl)
  have Hp13 := Lib.hid (Hp12.out.below hb13 rfl)
  have Hq13 := Lib.hid (Hq12.out.below hb13 rfl)
  have Hr13 := Lib.hid (Hr12.out.below hb13 rfl)
  clear Hb12 Hl12 Hp12 Hq12 Hr12 hb13
  go_wp2_with fail
  refine (clash_abc_any (HT.out.below Hb13.out) Hl13.out Hp13.out).mono ?_
  rintro e x14 ⟨rfl, hb14⟩
  have Hb14 := Lib.hid (Hb13.out.trans (hb14.mono Hb13.out.size))
  have Hl14 := Lib.hid (Hl13.out.below hb14 rfl)
  have Hp14 := Lib.hid (Hp13.out.below hb14 rfl)
  have Hq14 := Lib.hid (Hq13.out.below hb14 rfl)
  have Hr14 := Lib.hid (Hr13.out.below hb14 rfl)
  clear Hb13 Hl13 Hp13 Hq13 Hr13 hb14
  go_wp2_with fail
  have hsp := (SOwn.made (w := x14) (base := 0) [nC, nC] (Nat.zero_le _) (by simp [maxLen])).read (by simp [maxLen])
  obtain ⟨sv, hsv⟩ : ∃ sv, Value.slice (some ⟨x14.heap.size, 0, none⟩) 2 2 = sv := ⟨_, rfl⟩
  have Hn : Hid (SRead (x14.alloc (.cells #[.string nC, .string nC] 9)) sv [nC, nC]) := Lib.hid (by rw [← hsv]; exact hsp)
  rw [hsv]
  clear hsp hsv
  have hb15 := alloc_below' x14 (.cells #[.string nC, .string nC] 9)
  generalize x14.alloc (.cells #[.string nC, .string nC] 9) = x15 at *
  have Hb15 := Lib.hid (Hb14.out.trans (hb15.mono Hb14.out.size))
  have Hl15 := Lib.hid (Hl14.out.below hb15 rfl)
  have Hp15 := Lib.hid (Hp14.out.below hb15 rfl)
  have Hq15 := Lib.hid (Hq14.out.below hb15 rfl)
  have Hr15 := Lib.hid (Hr14.out.below hb15 rfl)
  clear Hb14 Hl14 Hp14 Hq14 Hr14 hb15
  have Hs15 := Hn; clear Hn
  refine (clash_cc_any (HT.out.below Hb15.out) Hl15.out Hs15.out).mono ?_
  rintro e x16 ⟨rfl, hb16⟩
  have Hb16 := Lib.hid (Hb15.out.trans (hb16.mono Hb15.out.size))
  have Hl16 := Lib.hid (Hl15.out.below hb16 rfl)
  have Hp16 := Lib.hid (Hp15.out.below hb16 rfl)
  have Hq16 := Lib.hid (Hq15.out.below hb16 rfl)
  have Hr16 := Lib.hid (Hr15.out.below hb16 rfl)
  have Hs16 := Lib.hid (Hs15.out.below hb16 rfl)
  clear Hb15 Hl15 Hp15 Hq15 Hr15 Hs15 hb16
  go_wp2_with fail
  have hsp := (SOwn.made (w := x16) (base := 0) [nA, nC] (Nat.zero_le _) (by simp [maxLen])).read (by simp [maxLen])
  obtain ⟨tv, htv⟩ : ∃ sv, Value.slice (some ⟨x16.heap.size, 0, none⟩) 2 2 = sv := ⟨_, rfl⟩
  have Hn : Hid (SRead (x16.alloc (.cells #[.string nA, .string nC] 9)) tv [nA, nC]) := Lib.hid (by rw [← htv]; exact hsp)
  rw [htv]
  clear hsp htv
  have hb17 := alloc_below' x16 (.cells #[.string nA, .string nC] 9)
  generalize x16.alloc (.cells #[.string nA, .string nC] 9) = x17 at *
  have Hb17 := Lib.hid (Hb16.out.trans (hb17.mono Hb16.out.size))
  have Hl17 := Lib.hid (Hl16.out.below hb17 rfl)
  have Hp17 := Lib.hid (Hp16.out.below hb17 rfl)
  have Hq17 := Lib.hid (Hq16.out.below hb17 rfl)
  have Hr17 := Lib.hid (Hr16.out.below hb17 rfl)
  have Hs17 := Lib.hid (Hs16.out.below hb17 rfl)
  clear Hb16 Hl16 Hp16 Hq16 Hr16 Hs16 hb17
  have Ht17 := Hn; clear Hn
  refine (same_any Hp17.out Ht17.out).mono ?_
  rintro e x18 ⟨rfl, k17, hk⟩
  rw [decide_eq_true rfl]
  have hb18 : Below x17.heap.size x17 x18 := by rw [hk]; exact below_drewN' (Below.refl _ _) _
  clear hk
  have Hb18 := Lib.hid (Hb17.out.trans (hb18.mono Hb17.out.size))
  have Hl18 := Lib.hid (Hl17.out.below hb18 rfl)
  have Hp18 := Lib.hid (Hp17.out.below hb18 rfl)
  have Hq18 := Lib.hid (Hq17.out.below hb18 rfl)
  have Hr18 := Lib.hid (Hr17.out.below hb18 rfl)
  have Hs18 := Lib.hid (Hs17.out.below hb18 rfl)
  have Ht18 := Lib.hid (Ht17.out.below hb18 rfl)
  clear Hb17 Hl17 Hp17 Hq17 Hr17 Hs17 Ht17 hb18
  go_wp2_with fail
  refine (node_any (HT.out.below Hb18.out) _ _ (by rw [nA_size]; decide) (by rw [nC_size]; decide)).mono ?_
  rintro e x19 ⟨rfl, hb19⟩
  rw [show nodeB nA nC = wantB from rfl]
  have Hb19 := Lib.hid (Hb18.out.trans (hb19.mono Hb18.out.size))
  have Hl19 := Lib.hid (Hl18.out.below hb19 rfl)
  have Hp19 := Lib.hid (Hp18.out.below hb19 rfl)
  have Hq19 := Lib.hid (Hq18.out.below hb19 rfl)
  have Hr19 := Lib.hid (Hr18.out.below hb19 rfl)
  have Hs19 := Lib.hid (Hs18.out.below hb19 rfl)
  have Ht19 := Lib.hid (Ht18.out.below hb19 rfl)
  clear Hb18 Hl18 Hp18 Hq18 Hr18 Hs18 Ht18 hb19
  go_wp2_with fail
  have hsp := (SOwn.made (w := x19) (base := 0) [nA] (Nat.zero_le _) (by simp [maxLen])).read (by simp [maxLen])
  obtain ⟨uv, huv⟩ : ∃ sv, Value.slice (some ⟨x19.heap.size, 0, none⟩) 1 1 = sv := ⟨_, rfl⟩
  have Hn : Hid (SRead (x19.alloc (.cells #[.string nA] 9)) uv [nA]) := Lib.hid (by rw [← huv]; exact hsp)
  rw [huv]
  clear hsp huv
  have hb20 := alloc_below' x19 (.cells #[.string nA] 9)
  generalize x19.alloc (.cells #[.string nA] 9) = x20 at *
  have Hb20 := Lib.hid (Hb19.out.trans (hb20.mono Hb19.out.size))
  have Hl20 := Lib.hid (Hl19.out.below hb20 rfl)
  have Hp20 := Lib.hid (Hp19.out.below hb20 rfl)
  have Hq20 := Lib.hid (Hq19.out.below hb20 rfl)
  have Hr20 := Lib.hid (Hr19.out.below hb20 rfl)
  have Hs20 := Lib.hid (Hs19.out.below hb20 rfl)
  have Ht20 := Lib.hid (Ht19.out.below hb20 rfl)
  clear Hb19 Hl19 Hp19 Hq19 Hr19 Hs19 Ht19 hb20
  have Hu20 := Hn; clear Hn
  refine (same_any Hr20.out Hu20.out).mono ?_
  rintro e x21 ⟨rfl, k20, hk⟩
  rw [decide_eq_true rfl]
  have hb21 : Below x20.heap.size x20 x21 := by rw [hk]; exact below_drewN' (Below.refl _ _) _
  clear hk
  have Hb21 := Lib.hid (Hb20.out.trans (hb21.mono Hb20.out.size))
  have Hl21 := Lib.hid (Hl20.out.below hb21 rfl)
  have Hp21 := Lib.hid (Hp20.out.below hb21 rfl)
  have Hq21 := Lib.hid (Hq20.out.below hb21 rfl)
  have Hr21 := Lib.hid (Hr20.out.below hb21 rfl)
  have Hs21 := Lib.hid (Hs20.out.below hb21 rfl)
  have Ht21 := Lib.hid (Ht20.out.below hb21 rfl)
  have Hu21 := Lib.hid (Hu20.out.below hb21 rfl)
  clear Hb20 Hl20 Hp20 Hq20 Hr20 Hs20 Ht20 Hu20 hb21
  go_wp2_with fail
  refine (steps23_any _).mono ?_
  rintro e x22 ⟨rfl, hb22⟩
  have Hb22 := Lib.hid (Hb21.out.trans (hb22.mono Hb21.out.size))
  have Hl22 := Lib.hid (Hl21.out.below hb22 rfl)
  have Hp22 := Lib.hid (Hp21.out.below hb22 rfl)
  have Hq22 := Lib.hid (Hq21.out.below hb22 rfl)
  have Hr22 := Lib.hid (Hr21.out.below hb22 rfl)
  have Hs22 := Lib.hid (Hs21.out.below hb22 rfl)
  have Ht22 := Lib.hid (Ht21.out.below hb22 rfl)
  have Hu22 := Lib.hid (Hu21.out.below hb22 rfl)
  clear Hb21 Hl21 Hp21 Hq21 Hr21 Hs21 Ht21 Hu21 hb22
  go_wp2_with fail
  refine (steps33_any _).mono ?_
  rintro e x23 ⟨rfl, hb23⟩
  have Hb23 := Lib.hid (Hb22.out.trans (hb23.mono Hb22.out.size))
  have Hl23 := Lib.hid (Hl22.out.below hb23 rfl)
  have Hp23 := Lib.hid (Hp22.out.below hb23 rfl)
  have Hq23 := Lib.hid (Hq22.out.below hb23 rfl)
  have Hr23 := Lib.hid (Hr22.out.below hb23 rfl)
  have Hs23 := Lib.hid (Hs22.out.below hb23 rfl)
  have Ht23 := Lib.hid (Ht22.out.below hb23 rfl)
  have Hu23 := Lib.hid (Hu22.out.below hb23 rfl)
  clear Hb22 Hl22 Hp22 Hq22 Hr22 Hs22 Ht22 Hu22 hb23
  go_wp2_with fail
  refine (steps03_any _).mono ?_
  rintro e x24 ⟨rfl, hb24⟩
  have Hb24 := Lib.hid (Hb23.out.trans (hb24.mono Hb23.out.size))
  have Hl24 := Lib.hid (Hl23.out.below hb24 rfl)
  have Hp24 := Lib.hid (Hp23.out.below hb24 rfl)
  have Hq24 := Lib.hid (Hq23.out.below hb24 rfl)
  have Hr24 := Lib.hid (Hr23.out.below hb24 rfl)
  have Hs24 := Lib.hid (Hs23.out.below hb24 rfl)
  have Ht24 := Lib.hid (Ht23.out.below hb24 rfl)
  have Hu24 := Lib.hid (Hu23.out.below hb24 rfl)
  clear Hb23 Hl23 Hp23 Hq23 Hr23 Hs23 Ht23 Hu23 hb24
  go_wp2
  go_ret
  exact ⟨rfl, Hb24.out⟩
end Go.Proofs.YtkdajlhmodmkoaaDoor
