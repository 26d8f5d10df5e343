/-
  Layer 8 (tree), the document's: Push walked.
-/
import Derived.Test.YtkdajlhmodmkoaaDoorTP
import Derived.Test.YtkdajlhmodmkoaaDoorShaO2
namespace Go.Proofs.YtkdajlhmodmkoaaDoor
open Go.RowKit TreeM
set_option linter.unusedVariables false
set_option linter.unusedSimpArgs false

theorem step_append_o {P : Program} {w : World} {ops : Array Oper} {o : Oper} {a : Act} {K : Act → World → Prop} {Q : Exit → Act → World → Prop} {E : Prop} (hgd : o.guard = none) (s x : Operand) (t tx : TypeId)
    (ho : o.op = .call { callee := .builtin .append, args := #[s, x], argTypes := #[t, tx] })
    (base : Nat) (e : TypeId) (i : TypeInfo) (z : Value) (size bytes : Nat) (ht : P.underlying t = some (.slice e)) (hi : P.info? e = some i) (hz : i.zero = some z)
    (hsize : i.size = size) (hby : i.bytes = bytes) (hzs : z.cells.size = size)
    (v : Value) (n : Nat) (xs : List Value) (hv : a.eval s = v) (h : w.ownsRow base e size v n xs)
    (xv : Value) (m : Nat) (news : List Value) (hx : a.eval x = xv) (hs : Src P size tx xv m news w)
    (h63 : n + m ≤ maxLen) (hbytes : (n + m) * bytes ≤ 140737488355328) (hbase : base ≤ w.heap.size)
    (hK : ∀ v' w', w'.ownsRow base e size v' (n + m) (xs ++ news) → w.grownBy w' v.ownBlock → (v'.ownBlock = v.ownBlock ∨ v'.ownBlock = some w.heap.size) → K (a.put o.dst v') w') :
    if Region.wanted o (yielded ops a.tmps) = true then Oper.wp P o a w K Q else E := by
  have hw : Region.wanted o (yielded ops a.tmps) = true := by simp [Region.wanted, hgd]
  rw [if_pos hw]
  obtain ⟨v', w', hrun, r1, r2, r3⟩ := run_append_o (P := P) t tx o.type e i z bytes ht hi hz hsize hby hzs h xv m news hs h63 hbytes hbase
  unfold Oper.wp
  simp [execOp, ho, resolve, invoke, builtin, hv, hx, hrun, Result.andThen]
  exact hK v' w' r1 r2 r3
theorem SOwn.cell {base : Nat} {w : World} {g len cap : Nat} {L : List ByteArray} (h : SOwn base w (.slice (some ⟨g, 0, none⟩) len cap) L) (hm : L.length ≤ maxLen) (i : Nat) (hi : i < L.length) : w.cell? ⟨g, i, none⟩ = some (.string L[i]) := by
  obtain ⟨A, c, he, -, hc⟩ := h.read hm
  obtain ⟨b, o, hA, -, hx⟩ := hc i hi
  injection he with e1 e2 e3
  rw [← e1] at hA
  injection hA with hA; injection hA with e4 e5 _
  subst e4 e5
  rwa [Nat.zero_add] at hx
/-- A row of the call's own that is not empty. -/
theorem SOwn.form {base : Nat} {w : World} {v : Value} {L : List ByteArray} (h : SOwn base w v L) (hn : 1 ≤ L.length) : ∃ g cap, v = .slice (some ⟨g, 0, none⟩) L.length cap ∧ L.length ≤ cap ∧ base ≤ g := by
  rcases h.2 with ⟨_, h0⟩ | ⟨g, cap, cur, rfl, hg, hh, hn, _⟩
  · omega
  · exact ⟨g, cap, rfl, hn, hg⟩
set_option maxRecDepth 100000 in
set_option maxHeartbeats 2000000 in
theorem rpush_no {w : World} (n : Nat) (hn : n < 18446744073709551616) {u : Value} {L : List ByteArray} (h : SRead w u L) (d : ByteArray) (hr : rightB n L = false) :
    Calls Tryd.prog 45 #[.agg #[.int .u64 (n : Int), u], .string d] w (PushPost w.heap.size w n L d) := by
  have hw1 := alloc_below' w (.cells #[.int .u64 (n : Int), u] 51)
  have hw2 := hw1.trans ((alloc_below' (w.alloc (.cells #[.int .u64 (n : Int), u] 51)) (.cells Z50 51)).mono hw1.size)
  have h2 := h.below hw2 rfl
  have hright := rright_any n hn h2
  rw [hr] at hright
  have hok : pushOk n L = false := by unfold pushOk; rw [hr]; rfl
  have e1 : pushN n L = 0 := by unfold pushN; rw [hok]; rfl
  have e2 : pushE n L = 1 := by unfold pushE; rw [hr]; rfl
  have e3 : pushL n L d = [] := by unfold pushL; rw [hok]; rfl
  unfold PushPost
  rw [e1, e2, e3]
  obtain ⟨A, cap, rfl, -, -⟩ := h
  have hB : Blk ((w.alloc (.cells #[.int .u64 (n : Int), .slice A L.length cap] 51)).alloc (.cells Z50 51)) (w.heap.size + 1) 51 Z50 := by
    have := Blk.new (w.alloc (.cells #[.int .u64 (n : Int), .slice A L.length cap] 51)) 51 Z50
    rwa [World.size_alloc] at this
  go_enter Tryd.func45, Tryd.ntmps45
  go_wp2_with fail
  refine hright.mono ?_
  rintro e w3 ⟨rfl, hb3⟩
  have hB3 : Blk w3 (w.heap.size + 1) 51 Z50 := (hb3.block _ hB.lt).trans hB
  have z0 := hB3.cell 0; have z1 := hB3.cell 1; have f0 := hB3.frozen 0; have f1 := hB3.frozen 1
  simp only [List.getElem?_toArray, List.getElem?_cons_succ, List.getElem?_cons_zero] at z0 z1
  have hb4 : Below w.heap.size w ((w3.setCell ⟨w.heap.size + 1, 0, none⟩ (.int .u64 0)).setCell ⟨w.heap.size + 1, 1, none⟩ (.slice none 0 0)) :=
    ((hw2.trans (hb3.mono hw2.size)).setCell (p := ⟨w.heap.size + 1, 0, none⟩) (by simp) _).setCell (p := ⟨w.heap.size + 1, 1, none⟩) (by simp) _
  have hB4 := Lib.hid (blk_two hB3 (.int .u64 0) (.slice none 0 0))
  have Hb4 := Lib.hid hb4
  clear hb4 hB3 hb3 hright hB h2 hw2 hw1
  go_wp2
  exact bodyPost_ret (v := .tuple #[.agg #[.int .u64 0, .slice none 0 0], .int .i64 1]) (results_row_tmp Tryd.results45 _ _ (w.heap.size + 1) 51 _ (0, 0) _ rfl hB4.out Tryd.underlying51 rfl info51) rfl ⟨⟨_, rfl, SOwn.nil _ _⟩, Hb4.out⟩
set_option maxRecDepth 100000 in
set_option maxHeartbeats 2000000 in
theorem rpush_full {w : World} {u : Value} {L : List ByteArray} (h : SRead w u L) (d : ByteArray) (hr : rightB 1099511627776 L = true) :
    Calls Tryd.prog 45 #[.agg #[.int .u64 1099511627776, u], .string d] w (PushPost w.heap.size w 1099511627776 L d) := by
  have hw1 := alloc_below' w (.cells #[.int .u64 1099511627776, u] 51)
  have hw2 := hw1.trans ((alloc_below' (w.alloc (.cells #[.int .u64 1099511627776, u] 51)) (.cells Z50 51)).mono hw1.size)
  have h2 := h.below hw2 rfl
  have hright := rright_any 1099511627776 (by decide) h2
  rw [hr] at hright
  have hok : pushOk 1099511627776 L = false := by unfold pushOk; rw [hr]; rfl
  have e1 : pushN 1099511627776 L = 0 := by unfold pushN; rw [hok]; rfl
  have e2 : pushE 1099511627776 L = 8 := by unfold pushE; rw [hr]; rfl
  have e3 : pushL 1099511627776 L d = [] := by unfold pushL; rw [hok]; rfl
  unfold PushPost
  rw [e1, e2, e3]
  obtain ⟨A, cap, rfl, -, -⟩ := h
  have hA : Blk ((w.alloc (.cells #[.int .u64 1099511627776, .slice A L.length cap] 51)).alloc (.cells Z50 51)) w.heap.size 51 #[.int .u64 1099511627776, .slice A L.length cap] := (Blk.new _ _ _).alloc _
  have hB : Blk ((w.alloc (.cells #[.int .u64 1099511627776, .slice A L.length cap] 51)).alloc (.cells Z50 51)) (w.heap.size + 1) 51 Z50 := by
    have := Blk.new (w.alloc (.cells #[.int .u64 1099511627776, .slice A L.length cap] 51)) 51 Z50
    rwa [World.size_alloc] at this
  have hright' : Calls Tryd.prog 49 #[.agg #[.int .u64 1099511627776, .slice A L.length cap]] ((w.alloc (.cells #[.int .u64 1099511627776, .slice A L.length cap] 51)).alloc (.cells Z50 51)) fun e w' => e = .returned (.bool true) ∧ Below ((w.alloc (.cells #[.int .u64 1099511627776, .slice A L.length cap] 51)).alloc (.cells Z50 51)).heap.size ((w.alloc (.cells #[.int .u64 1099511627776, .slice A L.length cap] 51)).alloc (.cells Z50 51)) w' := hright
  clear hright
  go_enter Tryd.func45, Tryd.ntmps45
  go_wp2_with fail
  refine hright'.mono ?_
  rintro e w3 ⟨rfl, hb3⟩
  have hB3 : Blk w3 (w.heap.size + 1) 51 Z50 := (hb3.block _ hB.lt).trans hB
  have hA3 : Blk w3 w.heap.size 51 #[.int .u64 1099511627776, .slice A L.length cap] := (hb3.block _ hA.lt).trans hA
  have c0 := hA3.cell 0
  have z0 := hB3.cell 0; have z1 := hB3.cell 1; have f0 := hB3.frozen 0; have f1 := hB3.frozen 1
  simp only [List.getElem?_toArray, List.getElem?_cons_succ, List.getElem?_cons_zero] at z0 z1 c0
  have hb4 : Below w.heap.size w ((w3.setCell ⟨w.heap.size + 1, 0, none⟩ (.int .u64 0)).setCell ⟨w.heap.size + 1, 1, none⟩ (.slice none 0 0)) :=
    ((hw2.trans (hb3.mono hw2.size)).setCell (p := ⟨w.heap.size + 1, 0, none⟩) (by simp) _).setCell (p := ⟨w.heap.size + 1, 1, none⟩) (by simp) _
  have hB4 := Lib.hid (blk_two hB3 (.int .u64 0) (.slice none 0 0))
  have Hb4 := Lib.hid hb4
  clear hb4 hB3 hb3 hright' hB h2 hw2 hw1 hA hA3
  go_wp2
  exact bodyPost_ret (v := .tuple #[.agg #[.int .u64 0, .slice none 0 0], .int .i64 8]) (results_row_tmp Tryd.results45 _ _ (w.heap.size + 1) 51 _ (0, 0) _ rfl hB4.out Tryd.underlying51 rfl info51) rfl ⟨⟨_, rfl, SOwn.nil _ _⟩, Hb4.out⟩
set_option maxRecDepth 100000 in
set_option maxHeartbeats 8000000 in
theorem rpush_yes {w : World} (n : Nat) (hn : n < 1099511627776) {u : Value} {L : List ByteArray} (h : SRead w u L) (d : ByteArray) (hd : d.size ≤ 80000000) (hr : rightB n L = true) :
    Calls Tryd.prog 45 #[.agg #[.int .u64 (n : Int), u], .string d] w fun e w' => (∃ u', e = .returned (.tuple #[.agg #[.int .u64 ((n : Int) + 1), u'], .int .i64 0]) ∧ SOwn w.heap.size w' u' (merge (trail n) L (leafB d))) ∧ Below w.heap.size w w' := by
  obtain ⟨hwd, hones, -⟩ := right_wide hr
  have hw1 := alloc_below' w (.cells #[.int .u64 (n : Int), u] 51)
  have hw2 := hw1.trans ((alloc_below' (w.alloc (.cells #[.int .u64 (n : Int), u] 51)) (.cells Z50 51)).mono hw1.size)
  have h2 := h.below hw2 rfl
  have hright := rright_any n (by omega) h2
  rw [hr] at hright
  have ho64 := ones_le 64 n (by omega)
  have htl := trail_ones n
  obtain ⟨A, cap, rfl, hmx, -⟩ := id h
  have hA : Blk ((w.alloc (.cells #[.int .u64 (n : Int), .slice A L.length cap] 51)).alloc (.cells Z50 51)) w.heap.size 51 #[.int .u64 (n : Int), .slice A L.length cap] := (Blk.new _ _ _).alloc _
  have hB : Blk ((w.alloc (.cells #[.int .u64 (n : Int), .slice A L.length cap] 51)).alloc (.cells Z50 51)) (w.heap.size + 1) 51 Z50 := by
    have := Blk.new (w.alloc (.cells #[.int .u64 (n : Int), .slice A L.length cap] 51)) 51 Z50
    rwa [World.size_alloc] at this
  have Hw2 := Lib.hid hw2; have Hh := Lib.hid h; have Hwd := Lib.hid hwd; have Hright := Lib.hid hright
  obtain ⟨M, hM⟩ : ∃ M, merge (trail n) L (leafB d) = M := ⟨_, rfl⟩
  rw [hM]
  have HM0 := Lib.hid hM
  have hll : L.length ≤ 64 := by omega
  have htL : trail n ≤ L.length := by omega
  have HtL := Lib.hid htL
  have hnf : ((n : Int) == 1099511627776) = false := by rw [beq_eq_false_iff_ne]; omega
  have e5 : IntKind.u64.wrap ((n : Int) + 1) = (n : Int) + 1 := by show ((n : Int) + 1) % 18446744073709551616 = _; omega
  obtain ⟨i9, hj, hy0, hy1, hy2⟩ := info_parts winfo9
  clear hw1 hw2 h2 hright h hwd hM htl ho64 hones hr htL
  go_enter Tryd.func45, Tryd.ntmps45
  go_wp2_with fail
  refine Hright.out.mono ?_
  rintro e wa ⟨rfl, hb3⟩
  have hA3 : Blk wa w.heap.size 51 #[.int .u64 (n : Int), .slice A L.length cap] := (hb3.block _ hA.lt).trans hA
  have hB3 : Blk wa (w.heap.size + 1) 51 Z50 := (hb3.block _ hB.lt).trans hB
  have hW3 := Hw2.out.trans (hb3.mono Hw2.out.size)
  have c0 := hA3.cell 0; have c1 := hA3.cell 1
  simp only [List.getElem?_toArray, List.getElem?_cons_succ, List.getElem?_cons_zero] at c0 c1
  have HW3 := Lib.hid hW3; have HA3 := Lib.hid hA3; have HB3 := Lib.hid hB3
  clear hb3 hA hB hW3 Hright Hw2 hA3 hB3
  go_upto_region 5 with fail
  clear c0 c1
  refine wp_region_T (n := 7) (S := fun wq => Blk wq w.heap.size 51 #[.int .u64 (n : Int), .slice A L.length cap] ∧ Blk wq (w.heap.size + 1) 51 Z50 ∧ Below w.heap.size w wq) (by kernel_rfl) (by kernel_rfl) ⟨HA3.out.drewN 1, HB3.out.drewN 1, below_drewN' HW3.out 1⟩ (fun hHeld => ?_)
  refine WalkT.take (i := 1) (oi := _) (v := ?va1) rfl (by decide) (by kernel_rfl) (by kernel_rfl) (fun _ _ _ h => h) (Or.inl ⟨by kernel_rfl, ?hya1⟩) (by assumption) ?ra1
  case hya1 => (intro wq hSw; go_simp; try (with_reducible rfl))
  try simp only [Act.put, List.setIfInBounds_toArray, List.set_cons_zero, List.set_cons_succ]
  refine WalkT.take (i := 2) (oi := _) (v := ?va2) rfl (by decide) (by kernel_rfl) (by kernel_rfl) (fun _ _ _ h => h) (Or.inl ⟨by kernel_rfl, ?hya2⟩) (by assumption) ?ra2
  case hya2 => (intro wq hSw; have q9 := Blk.cell hSw.1 0; have q8 := Blk.cell hSw.1 1; simp only [List.getElem?_toArray, List.getElem?_cons_succ, List.getElem?_cons_zero] at q9 q8; go_simp; try (with_reducible rfl))
  try simp only [Act.put, List.setIfInBounds_toArray, List.set_cons_zero, List.set_cons_succ]
  refine WalkT.take (i := 4) (oi := _) (v := ?va3) rfl (by decide) (by kernel_rfl) (by kernel_rfl) (fun _ _ _ h => h) (Or.inl ⟨by kernel_rfl, ?hya3⟩) (by assumption) ?ra3
  case hya3 => (intro wq hSw; go_simp; try (with_reducible rfl))
  try simp only [Act.put, List.setIfInBounds_toArray, List.set_cons_zero, List.set_cons_succ]
  refine WalkT.take (i := 5) (oi := _) (v := ?va4) rfl (by decide) (by kernel_rfl) (by kernel_rfl) (fun _ _ _ h => h) (Or.inl ⟨by kernel_rfl, ?hya4⟩) (by assumption) ?ra4
  case hya4 => (intro wq hSw; have q9 := Blk.cell hSw.1 0; have q8 := Blk.cell hSw.1 1; simp only [List.getElem?_toArray, List.getElem?_cons_succ, List.getElem?_cons_zero] at q9 q8; go_simp; try (with_reducible rfl))
  try simp only [Act.put, List.setIfInBounds_toArray, List.set_cons_zero, List.set_cons_succ]
  refine WalkT.one (i := 0) (o := ?oa5) (by kernel_rfl) (by decide) ?hoa5 ?hka5
  case hoa5 => (simp only [List.getElem?_toArray, List.getElem?_cons_succ, List.getElem?_cons_zero]; exact rfl)
  intro K hK
  go_simp
  refine hK.out _ _ ⟨hHeld.1.alloc _, hHeld.2.1.alloc _, hHeld.2.2.alloc (Below.size hHeld.2.2) _⟩ (fun hHeld => ?_)
  clear hK K
  try simp only [Act.put, List.setIfInBounds_toArray, List.set_cons_zero, List.set_cons_succ]
  refine WalkT.one (i := 3) (o := ?oa6) (by kernel_rfl) (by decide) ?hoa6 ?hka6
  case hoa6 => (simp only [List.getElem?_toArray, List.getElem?_cons_succ, List.getElem?_cons_zero]; exact rfl)
  intro K hK
  have hown : (wa.drew.alloc (.cells #[] 9)).ownsRow w.heap.size 9 1 (.slice (some ⟨wa.drew.heap.size, 0, none⟩) 0 0) 0 [] := SOwn.new HW3.out.size
  have hsrc : Src Tryd.prog 1 25 (.slice A L.length cap) L.length (svals L) (wa.drew.alloc (.cells #[] 9)) := (Hh.out.below hHeld.2.2 rfl).src
  refine step_append_o rfl _ _ 25 25 rfl w.heap.size 9 i9 _ 1 16 Tryd.underlying25 hj hy0 hy1 hy2 rfl _ _ _ rfl hown _ L.length (svals L) rfl hsrc (by unfold maxLen; omega) (by omega) (by simp; have := HW3.out.size; omega) ?_
  intro v4 w4 ho4 hg4 hv4
  have hA4 : Blk w4 w.heap.size 51 #[.int .u64 (n : Int), .slice A L.length cap] := hHeld.1.grown hg4 (by intro e; have e2 : w.heap.size = wa.heap.size := Option.some.inj e; have := HA3.out.lt; omega)
  have hB4 : Blk w4 (w.heap.size + 1) 51 Z50 := hHeld.2.1.grown hg4 (by intro e; have e2 : w.heap.size + 1 = wa.heap.size := Option.some.inj e; have := HB3.out.lt; omega)
  have hb4 : Below w.heap.size w w4 := hHeld.2.2.grown hg4 (Below.size hHeld.2.2) (by intro k hk; have e2 : wa.heap.size = k := Option.some.inj hk; have := HW3.out.size; omega)
  have ho4 : SOwn w.heap.size w4 v4 L := by unfold SOwn; simpa using ho4
  obtain ⟨A4, c4, hve, -, -⟩ := id (ho4.read (by unfold maxLen; omega))
  subst hve
  refine hK.out _ _ ⟨hA4, hB4, hb4⟩ (fun hHeld => ?_)
  clear hK K
  try simp only [Act.put, List.setIfInBounds_toArray, List.set_cons_zero, List.set_cons_succ]
  refine WalkT.take (i := 6) (oi := _) (v := ?va7) rfl (by decide) (by kernel_rfl) (by kernel_rfl) (fun _ _ _ h => h) (Or.inl ⟨by kernel_rfl, ?hya7⟩) (by assumption) ?ra7
  case hya7 => (intro wq hSw; go_simp; try (with_reducible rfl))
  try simp only [Act.put, List.setIfInBounds_toArray, List.set_cons_zero, List.set_cons_succ]
  refine WalkT.tail (by kernel_rfl) ?_
  simp only [List.drop_succ_cons, List.drop_zero]
  have HA4 := Lib.hid hA4; have HB4 := Lib.hid hB4; have HW4 := Lib.hid hb4; have Ho4 := Lib.hid ho4
  clear hHeld hA4 hB4 hb4 ho4 hg4 hv4 hown hsrc HW3 HA3 HB3
  go_wp2_with fail
  refine (rleafB d (by omega) _).mono ?_
  rintro e w5 ⟨rfl, hb5⟩
  have hA5 : Blk w5 w.heap.size 51 #[.int .u64 (n : Int), .slice A L.length cap] := (hb5.block _ HA4.out.lt).trans HA4.out
  have hB5 : Blk w5 (w.heap.size + 1) 51 Z50 := (hb5.block _ HB4.out.lt).trans HB4.out
  have hW5 := HW4.out.trans (hb5.mono HW4.out.size)
  have ho5 := Ho4.out.below hb5
  have h32 := leafB_size d
  obtain ⟨h0, hh0⟩ : ∃ h0, leafB d = h0 := ⟨_, rfl⟩
  rw [hh0] at HM0 h32 ⊢
  have hown5 := own_alloc' ho5 (.cells #[.string h0] 9)
  have hA6 := hA5.alloc (.cells #[.string h0] 9)
  have hB6 := hB5.alloc (.cells #[.string h0] 9)
  have hW6 := hW5.alloc hW5.size (.cells #[.string h0] 9)
  have hneA := ho5.ne hA5 (by decide)
  have hneB := ho5.ne hB5 (by decide)
  have HA6 := Lib.hid hA6; have HB6 := Lib.hid hB6; have HW6 := Lib.hid hW6; have Hne := Lib.hid (And.intro hneA hneB)
  clear hA5 hB5 hW5 ho5 hA6 hB6 hW6 hneA hneB HA4 HB4 HW4 Ho4 hb5 hh0
  go_wp2_with (at_builtin; refine wpList_appendN rfl _ _ 25 rfl w.heap.size 9 i9 (.string ⟨#[]⟩) 16 Tryd.underlying25 hj hy0 hy1 hy2 rfl _ _ _ rfl hown5 w5.heap.size 1 rfl #[.string h0] _ _ (heap_alloc_new _ _) rfl (by decide) (by intro u hu; simp at hu; rcases hu with rfl; rfl) (by unfold maxLen; omega) (by omega) HW6.out.size ?_)
  intro v6 w6 ho hg hv
  have hA7 : Blk w6 w.heap.size 51 #[.int .u64 (n : Int), .slice A L.length cap] := HA6.out.grown hg Hne.out.1
  have hB7 : Blk w6 (w.heap.size + 1) 51 Z50 := HB6.out.grown hg Hne.out.2
  have hW7 : Below w.heap.size w w6 := HW6.out.grown hg HW6.out.size (fun k hk => (hown5.lt k hk).1)
  have ho7 : SOwn w.heap.size w6 v6 (L ++ [h0]) := by unfold SOwn; rw [svals_append, List.length_append]; exact ho
  have H7 := Lib.hid (And.intro hA7 (And.intro hB7 (And.intro hW7 ho7)))
  clear hA7 hB7 hW7 ho7 ho hg hv hown5 HA6 HB6 HW6 Hne
  go_wp2
  go_loopw [6, 7, 8, 9] (fun v nn _ _ wr => ∃ (q : Nat) (ps : List ByteArray) (h : ByteArray), nn = .int .u64 (q : Int) ∧ q < 1099511627776 ∧ trail q ≤ ps.length ∧ ps.length ≤ 64 ∧ h.size = 32 ∧ (∀ s ∈ ps, s.size = 32) ∧ merge (trail q) ps h = M ∧ Blk wr w.heap.size 51 #[.int .u64 (n : Int), .slice A L.length cap] ∧ Blk wr (w.heap.size + 1) 51 Z50 ∧ Below w.heap.size w wr ∧ SOwn w.heap.size wr v (ps ++ [h])) (fun _ nn _ _ _ => (intOf nn).toNat)
  case atStart => exact ⟨n, L, h0, rfl, hn, HtL.out, hll, h32, Hwd.out, HM0.out, H7.out⟩
  case round =>
    clear HM0 H7 h32
    obtain ⟨q, ps, h, rfl, hqn, hjl, hp64, hs32, hps, hmer, hA2, hB2, hbel, hown⟩ := hrel
    by_cases hodd : q % 2 = 1
    · have htq := trail_odd hodd
      have hne : ps ≠ [] := fun e => by subst e; simp at hjl; omega
      obtain ⟨qs, p, rfl⟩ : ∃ qs p, ps = qs ++ [p] := ⟨ps.dropLast, ps.getLast hne, (List.dropLast_concat_getLast hne).symm⟩
      rw [htq, merge_pop] at hmer
      have hp32 := hps p (by simp)
      have hqs : Hid (∀ s ∈ qs, s.size = 32) := Lib.hid (fun s hs => hps s (List.mem_append_left _ hs))
      have Hmer := Lib.hid hmer
      obtain ⟨g, capg, rfl, hcapg, hgb⟩ := hown.form (by simp)
      obtain ⟨m, hm⟩ : ∃ m, qs.length = m := ⟨_, rfl⟩
      obtain ⟨m1, hm1⟩ : ∃ m1, m + 1 = m1 := ⟨_, rfl⟩
      obtain ⟨NN, hN⟩ : ∃ NN, (qs ++ [p] ++ [h]).length = NN := ⟨_, rfl⟩
      have hN2 : NN = m + 2 := by rw [← hN]; simp; omega
      rw [List.length_append, List.length_singleton, hm] at hjl hp64
      have cp : wr.cell? ⟨g, m, none⟩ = some (.string p) := by
        have := hown.cell (by rw [hN]; unfold maxLen; omega) m (by omega)
        rw [this]; subst hm; simp
      have ch : wr.cell? ⟨g, m1, none⟩ = some (.string h) := by
        have := hown.cell (by rw [hN]; unfold maxLen; omega) m1 (by omega)
        rw [this]; subst hm1; subst hm; simp
      rw [hN] at hcapg hown ⊢
      have r1 : ((q : Int).tmod 2) = 1 := by rw [Int.tmod_eq_emod_of_nonneg (by omega)]; omega
      have e1 : IntKind.i64.wrap ((NN : Int) - 2) = (m : Int) := by rw [show (NN : Int) - 2 = (m : Int) by omega]; exact IntWalk.i64_in _ (by omega)
      have e2 : IntKind.i64.wrap ((m : Int) + 1) = (m1 : Int) := by rw [show (m : Int) + 1 = (m1 : Int) by omega]; exact IntWalk.i64_in _ (by omega)
      obtain ⟨q2, hq2⟩ : ∃ q2, q / 2 = q2 := ⟨_, rfl⟩
      have e3 : ((q : Int).tdiv 2) = (q2 : Int) := by rw [Int.tdiv_eq_ediv_of_nonneg (by omega)]; omega
      have e4 : IntKind.u64.wrap (q2 : Int) = (q2 : Int) := by show (q2 : Int) % 18446744073709551616 = _; omega
      have q0 : (0 : Int) ≤ (m : Int) := by omega
      have q1 : (m : Int) < (NN : Int) := by omega
      have q3 : (0 : Int) ≤ (m1 : Int) := by omega
      have q4 : (m1 : Int) < (NN : Int) := by omega
      have q5 : (m : Int) ≤ (capg : Int) := by omega
      have q6 : m ≤ capg := by omega
      have q7 : (m : Int) ≤ (NN : Int) := by omega
      have q8 : m ≤ NN := by omega
      have q9 : NN ≤ 70 := by omega
      have HN2 := Lib.hid hN2
      have Hbel := Lib.hid hbel; have Hown := Lib.hid hown; have HA2 := Lib.hid hA2; have HB2 := Lib.hid hB2; have Hm := Lib.hid hm; have Hq2 := Lib.hid hq2; have Hjl := Lib.hid (And.intro hjl htq)
      have HN := Lib.hid hN
      clear hbel hown hA2 hB2 hmer hps hne hm hq2 hm1 hN hN2 htq hjl
      go_upto_region 9 with fail
      refine wp_region_T (n := 9) (S := fun wq => Below wr.heap.size wr wq) (by kernel_rfl) (by kernel_rfl) (below_drewN' (Below.refl _ _) 1) (fun hHeld => ?_)
      refine WalkT.take (i := 0) (oi := _) (v := ?vb1) rfl (by decide) (by kernel_rfl) (by kernel_rfl) (fun _ _ _ h => h) (Or.inl ⟨by kernel_rfl, ?hyb1⟩) (by assumption) ?rb1
      case hyb1 => (intro wq hSw; go_simp; try (with_reducible rfl))
      try simp only [Act.put, List.setIfInBounds_toArray, List.set_cons_zero, List.set_cons_succ]
      refine WalkT.take (i := 1) (oi := _) (v := ?vb2) rfl (by decide) (by kernel_rfl) (by kernel_rfl) (fun _ _ _ h => h) (Or.inl ⟨by kernel_rfl, ?hyb2⟩) (by assumption) ?rb2
      case hyb2 => (intro wq hSw; go_simp; try (with_reducible rfl))
      try simp only [Act.put, List.setIfInBounds_toArray, List.set_cons_zero, List.set_cons_succ]
      refine WalkT.take (i := 2) (oi := _) (v := ?vb3) rfl (by decide) (by kernel_rfl) (by kernel_rfl) (fun _ _ _ h => h) (Or.inl ⟨by kernel_rfl, ?hyb3⟩) (by assumption) ?rb3
      case hyb3 => (intro wq hSw; go_simp; try (with_reducible rfl))
      try simp only [Act.put, List.setIfInBounds_toArray, List.set_cons_zero, List.set_cons_succ]
      refine WalkT.take (i := 3) (oi := _) (v := ?vb4) rfl (by decide) (by kernel_rfl) (by kernel_rfl) (fun _ _ _ h => h) (Or.inl ⟨by kernel_rfl, ?hyb4⟩) (by assumption) ?rb4
      case hyb4 => (intro wq hSw; have q9 := cell_belowB hSw rfl cp; go_simp; try (with_reducible rfl))
      try simp only [Act.put, List.setIfInBounds_toArray, List.set_cons_zero, List.set_cons_succ]
      refine WalkT.take (i := 4) (oi := _) (v := ?vb5) rfl (by decide) (by kernel_rfl) (by kernel_rfl) (fun _ _ _ h => h) (Or.inl ⟨by kernel_rfl, ?hyb5⟩) (by assumption) ?rb5
      case hyb5 => (intro wq hSw; go_simp; try (with_reducible rfl))
      try simp only [Act.put, List.setIfInBounds_toArray, List.set_cons_zero, List.set_cons_succ]
      refine WalkT.take (i := 5) (oi := _) (v := ?vb6) rfl (by decide) (by kernel_rfl) (by kernel_rfl) (fun _ _ _ h => h) (Or.inl ⟨by kernel_rfl, ?hyb6⟩) (by assumption) ?rb6
      case hyb6 => (intro wq hSw; go_simp; try (with_reducible rfl))
      try simp only [Act.put, List.setIfInBounds_toArray, List.set_cons_zero, List.set_cons_succ]
      refine WalkT.take (i := 6) (oi := _) (v := ?vb7) rfl (by decide) (by kernel_rfl) (by kernel_rfl) (fun _ _ _ h => h) (Or.inl ⟨by kernel_rfl, ?hyb7⟩) (by assumption) ?rb7
      case hyb7 => (intro wq hSw; go_simp; try (with_reducible rfl))
      try simp only [Act.put, List.setIfInBounds_toArray, List.set_cons_zero, List.set_cons_succ]
      refine WalkT.take (i := 7) (oi := _) (v := ?vb8) rfl (by decide) (by kernel_rfl) (by kernel_rfl) (fun _ _ _ h => h) (Or.inl ⟨by kernel_rfl, ?hyb8⟩) (by assumption) ?rb8
      case hyb8 => (intro wq hSw; go_simp; try (with_reducible rfl))
      try simp only [Act.put, List.setIfInBounds_toArray, List.set_cons_zero, List.set_cons_succ]
      refine WalkT.take (i := 8) (oi := _) (v := ?vb9) rfl (by decide) (by kernel_rfl) (by kernel_rfl) (fun _ _ _ h => h) (Or.inl ⟨by kernel_rfl, ?hyb9⟩) (by assumption) ?rb9
      case hyb9 => (intro wq hSw; have q9 := cell_belowB hSw rfl ch; go_simp; try (with_reducible rfl))
      try simp only [Act.put, List.setIfInBounds_toArray, List.set_cons_zero, List.set_cons_succ]
      refine WalkT.tail (by kernel_rfl) ?_
      have hdrew := Lib.hid hHeld; clear hHeld
      simp only [List.drop_succ_cons, List.drop_zero]
      clear cp ch
      go_wp2_with fail
      refine (rnodeB p h (by omega) (by omega) _).mono ?_
      rintro e w7 ⟨rfl, hb7⟩
      have hbr := hdrew.out.trans (hb7.mono hdrew.out.size)
      have hW7 := Hbel.out.trans (hbr.mono Hbel.out.size)
      have hA7 : Blk w7 w.heap.size 51 #[.int .u64 (n : Int), .slice A L.length cap] := (hbr.block _ HA2.out.lt).trans HA2.out
      have hB7 : Blk w7 (w.heap.size + 1) 51 Z50 := (hbr.block _ HB2.out.lt).trans HB2.out
      have hown7 := Hown.out.below hbr
      have hrd0 := hown7.read (by rw [HN.out]; unfold maxLen; omega)
      have hrd := hrd0.take m (by rw [HN.out]; exact q8)
      have htk : (qs ++ [p] ++ [h]).take m = qs := by rw [List.append_assoc, ← Hm.out]; simp
      rw [htk] at hrd
      have hba := alloc_below' w7 (.cells #[] 9)
      have hsrc : Src Tryd.prog 1 25 (.slice (some ⟨g, 0, none⟩) m capg) m (svals qs) (w7.alloc (.cells #[] 9)) := by
        have := (hrd.below hba rfl).src
        rwa [Hm.out] at this
      have hown8 : (w7.alloc (.cells #[] 9)).ownsRow w.heap.size 9 1 (.slice (some ⟨w7.heap.size, 0, none⟩) 0 0) 0 [] := SOwn.new hW7.size
      have hA8 := hA7.alloc (.cells #[] 9)
      have hB8 := hB7.alloc (.cells #[] 9)
      have hW8 := hW7.alloc hW7.size (.cells #[] 9)
      have hltA := hA7.lt; have hltB := hB7.lt
      have H8 := Lib.hid (And.intro hA8 (And.intro hB8 (And.intro hW8 (And.intro hltA hltB))))
      clear hbr hb7 hdrew hown7 hrd0 hrd htk hba hA7 hB7 hA8 hB8 hW8 hltA hltB Hown HA2 HB2 Hbel
      have hw7 := hW7.size
      clear hW7
      go_wp2_with (at_builtin; refine wpList_append_o rfl _ _ 25 25 rfl w.heap.size 9 i9 _ 1 16 Tryd.underlying25 hj hy0 hy1 hy2 rfl _ _ _ rfl hown8 _ m (svals qs) rfl hsrc (by unfold maxLen; omega) (by omega) (by simp; omega) ?_)
      intro v9 w9 ho9 hg9 hv9
      have hA9 : Blk w9 w.heap.size 51 #[.int .u64 (n : Int), .slice A L.length cap] := H8.out.1.grown hg9 (by intro e; have e2 : w.heap.size = w7.heap.size := Option.some.inj e; have := H8.out.2.2.2.1; omega)
      have hB9 : Blk w9 (w.heap.size + 1) 51 Z50 := H8.out.2.1.grown hg9 (by intro e; have e2 : w.heap.size + 1 = w7.heap.size := Option.some.inj e; have := H8.out.2.2.2.2; omega)
      have hW9 : Below w.heap.size w w9 := H8.out.2.2.1.grown hg9 H8.out.2.2.1.size (by intro k hk; have e2 : w7.heap.size = k := Option.some.inj hk; omega)
      have ho9 : SOwn w.heap.size w9 v9 qs := by unfold SOwn; rw [Hm.out]; simpa using ho9
      obtain ⟨x, hx⟩ : ∃ x, nodeB p h = x := ⟨_, rfl⟩
      have hx32 : x.size = 32 := by rw [← hx]; exact nodeB_size _ _
      have Hmer2 : Hid (merge (trail q2) qs x = M) := Lib.hid (by rw [← hx, ← Hq2.out]; exact Hmer.out)
      rw [hx]
      have hne9A := ho9.ne hA9 (by decide)
      have hne9B := ho9.ne hB9 (by decide)
      have ho10 := own_alloc' ho9 (.cells #[.string x] 9)
      rw [Hm.out] at ho10
      have hA10 := hA9.alloc (.cells #[.string x] 9)
      have hB10 := hB9.alloc (.cells #[.string x] 9)
      have hW10 := hW9.alloc hW9.size (.cells #[.string x] 9)
      have H10 := Lib.hid (And.intro hA10 (And.intro hB10 (And.intro hW10 (And.intro hne9A hne9B))))
      clear hA9 hB9 hW9 ho9 hg9 hv9 hne9A hne9B hA10 hB10 hW10 H8 hown8 hsrc hx Hmer
      go_wp2_with (at_builtin; refine wpList_appendN rfl _ _ 25 rfl w.heap.size 9 i9 (.string ⟨#[]⟩) 16 Tryd.underlying25 hj hy0 hy1 hy2 rfl _ _ _ rfl ho10 w9.heap.size 1 rfl #[.string x] _ _ (heap_alloc_new _ _) rfl (by decide) (by intro u hu; simp at hu; rcases hu with rfl; rfl) (by unfold maxLen; omega) (by omega) H10.out.2.2.1.size ?_)
      intro v11 w11 ho11 hg11 hv11
      have hA11 : Blk w11 w.heap.size 51 #[.int .u64 (n : Int), .slice A L.length cap] := H10.out.1.grown hg11 H10.out.2.2.2.1
      have hB11 : Blk w11 (w.heap.size + 1) 51 Z50 := H10.out.2.1.grown hg11 H10.out.2.2.2.2
      have hW11 : Below w.heap.size w w11 := H10.out.2.2.1.grown hg11 H10.out.2.2.1.size (fun k hk => (ho10.lt k hk).1)
      have ho12 : SOwn w.heap.size w11 v11 (qs ++ [x]) := by unfold SOwn; rw [svals_append, List.length_append, Hm.out]; exact ho11
      have H11 := Lib.hid (And.intro hA11 (And.intro hB11 (And.intro hW11 ho12)))
      clear hA11 hB11 hW11 ho12 ho11 hg11 hv11 ho10 H10
      go_wp2
      go_roundw
      case rel => exact ⟨q2, qs, x, by trivial, by have := Hq2.out; omega, by have h1 := Hjl.out; have h2 := Hq2.out; have h3 := Hm.out; rw [← h2]; omega, by have := Hm.out; omega, hx32, hqs.out, Hmer2.out, H11.out⟩
      case measure => simp [intOf]; have := Hq2.out; omega
    · have htq := trail_even (n := q) (by omega)
      rw [htq] at hmer
      have HM : Hid (ps ++ [h] = M) := Lib.hid hmer
      have r1 : ((q : Int).tmod 2) = 0 := by rw [Int.tmod_eq_emod_of_nonneg (by omega)]; omega
      obtain ⟨g, capg, rfl, hcapg, hgb⟩ := hown.form (by simp)
      have hmer' : ps ++ [h] = M := hmer
      rw [hmer'] at hown hcapg ⊢
      have c0 := hA2.cell 0
      have z0 := hB2.cell 0; have z1 := hB2.cell 1; have f0 := hB2.frozen 0; have f1 := hB2.frozen 1
      simp only [List.getElem?_toArray, List.getElem?_cons_succ, List.getElem?_cons_zero] at z0 z1 c0
      have hso2 : SOwn w.heap.size ((wr.setCell ⟨w.heap.size + 1, 0, none⟩ (.int .u64 ((n : Int) + 1))).setCell ⟨w.heap.size + 1, 1, none⟩ (.slice (some ⟨g, 0, none⟩) M.length capg)) (.slice (some ⟨g, 0, none⟩) M.length capg) M := hown.two hB2 _ _
      have hb4 : Below w.heap.size w ((wr.setCell ⟨w.heap.size + 1, 0, none⟩ (.int .u64 ((n : Int) + 1))).setCell ⟨w.heap.size + 1, 1, none⟩ (.slice (some ⟨g, 0, none⟩) M.length capg)) := (hbel.setCell (p := ⟨w.heap.size + 1, 0, none⟩) (by simp) _).setCell (p := ⟨w.heap.size + 1, 1, none⟩) (by simp) _
      have HB5 := Lib.hid (blk_two hB2 (.int .u64 ((n : Int) + 1)) (.slice (some ⟨g, 0, none⟩) M.length capg)); have Hb4 := Lib.hid hb4; have Hso2 := Lib.hid hso2
      clear hb4 hso2 hown hbel hB2 hA2 hmer HM hps hjl hmer'
      go_wp2
      exact bodyPost_ret (v := .tuple #[.agg #[.int .u64 ((n : Int) + 1), .slice (some ⟨g, 0, none⟩) M.length capg], .int .i64 0]) (results_row_tmp Tryd.results45 _ _ (w.heap.size + 1) 51 _ (0, 0) _ rfl HB5.out Tryd.underlying51 rfl info51) rfl ⟨⟨_, rfl, Hso2.out⟩, Hb4.out⟩
theorem rpush_any {w : World} (n : Nat) (hn : n < 18446744073709551616) {u : Value} {L : List ByteArray} (h : SRead w u L) (d : ByteArray) (hd : d.size ≤ 80000000) :
    Calls Tryd.prog 45 #[.agg #[.int .u64 (n : Int), u], .string d] w (PushPost w.heap.size w n L d) := by
  by_cases hr : rightB n L = true
  · by_cases hf : n = 1099511627776
    · subst hf; exact rpush_full h d hr
    · have hlt : n < 1099511627776 := by have := (right_wide hr).2.2; omega
      have hok : pushOk n L = true := by unfold pushOk; rw [hr]; simpa using hf
      refine (rpush_yes n hlt h d hd hr).mono fun e w' ⟨⟨u', he, ho⟩, hb⟩ => ⟨⟨u', ?_, ?_⟩, hb⟩
      · rw [he]
        have e1 : pushN n L = n + 1 := by unfold pushN; rw [hok]; rfl
        have e2 : pushE n L = 0 := by unfold pushE; rw [if_pos hr, if_neg hf]
        rw [e1, e2]; rfl
      · have e3 : pushL n L d = merge (trail n) L (leafB d) := by unfold pushL; rw [hok]; rfl
        rw [e3]; exact ho
  · exact rpush_no n hn h d (by simpa using hr)
end Go.Proofs.YtkdajlhmodmkoaaDoor
