/-
  Layer 8 (tree): Push walked.
-/
import Derived.Test.YtkdajlhmodmkoaaDoorTX
import Derived.Lib.SliceRun
namespace Go.Proofs.YtkdajlhmodmkoaaDoor
open Go.RowKit TreeM
set_option linter.unusedVariables false
set_option linter.unusedSimpArgs false

/-- What Push answers. -/
def pushE (n : Nat) (L : List ByteArray) : Int := if rightB n L = true then (if n = 1099511627776 then 8 else 0) else 1
def pushOk (n : Nat) (L : List ByteArray) : Bool := rightB n L && !(n == 1099511627776)
def pushN (n : Nat) (L : List ByteArray) : Nat := if pushOk n L = true then n + 1 else 0
def pushL (n : Nat) (L : List ByteArray) (d : ByteArray) : List ByteArray := if pushOk n L = true then merge (trail n) L (leafB d) else []
def PushPost (base : Nat) (w : World) (n : Nat) (L : List ByteArray) (d : ByteArray) (e : Ending) (w' : World) : Prop :=
  (∃ u, e = .returned (.tuple #[.agg #[.int .u64 (pushN n L : Int), u], .int .i64 (pushE n L)]) ∧ SOwn base w' u (pushL n L d)) ∧ Below base w w'
abbrev Z50 : Array Value := #[.int .u64 0, .slice none 0 0]
theorem SOwn.base {b b' : Nat} {w : World} {v : Value} {L : List ByteArray} (h : SOwn b w v L) (hb : b' ≤ b) : SOwn b' w v L := by
  refine ⟨h.1, ?_⟩
  rcases h.2 with h2 | ⟨g, cap, cur, hv, hg, r⟩
  · exact .inl h2
  · exact .inr ⟨g, cap, cur, hv, Nat.le_trans hb hg, r⟩
/-- The last one of a row of the call's own. -/
theorem SOwn.last {base : Nat} {w : World} {v : Value} {ps : List ByteArray} {p : ByteArray} (h : SOwn base w v (ps ++ [p])) :
    ∃ g cap, v = .slice (some ⟨g, 0, none⟩) (ps.length + 1) cap ∧ base ≤ g ∧ ps.length + 1 ≤ cap ∧ cap ≤ maxLen ∧ (∃ cur, Blk w g 9 cur) ∧ w.cell? ⟨g, ps.length, none⟩ = some (.string p) ∧ w.frozen? ⟨g, ps.length, none⟩ = false ∧
      SOwn base (w.setCells g ps.length (List.replicate 1 (.string ⟨#[]⟩))) (.slice (some ⟨g, 0, none⟩) ps.length cap) ps := by
  have hr := h.read (by
    rcases h.2 with ⟨_, hn⟩ | ⟨g, cap, cur, hv, hg, hh, hn, hmx, _⟩
    · simp at hn
    · omega)
  rcases h.2 with ⟨hv, hn⟩ | ⟨g, cap, cur, hv, hg, hh, hn, hmx, hcs, htk⟩
  · simp at hn
  · rw [List.length_append, List.length_singleton] at hn hv htk
    have hB : Blk w g 9 cur := hh
    rw [Nat.mul_one] at htk hcs
    have hcell : cur[ps.length]? = some (.string p) := by
      have h1 : (cur.toList.take (ps.length + 1))[ps.length]? = some (.string p) := by rw [htk, svals_append]; rw [List.getElem?_append_right (by rw [svals_length]; exact Nat.le_refl _), svals_length]; simp [svals]
      rw [List.getElem?_take_of_lt (by omega)] at h1
      simpa using h1
    refine ⟨g, cap, hv, hg, hn, hmx, ⟨cur, hB⟩, (hB.cell _).trans hcell, hB.frozen _, ?_⟩
    have hset := hB.set_ ps.length (.string ⟨#[]⟩)
    refine ⟨by rw [svals_length, Nat.mul_one], .inr ⟨g, cap, cur.setIfInBounds ps.length (.string ⟨#[]⟩), rfl, hg, hset, by omega, hmx, by rw [Array.size_setIfInBounds, Nat.mul_one]; exact hcs, ?_⟩⟩
    rw [Nat.mul_one, Array.toList_setIfInBounds, List.take_set_of_le (Nat.le_refl _)]
    have h2 : (svals (ps ++ [p])).take ps.length = svals ps := by
      rw [svals_append, List.take_append_of_le_length (by rw [svals_length]; exact Nat.le_refl _)]
      exact List.take_of_length_le (by rw [svals_length]; exact Nat.le_refl _)
    have h3 := congrArg (List.take ps.length) htk
    rw [List.take_take, Nat.min_eq_left (by omega), h2] at h3
    exact h3
theorem info50 : (Tryd.prog.info? 50).map (·.size) = some 2 := by kernel_rfl
theorem info51 : (Tryd.prog.info? 51).map (·.size) = some 2 := by kernel_rfl
theorem results_row_tmp {P : Program} {fn : Func} {p q : Tmp} {ty : TypeId} (h : fn.results = #[.cell p ty, .tmp q]) (tmps : Array Value) (w : World) (g : Nat) (t : TypeId) (cs : Array Value) (fr : Nat × Nat) (d : TypeDesc)
    (hp : tmps.getD p undef = .pointer (some ⟨g, 0, none⟩)) (hg : w.heap[g]? = some (.cells cs t fr))
    (hu : P.underlying ty = some d) (hd : (match d with | .struct _ | .array _ _ => true | _ => false) = true) (hi : (P.info? ty).map (·.size) = some cs.size) :
    (results fn tmps).run P w = .ok (.tuple #[.agg cs, tmps.getD q undef]) w := by
  have hp' : tmps[p]?.getD undef = .pointer (some ⟨g, 0, none⟩) := by simpa using hp
  simp [results, h, hp', asAddr, run_loadVar_row w g t ty cs fr d hg hu hd hi]
theorem blk_two {w : World} {g : Nat} {t : TypeId} {a0 a1 : Value} (h : Blk w g t #[a0, a1]) (x y : Value) : Blk ((w.setCell ⟨g, 0, none⟩ x).setCell ⟨g, 1, none⟩ y) g t #[x, y] := by
  have := (h.set_ 0 x).set_ 1 y
  simpa using this
set_option maxRecDepth 100000 in
set_option maxHeartbeats 2000000 in
theorem push_no {w : World} (n : Nat) (hn : n < 18446744073709551616) {u : Value} {L : List ByteArray} (h : SRead w u L) (d : ByteArray) (hr : rightB n L = false) :
    Calls Tryd.prog 44 #[.agg #[.int .u64 (n : Int), u], .string d] w (PushPost w.heap.size w n L d) := by
  have hw1 := alloc_below' w (.cells #[.int .u64 (n : Int), u] 50)
  have hw2 := hw1.trans ((alloc_below' (w.alloc (.cells #[.int .u64 (n : Int), u] 50)) (.cells Z50 50)).mono hw1.size)
  have h2 := h.below hw2 rfl
  have hright := tright_any n hn h2
  rw [hr] at hright
  have hok : pushOk n L = false := by unfold pushOk; rw [hr]; rfl
  have e1 : pushN n L = 0 := by unfold pushN; rw [hok]; rfl
  have e2 : pushE n L = 1 := by unfold pushE; rw [hr]; rfl
  have e3 : pushL n L d = [] := by unfold pushL; rw [hok]; rfl
  unfold PushPost
  rw [e1, e2, e3]
  obtain ⟨A, cap, rfl, -, -⟩ := h
  have hB : Blk ((w.alloc (.cells #[.int .u64 (n : Int), .slice A L.length cap] 50)).alloc (.cells Z50 50)) (w.heap.size + 1) 50 Z50 := by
    have := Blk.new (w.alloc (.cells #[.int .u64 (n : Int), .slice A L.length cap] 50)) 50 Z50
    rwa [World.size_alloc] at this
  go_enter Tryd.func44, Tryd.ntmps44
  go_wp2_with fail
  refine hright.mono ?_
  rintro e w3 ⟨rfl, hb3⟩
  have hB3 : Blk w3 (w.heap.size + 1) 50 Z50 := (hb3.block _ hB.lt).trans hB
  have z0 := hB3.cell 0; have z1 := hB3.cell 1; have f0 := hB3.frozen 0; have f1 := hB3.frozen 1
  simp only [List.getElem?_toArray, List.getElem?_cons_succ, List.getElem?_cons_zero] at z0 z1
  have hb4 : Below w.heap.size w ((w3.setCell ⟨w.heap.size + 1, 0, none⟩ (.int .u64 0)).setCell ⟨w.heap.size + 1, 1, none⟩ (.slice none 0 0)) :=
    ((hw2.trans (hb3.mono hw2.size)).setCell (p := ⟨w.heap.size + 1, 0, none⟩) (by simp) _).setCell (p := ⟨w.heap.size + 1, 1, none⟩) (by simp) _
  have hB4 := Lib.hid (blk_two hB3 (.int .u64 0) (.slice none 0 0))
  have Hb4 := Lib.hid hb4
  clear hb4 hB3 hb3 hright hB h2 hw2 hw1
  go_wp2
  exact bodyPost_ret (v := .tuple #[.agg #[.int .u64 0, .slice none 0 0], .int .i64 1]) (results_row_tmp Tryd.results44 _ _ (w.heap.size + 1) 50 _ (0, 0) _ rfl hB4.out Tryd.underlying50 rfl info50) rfl ⟨⟨_, rfl, SOwn.nil _ _⟩, Hb4.out⟩
/-- FULL -/
theorem push_full {w : World} {u : Value} {L : List ByteArray} (h : SRead w u L) (d : ByteArray) (hr : rightB 1099511627776 L = true) :
    Calls Tryd.prog 44 #[.agg #[.int .u64 1099511627776, u], .string d] w (PushPost w.heap.size w 1099511627776 L d) := by
  have hw1 := alloc_below' w (.cells #[.int .u64 1099511627776, u] 50)
  have hw2 := hw1.trans ((alloc_below' (w.alloc (.cells #[.int .u64 1099511627776, u] 50)) (.cells Z50 50)).mono hw1.size)
  have h2 := h.below hw2 rfl
  have hright := tright_any 1099511627776 (by decide) h2
  rw [hr] at hright
  have hok : pushOk 1099511627776 L = false := by unfold pushOk; rw [hr]; rfl
  have e1 : pushN 1099511627776 L = 0 := by unfold pushN; rw [hok]; rfl
  have e2 : pushE 1099511627776 L = 8 := by unfold pushE; rw [hr]; rfl
  have e3 : pushL 1099511627776 L d = [] := by unfold pushL; rw [hok]; rfl
  unfold PushPost
  rw [e1, e2, e3]
  obtain ⟨A, cap, rfl, -, -⟩ := h
  have hA : Blk ((w.alloc (.cells #[.int .u64 1099511627776, .slice A L.length cap] 50)).alloc (.cells Z50 50)) w.heap.size 50 #[.int .u64 1099511627776, .slice A L.length cap] := (Blk.new _ _ _).alloc _
  have hB : Blk ((w.alloc (.cells #[.int .u64 1099511627776, .slice A L.length cap] 50)).alloc (.cells Z50 50)) (w.heap.size + 1) 50 Z50 := by
    have := Blk.new (w.alloc (.cells #[.int .u64 1099511627776, .slice A L.length cap] 50)) 50 Z50
    rwa [World.size_alloc] at this
  have hright' : Calls Tryd.prog 48 #[.agg #[.int .u64 1099511627776, .slice A L.length cap]] ((w.alloc (.cells #[.int .u64 1099511627776, .slice A L.length cap] 50)).alloc (.cells Z50 50)) fun e w' => e = .returned (.bool true) ∧ Below ((w.alloc (.cells #[.int .u64 1099511627776, .slice A L.length cap] 50)).alloc (.cells Z50 50)).heap.size ((w.alloc (.cells #[.int .u64 1099511627776, .slice A L.length cap] 50)).alloc (.cells Z50 50)) w' := hright
  clear hright
  go_enter Tryd.func44, Tryd.ntmps44
  go_wp2_with fail
  refine hright'.mono ?_
  rintro e w3 ⟨rfl, hb3⟩
  have hB3 : Blk w3 (w.heap.size + 1) 50 Z50 := (hb3.block _ hB.lt).trans hB
  have hA3 : Blk w3 w.heap.size 50 #[.int .u64 1099511627776, .slice A L.length cap] := (hb3.block _ hA.lt).trans hA
  have c0 := hA3.cell 0
  have z0 := hB3.cell 0; have z1 := hB3.cell 1; have f0 := hB3.frozen 0; have f1 := hB3.frozen 1
  simp only [List.getElem?_toArray, List.getElem?_cons_succ, List.getElem?_cons_zero] at z0 z1 c0
  have hb4 : Below w.heap.size w ((w3.setCell ⟨w.heap.size + 1, 0, none⟩ (.int .u64 0)).setCell ⟨w.heap.size + 1, 1, none⟩ (.slice none 0 0)) :=
    ((hw2.trans (hb3.mono hw2.size)).setCell (p := ⟨w.heap.size + 1, 0, none⟩) (by simp) _).setCell (p := ⟨w.heap.size + 1, 1, none⟩) (by simp) _
  have hB4 := Lib.hid (blk_two hB3 (.int .u64 0) (.slice none 0 0))
  have Hb4 := Lib.hid hb4
  clear hb4 hB3 hb3 hright' hB h2 hw2 hw1 hA hA3
  go_wp2
  exact bodyPost_ret (v := .tuple #[.agg #[.int .u64 0, .slice none 0 0], .int .i64 8]) (results_row_tmp Tryd.results44 _ _ (w.heap.size + 1) 50 _ (0, 0) _ rfl hB4.out Tryd.underlying50 rfl info50) rfl ⟨⟨_, rfl, SOwn.nil _ _⟩, Hb4.out⟩
theorem flip64 (n : Nat) (h : n < 18446744073709551616) : 18446744073709551615 ^^^ n = 18446744073709551615 - n := by
  have h1 : (~~~(UInt64.ofNat n)).toNat = 18446744073709551615 - n := by
    rw [UInt64.toNat_not, UInt64.toNat_ofNat']; simp only [UInt64.size]; omega
  have h2 : (UInt64.ofNat 18446744073709551615 ^^^ UInt64.ofNat n).toNat = 18446744073709551615 ^^^ n := by
    rw [UInt64.toNat_xor, UInt64.toNat_ofNat', UInt64.toNat_ofNat', Nat.mod_eq_of_lt h]
  have h3 : UInt64.ofNat 18446744073709551615 ^^^ UInt64.ofNat n = ~~~(UInt64.ofNat n) := by
    show (-1 : UInt64) ^^^ _ = _
    simp
  rw [← h2, h3, h1]
theorem merge_pop (t : Nat) (qs : List ByteArray) (p h : ByteArray) : merge (t + 1) (qs ++ [p]) h = merge t qs (nodeB p h) := by simp [merge]
theorem SOwn.below {base : Nat} {w w' : World} {v : Value} {L : List ByteArray} (h : SOwn base w v L) (hb : Below w.heap.size w w') : SOwn base w' v L := own_below h hb
theorem SOwn.ne {base g : Nat} {w : World} {v : Value} {L : List ByteArray} {t : TypeId} {cs : Array Value} (h : SOwn base w v L) (hB : Blk w g t cs) (ht : t ≠ 9) : some g ≠ v.ownBlock := by
  rcases h.2 with ⟨rfl, _⟩ | ⟨g', cap, cur, rfl, hg, hh, _⟩
  · simp [Value.ownBlock]
  · intro e
    have e' : g = g' := by simpa [Value.ownBlock] using e
    subst e'
    exact hB.ne_ (show Blk w g 9 cur from hh) ht rfl
theorem SOwn.far {base : Nat} {w w' : World} {v : Value} {L : List ByteArray} (h : SOwn base w v L) (hk : ∀ k, v.ownBlock = some k → w'.heap[k]? = w.heap[k]?) : SOwn base w' v L := by
  refine ⟨h.1, ?_⟩
  rcases h.2 with h2 | ⟨g, cap, cur, rfl, hg, hh, r⟩
  · exact .inl h2
  · exact .inr ⟨g, cap, cur, rfl, hg, (hk g rfl).trans hh, r⟩
theorem SOwn.two {base g : Nat} {w : World} {v : Value} {L : List ByteArray} {t : TypeId} {cs : Array Value} (h : SOwn base w v L) (hB : Blk w g t cs) (x y : Value) (ht : t ≠ 9 := by decide) : SOwn base ((w.setCell ⟨g, 0, none⟩ x).setCell ⟨g, 1, none⟩ y) v L :=
  h.far fun k hk => by
    have hne : k ≠ g := fun e => h.ne hB ht (by rw [hk, e])
    rw [Below.heap_setCell _ _ _ _ (by exact hne), Below.heap_setCell _ _ _ _ (by exact hne)]
set_option maxRecDepth 100000 in
set_option maxHeartbeats 4000000 in
theorem push_yes {w : World} (hT : Tab w) (hBru : Bru w) (n : Nat) (hn : n < 1099511627776) {u : Value} {L : List ByteArray} (h : SRead w u L) (d : ByteArray) (hd : d.size ≤ 80000000) (hr : rightB n L = true) :
    Calls Tryd.prog 44 #[.agg #[.int .u64 (n : Int), u], .string d] w fun e w' => (∃ u', e = .returned (.tuple #[.agg #[.int .u64 ((n : Int) + 1), u'], .int .i64 0]) ∧ SOwn w.heap.size w' u' (merge (trail n) L (leafB d))) ∧ Below w.heap.size w w' := by
  obtain ⟨hwd, hones, -⟩ := right_wide hr
  have hw1 := alloc_below' w (.cells #[.int .u64 (n : Int), u] 50)
  have hw2 := hw1.trans ((alloc_below' (w.alloc (.cells #[.int .u64 (n : Int), u] 50)) (.cells Z50 50)).mono hw1.size)
  have h2 := h.below hw2 rfl
  have hright := tright_any n (by omega) h2
  rw [hr] at hright
  have ho64 := ones_le 64 n (by omega)
  have htl := trail_ones n
  obtain ⟨A, cap, rfl, hmx, -⟩ := id h
  have hA : Blk ((w.alloc (.cells #[.int .u64 (n : Int), .slice A L.length cap] 50)).alloc (.cells Z50 50)) w.heap.size 50 #[.int .u64 (n : Int), .slice A L.length cap] := (Blk.new _ _ _).alloc _
  have hB : Blk ((w.alloc (.cells #[.int .u64 (n : Int), .slice A L.length cap] 50)).alloc (.cells Z50 50)) (w.heap.size + 1) 50 Z50 := by
    have := Blk.new (w.alloc (.cells #[.int .u64 (n : Int), .slice A L.length cap] 50)) 50 Z50
    rwa [World.size_alloc] at this
  have Hw2 := Lib.hid hw2; have HT := Lib.hid hT; have HB := Lib.hid hBru; have Hh := Lib.hid h; have Hwd := Lib.hid hwd; have Hright := Lib.hid hright
  obtain ⟨M, hM⟩ : ∃ M, merge (trail n) L (leafB d) = M := ⟨_, rfl⟩
  rw [hM]
  obtain ⟨T, hTn⟩ : ∃ T, trail n = T := ⟨_, rfl⟩
  rw [hTn] at hM htl
  have HM0 := Lib.hid hM; have HTn := Lib.hid hTn
  have hll : L.length ≤ 64 := by omega
  have hTL : T ≤ L.length := by omega
  obtain ⟨Y, hY⟩ : ∃ Y : Nat, Y + n = 18446744073709551615 := ⟨18446744073709551615 - n, by omega⟩
  have hx : bits .xor .u64 IntKind.u64.max (n : Int) = (Y : Int) := by
    have e := u64_xor_nat 18446744073709551615 n (by omega) (by omega)
    rw [flip64 n (by omega)] at e
    rw [show (Y : Int) = ((18446744073709551615 - n : Nat) : Int) by omega, ← e]; rfl
  have hx2 : bits .xor .u64 (if IntKind.u64.signed = true then -1 else IntKind.u64.max) (n : Int) = (Y : Int) := hx
  have HYn := Lib.hid hY
  have hnf : ((n : Int) == 1099511627776) = false := by rw [beq_eq_false_iff_ne]; omega
  have e5 : IntKind.u64.wrap ((n : Int) + 1) = (n : Int) + 1 := by show ((n : Int) + 1) % 18446744073709551616 = _; omega
  obtain ⟨i9, hj, hy0, hy1, hy2⟩ := info_parts winfo9
  clear hw1 hw2 h2 hright hT hBru h hwd hM hTn htl ho64 hones hr hY
  go_enter Tryd.func44, Tryd.ntmps44
  go_wp2_with fail
  refine Hright.out.mono ?_
  rintro e w3 ⟨rfl, hb3⟩
  have hA3 : Blk w3 w.heap.size 50 #[.int .u64 (n : Int), .slice A L.length cap] := (hb3.block _ hA.lt).trans hA
  have hB3 : Blk w3 (w.heap.size + 1) 50 Z50 := (hb3.block _ hB.lt).trans hB
  have hW3 := Hw2.out.trans (hb3.mono Hw2.out.size)
  have c0 := hA3.cell 0; have c1 := hA3.cell 1
  simp only [List.getElem?_toArray, List.getElem?_cons_succ, List.getElem?_cons_zero] at c0 c1
  have HW3 := Lib.hid hW3
  clear hb3 hA hB hW3 Hright Hw2
  go_wp2_with fail
  refine (clone_any (Hh.out.below HW3.out rfl) (by omega)).mono ?_
  rintro e w4 ⟨⟨v4, rfl, ho4⟩, hb4⟩
  have hA4 : Blk w4 w.heap.size 50 #[.int .u64 (n : Int), .slice A L.length cap] := (hb4.block _ hA3.lt).trans hA3
  have hB4 : Blk w4 (w.heap.size + 1) 50 Z50 := (hb4.block _ hB3.lt).trans hB3
  have hW4 := HW3.out.trans (hb4.mono HW3.out.size)
  have ho4' := SOwn.base ho4 HW3.out.size
  have HW4 := Lib.hid hW4; have Ho4 := Lib.hid ho4'
  clear hb4 hA3 hB3 hW4 ho4 ho4' HW3 c0 c1
  go_wp2_with fail
  refine (leaf_any (HT.out.below HW4.out) d (by omega)).mono ?_
  rintro e w5 ⟨rfl, hb5⟩
  have hA5 : Blk w5 w.heap.size 50 #[.int .u64 (n : Int), .slice A L.length cap] := (hb5.block _ hA4.lt).trans hA4
  have hB5 : Blk w5 (w.heap.size + 1) 50 Z50 := (hb5.block _ hB4.lt).trans hB4
  have hW5 := HW4.out.trans (hb5.mono HW4.out.size)
  have ho5 := Ho4.out.below hb5
  have c0 := hA5.cell 0
  simp only [List.getElem?_toArray, List.getElem?_cons_succ, List.getElem?_cons_zero] at c0
  have HW5 := Lib.hid hW5; have Ho5 := Lib.hid ho5; have HA5 := Lib.hid hA5; have HB5 := Lib.hid hB5
  clear hb5 hA4 hB4 hW5 ho5 HW4 Ho4 hA5 hB5
  go_wp2_with fail
  refine (trail64_any (HB.out.below HW5.out) n Y HYn.out (by omega)).mono ?_
  rintro e w6 ⟨rfl, rfl⟩
  rw [HTn.out]
  go_wp2
  rename World => w6
  have h32 := leafB_size d
  go_loopw [6, 7, 8, 28] (fun v hv _ i wr => ∃ (j : Nat) (ps : List ByteArray) (h : ByteArray), j ≤ T ∧ i = .int .i64 (j : Int) ∧ hv = .string h ∧ T - j ≤ ps.length ∧ ps.length ≤ 64 ∧ h.size = 32 ∧ (∀ s ∈ ps, s.size = 32) ∧ merge (T - j) ps h = M ∧ SOwn w.heap.size wr v ps ∧ Blk wr w.heap.size 50 #[.int .u64 (n : Int), .slice A L.length cap] ∧ Blk wr (w.heap.size + 1) 50 Z50 ∧ Below w.heap.size w wr) (fun _ _ _ i _ => T - (intOf i).toNat)
  case atStart => exact ⟨0, L, leafB d, by omega, rfl, rfl, by omega, by omega, h32, Hwd.out, by rw [Nat.sub_zero]; exact HM0.out, Ho5.out, HA5.out, HB5.out, HW5.out⟩
  case round =>
    clear HM0 Ho5 HA5 HB5 HW5 c0 h32
    obtain ⟨j, ps, h, hj1, rfl, rfl, hjl, hp64, hs32, hps, hmer, hown, hA2, hB4, hbel⟩ := hrel
    have c0 := hA2.cell 0
    simp only [List.getElem?_toArray, List.getElem?_cons_succ, List.getElem?_cons_zero] at c0
    by_cases hlt : j < T
    · obtain ⟨t, ht⟩ : ∃ t, T - j = t + 1 := ⟨T - j - 1, by omega⟩
      have hne : ps ≠ [] := fun e => by subst e; simp at hjl; omega
      obtain ⟨qs, p, rfl⟩ : ∃ qs p, ps = qs ++ [p] := ⟨ps.dropLast, ps.getLast hne, (List.dropLast_concat_getLast hne).symm⟩
      rw [ht, merge_pop] at hmer
      have hp32 := hps p (by simp)
      have hqs : Hid (∀ s ∈ qs, s.size = 32) := Lib.hid (fun s hs => hps s (List.mem_append_left _ hs))
      have Hmer := Lib.hid hmer
      obtain ⟨g, capg, rfl, hgb, hcapg, hcm, -, hcp, -, -⟩ := SOwn.last hown
      obtain ⟨q, hq⟩ : ∃ q, qs.length = q := ⟨_, rfl⟩
      rw [List.length_append, List.length_singleton, hq] at hjl hp64
      rw [hq] at hcapg hcp hown ⊢
      obtain ⟨N, hN⟩ : ∃ N, q + 1 = N := ⟨_, rfl⟩
      have hNi : ((q + 1 : Nat) : Int) = (N : Int) := by omega
      have e1 : IntKind.i64.wrap ((N : Int) - 1) = (q : Int) := by rw [show (N : Int) - 1 = (q : Int) by omega]; exact IntWalk.i64_in _ (by omega)
      have q0 : (0 : Int) ≤ (q : Int) := by omega
      have q1 : (q : Int) < (N : Int) := by omega
      have q2 : (q : Int) ≤ (N : Int) := by omega
      have q3 : q ≤ N := by omega
      have q4 : q ≤ capg := by omega
      have q5 : ¬ capg = q := by omega
      have q6 : N - q = 1 := by omega
      have q7 : (q : Int) ≤ (capg : Int) := by omega
      have l1 : (j : Int) < (T : Int) := by omega
      rw [hN] at hcapg hown ⊢
      have hTw := HT.out.below hbel
      have Hbel := Lib.hid hbel; have Hown := Lib.hid hown; have HA2 := Lib.hid hA2; have HB4 := Lib.hid hB4; have HTw := Lib.hid hTw; have Hq := Lib.hid hq; have HN := Lib.hid hN; have Ht := Lib.hid ht
      clear hbel hown hA2 hB4 hTw hmer hps hne c0 hq hN ht hNi
      go_wp2_with fail
      refine (node_any HTw.out p h (by omega) (by omega)).mono ?_
      rintro e w7 ⟨rfl, hb7⟩
      have hW7 := Hbel.out.trans (hb7.mono Hbel.out.size)
      have hA7 : Blk w7 w.heap.size 50 #[.int .u64 (n : Int), .slice A L.length cap] := (hb7.block _ HA2.out.lt).trans HA2.out
      have hB7 : Blk w7 (w.heap.size + 1) 50 Z50 := (hb7.block _ HB4.out.lt).trans HB4.out
      have hown7 := Hown.out.below hb7
      have hneA := hown7.ne hA7 (by decide)
      have hneB := hown7.ne hB7 (by decide)
      obtain ⟨g', capg', hve, hg7, hcap7, -, ⟨cur7, hcur7⟩, hcp7, hcf7, hpop⟩ := SOwn.last hown7
      injection hve with a1 a2 a3
      injection a1 with a1; injection a1 with a1 _ _
      subst a1 a3
      clear a2
      rw [Hq.out] at hcp7 hcf7 hpop
      have hcs1 : ∀ i, i < 1 → (w7.cell? ⟨g, q + i, none⟩).isSome = true := by
        intro i hi
        rw [show i = 0 by omega, Nat.add_zero, hcp7]; rfl
      have hfs1 : ∀ i, i < 1 → w7.frozen? ⟨g, q + i, none⟩ = false := by
        intro i hi
        rw [show i = 0 by omega, Nat.add_zero]; exact hcf7
      have hcl : ∀ ty, (Builtin.clear_ #[25] ty #[.slice (some ⟨g, q, none⟩) 1 (capg - q)]).run Tryd.prog w7 = .ok (.tuple #[]) (w7.setCells g q (List.replicate 1 (.string ⟨#[]⟩))) :=
        fun ty => Lib.run_clear_slice w7 25 9 ty (.string ⟨#[]⟩) Tryd.underlying25 Tryd.zeroValue9 rfl rfl g q 1 (capg - q) (by decide) hcs1 hfs1
      clear hcs1 hfs1
      have ho8 := only_setCells w7 g q (List.replicate 1 (.string ⟨#[]⟩))
      have hgA : w.heap.size ≠ g := fun e => hneA (by rw [e]; rfl)
      have hgB : w.heap.size + 1 ≠ g := fun e => hneB (by rw [e]; rfl)
      have HF : Hid (SOwn w.heap.size (w7.setCells g q (List.replicate 1 (.string ⟨#[]⟩))) (.slice (some ⟨g, 0, none⟩) q capg) qs ∧ Blk (w7.setCells g q (List.replicate 1 (.string ⟨#[]⟩))) w.heap.size 50 #[.int .u64 (n : Int), .slice A L.length cap] ∧ Blk (w7.setCells g q (List.replicate 1 (.string ⟨#[]⟩))) (w.heap.size + 1) 50 Z50 ∧ Below w.heap.size w (w7.setCells g q (List.replicate 1 (.string ⟨#[]⟩)))) :=
        Lib.hid ⟨hpop, hA7.only ho8 hA7.lt (by simpa using hgA), hB7.only ho8 hB7.lt (by simpa using hgB), hW7.trans (ho8.below_of hW7.size (by simpa using hg7))⟩
      clear hpop ho8 hcp7 hcf7 hcur7 hneA hneB hA7 hB7 hown7 hW7 hb7 hcp Hown HA2 HB4 Hbel hgA hgB
      generalize hW8 : w7.setCells g q (List.replicate 1 (.string ⟨#[]⟩)) = W8 at *
      go_wp2
      go_roundw
      case rel => exact ⟨j + 1, qs, nodeB p h, by omega, by go_num, rfl, by have := Ht.out; have := Hq.out; omega, by have := Hq.out; omega, nodeB_size _ _, hqs.out, by rw [show T - (j + 1) = t by have := Ht.out; omega]; exact Hmer.out, HF.out.1, HF.out.2.1, HF.out.2.2.1, HF.out.2.2.2⟩
      case measure => simp [intOf]; omega
    · obtain rfl : j = T := by omega
      have l1 : ¬ (j : Int) < (j : Int) := by omega
      rw [Nat.sub_self] at hmer
      have HM : Hid (ps ++ [h] = M) := Lib.hid hmer
      have hne4 := hown.ne hB4 (by decide)
      have hne2 := hown.ne hA2 (by decide)
      have Hbel := Lib.hid hbel
      obtain ⟨q, hpl⟩ : ∃ q, ps.length = q := ⟨_, rfl⟩
      have hown0 : wr.ownsRow w.heap.size 9 1 u6 q (svals ps) := by have := hown; unfold SOwn at this; rwa [hpl] at this
      clear hown hmer hbel hjl hj1 hps
      have hown := hown0; clear hown0
      have hB2 := hA2
      rw [hpl] at hp64
      clear hA2
      go_wp2
      refine wp_region_T (n := 8) (S := fun wq => Blk wq w.heap.size 50 #[.int .u64 (n : Int), .slice A L.length cap]) (by kernel_rfl) (by kernel_rfl) (hB2.drewN 1) (fun hHeld => ?_)
      refine WalkT.take (i := 0) (oi := _) (v := ?vz1) rfl (by decide) (by kernel_rfl) (by kernel_rfl) (fun _ _ _ h => h) (Or.inl ⟨by kernel_rfl, ?hyz1⟩) (by assumption) ?rz1
      case hyz1 => (intro wq hSw; go_simp; try (with_reducible rfl))
      try simp only [Act.put, List.setIfInBounds_toArray, List.set_cons_zero, List.set_cons_succ]
      refine WalkT.take (i := 1) (oi := _) (v := ?vz2) rfl (by decide) (by kernel_rfl) (by kernel_rfl) (fun _ _ _ h => h) (Or.inl ⟨by kernel_rfl, ?hyz2⟩) (by assumption) ?rz2
      case hyz2 => (intro wq hSw; have q3 := Blk.cell hSw 0; simp only [List.getElem?_toArray, List.getElem?_cons_succ, List.getElem?_cons_zero] at q3; go_simp; try (with_reducible rfl))
      try simp only [Act.put, List.setIfInBounds_toArray, List.set_cons_zero, List.set_cons_succ]
      refine WalkT.take (i := 2) (oi := _) (v := ?vz3) rfl (by decide) (by kernel_rfl) (by kernel_rfl) (fun _ _ _ h => h) (Or.inl ⟨by kernel_rfl, ?hyz3⟩) (by assumption) ?rz3
      case hyz3 => (intro wq hSw; go_simp; try (with_reducible rfl))
      try simp only [Act.put, List.setIfInBounds_toArray, List.set_cons_zero, List.set_cons_succ]
      refine WalkT.take (i := 3) (oi := _) (v := ?vz4) rfl (by decide) (by kernel_rfl) (by kernel_rfl) (fun _ _ _ h => h) (Or.inl ⟨by kernel_rfl, ?hyz4⟩) (by assumption) ?rz4
      case hyz4 => (intro wq hSw; go_simp; try (with_reducible rfl))
      try simp only [Act.put, List.setIfInBounds_toArray, List.set_cons_zero, List.set_cons_succ]
      refine WalkT.take (i := 4) (oi := _) (v := ?vz5) rfl (by decide) (by kernel_rfl) (by kernel_rfl) (fun _ _ _ h => h) (Or.inl ⟨by kernel_rfl, ?hyz5⟩) (by assumption) ?rz5
      case hyz5 => (intro wq hSw; go_simp; try (with_reducible rfl))
      try simp only [Act.put, List.setIfInBounds_toArray, List.set_cons_zero, List.set_cons_succ]
      refine WalkT.one (i := 5) (o := ?oz6) (by kernel_rfl) (by decide) ?hoz6 ?hkz6
      case hoz6 => (simp only [List.getElem?_toArray, List.getElem?_cons_succ, List.getElem?_cons_zero]; exact rfl)
      intro K hK
      go_simp
      refine hK.out _ _ (Blk.alloc hHeld _) (fun hHeld => ?_)
      clear hK K
      try simp only [Act.put, List.setIfInBounds_toArray, List.set_cons_zero, List.set_cons_succ]
      refine WalkT.one (i := 6) (o := ?oz7) (by kernel_rfl) (by decide) ?hoz7 ?hkz7
      case hoz7 => (simp only [List.getElem?_toArray, List.getElem?_cons_succ, List.getElem?_cons_zero]; exact rfl)
      intro K hK
      have hown2 := own_alloc' (own_below hown (below_drewN' (Below.refl _ _) 1)) (.cells #[.string h] 9)
      have hB4a : Blk (wr.drew.alloc (.cells #[.string h] 9)) (w.heap.size + 1) 50 Z50 := (hB4.drewN 1).alloc _
      refine step_appendN rfl _ _ 25 rfl w.heap.size 9 i9 (.string ⟨#[]⟩) 16 Tryd.underlying25 hj hy0 hy1 hy2 rfl _ _ _ rfl hown2 wr.heap.size 1 rfl #[.string h] _ _ (heap_alloc_new _ _) rfl (by decide) (by intro u hu; simp at hu; rcases hu with rfl; rfl) (by unfold maxLen; omega) (by omega) (by have := Hbel.out.size; simp; omega) ?_
      intro v' w3 ho hg hv
      have hB3 : Blk w3 (w.heap.size + 1) 50 Z50 := hB4a.grown hg hne4
      have hA3 : Blk w3 w.heap.size 50 #[.int .u64 (n : Int), .slice A L.length cap] := Blk.grown hHeld hg hne2
      have hb3 : Below w.heap.size w w3 := ((below_drewN' Hbel.out 1).alloc (by have := Hbel.out.size; simpa using this) _).grown hg (by have := Hbel.out.size; simp; omega) (fun k hk => (hown.lt k hk).1)
      have hso : SOwn w.heap.size w3 v' (ps ++ [h]) := by unfold SOwn; rw [svals_append, List.length_append, hpl]; exact ho
      obtain ⟨A3, c3, hve, -, -⟩ := id (hso.read (by rw [List.length_append, hpl]; simp; unfold maxLen; omega))
      rw [show (ps ++ [h]).length = q + 1 by rw [List.length_append, hpl]; rfl] at hve
      subst hve
      refine hK.out _ _ hA3 (fun hHeld => ?_)
      clear hK K
      try simp only [Act.put, List.setIfInBounds_toArray, List.set_cons_zero, List.set_cons_succ]
      refine WalkT.take (i := 7) (oi := _) (v := ?vz8) rfl (by decide) (by kernel_rfl) (by kernel_rfl) (fun _ _ _ h => h) (Or.inl ⟨by kernel_rfl, ?hyz8⟩) (by assumption) ?rz8
      case hyz8 => (intro wq hSw; go_simp; try (with_reducible rfl))
      try simp only [Act.put, List.setIfInBounds_toArray, List.set_cons_zero, List.set_cons_succ]
      refine WalkT.tail (by kernel_rfl) ?_
      have z0 := hB3.cell 0; have z1 := hB3.cell 1; have f0 := hB3.frozen 0; have f1 := hB3.frozen 1
      simp only [List.getElem?_toArray, List.getElem?_cons_succ, List.getElem?_cons_zero] at z0 z1
      have hso2 : SOwn w.heap.size ((w3.setCell ⟨w.heap.size + 1, 0, none⟩ (.int .u64 ((n : Int) + 1))).setCell ⟨w.heap.size + 1, 1, none⟩ (.slice A3 (q + 1) c3)) (.slice A3 (q + 1) c3) (ps ++ [h]) := hso.two hB3 _ _
      have hb4 : Below w.heap.size w ((w3.setCell ⟨w.heap.size + 1, 0, none⟩ (.int .u64 ((n : Int) + 1))).setCell ⟨w.heap.size + 1, 1, none⟩ (.slice A3 (q + 1) c3)) := (hb3.setCell (p := ⟨w.heap.size + 1, 0, none⟩) (by simp) _).setCell (p := ⟨w.heap.size + 1, 1, none⟩) (by simp) _
      have HB5 := Lib.hid (blk_two hB3 (.int .u64 ((n : Int) + 1)) (.slice A3 (q + 1) c3)); have Hb4 := Lib.hid hb4; have Hso2 := Lib.hid hso2
      clear hb4 hb3 hB3 hA3 hso hso2 ho hg hv hB4a hown2 hown hHeld hB4 hB2 hne4 hne2
      have hM : ps ++ [h] = M := HM.out
      rw [hM] at Hso2
      simp only [List.drop_succ_cons, List.drop_zero]
      go_wp2
      exact bodyPost_ret (v := .tuple #[.agg #[.int .u64 ((n : Int) + 1),   .slice A3 (q + 1) c3], .int .i64 0]) (results_row_tmp Tryd.results44 _ _ (w.heap.size + 1) 50 _ (0, 0) _ rfl HB5.out Tryd.underlying50 rfl info50) rfl ⟨⟨_, rfl, Hso2.out⟩, Hb4.out⟩
theorem push_any {w : World} (hT : Tab w) (hBru : Bru w) (n : Nat) (hn : n < 18446744073709551616) {u : Value} {L : List ByteArray} (h : SRead w u L) (d : ByteArray) (hd : d.size ≤ 80000000) :
    Calls Tryd.prog 44 #[.agg #[.int .u64 (n : Int), u], .string d] w (PushPost w.heap.size w n L d) := by
  by_cases hr : rightB n L = true
  · by_cases hf : n = 1099511627776
    · subst hf; exact push_full h d hr
    · have hlt : n < 1099511627776 := by have := (right_wide hr).2.2; omega
      have hok : pushOk n L = true := by unfold pushOk; rw [hr]; simpa using hf
      refine (push_yes hT hBru n hlt h d hd hr).mono fun e w' ⟨⟨u', he, ho⟩, hb⟩ => ⟨⟨u', ?_, ?_⟩, hb⟩
      · rw [he]
        have e1 : pushN n L = n + 1 := by unfold pushN; rw [hok]; rfl
        have e2 : pushE n L = 0 := by unfold pushE; rw [if_pos hr, if_neg hf]
        rw [e1, e2]; rfl
      · have e3 : pushL n L d = merge (trail n) L (leafB d) := by unfold pushL; rw [hok]; rfl
        rw [e3]; exact ho
  · exact push_no n hn h d (by simpa using hr)
end Go.Proofs.YtkdajlhmodmkoaaDoor
