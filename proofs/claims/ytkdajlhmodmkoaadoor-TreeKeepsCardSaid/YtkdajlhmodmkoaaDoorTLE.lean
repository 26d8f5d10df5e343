/-
  Layer 8 (tree): TreeKeeps walked.
-/
import Derived.Test.YtkdajlhmodmkoaaDoorTG
import Derived.Test.YtkdajlhmodmkoaaDoorShaL1
namespace Go.Proofs.YtkdajlhmodmkoaaDoor
open Go.RowKit TreeM
set_option linter.unusedVariables false
set_option linter.unusedSimpArgs false

theorem merge_keep : ∀ (t : Nat) (ps : List ByteArray) (h : ByteArray), t ≤ ps.length → ∃ x, merge t ps h = ps.take (ps.length - t) ++ [x]
  | 0, ps, h, _ => ⟨h, by simp [merge]⟩
  | t + 1, ps, h, ht => by
    have hne : ps ≠ [] := fun e => by subst e; simp at ht
    obtain ⟨qs, p, rfl⟩ : ∃ qs p, ps = qs ++ [p] := ⟨ps.dropLast, ps.getLast hne, (List.dropLast_concat_getLast hne).symm⟩
    rw [List.length_append, List.length_singleton] at ht
    obtain ⟨x, hx⟩ := merge_keep t qs (nodeB p h) (by omega)
    refine ⟨x, ?_⟩
    rw [merge_pop, hx, List.length_append, List.length_singleton, show qs.length + 1 - (t + 1) = qs.length - t by omega, List.take_append_of_le_length (by omega)]
/-PRE-/
theorem SRead_cap {w : World} {A : Option Addr} {len cap r : Nat} {L : List ByteArray} (h : SRead w (.slice A len cap) L) (hr : r ≤ L.length) : r ≤ cap := by
  obtain ⟨A', cap', he, -, hc⟩ := h
  injection he with _ _ e3
  by_cases hz : 0 < L.length
  · obtain ⟨b, o, _, ⟨-, h2⟩, -⟩ := hc 0 hz; omega
  · omega
theorem merge_wide : ∀ (t : Nat) (ps : List ByteArray) (h : ByteArray), t ≤ ps.length → (∀ s ∈ ps, s.size = 32) → h.size = 32 → ∀ s ∈ merge t ps h, s.size = 32
  | 0, ps, h, _, h1, h2 => by
    intro s hs
    simp [merge] at hs
    rcases hs with hs | rfl
    · exact h1 s hs
    · exact h2
  | t + 1, ps, h, ht, h1, h2 => by
    have hne : ps ≠ [] := fun e => by subst e; simp at ht
    obtain ⟨qs, p, rfl⟩ : ∃ qs p, ps = qs ++ [p] := ⟨ps.dropLast, ps.getLast hne, (List.dropLast_concat_getLast hne).symm⟩
    rw [List.length_append, List.length_singleton] at ht
    rw [merge_pop]
    exact merge_wide t qs (nodeB p h) (by omega) (fun s hs => h1 s (List.mem_append_left _ hs)) (nodeB_size _ _)
theorem merge_facts {n : Nat} {M : List ByteArray} {d : ByteArray} (hr : rightB n M = true) (hn : n ≠ 1099511627776) :
    rightB (n + 1) (merge (trail n) M (leafB d)) = true ∧ 1 ≤ (merge (trail n) M (leafB d)).length ∧ (merge (trail n) M (leafB d)).length ≤ M.length + 1 ∧ ∀ r, r + 1 ≤ (merge (trail n) M (leafB d)).length → (merge (trail n) M (leafB d)).take r = M.take r := by
  obtain ⟨hw, h1, h2⟩ := right_wide hr
  have htl := trail_ones n
  have hos := ones_succ n n (Nat.le_refl _)
  obtain ⟨x, hx⟩ := merge_keep (trail n) M (leafB d) (by omega)
  have hwd := merge_wide (trail n) M (leafB d) (by omega) hw (leafB_size d)
  have hl : (merge (trail n) M (leafB d)).length = M.length - trail n + 1 := by rw [hx, List.length_append, List.length_take, List.length_singleton]; omega
  refine ⟨?_, by omega, by omega, fun r hr => ?_⟩
  · unfold rightB wideB
    simp only [Bool.and_eq_true, decide_eq_true_eq, List.all_eq_true]
    exact ⟨⟨by omega, by rw [beq_iff_eq]; omega⟩, fun s hs => by simpa using hwd s hs⟩
  · rw [hx, List.take_append_of_le_length (by rw [List.length_take]; omega), List.take_take, Nat.min_eq_left (by omega)]
set_option maxRecDepth 100000 in
set_option maxHeartbeats 16000000 in
theorem treeKeeps_walk (a : Int) (ha : (Lit.int .u64 a).wf = true) (A : Option Addr) (len cap : Nat) (L : List ByteArray) (s : ByteArray) (hs : s.size ≤ maxLen) {w : World} (hL : SRead w (.slice A len cap) L) (hT : Tab w) (hBru : Bru w) :
    Calls Tryd.prog 13 #[.agg #[.int .u64 a, .slice A len cap], .string s] w fun e w' => e = .returned (.bool true) ∧ Below w.heap.size w w' := by
  obtain ⟨n, hn, rfl⟩ : ∃ n : Nat, n < 18446744073709551616 ∧ a = (n : Int) := by
    simp [Lit.wf, IntKind.min, IntKind.max, IntKind.signed, IntKind.bits] at ha
    exact ⟨a.toNat, by omega, by omega⟩
  obtain ⟨i9, hj, hy0, hy1, hy2⟩ := info_parts winfo9
  have hb1 := alloc_below' w (.cells #[.int .u64 (n : Int), .slice A len cap] 50)
  have hr1 := hL.below hb1 rfl
  have HT := Lib.hid hT; have HBru := Lib.hid hBru; have H1 := Lib.hid (And.intro hb1 hr1)
  clear hT hBru hL hb1 hr1 ha
  go_enter Tryd.func13, Tryd.ntmps13
  go_wp2_with fail
  refine (ref_any n H1.out.2).mono ?_
  rintro e w2 ⟨⟨v2, rfl, ho2⟩, hb2⟩
  have hlen := cutL_length L 50
  have hsz : ∀ s ∈ cutL L 50, s.size ≤ 80000000 := fun s hs => by have := cutL_size L 50 s hs; omega
  generalize cutL L 50 = M at *
  obtain ⟨A1, cap1, hve, -, -⟩ := id (ho2.read (by unfold maxLen; omega))
  subst hve
  have hbel := H1.out.1.trans (hb2.mono H1.out.1.size)
  have ho := SOwn.base ho2 H1.out.1.size
  have Hbel := Lib.hid hbel; have Ho := Lib.hid ho; have Hsz := Lib.hid hsz
  clear hb2 ho2 hbel ho hsz H1
  have hw3 := (alloc_below' w2 (.cells #[.int .u64 (n : Int), .slice A1 M.length cap1] 50))
  have hw3' := hw3.trans ((alloc_below' (w2.alloc (.cells #[.int .u64 (n : Int), .slice A1 M.length cap1] 50)) (.cells #[.int .u64 (n : Int), .slice A1 M.length cap1] 51)).mono hw3.size)
  have hB5 : Blk ((w2.alloc (.cells #[.int .u64 (n : Int), .slice A1 M.length cap1] 50)).alloc (.cells #[.int .u64 (n : Int), .slice A1 M.length cap1] 51)) w2.heap.size 50 #[.int .u64 (n : Int), .slice A1 M.length cap1] := (Blk.new _ _ _).alloc _
  have hv3 := (Ho.out.read (by unfold maxLen; omega)).below hw3' rfl
  have hb3 := Hbel.out.trans (hw3'.mono Hbel.out.size)
  obtain ⟨g5, hg5⟩ : ∃ g, w2.heap.size = g := ⟨_, rfl⟩
  obtain ⟨w3, hw3e⟩ : ∃ w3, (w2.alloc (.cells #[.int .u64 (n : Int), .slice A1 M.length cap1] 50)).alloc (.cells #[.int .u64 (n : Int), .slice A1 M.length cap1] 51) = w3 := ⟨_, rfl⟩
  rw [hw3e] at hB5 hv3 hb3
  rw [hg5] at hB5
  have HB3 := Lib.hid hB5; have Hv3 := Lib.hid hv3; have Hb3 := Lib.hid hb3
  go_upto_region 2 with fail
  clear hw3e hg5 hw3 hw3' hB5 hv3 hb3 Ho Hbel
  have hown : (w3.alloc (.cells #[] 9)).ownsRow w3.heap.size 9 1 (.slice (some ⟨w3.heap.size, 0, none⟩) 0 0) 0 [] := SOwn.new (Nat.le_refl w3.heap.size)
  have hsrc : Src Tryd.prog 1 25 (.slice A1 M.length cap1) M.length (svals M) (w3.alloc (.cells #[] 9)) := (Hv3.out.below (alloc_below' w3 _) rfl).src
  have hB5 : Blk (w3.alloc (.cells #[] 9)) g5 50 #[.int .u64 (n : Int), .slice A1 M.length cap1] := HB3.out.alloc _
  have c0 := hB5.cell 0; have c1 := hB5.cell 1
  simp only [List.getElem?_toArray, List.getElem?_cons_succ, List.getElem?_cons_zero] at c0 c1
  clear hB5
  go_wp2_with (at_builtin; refine wpList_append_o rfl _ _ 25 25 rfl w3.heap.size 9 i9 _ 1 16 Tryd.underlying25 hj hy0 hy1 hy2 rfl _ _ _ rfl hown _ M.length (svals M) rfl hsrc (by unfold maxLen; omega) (by omega) (by simp) ?_)
  intro v4 wr ho4 hg4 hv4
  have hb4 : Below w3.heap.size w3 wr := (alloc_below' w3 (.cells #[] 9)).grown hg4 (by simp) (by intro k hk; simp [Value.ownBlock] at hk; omega)
  have ho4' : SOwn w3.heap.size wr v4 M := by unfold SOwn; simpa using ho4
  have hw4 := ho4'.read (by unfold maxLen; omega)
  obtain ⟨A4, cap4, hve, -, -⟩ := id hw4
  subst hve
  have HB5 : Hid (Blk wr g5 50 #[.int .u64 (n : Int), .slice A1 M.length cap1]) := Lib.hid ((hb4.block _ (Blk.lt HB3.out)).trans HB3.out)
  have Hv := Lib.hid (Hv3.out.below hb4 rfl); have Hw := Lib.hid hw4; have Hbel := Lib.hid (Hb3.out.trans (hb4.mono Hb3.out.size))
  have Hcap : Hid (∀ r, r ≤ M.length → r ≤ cap4) := Lib.hid (fun r hr => SRead_cap hw4 hr)
  clear hown hsrc c0 c1 ho4 hg4 hv4 hb4 ho4' hw4 HB3 Hv3 Hb3
  obtain ⟨m, -, k0, k1, k2, k3, hmin⟩ := cut_min s 100 100 rfl
  have hdm := ext_le s m
  have hds : (s.extract 0 m).size ≤ 80000000 := by rw [ByteArray.size_extract]; omega
  obtain ⟨d, hd⟩ : ∃ d, s.extract 0 m = d := ⟨_, rfl⟩
  rw [hd] at hds
  have hpush0 := fun (wq : World) (hq : Below wr.heap.size wr wq) => push_any (HT.out.below (Hbel.out.trans (hq.mono Hbel.out.size))) (HBru.out.below (Hbel.out.trans (hq.mono Hbel.out.size))) n hn (Hv.out.below hq rfl) d hds
  obtain ⟨pn, pe, pl, hpush, hplen, hcase⟩ : ∃ (pn pe : Int) (pl : List ByteArray), (∀ wq, Below wr.heap.size wr wq → Calls Tryd.prog 44 #[.agg #[.int .u64 (n : Int), .slice A1 M.length cap1], .string d] wq fun e w' => (∃ u, e = .returned (.tuple #[.agg #[.int .u64 pn, u], .int .i64 pe]) ∧ SOwn 0 w' u pl) ∧ Below wq.heap.size wq w') ∧ pl.length ≤ 60 ∧
      ((pe ≠ 0 ∧ pn = 0 ∧ pl = []) ∨ (pe = 0 ∧ pn = (n : Int) + 1 ∧ rightB (n + 1) pl = true ∧ 1 ≤ pl.length ∧ pl.length ≤ M.length + 1 ∧ ∀ r, r + 1 ≤ pl.length → pl.take r = M.take r)) := by
    refine ⟨pushN n M, pushE n M, pushL n M d, fun wq hq => (hpush0 wq hq).mono fun e w' ⟨⟨u, h1, h2⟩, hb⟩ => ⟨⟨u, h1, SOwn.base h2 (Nat.zero_le _)⟩, hb⟩, ?_, ?_⟩
    · unfold pushL; split
      · rename_i hok; obtain ⟨h1, h2⟩ := by unfold pushOk at hok; simpa using hok
        have := (merge_facts (d := d) h1 h2).2.2.1; omega
      · simp
    · cases hok : pushOk n M with
      | false =>
        refine .inl ⟨?_, by unfold pushN; rw [hok]; rfl, by unfold pushL; rw [hok]; rfl⟩
        unfold pushOk at hok; unfold pushE
        cases hr : rightB n M with
        | false => simp
        | true => rw [hr] at hok; simp at hok; simp [hok]
      | true =>
        obtain ⟨h1, h2⟩ : rightB n M = true ∧ n ≠ 1099511627776 := by unfold pushOk at hok; simpa using hok
        refine .inr ⟨by unfold pushE; rw [if_pos h1, if_neg h2], by unfold pushN; rw [hok]; rfl, ?_⟩
        have h3 := merge_facts (d := d) h1 h2
        unfold pushL; rw [hok]; exact h3
  have Hpush := Lib.hid hpush; have Hpl : Hid (pl.length ≤ maxLen) := Lib.hid (by unfold maxLen; omega); have Hcase := Lib.hid hcase
  clear hpush hcase hpush0
  go_upto_region 3 with fail
  refine wp_region_T (n := 12) (S := fun wq => Below wr.heap.size wr wq) (by kernel_rfl) (by kernel_rfl) (below_drewN' (Below.refl _ _) 1) (fun hHeld => ?_)
  refine WalkT.take (i := 0) (oi := _) (v := _) rfl (by decide) (by kernel_rfl) (by kernel_rfl) (fun _ _ _ h => h) (yieldsIf_load_row (by kernel_rfl) 50 (Operand.tmp 5) rfl g5 (by rfl) 50 #[.int .u64 (n : Int), .slice A1 M.length cap1] (0, 0) _ (fun wq h => (Below.block h _ (Blk.lt HB5.out)).trans HB5.out) Tryd.underlying50 rfl info50) (by assumption) ?_
  try simp only [Act.put, List.setIfInBounds_toArray, List.set_cons_zero, List.set_cons_succ]
  refine WalkT.take (i := 1) (oi := _) (v := ?vt1) rfl (by decide) (by kernel_rfl) (by kernel_rfl) (fun _ _ _ h => h) (Or.inl ⟨by kernel_rfl, ?hyt1⟩) (by assumption) ?rt1
  case hyt1 => (intro wq hSw; go_simp; try (with_reducible rfl))
  try simp only [Act.put, List.setIfInBounds_toArray, List.set_cons_zero, List.set_cons_succ]
  refine WalkT.take (i := 2) (oi := _) (v := ?vt2) rfl (by decide) (by kernel_rfl) (by kernel_rfl) (fun _ _ _ h => h) (Or.inl ⟨by kernel_rfl, ?hyt2⟩) (by assumption) ?rt2
  case hyt2 => (intro wq hSw; go_simp; try (with_reducible rfl))
  try simp only [Act.put, List.setIfInBounds_toArray, List.set_cons_zero, List.set_cons_succ]
  refine WalkT.take (i := 3) (oi := _) (v := ?vt3) rfl (by decide) (by kernel_rfl) (by kernel_rfl) (fun _ _ _ h => h) (Or.inl ⟨by kernel_rfl, ?hyt3⟩) (by assumption) ?rt3
  case hyt3 => (intro wq hSw; go_simp; try (with_reducible rfl))
  try simp only [Act.put, List.setIfInBounds_toArray, List.set_cons_zero, List.set_cons_succ]
  refine WalkT.take (i := 4) (oi := _) (v := ?vt4) rfl (by decide) (by kernel_rfl) (by kernel_rfl) (fun _ _ _ h => h) (Or.inl ⟨by kernel_rfl, ?hyt4⟩) (by assumption) ?rt4
  case hyt4 => (intro wq hSw; go_simp; try (with_reducible rfl))
  try simp only [Act.put, List.setIfInBounds_toArray, List.set_cons_zero, List.set_cons_succ]
  refine WalkT.take (i := 5) (oi := _) (v := ?vt5) rfl (by decide) (by kernel_rfl) (by kernel_rfl) (fun _ _ _ h => h) (Or.inl ⟨by kernel_rfl, ?hyt5⟩) (by assumption) ?rt5
  case hyt5 => (intro wq hSw; go_simp; try (with_reducible rfl))
  try simp only [Act.put, List.setIfInBounds_toArray, List.set_cons_zero, List.set_cons_succ]
  refine WalkT.many (rs := [6, 10]) (by kernel_rfl) (by simp) (by simp) ?_
  refine AllT.cons (i := 6) (o := ?ot6) ?hot6 ?hkt6 ?hst6
  case hot6 => (simp only [List.getElem?_toArray, List.getElem?_cons_succ, List.getElem?_cons_zero]; exact rfl)
  case hkt6 =>
    intro K hK
    go_simp
    refine (Hpush.out _ hHeld).mono ?_
    rintro e x5 ⟨⟨u3, rfl, ho3⟩, hb⟩
    obtain ⟨A3, c3, hve, -, -⟩ := id (ho3.read Hpl.out)
    generalize hpq : pl.length = q3 at hve
    subst hve
    have Hpq := Lib.hid hpq; clear hpq
    have Ho3 := Lib.hid ho3
    have hS5 : Below wr.heap.size wr x5 := Below.trans hHeld (Below.mono hb (Below.size hHeld))
    have hS5k := Lib.hid hS5
    clear hb hHeld ho3
    go_simp
    refine hK.out _ _ hS5 (fun hHeld => ?_)
    clear hS5
    clear hK K
    try simp only [Act.put, List.setIfInBounds_toArray, List.set_cons_zero, List.set_cons_succ]
    refine WalkT.take (i := 7) (oi := _) (v := ?vt7) rfl (by decide) (by kernel_rfl) (by kernel_rfl) (fun _ _ _ h => h) (Or.inl ⟨by kernel_rfl, ?hyt7⟩) (by assumption) ?rt7
    case hyt7 => (intro wq hSw; go_simp; try (with_reducible rfl))
    try simp only [Act.put, List.setIfInBounds_toArray, List.set_cons_zero, List.set_cons_succ]
    refine WalkT.take (i := 8) (oi := _) (v := ?vt8) rfl (by decide) (by kernel_rfl) (by kernel_rfl) (fun _ _ _ h => h) (Or.inl ⟨by kernel_rfl, ?hyt8⟩) (by assumption) ?rt8
    case hyt8 => (intro wq hSw; go_simp; try (with_reducible rfl))
    try simp only [Act.put, List.setIfInBounds_toArray, List.set_cons_zero, List.set_cons_succ]
    refine WalkT.take (i := 9) (oi := _) (v := ?vt9) rfl (by decide) (by kernel_rfl) (by kernel_rfl) (fun _ _ _ h => h) (Or.inl ⟨by kernel_rfl, ?hyt9⟩) (by assumption) ?rt9
    case hyt9 => (intro wq hSw; go_simp; try (with_reducible rfl))
    try simp only [Act.put, List.setIfInBounds_toArray, List.set_cons_zero, List.set_cons_succ]
    refine WalkT.one (i := 10) (o := ?ot10) (by kernel_rfl) (by decide) ?hot10 ?hkt10
    case hot10 => (simp only [List.getElem?_toArray, List.getElem?_cons_succ, List.getElem?_cons_zero]; exact rfl)
    intro K hK
    go_simp
    refine hK.out _ _ (Below.alloc hHeld (Below.size hHeld) _) (fun hHeld => ?_)
    clear hK K
    try simp only [Act.put, List.setIfInBounds_toArray, List.set_cons_zero, List.set_cons_succ]
    refine WalkT.one (i := 11) (o := ?ot11) (by kernel_rfl) (by decide) ?hot11 ?hkt11
    case hot11 => (simp only [List.getElem?_toArray, List.getElem?_cons_succ, List.getElem?_cons_zero]; exact rfl)
    intro K hK
    have hS10 : Below wr.heap.size wr (x5.alloc (.cells #[(.int .u64 pn), (.slice A3 q3 c3)] 50)) := Below.trans hS5k.out (Below.mono (alloc_below' x5 _) (Below.size hS5k.out))
    have HA1 : Hid (Blk (x5.alloc (.cells #[(.int .u64 pn), (.slice A3 q3 c3)] 50)) x5.heap.size 50 #[(.int .u64 pn), (.slice A3 q3 c3)]) := Lib.hid (Blk.new _ _ _); have Ho4 : Hid (SOwn 0 (x5.alloc (.cells #[(.int .u64 pn), (.slice A3 q3 c3)] 50)) (.slice A3 q3 c3) pl) := Lib.hid (own_alloc' Ho3.out _)
    clear Ho3 hHeld
    go_simp
    refine hK.out _ _ hS10 (fun hHeld => ?_)
    clear hS10
    clear hK K
    try simp only [Act.put, List.setIfInBounds_toArray, List.set_cons_zero, List.set_cons_succ]
    refine WalkT.tail (by kernel_rfl) ?_
    generalize (x5.alloc (.cells #[(.int .u64 pn), (.slice A3 q3 c3)] 50)) = W1 at *
    generalize x5.heap.size = G at *
    have hB5 : Blk W1 g5 50 #[.int .u64 (n : Int), .slice A1 M.length cap1] := (Below.block hHeld _ (Blk.lt HB5.out)).trans HB5.out
    have hv5 := SRead.below Hv.out hHeld rfl; have hw5 := SRead.below Hw.out hHeld rfl
    have hb5 := Hbel.out.trans (Below.mono hHeld Hbel.out.size)
    have h35 := Ho4.out.read Hpl.out
    skip
    have a0 := HA1.out.cell 0; have a1 := HA1.out.cell 1; have c0 := hB5.cell 0; have c1 := hB5.cell 1
    simp only [List.getElem?_toArray, List.getElem?_cons_succ, List.getElem?_cons_zero] at a0 a1 c0 c1
    have HG := HA1; have Hs3 := Lib.hid h35; have Hs4 := Lib.hid hw5; have Hsv := Lib.hid hv5; have Hbl := Lib.hid hb5
    have HB5k := Lib.hid hB5
    clear HA1 Ho4 hB5 hv5 hw5 hb5 h35 HB5 Hv Hw Hbel hHeld
    simp only [List.drop_succ_cons, List.drop_zero]
    go_wp2_with fail
    refine (same_any Hsv.out Hs4.out).mono ?_
    rintro e W2 ⟨rfl, n8, rfl⟩
    have hbd := below_drewN' (Below.refl W1.heap.size W1) n8
    have hG2 : Blk (W1.drewN n8) G 50 _ := HG.out; have hB2 : Blk (W1.drewN n8) g5 50 _ := HB5k.out
    have h32 := SRead.below Hs3.out hbd rfl; have h42 := SRead.below Hs4.out hbd rfl; have hbl2 := Hbl.out.trans (Below.mono hbd Hbl.out.size)
    generalize W1.drewN n8 = W2 at *
    clear HG HB5k Hs3 Hs4 Hbl Hsv hbd a0 a1 c0 c1
    have a0 := Blk.cell hG2 0; have a1 := Blk.cell hG2 1; have c0 := Blk.cell hB2 0; have c1 := Blk.cell hB2 1
    simp only [List.getElem?_toArray, List.getElem?_cons_succ, List.getElem?_cons_zero] at a0 a1 c0 c1
    have HG := Lib.hid hG2; have HB5 := Lib.hid hB2; have Hs3 := Lib.hid h32; have Hs4 := Lib.hid h42; have Hbl := Lib.hid hbl2
    clear hG2 hB2 h32 h42 hbl2
    rcases Hcase.out with ⟨k1, k2, k3⟩ | ⟨k1, k2, k3, k4, k5, k6⟩
    · have hpe : (pe = 0) = False := eq_false k1
      have hpe2 : (pe != 0) = true := by rw [bne_iff_ne]; exact k1
      subst k2
      obtain rfl : q3 = 0 := by rw [← Hpq.out, k3]; rfl
      go_wp2_with fail
      refine (tfixed_any (HT.out.below Hbl.out) (HBru.out.below Hbl.out)).mono ?_
      rintro e w9 ⟨rfl, hb9⟩
      have Hend := Lib.hid (Hbl.out.trans (hb9.mono Hbl.out.size))
      go_wp2
      go_ret
      exact ⟨rfl, Hend.out⟩
    · subst k1
      obtain ⟨m1, hm1⟩ : ∃ m1, n + 1 = m1 := ⟨_, rfl⟩
      have hpn : pn = (m1 : Int) := by rw [k2]; omega
      subst hpn
      obtain ⟨r, hrq⟩ : ∃ r, q3 = r + 1 := ⟨q3 - 1, by have := Hpq.out; omega⟩
      have hn1 := (right_wide k3).2.2
      have Hm1 : Hid (m1 < 18446744073709551616) := Lib.hid (by omega)
      have Hrt : Hid (rightB m1 pl = true) := Lib.hid (by rw [← hm1]; exact k3)
      have hpq := Hpq.out
      have Hr1 : Hid (r ≤ pl.length) := Lib.hid (by omega)
      have Hr2 : Hid (r ≤ M.length) := Lib.hid (by omega)
      have Htk : Hid (pl.take r = M.take r) := Lib.hid (k6 r (by omega))
      have e1 : IntKind.i64.wrap ((q3 : Int) - 1) = (r : Int) := by rw [show (q3 : Int) - 1 = (r : Int) by omega]; exact IntWalk.i64_in _ (by omega)
      have e2 : IntKind.u64.wrap ((n : Int) + 1) = (m1 : Int) := by rw [show (n : Int) + 1 = (m1 : Int) by omega]; show (m1 : Int) % 18446744073709551616 = _; omega
      have p0 : (0 : Int) ≤ (r : Int) := by omega
      have p2 : (r : Int) ≤ (M.length : Int) := by omega
      have p3 := Hcap.out r (by omega)
      have p4 : (r : Int) ≤ (cap4 : Int) := by omega
      have p5 : r ≤ c3 := SRead_cap Hs3.out (by omega)
      have p6 : (r : Int) ≤ (c3 : Int) := by omega
      have p7 : r ≤ M.length := by omega
      clear k2 k3 k4 k5 k6 hpq hm1 hn1 hrq
      go_upto_region 9 with fail
      refine wp_region_T (n := 29) (S := fun wq => Below W2.heap.size W2 wq) (by kernel_rfl) (by kernel_rfl) (below_drewN' (Below.refl _ _) 1) (fun hHeld => ?_)
      refine WalkT.take (i := 0) (oi := _) (v := _) rfl (by decide) (by kernel_rfl) (by kernel_rfl) (fun _ _ _ h => h) (yieldsIf_load_row (by kernel_rfl) 50 (Operand.tmp 8) rfl G (by rfl) 50 _ (0, 0) _ (fun wq h => (Below.block h _ (Blk.lt HG.out)).trans HG.out) Tryd.underlying50 rfl info50) (by assumption) ?_
      try simp only [Act.put, List.setIfInBounds_toArray, List.set_cons_zero, List.set_cons_succ]
      refine WalkT.one (i := 1) (o := ?os1x1) (by kernel_rfl) (by decide) ?hos1x1 ?hks1x1
      case hos1x1 => (simp only [List.getElem?_toArray, List.getElem?_cons_succ, List.getElem?_cons_zero]; exact rfl)
      intro K hK
      go_simp
      refine (tright_any m1 Hm1.out (SRead.below Hs3.out hHeld rfl)).mono ?_
      rintro e y1 ⟨rfl, hb⟩
      rw [Hrt.out]
      have hS1 : Below W2.heap.size W2 y1 := Below.trans hHeld (Below.mono hb (Below.size hHeld))
      clear hb hHeld
      go_simp
      refine hK.out _ _ hS1 (fun hHeld => ?_)
      clear hS1
      clear hK K
      try simp only [Act.put, List.setIfInBounds_toArray, List.set_cons_zero, List.set_cons_succ]
      refine WalkT.take (i := 2) (oi := _) (v := ?vs1x2) rfl (by decide) (by kernel_rfl) (by kernel_rfl) (fun _ _ _ h => h) (Or.inl ⟨by kernel_rfl, ?hys1x2⟩) (by assumption) ?rs1x2
      case hys1x2 => (intro wq hSw; go_simp; try (with_reducible rfl))
      try simp only [Act.put, List.setIfInBounds_toArray, List.set_cons_zero, List.set_cons_succ]
      refine WalkT.take (i := 3) (oi := _) (v := ?vs1x3) rfl (by decide) (by kernel_rfl) (by kernel_rfl) (fun _ _ _ h => h) (Or.inl ⟨by kernel_rfl, ?hys1x3⟩) (by assumption) ?rs1x3
      case hys1x3 => (intro wq hSw; go_simp; try (with_reducible rfl))
      try simp only [Act.put, List.setIfInBounds_toArray, List.set_cons_zero, List.set_cons_succ]
      refine WalkT.take (i := 4) (oi := _) (v := ?vs1x4) rfl (by decide) (by kernel_rfl) (by kernel_rfl) (fun _ _ _ h => h) (Or.inl ⟨by kernel_rfl, ?hys1x4⟩) (by assumption) ?rs1x4
      case hys1x4 => (intro wq hSw; have q9 := Blk.cell ((Below.block hSw _ (Blk.lt HG.out)).trans HG.out) 0; simp only [List.getElem?_toArray, List.getElem?_cons_succ, List.getElem?_cons_zero] at q9; go_simp; try (with_reducible rfl))
      try simp only [Act.put, List.setIfInBounds_toArray, List.set_cons_zero, List.set_cons_succ]
      refine WalkT.take (i := 5) (oi := _) (v := ?vs1x5) rfl (by decide) (by kernel_rfl) (by kernel_rfl) (fun _ _ _ h => h) (Or.inl ⟨by kernel_rfl, ?hys1x5⟩) (by assumption) ?rs1x5
      case hys1x5 => (intro wq hSw; go_simp; try (with_reducible rfl))
      try simp only [Act.put, List.setIfInBounds_toArray, List.set_cons_zero, List.set_cons_succ]
      refine WalkT.take (i := 6) (oi := _) (v := ?vs1x6) rfl (by decide) (by kernel_rfl) (by kernel_rfl) (fun _ _ _ h => h) (Or.inl ⟨by kernel_rfl, ?hys1x6⟩) (by assumption) ?rs1x6
      case hys1x6 => (intro wq hSw; have q9 := Blk.cell ((Below.block hSw _ (Blk.lt HB5.out)).trans HB5.out) 0; simp only [List.getElem?_toArray, List.getElem?_cons_succ, List.getElem?_cons_zero] at q9; go_simp; try (with_reducible rfl))
      try simp only [Act.put, List.setIfInBounds_toArray, List.set_cons_zero, List.set_cons_succ]
      refine WalkT.take (i := 7) (oi := _) (v := ?vs1x7) rfl (by decide) (by kernel_rfl) (by kernel_rfl) (fun _ _ _ h => h) (Or.inl ⟨by kernel_rfl, ?hys1x7⟩) (by assumption) ?rs1x7
      case hys1x7 => (intro wq hSw; go_simp; try (with_reducible rfl))
      try simp only [Act.put, List.setIfInBounds_toArray, List.set_cons_zero, List.set_cons_succ]
      refine WalkT.take (i := 8) (oi := _) (v := ?vs1x8) rfl (by decide) (by kernel_rfl) (by kernel_rfl) (fun _ _ _ h => h) (Or.inl ⟨by kernel_rfl, ?hys1x8⟩) (by assumption) ?rs1x8
      case hys1x8 => (intro wq hSw; go_simp; try (with_reducible rfl))
      try simp only [Act.put, List.setIfInBounds_toArray, List.set_cons_zero, List.set_cons_succ]
      refine WalkT.take (i := 9) (oi := _) (v := ?vs1x9) rfl (by decide) (by kernel_rfl) (by kernel_rfl) (fun _ _ _ h => h) (Or.inl ⟨by kernel_rfl, ?hys1x9⟩) (by assumption) ?rs1x9
      case hys1x9 => (intro wq hSw; go_simp; try (with_reducible rfl))
      try simp only [Act.put, List.setIfInBounds_toArray, List.set_cons_zero, List.set_cons_succ]
      refine WalkT.take (i := 10) (oi := _) (v := ?vs1x10) rfl (by decide) (by kernel_rfl) (by kernel_rfl) (fun _ _ _ h => h) (Or.inl ⟨by kernel_rfl, ?hys1x10⟩) (by assumption) ?rs1x10
      case hys1x10 => (intro wq hSw; go_simp; try (with_reducible rfl))
      try simp only [Act.put, List.setIfInBounds_toArray, List.set_cons_zero, List.set_cons_succ]
      refine WalkT.take (i := 11) (oi := _) (v := ?vs1x11) rfl (by decide) (by kernel_rfl) (by kernel_rfl) (fun _ _ _ h => h) (Or.inl ⟨by kernel_rfl, ?hys1x11⟩) (by assumption) ?rs1x11
      case hys1x11 => (intro wq hSw; go_simp; try (with_reducible rfl))
      try simp only [Act.put, List.setIfInBounds_toArray, List.set_cons_zero, List.set_cons_succ]
      refine WalkT.take (i := 12) (oi := _) (v := ?vs1x12) rfl (by decide) (by kernel_rfl) (by kernel_rfl) (fun _ _ _ h => h) (Or.inl ⟨by kernel_rfl, ?hys1x12⟩) (by assumption) ?rs1x12
      case hys1x12 => (intro wq hSw; go_simp; try (with_reducible rfl))
      try simp only [Act.put, List.setIfInBounds_toArray, List.set_cons_zero, List.set_cons_succ]
      refine WalkT.take (i := 13) (oi := _) (v := ?vs1x13) rfl (by decide) (by kernel_rfl) (by kernel_rfl) (fun _ _ _ h => h) (Or.inl ⟨by kernel_rfl, ?hys1x13⟩) (by assumption) ?rs1x13
      case hys1x13 => (intro wq hSw; go_simp; try (with_reducible rfl))
      try simp only [Act.put, List.setIfInBounds_toArray, List.set_cons_zero, List.set_cons_succ]
      refine WalkT.take (i := 14) (oi := _) (v := ?vs1x14) rfl (by decide) (by kernel_rfl) (by kernel_rfl) (fun _ _ _ h => h) (Or.inl ⟨by kernel_rfl, ?hys1x14⟩) (by assumption) ?rs1x14
      case hys1x14 => (intro wq hSw; go_simp; try (with_reducible rfl))
      try simp only [Act.put, List.setIfInBounds_toArray, List.set_cons_zero, List.set_cons_succ]
      refine WalkT.take (i := 15) (oi := _) (v := ?vs1x15) rfl (by decide) (by kernel_rfl) (by kernel_rfl) (fun _ _ _ h => h) (Or.inl ⟨by kernel_rfl, ?hys1x15⟩) (by assumption) ?rs1x15
      case hys1x15 => (intro wq hSw; go_simp; try (with_reducible rfl))
      try simp only [Act.put, List.setIfInBounds_toArray, List.set_cons_zero, List.set_cons_succ]
      refine WalkT.take (i := 16) (oi := _) (v := ?vs1x16) rfl (by decide) (by kernel_rfl) (by kernel_rfl) (fun _ _ _ h => h) (Or.inl ⟨by kernel_rfl, ?hys1x16⟩) (by assumption) ?rs1x16
      case hys1x16 => (intro wq hSw; go_simp; try (with_reducible rfl))
      try simp only [Act.put, List.setIfInBounds_toArray, List.set_cons_zero, List.set_cons_succ]
      refine WalkT.take (i := 17) (oi := _) (v := ?vs1x17) rfl (by decide) (by kernel_rfl) (by kernel_rfl) (fun _ _ _ h => h) (Or.inl ⟨by kernel_rfl, ?hys1x17⟩) (by assumption) ?rs1x17
      case hys1x17 => (intro wq hSw; go_simp; try (with_reducible rfl))
      try simp only [Act.put, List.setIfInBounds_toArray, List.set_cons_zero, List.set_cons_succ]
      refine WalkT.take (i := 18) (oi := _) (v := ?vs1x18) rfl (by decide) (by kernel_rfl) (by kernel_rfl) (fun _ _ _ h => h) (Or.inl ⟨by kernel_rfl, ?hys1x18⟩) (by assumption) ?rs1x18
      case hys1x18 => (intro wq hSw; have q9 := Blk.cell ((Below.block hSw _ (Blk.lt HG.out)).trans HG.out) 1; simp only [List.getElem?_toArray, List.getElem?_cons_succ, List.getElem?_cons_zero] at q9; go_simp; try (with_reducible rfl))
      try simp only [Act.put, List.setIfInBounds_toArray, List.set_cons_zero, List.set_cons_succ]
      refine WalkT.take (i := 19) (oi := _) (v := ?vs1x19) rfl (by decide) (by kernel_rfl) (by kernel_rfl) (fun _ _ _ h => h) (Or.inl ⟨by kernel_rfl, ?hys1x19⟩) (by assumption) ?rs1x19
      case hys1x19 => (intro wq hSw; go_simp; try (with_reducible rfl))
      try simp only [Act.put, List.setIfInBounds_toArray, List.set_cons_zero, List.set_cons_succ]
      refine WalkT.take (i := 20) (oi := _) (v := ?vs1x20) rfl (by decide) (by kernel_rfl) (by kernel_rfl) (fun _ _ _ h => h) (Or.inl ⟨by kernel_rfl, ?hys1x20⟩) (by assumption) ?rs1x20
      case hys1x20 => (intro wq hSw; go_simp; try (with_reducible rfl))
      try simp only [Act.put, List.setIfInBounds_toArray, List.set_cons_zero, List.set_cons_succ]
      refine WalkT.take (i := 21) (oi := _) (v := ?vs1x21) rfl (by decide) (by kernel_rfl) (by kernel_rfl) (fun _ _ _ h => h) (Or.inl ⟨by kernel_rfl, ?hys1x21⟩) (by assumption) ?rs1x21
      case hys1x21 => (intro wq hSw; go_simp; try (with_reducible rfl))
      try simp only [Act.put, List.setIfInBounds_toArray, List.set_cons_zero, List.set_cons_succ]
      refine WalkT.take (i := 22) (oi := _) (v := ?vs1x22) rfl (by decide) (by kernel_rfl) (by kernel_rfl) (fun _ _ _ h => h) (Or.inl ⟨by kernel_rfl, ?hys1x22⟩) (by assumption) ?rs1x22
      case hys1x22 => (intro wq hSw; go_simp; try (with_reducible rfl))
      try simp only [Act.put, List.setIfInBounds_toArray, List.set_cons_zero, List.set_cons_succ]
      refine WalkT.take (i := 23) (oi := _) (v := ?vs1x23) rfl (by decide) (by kernel_rfl) (by kernel_rfl) (fun _ _ _ h => h) (Or.inl ⟨by kernel_rfl, ?hys1x23⟩) (by assumption) ?rs1x23
      case hys1x23 => (intro wq hSw; go_simp; try (with_reducible rfl))
      try simp only [Act.put, List.setIfInBounds_toArray, List.set_cons_zero, List.set_cons_succ]
      refine WalkT.one (i := 24) (o := ?os1x24) (by kernel_rfl) (by decide) ?hos1x24 ?hks1x24
      case hos1x24 => (simp only [List.getElem?_toArray, List.getElem?_cons_succ, List.getElem?_cons_zero]; exact rfl)
      intro K hK
      go_simp
      refine (same_any (SRead.take (SRead.below Hs3.out hHeld rfl) r Hr1.out) (SRead.take (SRead.below Hs4.out hHeld rfl) r Hr2.out)).mono ?_
      rintro e y24 ⟨rfl, n8, rfl⟩
      rw [decide_eq_true Htk.out]
      have hS24 : Below W2.heap.size W2 (y1.drewN n8) := below_drewN' hHeld n8
      clear hHeld
      go_simp
      refine hK.out _ _ hS24 (fun hHeld => ?_)
      clear hS24
      clear hK K
      try simp only [Act.put, List.setIfInBounds_toArray, List.set_cons_zero, List.set_cons_succ]
      refine WalkT.take (i := 25) (oi := _) (v := ?vs1x25) rfl (by decide) (by kernel_rfl) (by kernel_rfl) (fun _ _ _ h => h) (Or.inl ⟨by kernel_rfl, ?hys1x25⟩) (by assumption) ?rs1x25
      case hys1x25 => (intro wq hSw; go_simp; try (with_reducible rfl))
      try simp only [Act.put, List.setIfInBounds_toArray, List.set_cons_zero, List.set_cons_succ]
      refine WalkT.take (i := 26) (oi := _) (v := ?vs1x26) rfl (by decide) (by kernel_rfl) (by kernel_rfl) (fun _ _ _ h => h) (Or.inl ⟨by kernel_rfl, ?hys1x26⟩) (by assumption) ?rs1x26
      case hys1x26 => (intro wq hSw; go_simp; try (with_reducible rfl))
      try simp only [Act.put, List.setIfInBounds_toArray, List.set_cons_zero, List.set_cons_succ]
      refine WalkT.one (i := 27) (o := ?os1x27) (by kernel_rfl) (by decide) ?hos1x27 ?hks1x27
      case hos1x27 => (simp only [List.getElem?_toArray, List.getElem?_cons_succ, List.getElem?_cons_zero]; exact rfl)
      intro K hK
      go_simp
      refine (tfixed_any (HT.out.below (Below.trans Hbl.out (Below.mono hHeld Hbl.out.size))) (HBru.out.below (Below.trans Hbl.out (Below.mono hHeld Hbl.out.size)))).mono ?_
      rintro e y27 ⟨rfl, hb⟩
      have hS27 : Below W2.heap.size W2 y27 := Below.trans hHeld (Below.mono hb (Below.size hHeld))
      clear hb hHeld
      go_simp
      refine hK.out _ _ hS27 (fun hHeld => ?_)
      clear hS27
      clear hK K
      try simp only [Act.put, List.setIfInBounds_toArray, List.set_cons_zero, List.set_cons_succ]
      refine WalkT.take (i := 28) (oi := _) (v := ?vs1x28) rfl (by decide) (by kernel_rfl) (by kernel_rfl) (fun _ _ _ h => h) (Or.inl ⟨by kernel_rfl, ?hys1x28⟩) (by assumption) ?rs1x28
      case hys1x28 => (intro wq hSw; go_simp; try (with_reducible rfl))
      try simp only [Act.put, List.setIfInBounds_toArray, List.set_cons_zero, List.set_cons_succ]
      refine WalkT.tail (by kernel_rfl) ?_
      have Hend := Lib.hid (Hbl.out.trans (Below.mono hHeld Hbl.out.size)); clear hHeld
      simp only [List.drop_succ_cons, List.drop_zero]
      go_wp2
      go_ret
      exact ⟨rfl, Hend.out⟩
  refine AllT.cons (i := 10) (o := ?ot12) ?hot12 ?hkt12 ?hst12
  case hot12 => (simp only [List.getElem?_toArray, List.getElem?_cons_succ, List.getElem?_cons_zero]; exact rfl)
  case hkt12 =>
    intro K hK
    go_simp
    have hA : Blk (wr.drew.alloc (.cells Z50 50)) wr.heap.size 50 Z50 := Blk.new _ _ _
    refine hK.out _ _ (Below.alloc hHeld (Below.size hHeld) _) (fun hHeld => ?_)
    clear hK K
    try simp only [Act.put, List.setIfInBounds_toArray, List.set_cons_zero, List.set_cons_succ]
    refine WalkT.one (i := 6) (o := ?ot13) (by kernel_rfl) (by decide) ?hot13 ?hkt13
    case hot13 => (simp only [List.getElem?_toArray, List.getElem?_cons_succ, List.getElem?_cons_zero]; exact rfl)
    intro K hK
    go_simp
    refine (Hpush.out _ hHeld).mono ?_
    rintro e x5 ⟨⟨u3, rfl, ho3⟩, hb⟩
    obtain ⟨A3, c3, hve, -, -⟩ := id (ho3.read Hpl.out)
    generalize hpq : pl.length = q3 at hve
    subst hve
    have Hpq := Lib.hid hpq; clear hpq
    have Ho3 := Lib.hid ho3
    have hS5 : Below wr.heap.size wr x5 := Below.trans hHeld (Below.mono hb (Below.size hHeld))
    have hZ : Blk x5 wr.heap.size 50 Z50 := (Below.block hb _ (Blk.lt hA)).trans hA
    clear hA
    have hA := hZ
    clear hZ
    clear hb hHeld ho3
    go_simp
    refine hK.out _ _ hS5 (fun hHeld => ?_)
    clear hS5
    clear hK K
    try simp only [Act.put, List.setIfInBounds_toArray, List.set_cons_zero, List.set_cons_succ]
    refine WalkT.take (i := 7) (oi := _) (v := ?vt14) rfl (by decide) (by kernel_rfl) (by kernel_rfl) (fun _ _ _ h => h) (Or.inl ⟨by kernel_rfl, ?hyt14⟩) (by assumption) ?rt14
    case hyt14 => (intro wq hSw; go_simp; try (with_reducible rfl))
    try simp only [Act.put, List.setIfInBounds_toArray, List.set_cons_zero, List.set_cons_succ]
    refine WalkT.take (i := 8) (oi := _) (v := ?vt15) rfl (by decide) (by kernel_rfl) (by kernel_rfl) (fun _ _ _ h => h) (Or.inl ⟨by kernel_rfl, ?hyt15⟩) (by assumption) ?rt15
    case hyt15 => (intro wq hSw; go_simp; try (with_reducible rfl))
    try simp only [Act.put, List.setIfInBounds_toArray, List.set_cons_zero, List.set_cons_succ]
    refine WalkT.take (i := 9) (oi := _) (v := ?vt16) rfl (by decide) (by kernel_rfl) (by kernel_rfl) (fun _ _ _ h => h) (Or.inl ⟨by kernel_rfl, ?hyt16⟩) (by assumption) ?rt16
    case hyt16 => (intro wq hSw; go_simp; try (with_reducible rfl))
    try simp only [Act.put, List.setIfInBounds_toArray, List.set_cons_zero, List.set_cons_succ]
    refine WalkT.one (i := 11) (o := ?ot17) (by kernel_rfl) (by decide) ?hot17 ?hkt17
    case hot17 => (simp only [List.getElem?_toArray, List.getElem?_cons_succ, List.getElem?_cons_zero]; exact rfl)
    intro K hK
    have z0 := hA.cell 0; have z1 := hA.cell 1; have f0 := hA.frozen 0; have f1 := hA.frozen 1
    simp only [List.getElem?_toArray, List.getElem?_cons_succ, List.getElem?_cons_zero] at z0 z1
    have hS10 : Below wr.heap.size wr ((x5.setCell ⟨wr.heap.size, 0, none⟩ (.int .u64 pn)).setCell ⟨wr.heap.size, 1, none⟩ (.slice A3 q3 c3)) := (Below.setCell hHeld (p := ⟨wr.heap.size, 0, none⟩) (Nat.le_refl _) _).setCell (p := ⟨wr.heap.size, 1, none⟩) (Nat.le_refl _) _
    have HA1 := Lib.hid (blk_two hA (.int .u64 pn) (.slice A3 q3 c3)); have Ho4 := Lib.hid (SOwn.two Ho3.out hA (.int .u64 pn) (.slice A3 q3 c3))
    clear hA Ho3 hHeld
    go_simp
    refine hK.out _ _ hS10 (fun hHeld => ?_)
    clear hS10 z0 z1 f0 f1
    clear hK K
    try simp only [Act.put, List.setIfInBounds_toArray, List.set_cons_zero, List.set_cons_succ]
    refine WalkT.tail (by kernel_rfl) ?_
    generalize ((x5.setCell ⟨wr.heap.size, 0, none⟩ (.int .u64 pn)).setCell ⟨wr.heap.size, 1, none⟩ (.slice A3 q3 c3)) = W1 at *
    obtain ⟨G, hG⟩ : ∃ G, wr.heap.size = G := ⟨_, rfl⟩
    rw [hG] at HA1
    have HGe := Lib.hid hG
    try rw [hG]
    clear hG
    have hB5 : Blk W1 g5 50 #[.int .u64 (n : Int), .slice A1 M.length cap1] := (Below.block hHeld _ (Blk.lt HB5.out)).trans HB5.out
    have hv5 := SRead.below Hv.out hHeld rfl; have hw5 := SRead.below Hw.out hHeld rfl
    have hb5 := Hbel.out.trans (Below.mono hHeld Hbel.out.size)
    have h35 := Ho4.out.read Hpl.out
    skip
    have a0 := HA1.out.cell 0; have a1 := HA1.out.cell 1; have c0 := hB5.cell 0; have c1 := hB5.cell 1
    simp only [List.getElem?_toArray, List.getElem?_cons_succ, List.getElem?_cons_zero] at a0 a1 c0 c1
    have HG := HA1; have Hs3 := Lib.hid h35; have Hs4 := Lib.hid hw5; have Hsv := Lib.hid hv5; have Hbl := Lib.hid hb5
    have HB5k := Lib.hid hB5
    clear HA1 Ho4 hB5 hv5 hw5 hb5 h35 HB5 Hv Hw Hbel hHeld
    simp only [List.drop_succ_cons, List.drop_zero]
    go_wp2_with fail
    refine (same_any Hsv.out Hs4.out).mono ?_
    rintro e W2 ⟨rfl, n8, rfl⟩
    have hbd := below_drewN' (Below.refl W1.heap.size W1) n8
    have hG2 : Blk (W1.drewN n8) G 50 _ := HG.out; have hB2 : Blk (W1.drewN n8) g5 50 _ := HB5k.out
    have h32 := SRead.below Hs3.out hbd rfl; have h42 := SRead.below Hs4.out hbd rfl; have hbl2 := Hbl.out.trans (Below.mono hbd Hbl.out.size)
    generalize W1.drewN n8 = W2 at *
    clear HG HB5k Hs3 Hs4 Hbl Hsv hbd a0 a1 c0 c1
    have a0 := Blk.cell hG2 0; have a1 := Blk.cell hG2 1; have c0 := Blk.cell hB2 0; have c1 := Blk.cell hB2 1
    simp only [List.getElem?_toArray, List.getElem?_cons_succ, List.getElem?_cons_zero] at a0 a1 c0 c1
    have HG := Lib.hid hG2; have HB5 := Lib.hid hB2; have Hs3 := Lib.hid h32; have Hs4 := Lib.hid h42; have Hbl := Lib.hid hbl2
    clear hG2 hB2 h32 h42 hbl2
    rcases Hcase.out with ⟨k1, k2, k3⟩ | ⟨k1, k2, k3, k4, k5, k6⟩
    · have hpe : (pe = 0) = False := eq_false k1
      have hpe2 : (pe != 0) = true := by rw [bne_iff_ne]; exact k1
      subst k2
      obtain rfl : q3 = 0 := by rw [← Hpq.out, k3]; rfl
      go_wp2_with fail
      refine (tfixed_any (HT.out.below Hbl.out) (HBru.out.below Hbl.out)).mono ?_
      rintro e w9 ⟨rfl, hb9⟩
      have Hend := Lib.hid (Hbl.out.trans (hb9.mono Hbl.out.size))
      go_wp2
      go_ret
      exact ⟨rfl, Hend.out⟩
    · subst k1
      obtain ⟨m1, hm1⟩ : ∃ m1, n + 1 = m1 := ⟨_, rfl⟩
      have hpn : pn = (m1 : Int) := by rw [k2]; omega
      subst hpn
      obtain ⟨r, hrq⟩ : ∃ r, q3 = r + 1 := ⟨q3 - 1, by have := Hpq.out; omega⟩
      have hn1 := (right_wide k3).2.2
      have Hm1 : Hid (m1 < 18446744073709551616) := Lib.hid (by omega)
      have Hrt : Hid (rightB m1 pl = true) := Lib.hid (by rw [← hm1]; exact k3)
      have hpq := Hpq.out
      have Hr1 : Hid (r ≤ pl.length) := Lib.hid (by omega)
      have Hr2 : Hid (r ≤ M.length) := Lib.hid (by omega)
      have Htk : Hid (pl.take r = M.take r) := Lib.hid (k6 r (by omega))
      have e1 : IntKind.i64.wrap ((q3 : Int) - 1) = (r : Int) := by rw [show (q3 : Int) - 1 = (r : Int) by omega]; exact IntWalk.i64_in _ (by omega)
      have e2 : IntKind.u64.wrap ((n : Int) + 1) = (m1 : Int) := by rw [show (n : Int) + 1 = (m1 : Int) by omega]; show (m1 : Int) % 18446744073709551616 = _; omega
      have p0 : (0 : Int) ≤ (r : Int) := by omega
      have p2 : (r : Int) ≤ (M.length : Int) := by omega
      have p3 := Hcap.out r (by omega)
      have p4 : (r : Int) ≤ (cap4 : Int) := by omega
      have p5 : r ≤ c3 := SRead_cap Hs3.out (by omega)
      have p6 : (r : Int) ≤ (c3 : Int) := by omega
      have p7 : r ≤ M.length := by omega
      clear k2 k3 k4 k5 k6 hpq hm1 hn1 hrq
      go_upto_region 9 with fail
      refine wp_region_T (n := 29) (S := fun wq => Below W2.heap.size W2 wq) (by kernel_rfl) (by kernel_rfl) (below_drewN' (Below.refl _ _) 1) (fun hHeld => ?_)
      refine WalkT.take (i := 0) (oi := _) (v := _) rfl (by decide) (by kernel_rfl) (by kernel_rfl) (fun _ _ _ h => h) (yieldsIf_load_row (by kernel_rfl) 50 (Operand.tmp 8) rfl G (by rfl) 50 _ (0, 0) _ (fun wq h => (Below.block h _ (Blk.lt HG.out)).trans HG.out) Tryd.underlying50 rfl info50) (by assumption) ?_
      try simp only [Act.put, List.setIfInBounds_toArray, List.set_cons_zero, List.set_cons_succ]
      refine WalkT.one (i := 1) (o := ?os2x1) (by kernel_rfl) (by decide) ?hos2x1 ?hks2x1
      case hos2x1 => (simp only [List.getElem?_toArray, List.getElem?_cons_succ, List.getElem?_cons_zero]; exact rfl)
      intro K hK
      go_simp
      refine (tright_any m1 Hm1.out (SRead.below Hs3.out hHeld rfl)).mono ?_
      rintro e y1 ⟨rfl, hb⟩
      rw [Hrt.out]
      have hS1 : Below W2.heap.size W2 y1 := Below.trans hHeld (Below.mono hb (Below.size hHeld))
      clear hb hHeld
      go_simp
      refine hK.out _ _ hS1 (fun hHeld => ?_)
      clear hS1
      clear hK K
      try simp only [Act.put, List.setIfInBounds_toArray, List.set_cons_zero, List.set_cons_succ]
      refine WalkT.take (i := 2) (oi := _) (v := ?vs2x2) rfl (by decide) (by kernel_rfl) (by kernel_rfl) (fun _ _ _ h => h) (Or.inl ⟨by kernel_rfl, ?hys2x2⟩) (by assumption) ?rs2x2
      case hys2x2 => (intro wq hSw; go_simp; try (with_reducible rfl))
      try simp only [Act.put, List.setIfInBounds_toArray, List.set_cons_zero, List.set_cons_succ]
      refine WalkT.take (i := 3) (oi := _) (v := ?vs2x3) rfl (by decide) (by kernel_rfl) (by kernel_rfl) (fun _ _ _ h => h) (Or.inl ⟨by kernel_rfl, ?hys2x3⟩) (by assumption) ?rs2x3
      case hys2x3 => (intro wq hSw; go_simp; try (with_reducible rfl))
      try simp only [Act.put, List.setIfInBounds_toArray, List.set_cons_zero, List.set_cons_succ]
      refine WalkT.take (i := 4) (oi := _) (v := ?vs2x4) rfl (by decide) (by kernel_rfl) (by kernel_rfl) (fun _ _ _ h => h) (Or.inl ⟨by kernel_rfl, ?hys2x4⟩) (by assumption) ?rs2x4
      case hys2x4 => (intro wq hSw; have q9 := Blk.cell ((Below.block hSw _ (Blk.lt HG.out)).trans HG.out) 0; simp only [List.getElem?_toArray, List.getElem?_cons_succ, List.getElem?_cons_zero] at q9; go_simp; try (with_reducible rfl))
      try simp only [Act.put, List.setIfInBounds_toArray, List.set_cons_zero, List.set_cons_succ]
      refine WalkT.take (i := 5) (oi := _) (v := ?vs2x5) rfl (by decide) (by kernel_rfl) (by kernel_rfl) (fun _ _ _ h => h) (Or.inl ⟨by kernel_rfl, ?hys2x5⟩) (by assumption) ?rs2x5
      case hys2x5 => (intro wq hSw; go_simp; try (with_reducible rfl))
      try simp only [Act.put, List.setIfInBounds_toArray, List.set_cons_zero, List.set_cons_succ]
      refine WalkT.take (i := 6) (oi := _) (v := ?vs2x6) rfl (by decide) (by kernel_rfl) (by kernel_rfl) (fun _ _ _ h => h) (Or.inl ⟨by kernel_rfl, ?hys2x6⟩) (by assumption) ?rs2x6
      case hys2x6 => (intro wq hSw; have q9 := Blk.cell ((Below.block hSw _ (Blk.lt HB5.out)).trans HB5.out) 0; simp only [List.getElem?_toArray, List.getElem?_cons_succ, List.getElem?_cons_zero] at q9; go_simp; try (with_reducible rfl))
      try simp only [Act.put, List.setIfInBounds_toArray, List.set_cons_zero, List.set_cons_succ]
      refine WalkT.take (i := 7) (oi := _) (v := ?vs2x7) rfl (by decide) (by kernel_rfl) (by kernel_rfl) (fun _ _ _ h => h) (Or.inl ⟨by kernel_rfl, ?hys2x7⟩) (by assumption) ?rs2x7
      case hys2x7 => (intro wq hSw; go_simp; try (with_reducible rfl))
      try simp only [Act.put, List.setIfInBounds_toArray, List.set_cons_zero, List.set_cons_succ]
      refine WalkT.take (i := 8) (oi := _) (v := ?vs2x8) rfl (by decide) (by kernel_rfl) (by kernel_rfl) (fun _ _ _ h => h) (Or.inl ⟨by kernel_rfl, ?hys2x8⟩) (by assumption) ?rs2x8
      case hys2x8 => (intro wq hSw; go_simp; try (with_reducible rfl))
      try simp only [Act.put, List.setIfInBounds_toArray, List.set_cons_zero, List.set_cons_succ]
      refine WalkT.take (i := 9) (oi := _) (v := ?vs2x9) rfl (by decide) (by kernel_rfl) (by kernel_rfl) (fun _ _ _ h => h) (Or.inl ⟨by kernel_rfl, ?hys2x9⟩) (by assumption) ?rs2x9
      case hys2x9 => (intro wq hSw; go_simp; try (with_reducible rfl))
      try simp only [Act.put, List.setIfInBounds_toArray, List.set_cons_zero, List.set_cons_succ]
      refine WalkT.take (i := 10) (oi := _) (v := ?vs2x10) rfl (by decide) (by kernel_rfl) (by kernel_rfl) (fun _ _ _ h => h) (Or.inl ⟨by kernel_rfl, ?hys2x10⟩) (by assumption) ?rs2x10
      case hys2x10 => (intro wq hSw; go_simp; try (with_reducible rfl))
      try simp only [Act.put, List.setIfInBounds_toArray, List.set_cons_zero, List.set_cons_succ]
      refine WalkT.take (i := 11) (oi := _) (v := ?vs2x11) rfl (by decide) (by kernel_rfl) (by kernel_rfl) (fun _ _ _ h => h) (Or.inl ⟨by kernel_rfl, ?hys2x11⟩) (by assumption) ?rs2x11
      case hys2x11 => (intro wq hSw; go_simp; try (with_reducible rfl))
      try simp only [Act.put, List.setIfInBounds_toArray, List.set_cons_zero, List.set_cons_succ]
      refine WalkT.take (i := 12) (oi := _) (v := ?vs2x12) rfl (by decide) (by kernel_rfl) (by kernel_rfl) (fun _ _ _ h => h) (Or.inl ⟨by kernel_rfl, ?hys2x12⟩) (by assumption) ?rs2x12
      case hys2x12 => (intro wq hSw; go_simp; try (with_reducible rfl))
      try simp only [Act.put, List.setIfInBounds_toArray, List.set_cons_zero, List.set_cons_succ]
      refine WalkT.take (i := 13) (oi := _) (v := ?vs2x13) rfl (by decide) (by kernel_rfl) (by kernel_rfl) (fun _ _ _ h => h) (Or.inl ⟨by kernel_rfl, ?hys2x13⟩) (by assumption) ?rs2x13
      case hys2x13 => (intro wq hSw; go_simp; try (with_reducible rfl))
      try simp only [Act.put, List.setIfInBounds_toArray, List.set_cons_zero, List.set_cons_succ]
      refine WalkT.take (i := 14) (oi := _) (v := ?vs2x14) rfl (by decide) (by kernel_rfl) (by kernel_rfl) (fun _ _ _ h => h) (Or.inl ⟨by kernel_rfl, ?hys2x14⟩) (by assumption) ?rs2x14
      case hys2x14 => (intro wq hSw; go_simp; try (with_reducible rfl))
      try simp only [Act.put, List.setIfInBounds_toArray, List.set_cons_zero, List.set_cons_succ]
      refine WalkT.take (i := 15) (oi := _) (v := ?vs2x15) rfl (by decide) (by kernel_rfl) (by kernel_rfl) (fun _ _ _ h => h) (Or.inl ⟨by kernel_rfl, ?hys2x15⟩) (by assumption) ?rs2x15
      case hys2x15 => (intro wq hSw; go_simp; try (with_reducible rfl))
      try simp only [Act.put, List.setIfInBounds_toArray, List.set_cons_zero, List.set_cons_succ]
      refine WalkT.take (i := 16) (oi := _) (v := ?vs2x16) rfl (by decide) (by kernel_rfl) (by kernel_rfl) (fun _ _ _ h => h) (Or.inl ⟨by kernel_rfl, ?hys2x16⟩) (by assumption) ?rs2x16
      case hys2x16 => (intro wq hSw; go_simp; try (with_reducible rfl))
      try simp only [Act.put, List.setIfInBounds_toArray, List.set_cons_zero, List.set_cons_succ]
      refine WalkT.take (i := 17) (oi := _) (v := ?vs2x17) rfl (by decide) (by kernel_rfl) (by kernel_rfl) (fun _ _ _ h => h) (Or.inl ⟨by kernel_rfl, ?hys2x17⟩) (by assumption) ?rs2x17
      case hys2x17 => (intro wq hSw; go_simp; try (with_reducible rfl))
      try simp only [Act.put, List.setIfInBounds_toArray, List.set_cons_zero, List.set_cons_succ]
      refine WalkT.take (i := 18) (oi := _) (v := ?vs2x18) rfl (by decide) (by kernel_rfl) (by kernel_rfl) (fun _ _ _ h => h) (Or.inl ⟨by kernel_rfl, ?hys2x18⟩) (by assumption) ?rs2x18
      case hys2x18 => (intro wq hSw; have q9 := Blk.cell ((Below.block hSw _ (Blk.lt HG.out)).trans HG.out) 1; simp only [List.getElem?_toArray, List.getElem?_cons_succ, List.getElem?_cons_zero] at q9; go_simp; try (with_reducible rfl))
      try simp only [Act.put, List.setIfInBounds_toArray, List.set_cons_zero, List.set_cons_succ]
      refine WalkT.take (i := 19) (oi := _) (v := ?vs2x19) rfl (by decide) (by kernel_rfl) (by kernel_rfl) (fun _ _ _ h => h) (Or.inl ⟨by kernel_rfl, ?hys2x19⟩) (by assumption) ?rs2x19
      case hys2x19 => (intro wq hSw; go_simp; try (with_reducible rfl))
      try simp only [Act.put, List.setIfInBounds_toArray, List.set_cons_zero, List.set_cons_succ]
      refine WalkT.take (i := 20) (oi := _) (v := ?vs2x20) rfl (by decide) (by kernel_rfl) (by kernel_rfl) (fun _ _ _ h => h) (Or.inl ⟨by kernel_rfl, ?hys2x20⟩) (by assumption) ?rs2x20
      case hys2x20 => (intro wq hSw; go_simp; try (with_reducible rfl))
      try simp only [Act.put, List.setIfInBounds_toArray, List.set_cons_zero, List.set_cons_succ]
      refine WalkT.take (i := 21) (oi := _) (v := ?vs2x21) rfl (by decide) (by kernel_rfl) (by kernel_rfl) (fun _ _ _ h => h) (Or.inl ⟨by kernel_rfl, ?hys2x21⟩) (by assumption) ?rs2x21
      case hys2x21 => (intro wq hSw; go_simp; try (with_reducible rfl))
      try simp only [Act.put, List.setIfInBounds_toArray, List.set_cons_zero, List.set_cons_succ]
      refine WalkT.take (i := 22) (oi := _) (v := ?vs2x22) rfl (by decide) (by kernel_rfl) (by kernel_rfl) (fun _ _ _ h => h) (Or.inl ⟨by kernel_rfl, ?hys2x22⟩) (by assumption) ?rs2x22
      case hys2x22 => (intro wq hSw; go_simp; try (with_reducible rfl))
      try simp only [Act.put, List.setIfInBounds_toArray, List.set_cons_zero, List.set_cons_succ]
      refine WalkT.take (i := 23) (oi := _) (v := ?vs2x23) rfl (by decide) (by kernel_rfl) (by kernel_rfl) (fun _ _ _ h => h) (Or.inl ⟨by kernel_rfl, ?hys2x23⟩) (by assumption) ?rs2x23
      case hys2x23 => (intro wq hSw; go_simp; try (with_reducible rfl))
      try simp only [Act.put, List.setIfInBounds_toArray, List.set_cons_zero, List.set_cons_succ]
      refine WalkT.one (i := 24) (o := ?os2x24) (by kernel_rfl) (by decide) ?hos2x24 ?hks2x24
      case hos2x24 => (simp only [List.getElem?_toArray, List.getElem?_cons_succ, List.getElem?_cons_zero]; exact rfl)
      intro K hK
      go_simp
      refine (same_any (SRead.take (SRead.below Hs3.out hHeld rfl) r Hr1.out) (SRead.take (SRead.below Hs4.out hHeld rfl) r Hr2.out)).mono ?_
      rintro e y24 ⟨rfl, n8, rfl⟩
      rw [decide_eq_true Htk.out]
      have hS24 : Below W2.heap.size W2 (y1.drewN n8) := below_drewN' hHeld n8
      clear hHeld
      go_simp
      refine hK.out _ _ hS24 (fun hHeld => ?_)
      clear hS24
      clear hK K
      try simp only [Act.put, List.setIfInBounds_toArray, List.set_cons_zero, List.set_cons_succ]
      refine WalkT.take (i := 25) (oi := _) (v := ?vs2x25) rfl (by decide) (by kernel_rfl) (by kernel_rfl) (fun _ _ _ h => h) (Or.inl ⟨by kernel_rfl, ?hys2x25⟩) (by assumption) ?rs2x25
      case hys2x25 => (intro wq hSw; go_simp; try (with_reducible rfl))
      try simp only [Act.put, List.setIfInBounds_toArray, List.set_cons_zero, List.set_cons_succ]
      refine WalkT.take (i := 26) (oi := _) (v := ?vs2x26) rfl (by decide) (by kernel_rfl) (by kernel_rfl) (fun _ _ _ h => h) (Or.inl ⟨by kernel_rfl, ?hys2x26⟩) (by assumption) ?rs2x26
      case hys2x26 => (intro wq hSw; go_simp; try (with_reducible rfl))
      try simp only [Act.put, List.setIfInBounds_toArray, List.set_cons_zero, List.set_cons_succ]
      refine WalkT.one (i := 27) (o := ?os2x27) (by kernel_rfl) (by decide) ?hos2x27 ?hks2x27
      case hos2x27 => (simp only [List.getElem?_toArray, List.getElem?_cons_succ, List.getElem?_cons_zero]; exact rfl)
      intro K hK
      go_simp
      refine (tfixed_any (HT.out.below (Below.trans Hbl.out (Below.mono hHeld Hbl.out.size))) (HBru.out.below (Below.trans Hbl.out (Below.mono hHeld Hbl.out.size)))).mono ?_
      rintro e y27 ⟨rfl, hb⟩
      have hS27 : Below W2.heap.size W2 y27 := Below.trans hHeld (Below.mono hb (Below.size hHeld))
      clear hb hHeld
      go_simp
      refine hK.out _ _ hS27 (fun hHeld => ?_)
      clear hS27
      clear hK K
      try simp only [Act.put, List.setIfInBounds_toArray, List.set_cons_zero, List.set_cons_succ]
      refine WalkT.take (i := 28) (oi := _) (v := ?vs2x28) rfl (by decide) (by kernel_rfl) (by kernel_rfl) (fun _ _ _ h => h) (Or.inl ⟨by kernel_rfl, ?hys2x28⟩) (by assumption) ?rs2x28
      case hys2x28 => (intro wq hSw; go_simp; try (with_reducible rfl))
      try simp only [Act.put, List.setIfInBounds_toArray, List.set_cons_zero, List.set_cons_succ]
      refine WalkT.tail (by kernel_rfl) ?_
      have Hend := Lib.hid (Hbl.out.trans (Below.mono hHeld Hbl.out.size)); clear hHeld
      simp only [List.drop_succ_cons, List.drop_zero]
      go_wp2
      go_ret
      exact ⟨rfl, Hend.out⟩
  exact AllT.nil
theorem treeKeeps_walk' (a : Int) (ha : (Lit.int .u64 a).wf = true) (A : Option Addr) (len cap : Nat) (L : List ByteArray) {w : World} (hL : SRead w (.slice A len cap) L ∧ ∀ s ∈ L, s.size ≤ maxLen) (s : ByteArray) (hs : s.size ≤ maxLen) (hT : Tab w) (hBru : Bru w) :
    Calls Tryd.prog 13 #[.agg #[.int .u64 a, .slice A len cap], .string s] w fun e w' => e = .returned (.bool true) ∧ Below w.heap.size w w' := treeKeeps_walk a ha A len cap L s hs hL.1 hT hBru
end Go.Proofs.YtkdajlhmodmkoaaDoor
