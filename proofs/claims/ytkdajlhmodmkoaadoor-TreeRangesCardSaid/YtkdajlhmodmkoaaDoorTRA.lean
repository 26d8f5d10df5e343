/-
  Layer 8 (tree): TreeRanges walked.
-/
import Derived.Test.YtkdajlhmodmkoaaDoorTRP
import Derived.Test.YtkdajlhmodmkoaaDoorTG
import Derived.Test.YtkdajlhmodmkoaaDoorShaL1
namespace Go.Proofs.YtkdajlhmodmkoaaDoor
open Go.RowKit TreeM
set_option linter.unusedVariables false
set_option linter.unusedSimpArgs false

theorem merge_short : ∀ (t : Nat) (ps : List ByteArray) (h : ByteArray), (merge t ps h).length ≤ ps.length + 1
  | 0, ps, h => by simp [merge]
  | t + 1, ps, h => by
    have := merge_short t ps.dropLast (nodeB (ps.getLastD ⟨#[]⟩) h)
    simp only [merge]; simp only [List.length_dropLast] at this; omega
set_option maxRecDepth 100000 in
set_option maxHeartbeats 16000000 in
theorem treeRanges_walk (a : Int) (ha : (Lit.int .u64 a).wf = true) (A : Option Addr) (len cap : Nat) (L : List ByteArray) (s : ByteArray) (hs : s.size ≤ maxLen) {w : World} (hL : SRead w (.slice A len cap) L) (hT : Tab w) (hBru : Bru w) :
    Calls Tryd.prog 10 #[.agg #[.int .u64 a, .slice A len cap], .string s] w fun e w' => e = .returned (.bool true) ∧ Below w.heap.size w w' := by
  obtain ⟨n, hn, rfl⟩ : ∃ n : Nat, n < 18446744073709551616 ∧ a = (n : Int) := by
    simp [Lit.wf, IntKind.min, IntKind.max, IntKind.signed, IntKind.bits] at ha
    exact ⟨a.toNat, by omega, by omega⟩
  obtain ⟨i9, hj, hy0, hy1, hy2⟩ := info_parts winfo9
  have hb1 := alloc_below' w (.cells #[.int .u64 (n : Int), .slice A len cap] 50)
  have hr1 := hL.below hb1 rfl
  have HT := Lib.hid hT; have HBru := Lib.hid hBru; have H1 := Lib.hid (And.intro hb1 hr1)
  clear hT hBru hL hb1 hr1 ha
  go_enter Tryd.func10, Tryd.ntmps10
  go_wp2_with fail
  refine (ref_any n H1.out.2).mono ?_
  rintro e w2 ⟨⟨v2, rfl, ho2⟩, hb2⟩
  have hlen := cutL_length L 50
  have hsz : ∀ s ∈ cutL L 50, s.size ≤ 80000000 := fun s hs => by have := cutL_size L 50 s hs; omega
  generalize cutL L 50 = M at *
  obtain ⟨A1, cap1, hve, -, -⟩ := id (ho2.read (by unfold maxLen; omega))
  subst hve
  have hbel := H1.out.1.trans (hb2.mono H1.out.1.size)
  have ho := SOwn.base ho2 H1.out.1.size
  have Hbel := Lib.hid hbel; have Ho := Lib.hid ho; have Hsz := Lib.hid hsz
  clear hb2 ho2 hbel ho hsz H1
  go_upto_region 2 with fail
  have hw3 := (alloc_below' w2 (.cells #[.int .u64 (n : Int), .slice A1 M.length cap1] 50))
  have hw3' := hw3.trans ((alloc_below' (w2.alloc (.cells #[.int .u64 (n : Int), .slice A1 M.length cap1] 50)) (.cells #[.int .u64 (n : Int), .slice A1 M.length cap1] 51)).mono hw3.size)
  have hA2 : Blk ((w2.alloc (.cells #[.int .u64 (n : Int), .slice A1 M.length cap1] 50)).alloc (.cells #[.int .u64 (n : Int), .slice A1 M.length cap1] 51)) w2.heap.size 50 #[.int .u64 (n : Int), .slice A1 M.length cap1] := (Blk.new _ _ _).alloc _
  have hC2 : Blk ((w2.alloc (.cells #[.int .u64 (n : Int), .slice A1 M.length cap1] 50)).alloc (.cells #[.int .u64 (n : Int), .slice A1 M.length cap1] 51)) (w2.heap.size + 1) 51 #[.int .u64 (n : Int), .slice A1 M.length cap1] := by
    have := Blk.new (w2.alloc (.cells #[.int .u64 (n : Int), .slice A1 M.length cap1] 50)) 51 #[.int .u64 (n : Int), .slice A1 M.length cap1]
    rwa [World.size_alloc] at this
  have hv3 := (Ho.out.read (by unfold maxLen; omega)).below hw3' rfl
  have hb3 := Hbel.out.trans (hw3'.mono Hbel.out.size)
  have H0 := Lib.hid (And.intro hA2 (And.intro hC2 (And.intro hv3 hb3)))
  clear hw3 hw3' hA2 hC2 hv3 hb3 Ho Hbel
  generalize (w2.alloc (.cells #[.int .u64 (n : Int), .slice A1 M.length cap1] 50)).alloc (.cells #[.int .u64 (n : Int), .slice A1 M.length cap1] 51) = w3 at *
  obtain ⟨g5, hg5⟩ : ∃ g, w2.heap.size = g := ⟨_, rfl⟩
  rw [hg5] at H0 ⊢
  obtain ⟨g6, hg6⟩ : ∃ g, g5 + 1 = g := ⟨_, rfl⟩
  rw [hg6] at H0 ⊢
  have Ha0 := Lib.hid H0.out.1; have Hc0 := Lib.hid H0.out.2.1; have Hv0 := Lib.hid H0.out.2.2.1; have Hb0 := Lib.hid H0.out.2.2.2
  clear H0 hg5 hg6
  obtain ⟨m, -, k0, k1, k2, k3, hmin⟩ := cut_min s 100 100 rfl
  have hdm := ext_le s m
  have hds : (s.extract 0 m).size ≤ 80000000 := by rw [ByteArray.size_extract]; omega
  obtain ⟨d, hd⟩ : ∃ d, s.extract 0 m = d := ⟨_, rfl⟩
  rw [hd] at hds
  obtain ⟨pn, pe, pl, hpush, hrpush, hplen⟩ : ∃ (pn pe : Int) (pl : List ByteArray), (∀ wq, Tab wq → Bru wq → SRead wq (.slice A1 M.length cap1) M → Calls Tryd.prog 44 #[.agg #[.int .u64 (n : Int), .slice A1 M.length cap1], .string d] wq fun e w' => (∃ u, e = .returned (.tuple #[.agg #[.int .u64 pn, u], .int .i64 pe]) ∧ SOwn 0 w' u pl) ∧ Below wq.heap.size wq w') ∧
      (∀ wq, SRead wq (.slice A1 M.length cap1) M → Calls Tryd.prog 45 #[.agg #[.int .u64 (n : Int), .slice A1 M.length cap1], .string d] wq fun e w' => (∃ u, e = .returned (.tuple #[.agg #[.int .u64 pn, u], .int .i64 pe]) ∧ SOwn 0 w' u pl) ∧ Below wq.heap.size wq w') ∧ pl.length ≤ maxLen := by
    refine ⟨pushN n M, pushE n M, pushL n M d, fun wq h1 h2 h3 => (push_any h1 h2 n hn h3 d hds).mono fun e w' ⟨⟨u, h1, h2⟩, hb⟩ => ⟨⟨u, h1, SOwn.base h2 (Nat.zero_le _)⟩, hb⟩, fun wq h3 => (rpush_any n hn h3 d hds).mono fun e w' ⟨⟨u, h1, h2⟩, hb⟩ => ⟨⟨u, h1, SOwn.base h2 (Nat.zero_le _)⟩, hb⟩, ?_⟩
    unfold pushL; split
    · have := merge_short (trail n) M (leafB d); unfold maxLen; omega
    · simp
  obtain ⟨ts, te, htop, hrtop⟩ : ∃ (ts : ByteArray) (te : Int), (∀ wq, Tab wq → SRead wq (.slice A1 M.length cap1) M → Calls Tryd.prog 46 #[.agg #[.int .u64 (n : Int), .slice A1 M.length cap1]] wq fun e w' => e = .returned (.tuple #[.string ts, .int .i64 te]) ∧ Below wq.heap.size wq w') ∧
      (∀ wq, SRead wq (.slice A1 M.length cap1) M → Calls Tryd.prog 47 #[.agg #[.int .u64 (n : Int), .slice A1 M.length cap1]] wq fun e w' => e = .returned (.tuple #[.string ts, .int .i64 te]) ∧ Below wq.heap.size wq w') :=
    ⟨topS n M, topE n M, fun wq h1 h2 => top_any h1 n hn h2, fun wq h2 => rtop_any n hn h2⟩
  obtain ⟨R, hri, hrr⟩ : ∃ R : Bool, (∀ wq, SRead wq (.slice A1 M.length cap1) M → Calls Tryd.prog 48 #[.agg #[.int .u64 (n : Int), .slice A1 M.length cap1]] wq fun e w' => e = .returned (.bool R) ∧ Below wq.heap.size wq w') ∧
      (∀ wq, SRead wq (.slice A1 M.length cap1) M → Calls Tryd.prog 49 #[.agg #[.int .u64 (n : Int), .slice A1 M.length cap1]] wq fun e w' => e = .returned (.bool R) ∧ Below wq.heap.size wq w') :=
    ⟨rightB n M, fun wq h2 => tright_any n hn h2, fun wq h2 => rright_any n hn h2⟩
  have Hpush := Lib.hid (And.intro hpush hrpush); have Hpl := Lib.hid hplen; have Htop := Lib.hid (And.intro htop hrtop); have Hri := Lib.hid (And.intro hri hrr)
  go_upto_region 3 with fail
  clear hpush hrpush hplen htop hrtop hri hrr hmin k0 k1 k2 k3 hd hdm hds Hsz hlen
  have c0 := Blk.cell Ha0.out 0; have c1 := Blk.cell Ha0.out 1
  simp only [List.getElem?_toArray, List.getElem?_cons_succ, List.getElem?_cons_zero] at c0 c1
  go_wp2_with fail
  clear c0 c1
  refine (Hpush.out.1 _ (HT.out.below Hb0.out) (HBru.out.below Hb0.out) Hv0.out).mono ?_
  rintro e x1 ⟨⟨u3, rfl, ho3⟩, hb1⟩
  obtain ⟨A3, c3, hve, -, -⟩ := id (ho3.read Hpl.out)
  subst hve
  have Hp1 := Lib.hid (ho3.read Hpl.out)
  clear ho3
  have Hb1 := Lib.hid (Hb0.out.trans (hb1.mono Hb0.out.size))
  have Hv1 := Lib.hid (Hv0.out.below hb1 rfl)
  have Ha1 : Hid (Blk x1 g5 50 #[.int .u64 (n : Int), .slice A1 M.length cap1]) := Lib.hid ((hb1.block _ (Blk.lt Ha0.out)).trans Ha0.out)
  have Hc1 : Hid (Blk x1 g6 51 #[.int .u64 (n : Int), .slice A1 M.length cap1]) := Lib.hid ((hb1.block _ (Blk.lt Hc0.out)).trans Hc0.out)
  clear Hb0 Hv0 Ha0 Hc0 hb1
  go_upto_region 4 with fail
  have hb2 := alloc_below' x1 (.cells #[.int .u64 pn, .slice A3 pl.length c3] 50)
  obtain ⟨g7, hg⟩ : ∃ g, x1.heap.size = g := ⟨_, rfl⟩
  have hnew : Blk (x1.alloc (.cells #[.int .u64 pn, .slice A3 pl.length c3] 50)) g7 50 #[.int .u64 pn, .slice A3 pl.length c3] := by rw [← hg]; exact Blk.new _ _ _
  rw [hg]
  clear hg
  generalize x1.alloc (.cells #[.int .u64 pn, .slice A3 pl.length c3] 50) = x2 at *
  have Hx2 := Lib.hid hnew; clear hnew
  have Hb2 := Lib.hid (Hb1.out.trans (hb2.mono Hb1.out.size))
  have Hv2 := Lib.hid (Hv1.out.below hb2 rfl)
  have Ha2 : Hid (Blk x2 g5 50 #[.int .u64 (n : Int), .slice A1 M.length cap1]) := Lib.hid ((hb2.block _ (Blk.lt Ha1.out)).trans Ha1.out)
  have Hc2 : Hid (Blk x2 g6 51 #[.int .u64 (n : Int), .slice A1 M.length cap1]) := Lib.hid ((hb2.block _ (Blk.lt Hc1.out)).trans Hc1.out)
  have Hp2 := Lib.hid (Hp1.out.below hb2 rfl)
  clear Hb1 Hv1 Ha1 Hc1 Hp1 hb2
  have c0 := Blk.cell Hc2.out 0; have c1 := Blk.cell Hc2.out 1
  simp only [List.getElem?_toArray, List.getElem?_cons_succ, List.getElem?_cons_zero] at c0 c1
  go_wp2_with fail
  clear c0 c1
  refine (Hpush.out.2 _ Hv2.out).mono ?_
  rintro e x3 ⟨⟨u4, rfl, ho4⟩, hb3⟩
  obtain ⟨A4, c4, hve, -, -⟩ := id (ho4.read Hpl.out)
  subst hve
  have Hq3 := Lib.hid (ho4.read Hpl.out)
  clear ho4
  have Hb3 := Lib.hid (Hb2.out.trans (hb3.mono Hb2.out.size))
  have Hv3 := Lib.hid (Hv2.out.below hb3 rfl)
  have Ha3 : Hid (Blk x3 g5 50 #[.int .u64 (n : Int), .slice A1 M.length cap1]) := Lib.hid ((hb3.block _ (Blk.lt Ha2.out)).trans Ha2.out)
  have Hc3 : Hid (Blk x3 g6 51 #[.int .u64 (n : Int), .slice A1 M.length cap1]) := Lib.hid ((hb3.block _ (Blk.lt Hc2.out)).trans Hc2.out)
  have Hp3 := Lib.hid (Hp2.out.below hb3 rfl)
  have Hx3 : Hid (Blk x3 g7 50 #[.int .u64 pn, .slice A3 pl.length c3]) := Lib.hid ((hb3.block _ (Blk.lt Hx2.out)).trans Hx2.out)
  clear Hb2 Hv2 Ha2 Hc2 Hp2 Hx2 hb3
  go_upto_region 5 with fail
  have hb4 := alloc_below' x3 (.cells #[.int .u64 pn, .slice A4 pl.length c4] 51)
  obtain ⟨g9, hg⟩ : ∃ g, x3.heap.size = g := ⟨_, rfl⟩
  have hnew : Blk (x3.alloc (.cells #[.int .u64 pn, .slice A4 pl.length c4] 51)) g9 51 #[.int .u64 pn, .slice A4 pl.length c4] := by rw [← hg]; exact Blk.new _ _ _
  rw [hg]
  clear hg
  generalize x3.alloc (.cells #[.int .u64 pn, .slice A4 pl.length c4] 51) = x4 at *
  have Hy4 := Lib.hid hnew; clear hnew
  have Hb4 := Lib.hid (Hb3.out.trans (hb4.mono Hb3.out.size))
  have Hv4 := Lib.hid (Hv3.out.below hb4 rfl)
  have Ha4 : Hid (Blk x4 g5 50 #[.int .u64 (n : Int), .slice A1 M.length cap1]) := Lib.hid ((hb4.block _ (Blk.lt Ha3.out)).trans Ha3.out)
  have Hc4 : Hid (Blk x4 g6 51 #[.int .u64 (n : Int), .slice A1 M.length cap1]) := Lib.hid ((hb4.block _ (Blk.lt Hc3.out)).trans Hc3.out)
  have Hp4 := Lib.hid (Hp3.out.below hb4 rfl)
  have Hx4 : Hid (Blk x4 g7 50 #[.int .u64 pn, .slice A3 pl.length c3]) := Lib.hid ((hb4.block _ (Blk.lt Hx3.out)).trans Hx3.out)
  have Hq4 := Lib.hid (Hq3.out.below hb4 rfl)
  clear Hb3 Hv3 Ha3 Hc3 Hp3 Hx3 Hq3 hb4
  have c0 := Blk.cell Ha4.out 0; have c1 := Blk.cell Ha4.out 1
  simp only [List.getElem?_toArray, List.getElem?_cons_succ, List.getElem?_cons_zero] at c0 c1
  go_wp2_with fail
  clear c0 c1
  refine (Htop.out.1 _ (HT.out.below Hb4.out) Hv4.out).mono ?_
  rintro e x5 ⟨rfl, hb5⟩
  have Hb5 := Lib.hid (Hb4.out.trans (hb5.mono Hb4.out.size))
  have Hv5 := Lib.hid (Hv4.out.below hb5 rfl)
  have Ha5 : Hid (Blk x5 g5 50 #[.int .u64 (n : Int), .slice A1 M.length cap1]) := Lib.hid ((hb5.block _ (Blk.lt Ha4.out)).trans Ha4.out)
  have Hc5 : Hid (Blk x5 g6 51 #[.int .u64 (n : Int), .slice A1 M.length cap1]) := Lib.hid ((hb5.block _ (Blk.lt Hc4.out)).trans Hc4.out)
  have Hp5 := Lib.hid (Hp4.out.below hb5 rfl)
  have Hx5 : Hid (Blk x5 g7 50 #[.int .u64 pn, .slice A3 pl.length c3]) := Lib.hid ((hb5.block _ (Blk.lt Hx4.out)).trans Hx4.out)
  have Hq5 := Lib.hid (Hq4.out.below hb5 rfl)
  have Hy5 : Hid (Blk x5 g9 51 #[.int .u64 pn, .slice A4 pl.length c4]) := Lib.hid ((hb5.block _ (Blk.lt Hy4.out)).trans Hy4.out)
  clear Hb4 Hv4 Ha4 Hc4 Hp4 Hx4 Hq4 Hy4 hb5
  go_upto_region 6 with fail
  have c0 := Blk.cell Hc5.out 0; have c1 := Blk.cell Hc5.out 1
  simp only [List.getElem?_toArray, List.getElem?_cons_succ, List.getElem?_cons_zero] at c0 c1
  go_wp2_with fail
  clear c0 c1
  refine (Htop.out.2 _ Hv5.out).mono ?_
  rintro e x6 ⟨rfl, hb6⟩
  have Hb6 := Lib.hid (Hb5.out.trans (hb6.mono Hb5.out.size))
  have Hv6 := Lib.hid (Hv5.out.below hb6 rfl)
  have Ha6 : Hid (Blk x6 g5 50 #[.int .u64 (n : Int), .slice A1 M.length cap1]) := Lib.hid ((hb6.block _ (Blk.lt Ha5.out)).trans Ha5.out)
  have Hc6 : Hid (Blk x6 g6 51 #[.int .u64 (n : Int), .slice A1 M.length cap1]) := Lib.hid ((hb6.block _ (Blk.lt Hc5.out)).trans Hc5.out)
  have Hp6 := Lib.hid (Hp5.out.below hb6 rfl)
  have Hx6 : Hid (Blk x6 g7 50 #[.int .u64 pn, .slice A3 pl.length c3]) := Lib.hid ((hb6.block _ (Blk.lt Hx5.out)).trans Hx5.out)
  have Hq6 := Lib.hid (Hq5.out.below hb6 rfl)
  have Hy6 : Hid (Blk x6 g9 51 #[.int .u64 pn, .slice A4 pl.length c4]) := Lib.hid ((hb6.block _ (Blk.lt Hy5.out)).trans Hy5.out)
  clear Hb5 Hv5 Ha5 Hc5 Hp5 Hx5 Hq5 Hy5 hb6
  go_upto_region 7 with fail
  refine wp_region_T (n := 37) (S := fun wq => Below x6.heap.size x6 wq) (by kernel_rfl) (by kernel_rfl) (below_drewN' (Below.refl _ _) 1) (fun hHeld => ?_)
  refine WalkT.take (i := 0) (oi := _) (v := _) rfl (by decide) (by kernel_rfl) (by kernel_rfl) (fun _ _ _ h => h) (yieldsIf_load_row (by kernel_rfl) 50 (Operand.tmp 5) rfl g5 (by rfl) 50 _ (0, 0) _ (fun wq h => (Below.block h _ (Blk.lt Ha6.out)).trans Ha6.out) Tryd.underlying50 rfl info50) (by assumption) ?_
  try simp only [Act.put, List.setIfInBounds_toArray, List.set_cons_zero, List.set_cons_succ]
  refine WalkT.take (i := 2) (oi := _) (v := _) rfl (by decide) (by kernel_rfl) (by kernel_rfl) (fun _ _ _ h => h) (yieldsIf_load_row (by kernel_rfl) 51 (Operand.tmp 6) rfl g6 (by rfl) 51 _ (0, 0) _ (fun wq h => (Below.block h _ (Blk.lt Hc6.out)).trans Hc6.out) Tryd.underlying51 rfl info51) (by assumption) ?_
  try simp only [Act.put, List.setIfInBounds_toArray, List.set_cons_zero, List.set_cons_succ]
  refine WalkT.one (i := 1) (o := ?or1) (by kernel_rfl) (by decide) ?hor1 ?hkr1
  case hor1 => (simp only [List.getElem?_toArray, List.getElem?_cons_succ, List.getElem?_cons_zero]; exact rfl)
  intro K hK
  go_simp
  refine (Hri.out.1 _ (SRead.below Hv6.out hHeld rfl)).mono ?_
  rintro e y1 ⟨rfl, hb⟩
  have hS1 : Below x6.heap.size x6 y1 := Below.trans hHeld (Below.mono hb (Below.size hHeld))
  clear hb hHeld
  go_simp
  refine hK.out _ _ hS1 (fun hHeld => ?_)
  clear hS1
  clear hK K
  try simp only [Act.put, List.setIfInBounds_toArray, List.set_cons_zero, List.set_cons_succ]
  refine WalkT.one (i := 3) (o := ?or2) (by kernel_rfl) (by decide) ?hor2 ?hkr2
  case hor2 => (simp only [List.getElem?_toArray, List.getElem?_cons_succ, List.getElem?_cons_zero]; exact rfl)
  intro K hK
  go_simp
  refine (Hri.out.2 _ (SRead.below Hv6.out hHeld rfl)).mono ?_
  rintro e y3 ⟨rfl, hb⟩
  have hS3 : Below x6.heap.size x6 y3 := Below.trans hHeld (Below.mono hb (Below.size hHeld))
  clear hb hHeld
  go_simp
  refine hK.out _ _ hS3 (fun hHeld => ?_)
  clear hS3
  clear hK K
  try simp only [Act.put, List.setIfInBounds_toArray, List.set_cons_zero, List.set_cons_succ]
  refine WalkT.take (i := 4) (oi := _) (v := ?vr3) rfl (by decide) (by kernel_rfl) (by kernel_rfl) (fun _ _ _ h => h) (Or.inl ⟨by kernel_rfl, ?hyr3⟩) (by assumption) ?rr3
  case hyr3 => (intro wq hSw; go_simp; try (with_reducible rfl))
  try simp only [Act.put, List.setIfInBounds_toArray, List.set_cons_zero, List.set_cons_succ]
  refine WalkT.take (i := 5) (oi := _) (v := ?vr4) rfl (by decide) (by kernel_rfl) (by kernel_rfl) (fun _ _ _ h => h) (Or.inl ⟨by kernel_rfl, ?hyr4⟩) (by assumption) ?rr4
  case hyr4 => (intro wq hSw; go_simp; try (with_reducible rfl))
  try simp only [Act.put, List.setIfInBounds_toArray, List.set_cons_zero, List.set_cons_succ]
  refine WalkT.take (i := 6) (oi := _) (v := ?vr5) rfl (by decide) (by kernel_rfl) (by kernel_rfl) (fun _ _ _ h => h) (Or.inl ⟨by kernel_rfl, ?hyr5⟩) (by assumption) ?rr5
  case hyr5 => (intro wq hSw; go_simp; try (with_reducible rfl))
  try simp only [Act.put, List.setIfInBounds_toArray, List.set_cons_zero, List.set_cons_succ]
  refine WalkT.take (i := 7) (oi := _) (v := ?vr6) rfl (by decide) (by kernel_rfl) (by kernel_rfl) (fun _ _ _ h => h) (Or.inl ⟨by kernel_rfl, ?hyr6⟩) (by assumption) ?rr6
  case hyr6 => (intro wq hSw; have q9 := Blk.cell ((Below.block hSw _ (Blk.lt Hx6.out)).trans Hx6.out) 0; simp only [List.getElem?_toArray, List.getElem?_cons_succ, List.getElem?_cons_zero] at q9; go_simp; try (with_reducible rfl))
  try simp only [Act.put, List.setIfInBounds_toArray, List.set_cons_zero, List.set_cons_succ]
  refine WalkT.take (i := 8) (oi := _) (v := ?vr7) rfl (by decide) (by kernel_rfl) (by kernel_rfl) (fun _ _ _ h => h) (Or.inl ⟨by kernel_rfl, ?hyr7⟩) (by assumption) ?rr7
  case hyr7 => (intro wq hSw; go_simp; try (with_reducible rfl))
  try simp only [Act.put, List.setIfInBounds_toArray, List.set_cons_zero, List.set_cons_succ]
  refine WalkT.take (i := 9) (oi := _) (v := ?vr8) rfl (by decide) (by kernel_rfl) (by kernel_rfl) (fun _ _ _ h => h) (Or.inl ⟨by kernel_rfl, ?hyr8⟩) (by assumption) ?rr8
  case hyr8 => (intro wq hSw; have q9 := Blk.cell ((Below.block hSw _ (Blk.lt Hy6.out)).trans Hy6.out) 0; simp only [List.getElem?_toArray, List.getElem?_cons_succ, List.getElem?_cons_zero] at q9; go_simp; try (with_reducible rfl))
  try simp only [Act.put, List.setIfInBounds_toArray, List.set_cons_zero, List.set_cons_succ]
  refine WalkT.take (i := 10) (oi := _) (v := ?vr9) rfl (by decide) (by kernel_rfl) (by kernel_rfl) (fun _ _ _ h => h) (Or.inl ⟨by kernel_rfl, ?hyr9⟩) (by assumption) ?rr9
  case hyr9 => (intro wq hSw; go_simp; try (with_reducible rfl))
  try simp only [Act.put, List.setIfInBounds_toArray, List.set_cons_zero, List.set_cons_succ]
  refine WalkT.take (i := 11) (oi := _) (v := ?vr10) rfl (by decide) (by kernel_rfl) (by kernel_rfl) (fun _ _ _ h => h) (Or.inl ⟨by kernel_rfl, ?hyr10⟩) (by assumption) ?rr10
  case hyr10 => (intro wq hSw; go_simp; try (with_reducible rfl))
  try simp only [Act.put, List.setIfInBounds_toArray, List.set_cons_zero, List.set_cons_succ]
  refine WalkT.take (i := 12) (oi := _) (v := ?vr11) rfl (by decide) (by kernel_rfl) (by kernel_rfl) (fun _ _ _ h => h) (Or.inl ⟨by kernel_rfl, ?hyr11⟩) (by assumption) ?rr11
  case hyr11 => (intro wq hSw; go_simp; try (with_reducible rfl))
  try simp only [Act.put, List.setIfInBounds_toArray, List.set_cons_zero, List.set_cons_succ]
  refine WalkT.take (i := 13) (oi := _) (v := ?vr12) rfl (by decide) (by kernel_rfl) (by kernel_rfl) (fun _ _ _ h => h) (Or.inl ⟨by kernel_rfl, ?hyr12⟩) (by assumption) ?rr12
  case hyr12 => (intro wq hSw; go_simp; try (with_reducible rfl))
  try simp only [Act.put, List.setIfInBounds_toArray, List.set_cons_zero, List.set_cons_succ]
  refine WalkT.take (i := 14) (oi := _) (v := ?vr13) rfl (by decide) (by kernel_rfl) (by kernel_rfl) (fun _ _ _ h => h) (Or.inl ⟨by kernel_rfl, ?hyr13⟩) (by assumption) ?rr13
  case hyr13 => (intro wq hSw; have q9 := Blk.cell ((Below.block hSw _ (Blk.lt Hx6.out)).trans Hx6.out) 1; simp only [List.getElem?_toArray, List.getElem?_cons_succ, List.getElem?_cons_zero] at q9; go_simp; try (with_reducible rfl))
  try simp only [Act.put, List.setIfInBounds_toArray, List.set_cons_zero, List.set_cons_succ]
  refine WalkT.take (i := 15) (oi := _) (v := ?vr14) rfl (by decide) (by kernel_rfl) (by kernel_rfl) (fun _ _ _ h => h) (Or.inl ⟨by kernel_rfl, ?hyr14⟩) (by assumption) ?rr14
  case hyr14 => (intro wq hSw; go_simp; try (with_reducible rfl))
  try simp only [Act.put, List.setIfInBounds_toArray, List.set_cons_zero, List.set_cons_succ]
  refine WalkT.take (i := 16) (oi := _) (v := ?vr15) rfl (by decide) (by kernel_rfl) (by kernel_rfl) (fun _ _ _ h => h) (Or.inl ⟨by kernel_rfl, ?hyr15⟩) (by assumption) ?rr15
  case hyr15 => (intro wq hSw; have q9 := Blk.cell ((Below.block hSw _ (Blk.lt Hy6.out)).trans Hy6.out) 1; simp only [List.getElem?_toArray, List.getElem?_cons_succ, List.getElem?_cons_zero] at q9; go_simp; try (with_reducible rfl))
  try simp only [Act.put, List.setIfInBounds_toArray, List.set_cons_zero, List.set_cons_succ]
  refine WalkT.one (i := 17) (o := ?or16) (by kernel_rfl) (by decide) ?hor16 ?hkr16
  case hor16 => (simp only [List.getElem?_toArray, List.getElem?_cons_succ, List.getElem?_cons_zero]; exact rfl)
  intro K hK
  go_simp
  refine (same_any (SRead.below Hp6.out hHeld rfl) (SRead.below Hq6.out hHeld rfl)).mono ?_
  rintro e y17 ⟨rfl, n8, rfl⟩
  rw [decide_eq_true rfl]
  have hS17 : Below x6.heap.size x6 (y3.drewN n8) := below_drewN' hHeld n8
  clear hHeld
  go_simp
  refine hK.out _ _ hS17 (fun hHeld => ?_)
  clear hS17
  clear hK K
  try simp only [Act.put, List.setIfInBounds_toArray, List.set_cons_zero, List.set_cons_succ]
  refine WalkT.take (i := 18) (oi := _) (v := ?vr17) rfl (by decide) (by kernel_rfl) (by kernel_rfl) (fun _ _ _ h => h) (Or.inl ⟨by kernel_rfl, ?hyr17⟩) (by assumption) ?rr17
  case hyr17 => (intro wq hSw; go_simp; try (with_reducible rfl))
  try simp only [Act.put, List.setIfInBounds_toArray, List.set_cons_zero, List.set_cons_succ]
  refine WalkT.take (i := 19) (oi := _) (v := ?vr18) rfl (by decide) (by kernel_rfl) (by kernel_rfl) (fun _ _ _ h => h) (Or.inl ⟨by kernel_rfl, ?hyr18⟩) (by assumption) ?rr18
  case hyr18 => (intro wq hSw; go_simp; try (with_reducible rfl))
  try simp only [Act.put, List.setIfInBounds_toArray, List.set_cons_zero, List.set_cons_succ]
  refine WalkT.take (i := 20) (oi := _) (v := ?vr19) rfl (by decide) (by kernel_rfl) (by kernel_rfl) (fun _ _ _ h => h) (Or.inl ⟨by kernel_rfl, ?hyr19⟩) (by assumption) ?rr19
  case hyr19 => (intro wq hSw; go_simp; try (with_reducible rfl))
  try simp only [Act.put, List.setIfInBounds_toArray, List.set_cons_zero, List.set_cons_succ]
  refine WalkT.take (i := 21) (oi := _) (v := ?vr20) rfl (by decide) (by kernel_rfl) (by kernel_rfl) (fun _ _ _ h => h) (Or.inl ⟨by kernel_rfl, ?hyr20⟩) (by assumption) ?rr20
  case hyr20 => (intro wq hSw; go_simp; try (with_reducible rfl))
  try simp only [Act.put, List.setIfInBounds_toArray, List.set_cons_zero, List.set_cons_succ]
  refine WalkT.take (i := 22) (oi := _) (v := ?vr21) rfl (by decide) (by kernel_rfl) (by kernel_rfl) (fun _ _ _ h => h) (Or.inl ⟨by kernel_rfl, ?hyr21⟩) (by assumption) ?rr21
  case hyr21 => (intro wq hSw; go_simp; try (with_reducible rfl))
  try simp only [Act.put, List.setIfInBounds_toArray, List.set_cons_zero, List.set_cons_succ]
  refine WalkT.take (i := 23) (oi := _) (v := ?vr22) rfl (by decide) (by kernel_rfl) (by kernel_rfl) (fun _ _ _ h => h) (Or.inl ⟨by kernel_rfl, ?hyr22⟩) (by assumption) ?rr22
  case hyr22 => (intro wq hSw; go_simp; try (with_reducible rfl))
  try simp only [Act.put, List.setIfInBounds_toArray, List.set_cons_zero, List.set_cons_succ]
  refine WalkT.take (i := 24) (oi := _) (v := ?vr23) rfl (by decide) (by kernel_rfl) (by kernel_rfl) (fun _ _ _ h => h) (Or.inl ⟨by kernel_rfl, ?hyr23⟩) (by assumption) ?rr23
  case hyr23 => (intro wq hSw; go_simp; try (with_reducible rfl))
  try simp only [Act.put, List.setIfInBounds_toArray, List.set_cons_zero, List.set_cons_succ]
  refine WalkT.take (i := 25) (oi := _) (v := ?vr24) rfl (by decide) (by kernel_rfl) (by kernel_rfl) (fun _ _ _ h => h) (Or.inl ⟨by kernel_rfl, ?hyr24⟩) (by assumption) ?rr24
  case hyr24 => (intro wq hSw; go_simp; try (with_reducible rfl))
  try simp only [Act.put, List.setIfInBounds_toArray, List.set_cons_zero, List.set_cons_succ]
  refine WalkT.take (i := 26) (oi := _) (v := ?vr25) rfl (by decide) (by kernel_rfl) (by kernel_rfl) (fun _ _ _ h => h) (Or.inl ⟨by kernel_rfl, ?hyr25⟩) (by assumption) ?rr25
  case hyr25 => (intro wq hSw; go_simp; try (with_reducible rfl))
  try simp only [Act.put, List.setIfInBounds_toArray, List.set_cons_zero, List.set_cons_succ]
  refine WalkT.take (i := 27) (oi := _) (v := ?vr26) rfl (by decide) (by kernel_rfl) (by kernel_rfl) (fun _ _ _ h => h) (Or.inl ⟨by kernel_rfl, ?hyr26⟩) (by assumption) ?rr26
  case hyr26 => (intro wq hSw; go_simp; try (with_reducible rfl))
  try simp only [Act.put, List.setIfInBounds_toArray, List.set_cons_zero, List.set_cons_succ]
  refine WalkT.take (i := 28) (oi := _) (v := ?vr27) rfl (by decide) (by kernel_rfl) (by kernel_rfl) (fun _ _ _ h => h) (Or.inl ⟨by kernel_rfl, ?hyr27⟩) (by assumption) ?rr27
  case hyr27 => (intro wq hSw; go_simp; try (with_reducible rfl))
  try simp only [Act.put, List.setIfInBounds_toArray, List.set_cons_zero, List.set_cons_succ]
  refine WalkT.take (i := 29) (oi := _) (v := ?vr28) rfl (by decide) (by kernel_rfl) (by kernel_rfl) (fun _ _ _ h => h) (Or.inl ⟨by kernel_rfl, ?hyr28⟩) (by assumption) ?rr28
  case hyr28 => (intro wq hSw; go_simp; try (with_reducible rfl))
  try simp only [Act.put, List.setIfInBounds_toArray, List.set_cons_zero, List.set_cons_succ]
  refine WalkT.take (i := 30) (oi := _) (v := ?vr29) rfl (by decide) (by kernel_rfl) (by kernel_rfl) (fun _ _ _ h => h) (Or.inl ⟨by kernel_rfl, ?hyr29⟩) (by assumption) ?rr29
  case hyr29 => (intro wq hSw; go_simp; try (with_reducible rfl))
  try simp only [Act.put, List.setIfInBounds_toArray, List.set_cons_zero, List.set_cons_succ]
  refine WalkT.take (i := 31) (oi := _) (v := ?vr30) rfl (by decide) (by kernel_rfl) (by kernel_rfl) (fun _ _ _ h => h) (Or.inl ⟨by kernel_rfl, ?hyr30⟩) (by assumption) ?rr30
  case hyr30 => (intro wq hSw; go_simp; try (with_reducible rfl))
  try simp only [Act.put, List.setIfInBounds_toArray, List.set_cons_zero, List.set_cons_succ]
  refine WalkT.take (i := 32) (oi := _) (v := ?vr31) rfl (by decide) (by kernel_rfl) (by kernel_rfl) (fun _ _ _ h => h) (Or.inl ⟨by kernel_rfl, ?hyr31⟩) (by assumption) ?rr31
  case hyr31 => (intro wq hSw; go_simp; try (with_reducible rfl))
  try simp only [Act.put, List.setIfInBounds_toArray, List.set_cons_zero, List.set_cons_succ]
  refine WalkT.take (i := 33) (oi := _) (v := ?vr32) rfl (by decide) (by kernel_rfl) (by kernel_rfl) (fun _ _ _ h => h) (Or.inl ⟨by kernel_rfl, ?hyr32⟩) (by assumption) ?rr32
  case hyr32 => (intro wq hSw; go_simp; try (with_reducible rfl))
  try simp only [Act.put, List.setIfInBounds_toArray, List.set_cons_zero, List.set_cons_succ]
  refine WalkT.take (i := 34) (oi := _) (v := ?vr33) rfl (by decide) (by kernel_rfl) (by kernel_rfl) (fun _ _ _ h => h) (Or.inl ⟨by kernel_rfl, ?hyr33⟩) (by assumption) ?rr33
  case hyr33 => (intro wq hSw; go_simp; try (with_reducible rfl))
  try simp only [Act.put, List.setIfInBounds_toArray, List.set_cons_zero, List.set_cons_succ]
  refine WalkT.one (i := 35) (o := ?or34) (by kernel_rfl) (by decide) ?hor34 ?hkr34
  case hor34 => (simp only [List.getElem?_toArray, List.getElem?_cons_succ, List.getElem?_cons_zero]; exact rfl)
  intro K hK
  go_simp
  refine (tfixed_any (HT.out.below (Below.trans Hb6.out (Below.mono hHeld Hb6.out.size))) (HBru.out.below (Below.trans Hb6.out (Below.mono hHeld Hb6.out.size)))).mono ?_
  rintro e y35 ⟨rfl, hb⟩
  have hS35 : Below x6.heap.size x6 y35 := Below.trans hHeld (Below.mono hb (Below.size hHeld))
  clear hb hHeld
  go_simp
  refine hK.out _ _ hS35 (fun hHeld => ?_)
  clear hS35
  clear hK K
  try simp only [Act.put, List.setIfInBounds_toArray, List.set_cons_zero, List.set_cons_succ]
  refine WalkT.take (i := 36) (oi := _) (v := ?vr35) rfl (by decide) (by kernel_rfl) (by kernel_rfl) (fun _ _ _ h => h) (Or.inl ⟨by kernel_rfl, ?hyr35⟩) (by assumption) ?rr35
  case hyr35 => (intro wq hSw; go_simp; try (with_reducible rfl))
  try simp only [Act.put, List.setIfInBounds_toArray, List.set_cons_zero, List.set_cons_succ]
  refine WalkT.tail (by kernel_rfl) ?_
  have Hend := Lib.hid (Hb6.out.trans (Below.mono hHeld Hb6.out.size)); clear hHeld
  simp only [List.drop_succ_cons, List.drop_zero]
  go_wp2
  go_ret
  exact ⟨rfl, Hend.out⟩
theorem treeRanges_walk' (a : Int) (ha : (Lit.int .u64 a).wf = true) (A : Option Addr) (len cap : Nat) (L : List ByteArray) {w : World} (hL : SRead w (.slice A len cap) L ∧ ∀ s ∈ L, s.size ≤ maxLen) (s : ByteArray) (hs : s.size ≤ maxLen) (hT : Tab w) (hBru : Bru w) :
    Calls Tryd.prog 10 #[.agg #[.int .u64 a, .slice A len cap], .string s] w fun e w' => e = .returned (.bool true) ∧ Below w.heap.size w w' := treeRanges_walk a ha A len cap L s hs hL.1 hT hBru
end Go.Proofs.YtkdajlhmodmkoaaDoor
