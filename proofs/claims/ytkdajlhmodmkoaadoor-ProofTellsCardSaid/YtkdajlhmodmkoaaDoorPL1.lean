/-
  Layer 9 (proof): ProofTells walked.
-/
import Derived.Test.YtkdajlhmodmkoaaDoorQB
namespace Go.Proofs.YtkdajlhmodmkoaaDoor
open Go.RowKit TreeM
set_option linter.unusedVariables false
set_option linter.unusedSimpArgs false

theorem u64_nat {a : Int} (ha : (Lit.int .u64 a).wf = true) : ∃ n : Nat, n < 18446744073709551616 ∧ a = (n : Int) := by
  simp [Lit.wf, IntKind.min, IntKind.max, IntKind.signed, IntKind.bits] at ha
  exact ⟨a.toNat, by omega, by omega⟩
theorem info67 : (Tryd.prog.info? 67).map (·.size) = some 2 := by kernel_rfl
theorem brL_short (m : Int) (L : List ByteArray) (h : L.length ≤ 20) : (brL m L).length ≤ maxLen := by
  unfold brL; split
  · rename_i hb
    have hm : 1 ≤ m ∧ m ≤ (L.length : Int) := by unfold brOk at hb; simpa using hb
    rw [bridge_length]; have := steps_short 40 m.toNat L.length (by omega) (by omega); unfold maxLen; omega
  · simp
theorem auL_short (m : Int) (L : List ByteArray) (h : L.length ≤ 20) : (auL m L).length ≤ maxLen := by
  unfold auL; split
  · rw [audit_length]; have := sides_short 40 m.toNat L.length (by omega); unfold maxLen; omega
  · simp
set_option maxRecDepth 100000 in
set_option maxHeartbeats 8000000 in
theorem proofTells_walk (a b : Int) (ha : (Lit.int .u64 a).wf = true) (hb : (Lit.int .u64 b).wf = true) (A : Option Addr) (len cap : Nat) (L : List ByteArray) (A2 : Option Addr) (len2 cap2 : Nat) (P0 : List ByteArray) {w : World} (hL : SRead w (.slice A len cap) L) (hP0 : SRead w (.slice A2 len2 cap2) P0) (hT : Tab w) :
    Calls Tryd.prog 15 #[.agg #[.int .u64 a, .int .u64 b], .slice A len cap, .slice A2 len2 cap2] w fun e w' => e = .returned (.bool true) ∧ Below w.heap.size w w' := by
  obtain ⟨m0, hm0, rfl⟩ := u64_nat ha
  obtain ⟨n0, hn0, rfl⟩ := u64_nat hb
  clear ha hb
  have e1 : IntKind.i64.wrap ((m0 : Int).tmod 24) = ((m0 % 24 : Nat) : Int) := by rw [Int.tmod_eq_emod_of_nonneg (by omega)]; exact (congrArg _ (Int.natCast_emod m0 24).symm).trans (IntWalk.i64_in _ (by have := Nat.mod_lt m0 (show 0 < 24 by decide); omega))
  have e2 : (m0 : Int).tmod 24 = ((m0 % 24 : Nat) : Int) := by rw [Int.tmod_eq_emod_of_nonneg (by omega)]; exact (Int.natCast_emod m0 24).symm
  rw [e2] at e1
  have HT := Lib.hid hT; have hx := hL; have hy := hP0
  have hw := alloc_below' w (.cells #[.int .u64 (m0 : Int), .int .u64 (n0 : Int)] 67)
  have hBk : Blk (w.alloc (.cells #[.int .u64 (m0 : Int), .int .u64 (n0 : Int)] 67)) w.heap.size 67 #[.int .u64 (m0 : Int), .int .u64 (n0 : Int)] := Blk.new _ _ _
  obtain ⟨g, hg⟩ : ∃ g, w.heap.size = g := ⟨_, rfl⟩
  have hsz0 : w.heap.size ≤ (w.alloc (.cells #[.int .u64 (m0 : Int), .int .u64 (n0 : Int)] 67)).heap.size := hw.size
  have Hl0 := Lib.hid (hL.below hw rfl); have Hp0 := Lib.hid (hP0.below hw rfl); have Hb0 := Lib.hid hw
  clear hL hP0 hT hx hy hw
  go_enter Tryd.func15, Tryd.ntmps15
  go_upto_region 1 with fail
  generalize w.alloc (.cells #[.int .u64 (m0 : Int), .int .u64 (n0 : Int)] 67) = w0 at *
  rw [hg] at hBk
  have Ha0 := Lib.hid hBk
  clear hBk hsz0 hg
  go_wp2_with fail
  refine (cut_any Hl0.out 20 (by decide)).mono ?_
  rintro e w1 ⟨⟨v1, rfl, ho1⟩, hb1⟩
  have hlen := cutL_length L 20
  have hsz : ∀ s ∈ cutL L 20, s.size ≤ 80000000 := fun s hs => by have := cutL_size L 20 s hs; omega
  generalize cutL L 20 = M at *
  have Hl1x := Lib.hid (ho1.read (by unfold maxLen; omega))
  have Hsz := Lib.hid hsz; have Hlen := Lib.hid hlen
  clear ho1 hsz hlen
  have Hb1 := Lib.hid (Hb0.out.trans (hb1.mono Hb0.out.size))
  have Hl1 := Lib.hid (Hl0.out.below hb1 rfl)
  have Hp1 := Lib.hid (Hp0.out.below hb1 rfl)
  have Ha1 : Hid (Blk w1 g 67 #[.int .u64 (m0 : Int), .int .u64 (n0 : Int)]) := Lib.hid ((hb1.block _ (Blk.lt Ha0.out)).trans Ha0.out)
  clear Hb0 Hl0 Hp0 Ha0 hb1
  clear Hl1; have Hl1 := Hl1x; clear Hl1x
  go_wp2_with fail
  refine (hashes_any Hp1.out).mono ?_
  rintro e w2 ⟨⟨v2, rfl, ho2⟩, hb2⟩
  have hplen := cutL_length P0 50
  generalize cutL P0 50 = P at *
  have Hp2x := Lib.hid (ho2.read (by unfold maxLen; omega))
  clear ho2
  have Hb2 := Lib.hid (Hb1.out.trans (hb2.mono Hb1.out.size))
  have Hl2 := Lib.hid (Hl1.out.below hb2 rfl)
  have Hp2 := Lib.hid (Hp1.out.below hb2 rfl)
  have Ha2 : Hid (Blk w2 g 67 #[.int .u64 (m0 : Int), .int .u64 (n0 : Int)]) := Lib.hid ((hb2.block _ (Blk.lt Ha1.out)).trans Ha1.out)
  clear Hb1 Hl1 Hp1 Ha1 hb2
  clear Hp2; have Hp2 := Hp2x; clear Hp2x
  obtain ⟨mi, hmi⟩ : ∃ mi : Int, ((m0 % 24 : Nat) : Int) = mi := ⟨_, rfl⟩
  rw [hmi] at e1 e2
  clear hmi
  obtain ⟨bl, be, hshort, hcB, hrB⟩ : ∃ (bl : List ByteArray) (be : Int), bl.length ≤ maxLen ∧ (∀ wq v, Tab wq → SRead wq v M → Calls Tryd.prog 52 #[.int .i64 mi, v] wq fun e w' => (∃ u, e = .returned (.tuple #[u, .int .i64 be]) ∧ SOwn wq.heap.size w' u bl) ∧ Below wq.heap.size wq w') ∧ (∀ wq v, SRead wq v M → Calls Tryd.prog 53 #[.int .i64 mi, v] wq fun e w' => (∃ u, e = .returned (.tuple #[u, .int .i64 be]) ∧ SOwn wq.heap.size w' u bl) ∧ Below wq.heap.size wq w') :=
    ⟨brL mi M, brE mi M.length, brL_short mi M (by have := Hlen.out; omega), fun wq v h1 h2 => cBridge_any h1 h2 Hsz.out (by have := Hlen.out; omega) mi, fun wq v h2 => rBridge_any h2 Hsz.out (by have := Hlen.out; omega) mi⟩
  have HcB := Lib.hid hcB; have HrB := Lib.hid hrB; have Hsh := Lib.hid hshort
  clear hcB hrB hshort
  have c0 := Blk.cell Ha2.out 0; have c1 := Blk.cell Ha2.out 1
  simp only [List.getElem?_toArray, List.getElem?_cons_succ, List.getElem?_cons_zero] at c0 c1
  go_wp2_with fail
  clear c0 c1
  refine (HcB.out _ _ (HT.out.below Hb2.out) Hl2.out).mono ?_
  rintro e w3 ⟨⟨u3, rfl, ho3⟩, hb3⟩
  have Hu3 := Lib.hid (ho3.read Hsh.out)
  clear ho3
  have Hb3 := Lib.hid (Hb2.out.trans (hb3.mono Hb2.out.size))
  have Hl3 := Lib.hid (Hl2.out.below hb3 rfl)
  have Hp3 := Lib.hid (Hp2.out.below hb3 rfl)
  have Ha3 : Hid (Blk w3 g 67 #[.int .u64 (m0 : Int), .int .u64 (n0 : Int)]) := Lib.hid ((hb3.block _ (Blk.lt Ha2.out)).trans Ha2.out)
  clear Hb2 Hl2 Hp2 Ha2 hb3
  go_wp2_with fail
  refine (HrB.out _ _ Hl3.out).mono ?_
  rintro e w4 ⟨⟨u4, rfl, ho4⟩, hb4⟩
  have Hv4 := Lib.hid (ho4.read Hsh.out)
  clear ho4
  have Hb4 := Lib.hid (Hb3.out.trans (hb4.mono Hb3.out.size))
  have Hl4 := Lib.hid (Hl3.out.below hb4 rfl)
  have Hp4 := Lib.hid (Hp3.out.below hb4 rfl)
  have Ha4 : Hid (Blk w4 g 67 #[.int .u64 (m0 : Int), .int .u64 (n0 : Int)]) := Lib.hid ((hb4.block _ (Blk.lt Ha3.out)).trans Ha3.out)
  have Hu4 := Lib.hid (Hu3.out.below hb4 rfl)
  clear Hb3 Hl3 Hp3 Ha3 Hu3 hb4
  obtain ⟨ia, ib, ie, hcI, hrI⟩ : ∃ (ia ib : ByteArray) (ie : Int), (∀ wq v, Tab wq → SRead wq v P → Calls Tryd.prog 54 #[.int .u64 (m0 : Int), .int .u64 (n0 : Int), v] wq fun e w' => e = .returned (.tuple #[.string ia, .string ib, .int .i64 ie]) ∧ Below wq.heap.size wq w') ∧ (∀ wq v, SRead wq v P → Calls Tryd.prog 55 #[.int .u64 (m0 : Int), .int .u64 (n0 : Int), v] wq fun e w' => e = .returned (.tuple #[.string ia, .string ib, .int .i64 ie]) ∧ Below wq.heap.size wq w') :=
    ⟨impA m0 n0 P, impB m0 n0 P, impE m0 n0 P, fun wq v h1 h2 => cImplied_any h1 h2 m0 n0, fun wq v h2 => rImplied_any h2 m0 n0⟩
  have HcI := Lib.hid hcI; have HrI := Lib.hid hrI
  clear hcI hrI
  have c0 := Blk.cell Ha4.out 0; have c1 := Blk.cell Ha4.out 1
  simp only [List.getElem?_toArray, List.getElem?_cons_succ, List.getElem?_cons_zero] at c0 c1
  go_wp2_with fail
  clear c0 c1
  refine (HcI.out _ _ (HT.out.below Hb4.out) Hp4.out).mono ?_
  rintro e w5 ⟨rfl, hb5⟩
  have Hb5 := Lib.hid (Hb4.out.trans (hb5.mono Hb4.out.size))
  have Hl5 := Lib.hid (Hl4.out.below hb5 rfl)
  have Hp5 := Lib.hid (Hp4.out.below hb5 rfl)
  have Ha5 : Hid (Blk w5 g 67 #[.int .u64 (m0 : Int), .int .u64 (n0 : Int)]) := Lib.hid ((hb5.block _ (Blk.lt Ha4.out)).trans Ha4.out)
  have Hu5 := Lib.hid (Hu4.out.below hb5 rfl)
  have Hv5 := Lib.hid (Hv4.out.below hb5 rfl)
  clear Hb4 Hl4 Hp4 Ha4 Hu4 Hv4 hb5
  have c0 := Blk.cell Ha5.out 0; have c1 := Blk.cell Ha5.out 1
  simp only [List.getElem?_toArray, List.getElem?_cons_succ, List.getElem?_cons_zero] at c0 c1
  go_wp2_with fail
  clear c0 c1
  refine (HrI.out _ _ Hp5.out).mono ?_
  rintro e w6 ⟨rfl, hb6⟩
  have Hb6 := Lib.hid (Hb5.out.trans (hb6.mono Hb5.out.size))
  have Hl6 := Lib.hid (Hl5.out.below hb6 rfl)
  have Hp6 := Lib.hid (Hp5.out.below hb6 rfl)
  have Ha6 : Hid (Blk w6 g 67 #[.int .u64 (m0 : Int), .int .u64 (n0 : Int)]) := Lib.hid ((hb6.block _ (Blk.lt Ha5.out)).trans Ha5.out)
  have Hu6 := Lib.hid (Hu5.out.below hb6 rfl)
  have Hv6 := Lib.hid (Hv5.out.below hb6 rfl)
  clear Hb5 Hl5 Hp5 Ha5 Hu5 Hv5 hb6
  go_upto_region 8 with fail
  obtain ⟨sn, hcS, hrS⟩ : ∃ (sn : Int), (∀ wq, Calls Tryd.prog 56 #[.int .u64 (m0 : Int), .int .u64 (n0 : Int)] wq fun e w' => e = .returned (.int .i64 sn) ∧ Below wq.heap.size wq w') ∧ (∀ wq, Calls Tryd.prog 57 #[.int .u64 (m0 : Int), .int .u64 (n0 : Int)] wq fun e w' => e = .returned (.int .i64 sn) ∧ w' = wq) :=
    ⟨(stepsN m0 n0 : Int), fun wq => cStepsN_any m0 n0, fun wq => rStepsN_any m0 n0 wq⟩
  have HcS := Lib.hid hcS; have HrS := Lib.hid hrS
  have z1 : (ia.toList == ia.toList) = true := by simp
  have z2 : (ib.toList == ib.toList) = true := by simp
  clear hcS hrS
  refine wp_region_T (n := 39) (S := fun wq => Below w6.heap.size w6 wq) (by kernel_rfl) (by kernel_rfl) (below_drewN' (Below.refl _ _) 1) (fun hHeld => ?_)
  refine WalkT.take (i := 0) (oi := _) (v := ?vr1) rfl (by decide) (by kernel_rfl) (by kernel_rfl) (fun _ _ _ h => h) (Or.inl ⟨by kernel_rfl, ?hyr1⟩) (by assumption) ?rr1
  case hyr1 => (intro wq hSw; go_simp; try (with_reducible rfl))
  try simp only [Act.put, List.setIfInBounds_toArray, List.set_cons_zero, List.set_cons_succ]
  refine WalkT.take (i := 1) (oi := _) (v := ?vr2) rfl (by decide) (by kernel_rfl) (by kernel_rfl) (fun _ _ _ h => h) (Or.inl ⟨by kernel_rfl, ?hyr2⟩) (by assumption) ?rr2
  case hyr2 => (intro wq hSw; have q9 := Blk.cell ((Below.block hSw _ (Blk.lt Ha6.out)).trans Ha6.out) 0; simp only [List.getElem?_toArray, List.getElem?_cons_succ, List.getElem?_cons_zero] at q9; go_simp; try (with_reducible rfl))
  try simp only [Act.put, List.setIfInBounds_toArray, List.set_cons_zero, List.set_cons_succ]
  refine WalkT.take (i := 2) (oi := _) (v := ?vr3) rfl (by decide) (by kernel_rfl) (by kernel_rfl) (fun _ _ _ h => h) (Or.inl ⟨by kernel_rfl, ?hyr3⟩) (by assumption) ?rr3
  case hyr3 => (intro wq hSw; go_simp; try (with_reducible rfl))
  try simp only [Act.put, List.setIfInBounds_toArray, List.set_cons_zero, List.set_cons_succ]
  refine WalkT.take (i := 3) (oi := _) (v := ?vr4) rfl (by decide) (by kernel_rfl) (by kernel_rfl) (fun _ _ _ h => h) (Or.inl ⟨by kernel_rfl, ?hyr4⟩) (by assumption) ?rr4
  case hyr4 => (intro wq hSw; have q9 := Blk.cell ((Below.block hSw _ (Blk.lt Ha6.out)).trans Ha6.out) 1; simp only [List.getElem?_toArray, List.getElem?_cons_succ, List.getElem?_cons_zero] at q9; go_simp; try (with_reducible rfl))
  try simp only [Act.put, List.setIfInBounds_toArray, List.set_cons_zero, List.set_cons_succ]
  refine WalkT.take (i := 5) (oi := _) (v := ?vr5) rfl (by decide) (by kernel_rfl) (by kernel_rfl) (fun _ _ _ h => h) (Or.inl ⟨by kernel_rfl, ?hyr5⟩) (by assumption) ?rr5
  case hyr5 => (intro wq hSw; go_simp; try (with_reducible rfl))
  try simp only [Act.put, List.setIfInBounds_toArray, List.set_cons_zero, List.set_cons_succ]
  refine WalkT.take (i := 6) (oi := _) (v := ?vr6) rfl (by decide) (by kernel_rfl) (by kernel_rfl) (fun _ _ _ h => h) (Or.inl ⟨by kernel_rfl, ?hyr6⟩) (by assumption) ?rr6
  case hyr6 => (intro wq hSw; have q9 := Blk.cell ((Below.block hSw _ (Blk.lt Ha6.out)).trans Ha6.out) 0; simp only [List.getElem?_toArray, List.getElem?_cons_succ, List.getElem?_cons_zero] at q9; go_simp; try (with_reducible rfl))
  try simp only [Act.put, List.setIfInBounds_toArray, List.set_cons_zero, List.set_cons_succ]
  refine WalkT.take (i := 7) (oi := _) (v := ?vr7) rfl (by decide) (by kernel_rfl) (by kernel_rfl) (fun _ _ _ h => h) (Or.inl ⟨by kernel_rfl, ?hyr7⟩) (by assumption) ?rr7
  case hyr7 => (intro wq hSw; go_simp; try (with_reducible rfl))
  try simp only [Act.put, List.setIfInBounds_toArray, List.set_cons_zero, List.set_cons_succ]
  refine WalkT.take (i := 8) (oi := _) (v := ?vr8) rfl (by decide) (by kernel_rfl) (by kernel_rfl) (fun _ _ _ h => h) (Or.inl ⟨by kernel_rfl, ?hyr8⟩) (by assumption) ?rr8
  case hyr8 => (intro wq hSw; have q9 := Blk.cell ((Below.block hSw _ (Blk.lt Ha6.out)).trans Ha6.out) 1; simp only [List.getElem?_toArray, List.getElem?_cons_succ, List.getElem?_cons_zero] at q9; go_simp; try (with_reducible rfl))
  try simp only [Act.put, List.setIfInBounds_toArray, List.set_cons_zero, List.set_cons_succ]
  refine WalkT.one (i := 4) (o := ?or9) (by kernel_rfl) (by decide) ?hor9 ?hkr9
  case hor9 => (simp only [List.getElem?_toArray, List.getElem?_cons_succ, List.getElem?_cons_zero]; exact rfl)
  intro K hK
  go_simp
  refine (HcS.out _).mono ?_
  rintro e y4 ⟨rfl, hb⟩
  have hS4 : Below w6.heap.size w6 y4 := Below.trans hHeld (Below.mono hb (Below.size hHeld))
  clear hb hHeld
  go_simp
  refine hK.out _ _ hS4 (fun hHeld => ?_)
  clear hS4
  clear hK K
  try simp only [Act.put, List.setIfInBounds_toArray, List.set_cons_zero, List.set_cons_succ]
  refine WalkT.one (i := 9) (o := ?or10) (by kernel_rfl) (by decide) ?hor10 ?hkr10
  case hor10 => (simp only [List.getElem?_toArray, List.getElem?_cons_succ, List.getElem?_cons_zero]; exact rfl)
  intro K hK
  go_simp
  refine (HrS.out _).mono ?_
  rintro e y9 ⟨rfl, rfl⟩
  have hS9 : Below w6.heap.size w6 y9 := hHeld
  clear hHeld
  go_simp
  refine hK.out _ _ hS9 (fun hHeld => ?_)
  clear hS9
  clear hK K
  try simp only [Act.put, List.setIfInBounds_toArray, List.set_cons_zero, List.set_cons_succ]
  refine WalkT.take (i := 10) (oi := _) (v := ?vr11) rfl (by decide) (by kernel_rfl) (by kernel_rfl) (fun _ _ _ h => h) (Or.inl ⟨by kernel_rfl, ?hyr11⟩) (by assumption) ?rr11
  case hyr11 => (intro wq hSw; go_simp; try (with_reducible rfl))
  try simp only [Act.put, List.setIfInBounds_toArray, List.set_cons_zero, List.set_cons_succ]
  refine WalkT.take (i := 11) (oi := _) (v := ?vr12) rfl (by decide) (by kernel_rfl) (by kernel_rfl) (fun _ _ _ h => h) (Or.inl ⟨by kernel_rfl, ?hyr12⟩) (by assumption) ?rr12
  case hyr12 => (intro wq hSw; go_simp; try (with_reducible rfl))
  try simp only [Act.put, List.setIfInBounds_toArray, List.set_cons_zero, List.set_cons_succ]
  refine WalkT.take (i := 12) (oi := _) (v := ?vr13) rfl (by decide) (by kernel_rfl) (by kernel_rfl) (fun _ _ _ h => h) (Or.inl ⟨by kernel_rfl, ?hyr13⟩) (by assumption) ?rr13
  case hyr13 => (intro wq hSw; go_simp; try (with_reducible rfl))
  try simp only [Act.put, List.setIfInBounds_toArray, List.set_cons_zero, List.set_cons_succ]
  refine WalkT.take (i := 13) (oi := _) (v := ?vr14) rfl (by decide) (by kernel_rfl) (by kernel_rfl) (fun _ _ _ h => h) (Or.inl ⟨by kernel_rfl, ?hyr14⟩) (by assumption) ?rr14
  case hyr14 => (intro wq hSw; go_simp; try (with_reducible rfl))
  try simp only [Act.put, List.setIfInBounds_toArray, List.set_cons_zero, List.set_cons_succ]
  refine WalkT.one (i := 14) (o := ?or15) (by kernel_rfl) (by decide) ?hor15 ?hkr15
  case hor15 => (simp only [List.getElem?_toArray, List.getElem?_cons_succ, List.getElem?_cons_zero]; exact rfl)
  intro K hK
  go_simp
  refine (same_any (SRead.below Hu6.out hHeld rfl) (SRead.below Hv6.out hHeld rfl)).mono ?_
  rintro e y14 ⟨rfl, n8, rfl⟩
  rw [decide_eq_true rfl]
  have hS14 := below_drewN' hHeld n8
  clear hHeld
  go_simp
  refine hK.out _ _ hS14 (fun hHeld => ?_)
  clear hS14
  clear hK K
  try simp only [Act.put, List.setIfInBounds_toArray, List.set_cons_zero, List.set_cons_succ]
  refine WalkT.take (i := 15) (oi := _) (v := ?vr16) rfl (by decide) (by kernel_rfl) (by kernel_rfl) (fun _ _ _ h => h) (Or.inl ⟨by kernel_rfl, ?hyr16⟩) (by assumption) ?rr16
  case hyr16 => (intro wq hSw; go_simp; try (with_reducible rfl))
  try simp only [Act.put, List.setIfInBounds_toArray, List.set_cons_zero, List.set_cons_succ]
  refine WalkT.take (i := 16) (oi := _) (v := ?vr17) rfl (by decide) (by kernel_rfl) (by kernel_rfl) (fun _ _ _ h => h) (Or.inl ⟨by kernel_rfl, ?hyr17⟩) (by assumption) ?rr17
  case hyr17 => (intro wq hSw; go_simp; try (with_reducible rfl))
  try simp only [Act.put, List.setIfInBounds_toArray, List.set_cons_zero, List.set_cons_succ]
  refine WalkT.take (i := 17) (oi := _) (v := ?vr18) rfl (by decide) (by kernel_rfl) (by kernel_rfl) (fun _ _ _ h => h) (Or.inl ⟨by kernel_rfl, ?hyr18⟩) (by assumption) ?rr18
  case hyr18 => (intro wq hSw; go_simp; try (with_reducible rfl))
  try simp only [Act.put, List.setIfInBounds_toArray, List.set_cons_zero, List.set_cons_succ]
  refine WalkT.take (i := 18) (oi := _) (v := ?vr19) rfl (by decide) (by kernel_rfl) (by kernel_rfl) (fun _ _ _ h => h) (Or.inl ⟨by kernel_rfl, ?hyr19⟩) (by assumption) ?rr19
  case hyr19 => (intro wq hSw; go_simp; try (with_reducible rfl))
  try simp only [Act.put, List.setIfInBounds_toArray, List.set_cons_zero, List.set_cons_succ]
  refine WalkT.take (i := 19) (oi := _) (v := ?vr20) rfl (by decide) (by kernel_rfl) (by kernel_rfl) (fun _ _ _ h => h) (Or.inl ⟨by kernel_rfl, ?hyr20⟩) (by assumption) ?rr20
  case hyr20 => (intro wq hSw; go_simp; try (with_reducible rfl))
  try simp only [Act.put, List.setIfInBounds_toArray, List.set_cons_zero, List.set_cons_succ]
  refine WalkT.take (i := 20) (oi := _) (v := ?vr21) rfl (by decide) (by kernel_rfl) (by kernel_rfl) (fun _ _ _ h => h) (Or.inl ⟨by kernel_rfl, ?hyr21⟩) (by assumption) ?rr21
  case hyr21 => (intro wq hSw; go_simp; try (with_reducible rfl))
  try simp only [Act.put, List.setIfInBounds_toArray, List.set_cons_zero, List.set_cons_succ]
  refine WalkT.take (i := 21) (oi := _) (v := ?vr22) rfl (by decide) (by kernel_rfl) (by kernel_rfl) (fun _ _ _ h => h) (Or.inl ⟨by kernel_rfl, ?hyr22⟩) (by assumption) ?rr22
  case hyr22 => (intro wq hSw; go_simp; try (with_reducible rfl))
  try simp only [Act.put, List.setIfInBounds_toArray, List.set_cons_zero, List.set_cons_succ]
  refine WalkT.take (i := 22) (oi := _) (v := ?vr23) rfl (by decide) (by kernel_rfl) (by kernel_rfl) (fun _ _ _ h => h) (Or.inl ⟨by kernel_rfl, ?hyr23⟩) (by assumption) ?rr23
  case hyr23 => (intro wq hSw; go_simp; try (with_reducible rfl))
  try simp only [Act.put, List.setIfInBounds_toArray, List.set_cons_zero, List.set_cons_succ]
  refine WalkT.take (i := 23) (oi := _) (v := ?vr24) rfl (by decide) (by kernel_rfl) (by kernel_rfl) (fun _ _ _ h => h) (Or.inl ⟨by kernel_rfl, ?hyr24⟩) (by assumption) ?rr24
  case hyr24 => (intro wq hSw; go_simp; try (with_reducible rfl))
  try simp only [Act.put, List.setIfInBounds_toArray, List.set_cons_zero, List.set_cons_succ]
  refine WalkT.take (i := 24) (oi := _) (v := ?vr25) rfl (by decide) (by kernel_rfl) (by kernel_rfl) (fun _ _ _ h => h) (Or.inl ⟨by kernel_rfl, ?hyr25⟩) (by assumption) ?rr25
  case hyr25 => (intro wq hSw; go_simp; try (with_reducible rfl))
  try simp only [Act.put, List.setIfInBounds_toArray, List.set_cons_zero, List.set_cons_succ]
  refine WalkT.take (i := 25) (oi := _) (v := ?vr26) rfl (by decide) (by kernel_rfl) (by kernel_rfl) (fun _ _ _ h => h) (Or.inl ⟨by kernel_rfl, ?hyr26⟩) (by assumption) ?rr26
  case hyr26 => (intro wq hSw; go_simp; try (with_reducible rfl))
  try simp only [Act.put, List.setIfInBounds_toArray, List.set_cons_zero, List.set_cons_succ]
  refine WalkT.take (i := 26) (oi := _) (v := ?vr27) rfl (by decide) (by kernel_rfl) (by kernel_rfl) (fun _ _ _ h => h) (Or.inl ⟨by kernel_rfl, ?hyr27⟩) (by assumption) ?rr27
  case hyr27 => (intro wq hSw; go_simp; try (with_reducible rfl))
  try simp only [Act.put, List.setIfInBounds_toArray, List.set_cons_zero, List.set_cons_succ]
  refine WalkT.take (i := 27) (oi := _) (v := ?vr28) rfl (by decide) (by kernel_rfl) (by kernel_rfl) (fun _ _ _ h => h) (Or.inl ⟨by kernel_rfl, ?hyr28⟩) (by assumption) ?rr28
  case hyr28 => (intro wq hSw; go_simp; try (with_reducible rfl))
  try simp only [Act.put, List.setIfInBounds_toArray, List.set_cons_zero, List.set_cons_succ]
  refine WalkT.take (i := 28) (oi := _) (v := ?vr29) rfl (by decide) (by kernel_rfl) (by kernel_rfl) (fun _ _ _ h => h) (Or.inl ⟨by kernel_rfl, ?hyr29⟩) (by assumption) ?rr29
  case hyr29 => (intro wq hSw; go_simp; try (with_reducible rfl))
  try simp only [Act.put, List.setIfInBounds_toArray, List.set_cons_zero, List.set_cons_succ]
  refine WalkT.take (i := 29) (oi := _) (v := ?vr30) rfl (by decide) (by kernel_rfl) (by kernel_rfl) (fun _ _ _ h => h) (Or.inl ⟨by kernel_rfl, ?hyr30⟩) (by assumption) ?rr30
  case hyr30 => (intro wq hSw; go_simp; try (with_reducible rfl))
  try simp only [Act.put, List.setIfInBounds_toArray, List.set_cons_zero, List.set_cons_succ]
  refine WalkT.take (i := 30) (oi := _) (v := ?vr31) rfl (by decide) (by kernel_rfl) (by kernel_rfl) (fun _ _ _ h => h) (Or.inl ⟨by kernel_rfl, ?hyr31⟩) (by assumption) ?rr31
  case hyr31 => (intro wq hSw; go_simp; try (with_reducible rfl))
  try simp only [Act.put, List.setIfInBounds_toArray, List.set_cons_zero, List.set_cons_succ]
  refine WalkT.take (i := 31) (oi := _) (v := ?vr32) rfl (by decide) (by kernel_rfl) (by kernel_rfl) (fun _ _ _ h => h) (Or.inl ⟨by kernel_rfl, ?hyr32⟩) (by assumption) ?rr32
  case hyr32 => (intro wq hSw; go_simp; try (with_reducible rfl))
  try simp only [Act.put, List.setIfInBounds_toArray, List.set_cons_zero, List.set_cons_succ]
  refine WalkT.take (i := 32) (oi := _) (v := ?vr33) rfl (by decide) (by kernel_rfl) (by kernel_rfl) (fun _ _ _ h => h) (Or.inl ⟨by kernel_rfl, ?hyr33⟩) (by assumption) ?rr33
  case hyr33 => (intro wq hSw; go_simp; try (with_reducible rfl))
  try simp only [Act.put, List.setIfInBounds_toArray, List.set_cons_zero, List.set_cons_succ]
  refine WalkT.take (i := 33) (oi := _) (v := ?vr34) rfl (by decide) (by kernel_rfl) (by kernel_rfl) (fun _ _ _ h => h) (Or.inl ⟨by kernel_rfl, ?hyr34⟩) (by assumption) ?rr34
  case hyr34 => (intro wq hSw; go_simp; try (with_reducible rfl))
  try simp only [Act.put, List.setIfInBounds_toArray, List.set_cons_zero, List.set_cons_succ]
  refine WalkT.take (i := 34) (oi := _) (v := ?vr35) rfl (by decide) (by kernel_rfl) (by kernel_rfl) (fun _ _ _ h => h) (Or.inl ⟨by kernel_rfl, ?hyr35⟩) (by assumption) ?rr35
  case hyr35 => (intro wq hSw; go_simp; try (with_reducible rfl))
  try simp only [Act.put, List.setIfInBounds_toArray, List.set_cons_zero, List.set_cons_succ]
  refine WalkT.take (i := 35) (oi := _) (v := ?vr36) rfl (by decide) (by kernel_rfl) (by kernel_rfl) (fun _ _ _ h => h) (Or.inl ⟨by kernel_rfl, ?hyr36⟩) (by assumption) ?rr36
  case hyr36 => (intro wq hSw; go_simp; try (with_reducible rfl))
  try simp only [Act.put, List.setIfInBounds_toArray, List.set_cons_zero, List.set_cons_succ]
  refine WalkT.take (i := 36) (oi := _) (v := ?vr37) rfl (by decide) (by kernel_rfl) (by kernel_rfl) (fun _ _ _ h => h) (Or.inl ⟨by kernel_rfl, ?hyr37⟩) (by assumption) ?rr37
  case hyr37 => (intro wq hSw; go_simp; try (with_reducible rfl))
  try simp only [Act.put, List.setIfInBounds_toArray, List.set_cons_zero, List.set_cons_succ]
  refine WalkT.one (i := 37) (o := ?or38) (by kernel_rfl) (by decide) ?hor38 ?hkr38
  case hor38 => (simp only [List.getElem?_toArray, List.getElem?_cons_succ, List.getElem?_cons_zero]; exact rfl)
  intro K hK
  go_simp
  refine (pfixed_any (HT.out.below (Below.trans Hb6.out (Below.mono hHeld Hb6.out.size)))).mono ?_
  rintro e y37 ⟨rfl, hb⟩
  have hS37 : Below w6.heap.size w6 y37 := Below.trans hHeld (Below.mono hb (Below.size hHeld))
  clear hb hHeld
  go_simp
  refine hK.out _ _ hS37 (fun hHeld => ?_)
  clear hS37
  clear hK K
  try simp only [Act.put, List.setIfInBounds_toArray, List.set_cons_zero, List.set_cons_succ]
  refine WalkT.take (i := 38) (oi := _) (v := ?vr39) rfl (by decide) (by kernel_rfl) (by kernel_rfl) (fun _ _ _ h => h) (Or.inl ⟨by kernel_rfl, ?hyr39⟩) (by assumption) ?rr39
  case hyr39 => (intro wq hSw; go_simp; try (with_reducible rfl))
  try simp only [Act.put, List.setIfInBounds_toArray, List.set_cons_zero, List.set_cons_succ]
  refine WalkT.tail (by kernel_rfl) ?_
  have Hend := Lib.hid (Hb6.out.trans (Below.mono hHeld Hb6.out.size)); clear hHeld
  simp only [List.drop_succ_cons, List.drop_zero]
  go_wp2
  go_ret
  exact ⟨rfl, Hend.out⟩
theorem proofTells_walk' (a b : Int) (ha : (Lit.int .u64 a).wf = true) (hb : (Lit.int .u64 b).wf = true) (A : Option Addr) (len cap : Nat) (L : List ByteArray) {w : World} (hL : SRead w (.slice A len cap) L ∧ ∀ s ∈ L, s.size ≤ maxLen) (A2 : Option Addr) (len2 cap2 : Nat) (P : List ByteArray) (hP : SRead w (.slice A2 len2 cap2) P ∧ ∀ s ∈ P, s.size ≤ maxLen) (hT : Tab w) :
    Calls Tryd.prog 15 #[.agg #[.int .u64 a, .int .u64 b], .slice A len cap, .slice A2 len2 cap2] w fun e w' => e = .returned (.bool true) ∧ Below w.heap.size w w' := proofTells_walk a b ha hb A len cap L A2 len2 cap2 P hL.1 hP.1 hT
end Go.Proofs.YtkdajlhmodmkoaaDoor
