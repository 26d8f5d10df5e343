/-
  Layer 9 (proof): ProofAudits walked.
-/
import Derived.Test.YtkdajlhmodmkoaaDoorQB
namespace Go.Proofs.YtkdajlhmodmkoaaDoor
open Go.RowKit TreeM
set_option linter.unusedVariables false
set_option linter.unusedSimpArgs false

theorem u64_nat {a : Int} (ha : (Lit.int .u64 a).wf = true) : ∃ n : Nat, n < 18446744073709551616 ∧ a = (n : Int) := by
  simp [Lit.wf, IntKind.min, IntKind.max, IntKind.signed, IntKind.bits] at ha
  exact ⟨a.toNat, by omega, by omega⟩
theorem info67 : (Tryd.prog.info? 67).map (·.size) = some 2 := by kernel_rfl
theorem brL_short (m : Int) (L : List ByteArray) (h : L.length ≤ 20) : (brL m L).length ≤ maxLen := by
  unfold brL; split
  · rename_i hb
    have hm : 1 ≤ m ∧ m ≤ (L.length : Int) := by unfold brOk at hb; simpa using hb
    rw [bridge_length]; have := steps_short 40 m.toNat L.length (by omega) (by omega); unfold maxLen; omega
  · simp
theorem auL_short (m : Int) (L : List ByteArray) (h : L.length ≤ 20) : (auL m L).length ≤ maxLen := by
  unfold auL; split
  · rw [audit_length]; have := sides_short 40 m.toNat L.length (by omega); unfold maxLen; omega
  · simp
set_option maxRecDepth 100000 in
set_option maxHeartbeats 8000000 in
theorem proofAudits_walk (a b : Int) (ha : (Lit.int .u64 a).wf = true) (hb : (Lit.int .u64 b).wf = true) (A : Option Addr) (len cap : Nat) (L : List ByteArray) (A2 : Option Addr) (len2 cap2 : Nat) (P0 : List ByteArray) {w : World} (hL : SRead w (.slice A len cap) L) (hP0 : SRead w (.slice A2 len2 cap2) P0) (hT : Tab w) :
    Calls Tryd.prog 16 #[.agg #[.int .u64 a, .int .u64 b], .slice A len cap, .slice A2 len2 cap2] w fun e w' => e = .returned (.bool true) ∧ Below w.heap.size w w' := by
  obtain ⟨m0, hm0, rfl⟩ := u64_nat ha
  obtain ⟨n0, hn0, rfl⟩ := u64_nat hb
  clear ha hb
  have e1 : IntKind.i64.wrap ((m0 : Int).tmod 24) = ((m0 % 24 : Nat) : Int) := by rw [Int.tmod_eq_emod_of_nonneg (by omega)]; exact (congrArg _ (Int.natCast_emod m0 24).symm).trans (IntWalk.i64_in _ (by have := Nat.mod_lt m0 (show 0 < 24 by decide); omega))
  have e2 : (m0 : Int).tmod 24 = ((m0 % 24 : Nat) : Int) := by rw [Int.tmod_eq_emod_of_nonneg (by omega)]; exact (Int.natCast_emod m0 24).symm
  rw [e2] at e1
  have HT := Lib.hid hT; have hx := hL; have hy := hP0
  have hw := alloc_below' w (.cells #[.int .u64 (m0 : Int), .int .u64 (n0 : Int)] 67)
  have hBk : Blk (w.alloc (.cells #[.int .u64 (m0 : Int), .int .u64 (n0 : Int)] 67)) w.heap.size 67 #[.int .u64 (m0 : Int), .int .u64 (n0 : Int)] := Blk.new _ _ _
  obtain ⟨g, hg⟩ : ∃ g, w.heap.size = g := ⟨_, rfl⟩
  have hsz0 : w.heap.size ≤ (w.alloc (.cells #[.int .u64 (m0 : Int), .int .u64 (n0 : Int)] 67)).heap.size := hw.size
  have Hl0 := Lib.hid (hL.below hw rfl); have Hp0 := Lib.hid (hP0.below hw rfl); have Hb0 := Lib.hid hw
  clear hL hP0 hT hx hy hw
  go_enter Tryd.func16, Tryd.ntmps16
  go_upto_region 1 with fail
  generalize w.alloc (.cells #[.int .u64 (m0 : Int), .int .u64 (n0 : Int)] 67) = w0 at *
  rw [hg] at hBk
  have Ha0 := Lib.hid hBk
  clear hBk hsz0 hg
  go_wp2_with fail
  refine (cut_any Hl0.out 20 (by decide)).mono ?_
  rintro e w1 ⟨⟨v1, rfl, ho1⟩, hb1⟩
  have hlen := cutL_length L 20
  have hsz : ∀ s ∈ cutL L 20, s.size ≤ 80000000 := fun s hs => by have := cutL_size L 20 s hs; omega
  generalize cutL L 20 = M at *
  have Hl1x := Lib.hid (ho1.read (by unfold maxLen; omega))
  have Hsz := Lib.hid hsz; have Hlen := Lib.hid hlen
  clear ho1 hsz hlen
  have Hb1 := Lib.hid (Hb0.out.trans (hb1.mono Hb0.out.size))
  have Hl1 := Lib.hid (Hl0.out.below hb1 rfl)
  have Hp1 := Lib.hid (Hp0.out.below hb1 rfl)
  have Ha1 : Hid (Blk w1 g 67 #[.int .u64 (m0 : Int), .int .u64 (n0 : Int)]) := Lib.hid ((hb1.block _ (Blk.lt Ha0.out)).trans Ha0.out)
  clear Hb0 Hl0 Hp0 Ha0 hb1
  clear Hl1; have Hl1 := Hl1x; clear Hl1x
  go_wp2_with fail
  refine (hashes_any Hp1.out).mono ?_
  rintro e w2 ⟨⟨v2, rfl, ho2⟩, hb2⟩
  have hplen := cutL_length P0 50
  generalize cutL P0 50 = P at *
  have Hp2x := Lib.hid (ho2.read (by unfold maxLen; omega))
  clear ho2
  have Hb2 := Lib.hid (Hb1.out.trans (hb2.mono Hb1.out.size))
  have Hl2 := Lib.hid (Hl1.out.below hb2 rfl)
  have Hp2 := Lib.hid (Hp1.out.below hb2 rfl)
  have Ha2 : Hid (Blk w2 g 67 #[.int .u64 (m0 : Int), .int .u64 (n0 : Int)]) := Lib.hid ((hb2.block _ (Blk.lt Ha1.out)).trans Ha1.out)
  clear Hb1 Hl1 Hp1 Ha1 hb2
  clear Hp2; have Hp2 := Hp2x; clear Hp2x
  obtain ⟨mi, hmi⟩ : ∃ mi : Int, ((m0 % 24 : Nat) : Int) = mi := ⟨_, rfl⟩
  rw [hmi] at e1 e2
  clear hmi
  obtain ⟨bl, be, hshort, hcB, hrB⟩ : ∃ (bl : List ByteArray) (be : Int), bl.length ≤ maxLen ∧ (∀ wq v, Tab wq → SRead wq v M → Calls Tryd.prog 59 #[.int .i64 mi, v] wq fun e w' => (∃ u, e = .returned (.tuple #[u, .int .i64 be]) ∧ SOwn wq.heap.size w' u bl) ∧ Below wq.heap.size wq w') ∧ (∀ wq v, SRead wq v M → Calls Tryd.prog 60 #[.int .i64 mi, v] wq fun e w' => (∃ u, e = .returned (.tuple #[u, .int .i64 be]) ∧ SOwn wq.heap.size w' u bl) ∧ Below wq.heap.size wq w') :=
    ⟨auL mi M, auE mi M.length, auL_short mi M (by have := Hlen.out; omega), fun wq v h1 h2 => cAudit_any h1 h2 Hsz.out (by have := Hlen.out; omega) mi, fun wq v h2 => rAudit_any h2 Hsz.out (by have := Hlen.out; omega) mi⟩
  have HcB := Lib.hid hcB; have HrB := Lib.hid hrB; have Hsh := Lib.hid hshort
  clear hcB hrB hshort
  cases P with
  | nil =>
    obtain ⟨A1, cap1, rfl⟩ := Hp2.out.any (show ([] : List ByteArray).length = 0 from rfl)
    have c0 := Blk.cell Ha2.out 0; have c1 := Blk.cell Ha2.out 1
    simp only [List.getElem?_toArray, List.getElem?_cons_succ, List.getElem?_cons_zero] at c0 c1
    go_wp2_with fail
    clear c0 c1
    refine (HcB.out _ _ (HT.out.below Hb2.out) Hl2.out).mono ?_
    rintro e w3 ⟨⟨u3, rfl, ho3⟩, hb3⟩
    have Hu3 := Lib.hid (ho3.read Hsh.out)
    clear ho3
    have Hb3 := Lib.hid (Hb2.out.trans (hb3.mono Hb2.out.size))
    have Hl3 := Lib.hid (Hl2.out.below hb3 rfl)
    have Hp3 := Lib.hid (Hp2.out.below hb3 rfl)
    have Ha3 : Hid (Blk w3 g 67 #[.int .u64 (m0 : Int), .int .u64 (n0 : Int)]) := Lib.hid ((hb3.block _ (Blk.lt Ha2.out)).trans Ha2.out)
    clear Hb2 Hl2 Hp2 Ha2 hb3
    go_wp2_with fail
    refine (HrB.out _ _ Hl3.out).mono ?_
    rintro e w4 ⟨⟨u4, rfl, ho4⟩, hb4⟩
    have Hv4 := Lib.hid (ho4.read Hsh.out)
    clear ho4
    have Hb4 := Lib.hid (Hb3.out.trans (hb4.mono Hb3.out.size))
    have Hl4 := Lib.hid (Hl3.out.below hb4 rfl)
    have Hp4 := Lib.hid (Hp3.out.below hb4 rfl)
    have Ha4 : Hid (Blk w4 g 67 #[.int .u64 (m0 : Int), .int .u64 (n0 : Int)]) := Lib.hid ((hb4.block _ (Blk.lt Ha3.out)).trans Ha3.out)
    have Hu4 := Lib.hid (Hu3.out.below hb4 rfl)
    clear Hb3 Hl3 Hp3 Ha3 Hu3 hb4
    obtain ⟨us, ue, hcI, hrI⟩ : ∃ (us : ByteArray) (ue : Int), (∀ wq v, Tab wq → SRead wq v ([] : List ByteArray) → Calls Tryd.prog 61 #[.int .u64 (m0 : Int), .int .u64 (n0 : Int), .string (⟨#[]⟩ : ByteArray), v] wq fun e w' => e = .returned (.tuple #[.string us, .int .i64 ue]) ∧ Below wq.heap.size wq w') ∧ (∀ wq v, SRead wq v ([] : List ByteArray) → Calls Tryd.prog 62 #[.int .u64 (m0 : Int), .int .u64 (n0 : Int), .string (⟨#[]⟩ : ByteArray), v] wq fun e w' => e = .returned (.tuple #[.string us, .int .i64 ue]) ∧ Below wq.heap.size wq w') :=
      ⟨upS m0 n0 (⟨#[]⟩ : ByteArray) ([] : List ByteArray), upE m0 n0 (⟨#[]⟩ : ByteArray) ([] : List ByteArray), fun wq v h1 h2 => cUp_any h1 h2 m0 n0 (⟨#[]⟩ : ByteArray), fun wq v h2 => rUp_any h2 m0 n0 (⟨#[]⟩ : ByteArray)⟩
    have HcI := Lib.hid hcI; have HrI := Lib.hid hrI
    have z1 : (us.toList == us.toList) = true := by simp
    clear hcI hrI
    have c0 := Blk.cell Ha4.out 0; have c1 := Blk.cell Ha4.out 1
    simp only [List.getElem?_toArray, List.getElem?_cons_succ, List.getElem?_cons_zero] at c0 c1
    go_wp2_with fail
    clear c0 c1
    refine (HcI.out _ _ (HT.out.below Hb4.out) Hp4.out).mono ?_
    rintro e w5 ⟨rfl, hb5⟩
    have Hb5 := Lib.hid (Hb4.out.trans (hb5.mono Hb4.out.size))
    have Hl5 := Lib.hid (Hl4.out.below hb5 rfl)
    have Hp5 := Lib.hid (Hp4.out.below hb5 rfl)
    have Ha5 : Hid (Blk w5 g 67 #[.int .u64 (m0 : Int), .int .u64 (n0 : Int)]) := Lib.hid ((hb5.block _ (Blk.lt Ha4.out)).trans Ha4.out)
    have Hu5 := Lib.hid (Hu4.out.below hb5 rfl)
    have Hv5 := Lib.hid (Hv4.out.below hb5 rfl)
    clear Hb4 Hl4 Hp4 Ha4 Hu4 Hv4 hb5
    have c0 := Blk.cell Ha5.out 0; have c1 := Blk.cell Ha5.out 1
    simp only [List.getElem?_toArray, List.getElem?_cons_succ, List.getElem?_cons_zero] at c0 c1
    go_wp2_with fail
    clear c0 c1
    refine (HrI.out _ _ Hp5.out).mono ?_
    rintro e w6 ⟨rfl, hb6⟩
    have Hb6 := Lib.hid (Hb5.out.trans (hb6.mono Hb5.out.size))
    have Hl6 := Lib.hid (Hl5.out.below hb6 rfl)
    have Hp6 := Lib.hid (Hp5.out.below hb6 rfl)
    have Ha6 : Hid (Blk w6 g 67 #[.int .u64 (m0 : Int), .int .u64 (n0 : Int)]) := Lib.hid ((hb6.block _ (Blk.lt Ha5.out)).trans Ha5.out)
    have Hu6 := Lib.hid (Hu5.out.below hb6 rfl)
    have Hv6 := Lib.hid (Hv5.out.below hb6 rfl)
    clear Hb5 Hl5 Hp5 Ha5 Hu5 Hv5 hb6
    go_wp2_with fail
    refine (same_any Hu6.out Hv6.out).mono ?_
    rintro e wz ⟨rfl, n8, rfl⟩
    rw [decide_eq_true rfl]
    have HbZ := Lib.hid (below_drewN' Hb6.out n8)
    go_wp2_with fail
    refine (pfixed_any (HT.out.below HbZ.out)).mono ?_
    rintro e wy ⟨rfl, hby⟩
    have hbE := HbZ.out.trans (hby.mono HbZ.out.size)
    go_wp2
    go_ret
    exact ⟨rfl, hbE⟩
  | cons x Q =>
    obtain ⟨gb, go, cap1, rfl, hcap⟩ := Hp2.out.slice (show (x :: Q).length = Q.length + 1 from rfl) (by omega)
    obtain ⟨q, hq⟩ : ∃ q, Q.length = q := ⟨_, rfl⟩
    have hdr := Hp2.out.drop 1 (by simp)
    have hx0 : w2.cell? ⟨gb, go, none⟩ = some (.string x) := by
      obtain ⟨A', cap', he, hm, hc⟩ := Hp2.out
      injection he with e1 e2 e3
      subst e1
      obtain ⟨b', o', h1, h2, h3⟩ := hc 0 (by simp)
      injection h1 with h1; injection h1 with e4 e5 _
      subst e4 e5
      exact h3
    simp only [List.drop_succ_cons, List.drop_zero, List.length_cons, Nat.add_sub_cancel] at hdr
    rw [hq] at hcap hdr ⊢
    have l1 : (0 : Int) < ((q + 1 : Nat) : Int) := by omega
    clear Hp2
    rcases Nat.lt_or_ge 1 cap1 with hc1 | hc1
    · obtain ⟨c, rfl⟩ : ∃ c, cap1 = c + 2 := ⟨cap1 - 2, by omega⟩
      have Hp2 : Hid (SRead w2 (.slice (some ⟨gb, go + 1, none⟩) q (c + 1)) Q) := Lib.hid hdr
      clear hdr hc1 hq

      have c0 := Blk.cell Ha2.out 0; have c1 := Blk.cell Ha2.out 1
      simp only [List.getElem?_toArray, List.getElem?_cons_succ, List.getElem?_cons_zero] at c0 c1
      go_wp2_with fail
      clear c0 c1
      refine (HcB.out _ _ (HT.out.below Hb2.out) Hl2.out).mono ?_
      rintro e w3 ⟨⟨u3, rfl, ho3⟩, hb3⟩
      have Hu3 := Lib.hid (ho3.read Hsh.out)
      clear ho3
      have Hb3 := Lib.hid (Hb2.out.trans (hb3.mono Hb2.out.size))
      have Hl3 := Lib.hid (Hl2.out.below hb3 rfl)
      have Hp3 := Lib.hid (Hp2.out.below hb3 rfl)
      have Ha3 : Hid (Blk w3 g 67 #[.int .u64 (m0 : Int), .int .u64 (n0 : Int)]) := Lib.hid ((hb3.block _ (Blk.lt Ha2.out)).trans Ha2.out)
      clear Hb2 Hl2 Hp2 Ha2 hb3
      go_wp2_with fail
      refine (HrB.out _ _ Hl3.out).mono ?_
      rintro e w4 ⟨⟨u4, rfl, ho4⟩, hb4⟩
      have Hv4 := Lib.hid (ho4.read Hsh.out)
      clear ho4
      have Hb4 := Lib.hid (Hb3.out.trans (hb4.mono Hb3.out.size))
      have Hl4 := Lib.hid (Hl3.out.below hb4 rfl)
      have Hp4 := Lib.hid (Hp3.out.below hb4 rfl)
      have Ha4 : Hid (Blk w4 g 67 #[.int .u64 (m0 : Int), .int .u64 (n0 : Int)]) := Lib.hid ((hb4.block _ (Blk.lt Ha3.out)).trans Ha3.out)
      have Hu4 := Lib.hid (Hu3.out.below hb4 rfl)
      clear Hb3 Hl3 Hp3 Ha3 Hu3 hb4
      obtain ⟨us, ue, hcI, hrI⟩ : ∃ (us : ByteArray) (ue : Int), (∀ wq v, Tab wq → SRead wq v Q → Calls Tryd.prog 61 #[.int .u64 (m0 : Int), .int .u64 (n0 : Int), .string x, v] wq fun e w' => e = .returned (.tuple #[.string us, .int .i64 ue]) ∧ Below wq.heap.size wq w') ∧ (∀ wq v, SRead wq v Q → Calls Tryd.prog 62 #[.int .u64 (m0 : Int), .int .u64 (n0 : Int), .string x, v] wq fun e w' => e = .returned (.tuple #[.string us, .int .i64 ue]) ∧ Below wq.heap.size wq w') :=
        ⟨upS m0 n0 x Q, upE m0 n0 x Q, fun wq v h1 h2 => cUp_any h1 h2 m0 n0 x, fun wq v h2 => rUp_any h2 m0 n0 x⟩
      have HcI := Lib.hid hcI; have HrI := Lib.hid hrI
      have z1 : (us.toList == us.toList) = true := by simp
      clear hcI hrI
      have c0 := Blk.cell Ha4.out 0; have c1 := Blk.cell Ha4.out 1
      simp only [List.getElem?_toArray, List.getElem?_cons_succ, List.getElem?_cons_zero] at c0 c1
      go_wp2_with fail
      clear c0 c1
      refine (HcI.out _ _ (HT.out.below Hb4.out) Hp4.out).mono ?_
      rintro e w5 ⟨rfl, hb5⟩
      have Hb5 := Lib.hid (Hb4.out.trans (hb5.mono Hb4.out.size))
      have Hl5 := Lib.hid (Hl4.out.below hb5 rfl)
      have Hp5 := Lib.hid (Hp4.out.below hb5 rfl)
      have Ha5 : Hid (Blk w5 g 67 #[.int .u64 (m0 : Int), .int .u64 (n0 : Int)]) := Lib.hid ((hb5.block _ (Blk.lt Ha4.out)).trans Ha4.out)
      have Hu5 := Lib.hid (Hu4.out.below hb5 rfl)
      have Hv5 := Lib.hid (Hv4.out.below hb5 rfl)
      clear Hb4 Hl4 Hp4 Ha4 Hu4 Hv4 hb5
      have c0 := Blk.cell Ha5.out 0; have c1 := Blk.cell Ha5.out 1
      simp only [List.getElem?_toArray, List.getElem?_cons_succ, List.getElem?_cons_zero] at c0 c1
      go_wp2_with fail
      clear c0 c1
      refine (HrI.out _ _ Hp5.out).mono ?_
      rintro e w6 ⟨rfl, hb6⟩
      have Hb6 := Lib.hid (Hb5.out.trans (hb6.mono Hb5.out.size))
      have Hl6 := Lib.hid (Hl5.out.below hb6 rfl)
      have Hp6 := Lib.hid (Hp5.out.below hb6 rfl)
      have Ha6 : Hid (Blk w6 g 67 #[.int .u64 (m0 : Int), .int .u64 (n0 : Int)]) := Lib.hid ((hb6.block _ (Blk.lt Ha5.out)).trans Ha5.out)
      have Hu6 := Lib.hid (Hu5.out.below hb6 rfl)
      have Hv6 := Lib.hid (Hv5.out.below hb6 rfl)
      clear Hb5 Hl5 Hp5 Ha5 Hu5 Hv5 hb6
      go_wp2_with fail
      refine (same_any Hu6.out Hv6.out).mono ?_
      rintro e wz ⟨rfl, n8, rfl⟩
      rw [decide_eq_true rfl]
      have HbZ := Lib.hid (below_drewN' Hb6.out n8)
      go_wp2_with fail
      refine (pfixed_any (HT.out.below HbZ.out)).mono ?_
      rintro e wy ⟨rfl, hby⟩
      have hbE := HbZ.out.trans (hby.mono HbZ.out.size)
      go_wp2
      go_ret
      exact ⟨rfl, hbE⟩
    · obtain rfl : cap1 = 1 := by omega
      obtain rfl : q = 0 := by omega
      obtain rfl : Q = [] := List.eq_nil_of_length_eq_zero hq
      have Hp2 : Hid (SRead w2 (.slice (some ⟨gb, go, none⟩) 0 0) ([] : List ByteArray)) := Lib.hid ⟨_, _, rfl, by decide, fun i hi => absurd hi (by simp)⟩
      clear hdr hc1 hq
      have c0 := Blk.cell Ha2.out 0; have c1 := Blk.cell Ha2.out 1
      simp only [List.getElem?_toArray, List.getElem?_cons_succ, List.getElem?_cons_zero] at c0 c1
      go_wp2_with fail
      clear c0 c1
      refine (HcB.out _ _ (HT.out.below Hb2.out) Hl2.out).mono ?_
      rintro e w3 ⟨⟨u3, rfl, ho3⟩, hb3⟩
      have Hu3 := Lib.hid (ho3.read Hsh.out)
      clear ho3
      have Hb3 := Lib.hid (Hb2.out.trans (hb3.mono Hb2.out.size))
      have Hl3 := Lib.hid (Hl2.out.below hb3 rfl)
      have Hp3 := Lib.hid (Hp2.out.below hb3 rfl)
      have Ha3 : Hid (Blk w3 g 67 #[.int .u64 (m0 : Int), .int .u64 (n0 : Int)]) := Lib.hid ((hb3.block _ (Blk.lt Ha2.out)).trans Ha2.out)
      clear Hb2 Hl2 Hp2 Ha2 hb3
      go_wp2_with fail
      refine (HrB.out _ _ Hl3.out).mono ?_
      rintro e w4 ⟨⟨u4, rfl, ho4⟩, hb4⟩
      have Hv4 := Lib.hid (ho4.read Hsh.out)
      clear ho4
      have Hb4 := Lib.hid (Hb3.out.trans (hb4.mono Hb3.out.size))
      have Hl4 := Lib.hid (Hl3.out.below hb4 rfl)
      have Hp4 := Lib.hid (Hp3.out.below hb4 rfl)
      have Ha4 : Hid (Blk w4 g 67 #[.int .u64 (m0 : Int), .int .u64 (n0 : Int)]) := Lib.hid ((hb4.block _ (Blk.lt Ha3.out)).trans Ha3.out)
      have Hu4 := Lib.hid (Hu3.out.below hb4 rfl)
      clear Hb3 Hl3 Hp3 Ha3 Hu3 hb4
      obtain ⟨us, ue, hcI, hrI⟩ : ∃ (us : ByteArray) (ue : Int), (∀ wq v, Tab wq → SRead wq v ([] : List ByteArray) → Calls Tryd.prog 61 #[.int .u64 (m0 : Int), .int .u64 (n0 : Int), .string x, v] wq fun e w' => e = .returned (.tuple #[.string us, .int .i64 ue]) ∧ Below wq.heap.size wq w') ∧ (∀ wq v, SRead wq v ([] : List ByteArray) → Calls Tryd.prog 62 #[.int .u64 (m0 : Int), .int .u64 (n0 : Int), .string x, v] wq fun e w' => e = .returned (.tuple #[.string us, .int .i64 ue]) ∧ Below wq.heap.size wq w') :=
        ⟨upS m0 n0 x ([] : List ByteArray), upE m0 n0 x ([] : List ByteArray), fun wq v h1 h2 => cUp_any h1 h2 m0 n0 x, fun wq v h2 => rUp_any h2 m0 n0 x⟩
      have HcI := Lib.hid hcI; have HrI := Lib.hid hrI
      have z1 : (us.toList == us.toList) = true := by simp
      clear hcI hrI
      have c0 := Blk.cell Ha4.out 0; have c1 := Blk.cell Ha4.out 1
      simp only [List.getElem?_toArray, List.getElem?_cons_succ, List.getElem?_cons_zero] at c0 c1
      go_wp2_with fail
      clear c0 c1
      refine (HcI.out _ _ (HT.out.below Hb4.out) Hp4.out).mono ?_
      rintro e w5 ⟨rfl, hb5⟩
      have Hb5 := Lib.hid (Hb4.out.trans (hb5.mono Hb4.out.size))
      have Hl5 := Lib.hid (Hl4.out.below hb5 rfl)
      have Hp5 := Lib.hid (Hp4.out.below hb5 rfl)
      have Ha5 : Hid (Blk w5 g 67 #[.int .u64 (m0 : Int), .int .u64 (n0 : Int)]) := Lib.hid ((hb5.block _ (Blk.lt Ha4.out)).trans Ha4.out)
      have Hu5 := Lib.hid (Hu4.out.below hb5 rfl)
      have Hv5 := Lib.hid (Hv4.out.below hb5 rfl)
      clear Hb4 Hl4 Hp4 Ha4 Hu4 Hv4 hb5
      have c0 := Blk.cell Ha5.out 0; have c1 := Blk.cell Ha5.out 1
      simp only [List.getElem?_toArray, List.getElem?_cons_succ, List.getElem?_cons_zero] at c0 c1
      go_wp2_with fail
      clear c0 c1
      refine (HrI.out _ _ Hp5.out).mono ?_
      rintro e w6 ⟨rfl, hb6⟩
      have Hb6 := Lib.hid (Hb5.out.trans (hb6.mono Hb5.out.size))
      have Hl6 := Lib.hid (Hl5.out.below hb6 rfl)
      have Hp6 := Lib.hid (Hp5.out.below hb6 rfl)
      have Ha6 : Hid (Blk w6 g 67 #[.int .u64 (m0 : Int), .int .u64 (n0 : Int)]) := Lib.hid ((hb6.block _ (Blk.lt Ha5.out)).trans Ha5.out)
      have Hu6 := Lib.hid (Hu5.out.below hb6 rfl)
      have Hv6 := Lib.hid (Hv5.out.below hb6 rfl)
      clear Hb5 Hl5 Hp5 Ha5 Hu5 Hv5 hb6
      go_wp2_with fail
      refine (same_any Hu6.out Hv6.out).mono ?_
      rintro e wz ⟨rfl, n8, rfl⟩
      rw [decide_eq_true rfl]
      have HbZ := Lib.hid (below_drewN' Hb6.out n8)
      go_wp2_with fail
      refine (pfixed_any (HT.out.below HbZ.out)).mono ?_
      rintro e wy ⟨rfl, hby⟩
      have hbE := HbZ.out.trans (hby.mono HbZ.out.size)
      go_wp2
      go_ret
      exact ⟨rfl, hbE⟩
theorem proofAudits_walk' (a b : Int) (ha : (Lit.int .u64 a).wf = true) (hb : (Lit.int .u64 b).wf = true) (A : Option Addr) (len cap : Nat) (L : List ByteArray) {w : World} (hL : SRead w (.slice A len cap) L ∧ ∀ s ∈ L, s.size ≤ maxLen) (A2 : Option Addr) (len2 cap2 : Nat) (P : List ByteArray) (hP : SRead w (.slice A2 len2 cap2) P ∧ ∀ s ∈ P, s.size ≤ maxLen) (hT : Tab w) :
    Calls Tryd.prog 16 #[.agg #[.int .u64 a, .int .u64 b], .slice A len cap, .slice A2 len2 cap2] w fun e w' => e = .returned (.bool true) ∧ Below w.heap.size w w' := proofAudits_walk a b ha hb A len cap L A2 len2 cap2 P hL.1 hP.1 hT
end Go.Proofs.YtkdajlhmodmkoaaDoor
