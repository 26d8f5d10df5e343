/-
  Layer 9 (proof): ProofSound walked.
-/
import Derived.Test.YtkdajlhmodmkoaaDoorQB
namespace Go.Proofs.YtkdajlhmodmkoaaDoor
open Go.RowKit TreeM
set_option linter.unusedVariables false
set_option linter.unusedSimpArgs false

set_option maxRecDepth 100000 in
set_option maxHeartbeats 2000000 in
theorem proofSound_walk (m : Int) (hm : (Lit.int .i64 m).wf = true) (A : Option Addr) (len cap : Nat) (L : List ByteArray) (A2 : Option Addr) (len2 cap2 : Nat) (P0 : List ByteArray) {w : World} (hL : SRead w (.slice A len cap) L) (hP0 : SRead w (.slice A2 len2 cap2) P0) (hT : Tab w) :
    Calls Tryd.prog 20 #[.int .i64 m, .slice A len cap, .slice A2 len2 cap2] w fun e w' => e = .returned (.bool true) ∧ Below w.heap.size w w' := by
  have HT := Lib.hid hT; have HL := Lib.hid hL; have HP0 := Lib.hid hP0
  clear hT hL hP0
  go_enter Tryd.func20, Tryd.ntmps20
  go_wp2_with fail
  refine (cut_any HL.out 20 (by decide)).mono ?_
  rintro e w1 ⟨⟨v1, rfl, ho1⟩, hb1⟩
  have hlen := cutL_length L 20
  have hsz : ∀ s ∈ cutL L 20, s.size ≤ 80000000 := fun s hs => by have := cutL_size L 20 s hs; omega
  generalize cutL L 20 = M at *
  have hl1 := ho1.read (by unfold maxLen; omega)
  have HP1 := Lib.hid (HP0.out.below hb1 rfl)
  have Hl1 := Lib.hid hl1
  have Hb1 := Lib.hid hb1
  have Hsz := Lib.hid hsz
  have Hlen := Lib.hid hlen
  have HT1 := Lib.hid (HT.out.below Hb1.out)
  clear ho1 hb1 HL HP0 hl1 hsz hlen
  go_wp2_with fail
  refine (hashes_any HP1.out).mono ?_
  rintro e w2 ⟨⟨v2, rfl, ho2⟩, hb2⟩
  have hplen := cutL_length P0 50
  generalize cutL P0 50 = P at *
  have Hp2 := Lib.hid (ho2.read (by unfold maxLen; omega))
  have Hl2 := Lib.hid (Hl1.out.below hb2 rfl)
  have HT2 := Lib.hid (HT1.out.below hb2)
  have Hb2 := Lib.hid (Hb1.out.trans (hb2.mono Hb1.out.size))
  clear ho2 hb2 HP1 Hl1 hplen
  obtain ⟨n, hn⟩ : ∃ n, M.length = n := ⟨_, rfl⟩
  have Hn := Lib.hid hn
  have z1 : ((⟨#[]⟩ : ByteArray).toList == (⟨#[]⟩ : ByteArray).toList) = true := by simp
  clear hn
  cases hbr : brOk m n with
  | false =>
    obtain ⟨A1, cap1, rfl⟩ := Hl2.out.any Hn.out
    have hno : clOk m M P = false := by unfold clOk; rw [Hn.out, hbr]; rfl
    have hor : (m < 1) ∨ ((n : Int) < m) := by
      unfold brOk at hbr
      by_cases h1 : 1 ≤ m
      · right; have := of_decide_eq_false (by simpa [h1] using hbr : decide (m ≤ (n : Int)) = false); omega
      · left; omega
    rcases hor with hor | hor
    · have q1 : (m < 1) = True := eq_true hor
      go_wp2_with fail
      have hcl3 := cClash_any HT2.out Hl2.out Hsz.out (by have := Hlen.out; omega) Hp2.out m
      rw [clR_no hno] at hcl3
      refine hcl3.mono ?_
      rintro e w3 ⟨rfl, hb3⟩
      have HT3 := Lib.hid (HT2.out.below hb3); have Hl3 := Lib.hid (Hl2.out.below hb3 rfl)
      have Hb3 := Lib.hid (Hb2.out.trans (hb3.mono Hb2.out.size)); clear hb3 hcl3
      go_wp2_with fail
      refine (pfixed_any HT3.out).mono ?_
      rintro e wz ⟨rfl, hbz⟩
      have hbE := Hb3.out.trans (hbz.mono Hb3.out.size)
      go_wp2
      go_ret
      exact ⟨rfl, hbE⟩
    · have q1 : (m < 1) = False ∨ (m < 1) = True := by by_cases h : m < 1; exact Or.inr (eq_true h); exact Or.inl (eq_false h)
      have q2 : ((n : Int) < m) = True := eq_true hor
      rcases q1 with q1 | q1
      · skip
        go_wp2_with fail
        have hcl3 := cClash_any HT2.out Hl2.out Hsz.out (by have := Hlen.out; omega) Hp2.out m
        rw [clR_no hno] at hcl3
        refine hcl3.mono ?_
        rintro e w3 ⟨rfl, hb3⟩
        have HT3 := Lib.hid (HT2.out.below hb3); have Hl3 := Lib.hid (Hl2.out.below hb3 rfl)
        have Hb3 := Lib.hid (Hb2.out.trans (hb3.mono Hb2.out.size)); clear hb3 hcl3
        go_wp2_with fail
        refine (pfixed_any HT3.out).mono ?_
        rintro e wz ⟨rfl, hbz⟩
        have hbE := Hb3.out.trans (hbz.mono Hb3.out.size)
        go_wp2
        go_ret
        exact ⟨rfl, hbE⟩
      · skip
        go_wp2_with fail
        have hcl3 := cClash_any HT2.out Hl2.out Hsz.out (by have := Hlen.out; omega) Hp2.out m
        rw [clR_no hno] at hcl3
        refine hcl3.mono ?_
        rintro e w3 ⟨rfl, hb3⟩
        have HT3 := Lib.hid (HT2.out.below hb3); have Hl3 := Lib.hid (Hl2.out.below hb3 rfl)
        have Hb3 := Lib.hid (Hb2.out.trans (hb3.mono Hb2.out.size)); clear hb3 hcl3
        go_wp2_with fail
        refine (pfixed_any HT3.out).mono ?_
        rintro e wz ⟨rfl, hbz⟩
        have hbE := Hb3.out.trans (hbz.mono Hb3.out.size)
        go_wp2
        go_ret
        exact ⟨rfl, hbE⟩
  | true =>
    have hmm : 1 ≤ m ∧ m ≤ (n : Int) := by unfold brOk at hbr; simpa using hbr
    obtain ⟨j, rfl⟩ : ∃ j : Nat, m = (j : Int) := ⟨m.toNat, by omega⟩
    obtain ⟨h1, h2⟩ := hmm
    obtain ⟨gb, go, cap1, rfl, hcap⟩ := Hl2.out.slice Hn.out (by omega)
    have hn20 : n ≤ 20 := by have := Hlen.out; rw [Hn.out] at this; omega
    have q1 : ((j : Int) < 1) = False := eq_false (by omega)
    have q2 : ((n : Int) < (j : Int)) = False := eq_false (by omega)
    have e5 : IntKind.u64.wrap (n : Int) = (n : Int) := by show (n : Int) % 18446744073709551616 = _; omega
    have e7 : IntKind.u64.wrap (j : Int) = (j : Int) := by show (j : Int) % 18446744073709551616 = _; omega
    go_wp2_with fail
    refine (cImplied_any HT2.out Hp2.out j n).mono ?_
    rintro e w3 ⟨rfl, hb3⟩
    have HT3 := Lib.hid (HT2.out.below hb3); have Hl3 := Lib.hid (Hl2.out.below hb3 rfl); have Hp3 := Lib.hid (Hp2.out.below hb3 rfl)
    have Hb3 := Lib.hid (Hb2.out.trans (hb3.mono Hb2.out.size)); clear hb3
    go_wp2_with fail
    refine (cClash_any HT3.out Hl3.out Hsz.out (by have := Hlen.out; omega) Hp3.out j).mono ?_
    rintro e w4 ⟨rfl, hb4⟩
    have HT4 := Lib.hid (HT3.out.below hb4); have Hl4 := Lib.hid (Hl3.out.below hb4 rfl)
    have Hb4 := Lib.hid (Hb3.out.trans (hb4.mono Hb3.out.size)); clear hb4
    have hcd : clOk (j : Int) M P = (decide (impE j n P = 0) && decide (impB j n P = root M) && !decide (impA j n P = root (M.take j))) := by
      unfold clOk; rw [Hn.out, hbr, Int.toNat_natCast]; rfl
    have hsd := @clR_sound j M P
    have hnR := @clR_no (j : Int) M P
    have hR1 := fun wq v (hq : SRead wq v M) => rroot_any hq Hsz.out (by have := Hlen.out; omega)
    have hR2 := fun wq v (hq : SRead wq v (M.take j)) => rroot_any hq (fun s hs' => Hsz.out s (List.mem_of_mem_take hs')) (by rw [List.length_take]; have := Hlen.out; omega)
    have hcs := impE_cases j n P
    generalize impE j n P = E at *
    generalize impA j n P = IA at *
    generalize impB j n P = IB at *
    generalize root M = R1 at *
    have htk := Hl4.out.take j (by rw [Hn.out]; omega)
    generalize root (M.take j) = R2 at *
    generalize M.take j = MT at *
    have Htk := Lib.hid htk; have HR1 := Lib.hid hR1; have HR2 := Lib.hid hR2
    clear htk hR1 hR2
    cases hE : decide (E = 0) with
    | false =>
      have hz := hnR (by rw [hcd, hE]; rfl)
      rw [hz]
      have hE' : E = 1 ∨ E = 11 := by
        rcases hcs with ⟨h, -⟩ | ⟨h, -⟩
        · exact absurd h (of_decide_eq_false hE)
        · exact h
      clear hsd hnR hcd hz hcs hE
      rcases hE' with rfl | rfl
      · skip
        go_wp2_with fail
        refine (pfixed_any HT4.out).mono ?_
        rintro e wz ⟨rfl, hbz⟩
        have hbE := Hb4.out.trans (hbz.mono Hb4.out.size)
        go_wp2
        go_ret
        exact ⟨rfl, hbE⟩
      · skip
        go_wp2_with fail
        refine (pfixed_any HT4.out).mono ?_
        rintro e wz ⟨rfl, hbz⟩
        have hbE := Hb4.out.trans (hbz.mono Hb4.out.size)
        go_wp2
        go_ret
        exact ⟨rfl, hbE⟩
    | true =>
      obtain rfl : E = 0 := of_decide_eq_true hE
      go_wp2_with fail
      refine (HR1.out _ _ Hl4.out).mono ?_
      rintro e w5 ⟨rfl, hb5⟩
      have HT5 := Lib.hid (HT4.out.below hb5); have Htk5 := Lib.hid (Htk.out.below hb5 rfl)
      have Hb5 := Lib.hid (Hb4.out.trans (hb5.mono Hb4.out.size)); clear hb5
      have d1 : (IB.toList == R1.toList) = decide (IB = R1) := beq_ba _ _
      have d1' : (IB.toList != R1.toList) = !decide (IB = R1) := by rw [bne, d1]
      cases hB : decide (IB = R1) with
      | false =>
        rw [hB] at d1 d1'
        have hz := hnR (by rw [hcd, hB]; simp)
        rw [hz]
        clear hsd hnR hcd hz
        go_wp2_with fail
        refine (pfixed_any HT5.out).mono ?_
        rintro e wz ⟨rfl, hbz⟩
        have hbE := Hb5.out.trans (hbz.mono Hb5.out.size)
        go_wp2
        go_ret
        exact ⟨rfl, hbE⟩
      | true =>
        rw [hB] at d1 d1'
        have q3 : (0 : Int) ≤ (j : Int) := by omega
        have q4 : (j : Int) ≤ (n : Int) := by omega
        have q5 : (j : Int) ≤ (cap1 : Int) := by omega
        have q6 : j ≤ n := by omega
        have q7 : j ≤ cap1 := by omega
        go_wp2_with fail
        refine (HR2.out _ _ Htk5.out).mono ?_
        rintro e w6 ⟨rfl, hb6⟩
        have HT6 := Lib.hid (HT5.out.below hb6)
        have Hb6 := Lib.hid (Hb5.out.trans (hb6.mono Hb5.out.size)); clear hb6
        have d2 : (IA.toList == R2.toList) = decide (IA = R2) := beq_ba _ _
        cases hA : decide (IA = R2) with
        | true =>
          rw [hA] at d2
          have hz := hnR (by rw [hcd, hB, hA]; rfl)
          rw [hz]
          clear hsd hnR hcd hz
          go_wp2_with fail
          refine (pfixed_any HT6.out).mono ?_
          rintro e wz ⟨rfl, hbz⟩
          have hbE := Hb6.out.trans (hbz.mono Hb6.out.size)
          go_wp2
          go_ret
          exact ⟨rfl, hbE⟩
        | false =>
          rw [hA] at d2
          have hz := hsd (by rw [hcd, hB, hA]; rfl)
          obtain ⟨c, hc⟩ : ∃ c, clR (j : Int) M P = c := ⟨_, rfl⟩
          rw [hc] at hz ⊢
          obtain ⟨x, y, b⟩ := c
          obtain ⟨i1, i2, i3, i4, i5⟩ := hz
          simp only at i1 i2 i3 i4 i5
          subst i1
          have d3 : (x.toList == y.toList) = false := by rw [beq_ba]; exact decide_eq_false i2
          have d3' : (x.toList != y.toList) = true := by rw [bne, d3]; rfl
          have hS1 := fun wq => rsumB x (by omega) wq
          have hS2 := fun wq => rsumB y (by omega) wq
          rw [i3] at hS1
          generalize sumB y = S at *
          have HS1 := Lib.hid hS1; have HS2 := Lib.hid hS2
          have d4 : (S.toList == S.toList) = true := by simp
          clear hS1 hS2 i2 i3 i4 i5 hsd hnR hcd hc
          go_wp2_with fail
          refine (HS1.out _).mono ?_
          rintro e w7 ⟨rfl, hb7⟩
          have HT7 := Lib.hid (HT6.out.below hb7); have Hb7 := Lib.hid (Hb6.out.trans (hb7.mono Hb6.out.size)); clear hb7
          go_wp2_with fail
          refine (HS2.out _).mono ?_
          rintro e w8 ⟨rfl, hb8⟩
          have HT8 := Lib.hid (HT7.out.below hb8); have Hb8 := Lib.hid (Hb7.out.trans (hb8.mono Hb7.out.size)); clear hb8
          go_wp2_with fail
          refine (pfixed_any HT8.out).mono ?_
          rintro e wz ⟨rfl, hbz⟩
          have hbE := Hb8.out.trans (hbz.mono Hb8.out.size)
          go_wp2
          go_ret
          exact ⟨rfl, hbE⟩
theorem proofSound_walk' (m : Int) (hm : (Lit.int .i64 m).wf = true) (A : Option Addr) (len cap : Nat) (L : List ByteArray) {w : World} (hL : SRead w (.slice A len cap) L ∧ ∀ s ∈ L, s.size ≤ maxLen) (A2 : Option Addr) (len2 cap2 : Nat) (P : List ByteArray) (hP : SRead w (.slice A2 len2 cap2) P ∧ ∀ s ∈ P, s.size ≤ maxLen) (hT : Tab w) :
    Calls Tryd.prog 20 #[.int .i64 m, .slice A len cap, .slice A2 len2 cap2] w fun e w' => e = .returned (.bool true) ∧ Below w.heap.size w w' := proofSound_walk m hm A len cap L A2 len2 cap2 P hL.1 hP.1 hT
end Go.Proofs.YtkdajlhmodmkoaaDoor
