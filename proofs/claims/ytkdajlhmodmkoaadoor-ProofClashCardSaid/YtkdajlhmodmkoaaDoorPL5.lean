/-
  Layer 9 (proof): ProofClash walked.
-/
import Derived.Test.YtkdajlhmodmkoaaDoorPR
namespace Go.Proofs.YtkdajlhmodmkoaaDoor
open Go.RowKit TreeM
set_option linter.unusedVariables false
set_option linter.unusedSimpArgs false

set_option maxRecDepth 100000 in
set_option maxHeartbeats 2000000 in
theorem proofClash_walk (m : Int) (hm : (Lit.int .i64 m).wf = true) (A : Option Addr) (len cap : Nat) (L : List ByteArray) (A2 : Option Addr) (len2 cap2 : Nat) (P0 : List ByteArray) {w : World} (hL : SRead w (.slice A len cap) L) (hP0 : SRead w (.slice A2 len2 cap2) P0) (hT : Tab w) :
    Calls Tryd.prog 19 #[.int .i64 m, .slice A len cap, .slice A2 len2 cap2] w fun e w' => e = .returned (.bool true) ∧ Below w.heap.size w w' := by
  have HT := Lib.hid hT; have HL := Lib.hid hL; have HP0 := Lib.hid hP0
  clear hT hL hP0
  go_enter Tryd.func19, Tryd.ntmps19
  go_wp2_with fail
  refine (cut_any HL.out 20 (by decide)).mono ?_
  rintro e w1 ⟨⟨v1, rfl, ho1⟩, hb1⟩
  have hlen := cutL_length L 20
  have hsz : ∀ s ∈ cutL L 20, s.size ≤ 80000000 := fun s hs => by have := cutL_size L 20 s hs; omega
  generalize cutL L 20 = M at *
  have hl1 := ho1.read (by unfold maxLen; omega)
  have HP1 := Lib.hid (HP0.out.below hb1 rfl)
  have Hl1 := Lib.hid hl1
  have Hb1 := Lib.hid hb1
  have Hsz := Lib.hid hsz
  have Hlen := Lib.hid hlen
  have HT1 := Lib.hid (HT.out.below Hb1.out)
  clear ho1 hb1 HL HP0 hl1 hsz hlen
  go_wp2_with fail
  refine (hashes_any HP1.out).mono ?_
  rintro e w2 ⟨⟨v2, rfl, ho2⟩, hb2⟩
  have hplen := cutL_length P0 50
  generalize cutL P0 50 = P at *
  have Hp2 := Lib.hid (ho2.read (by unfold maxLen; omega))
  have Hl2 := Lib.hid (Hl1.out.below hb2 rfl)
  have HT2 := Lib.hid (HT1.out.below hb2)
  have Hb2 := Lib.hid (Hb1.out.trans (hb2.mono Hb1.out.size))
  clear ho2 hb2 HP1 Hl1 hplen
  go_wp2_with fail
  refine (cClash_any HT2.out Hl2.out Hsz.out (by have := Hlen.out; omega) Hp2.out m).mono ?_
  rintro e w3 ⟨rfl, hb3⟩
  have Hp3 := Lib.hid (Hp2.out.below hb3 rfl); have Hl3 := Lib.hid (Hl2.out.below hb3 rfl); have HT3 := Lib.hid (HT2.out.below hb3)
  have Hb3 := Lib.hid (Hb2.out.trans (hb3.mono Hb2.out.size))
  have hcR := rClash_any Hl3.out Hsz.out (by have := Hlen.out; omega) Hp3.out m
  clear hb3
  obtain ⟨c, hc⟩ : ∃ c, clR m M P = c := ⟨_, rfl⟩
  rw [hc] at hcR ⊢
  obtain ⟨x, y, b⟩ := c
  have HR := Lib.hid hcR; clear hcR hc
  go_wp2_with fail
  refine HR.out.mono ?_
  rintro e w4 ⟨rfl, hb4⟩
  have Hb4 := Lib.hid (Hb3.out.trans (hb4.mono Hb3.out.size)); have HT4 := Lib.hid (HT3.out.below hb4); clear hb4
  have e1 : (x.toList == x.toList) = true := by simp
  have e2 : (y.toList == y.toList) = true := by simp
  have e3 : (b == b) = true := by simp
  go_wp2_with fail
  refine (pfixed_any HT4.out).mono ?_
  rintro e w6 ⟨rfl, hb6⟩
  have hb7 := Hb4.out.trans (hb6.mono Hb4.out.size)
  go_wp2
  go_ret
  exact ⟨rfl, hb7⟩
theorem proofClash_walk' (m : Int) (hm : (Lit.int .i64 m).wf = true) (A : Option Addr) (len cap : Nat) (L : List ByteArray) {w : World} (hL : SRead w (.slice A len cap) L ∧ ∀ s ∈ L, s.size ≤ maxLen) (A2 : Option Addr) (len2 cap2 : Nat) (P : List ByteArray) (hP : SRead w (.slice A2 len2 cap2) P ∧ ∀ s ∈ P, s.size ≤ maxLen) (hT : Tab w) :
    Calls Tryd.prog 19 #[.int .i64 m, .slice A len cap, .slice A2 len2 cap2] w fun e w' => e = .returned (.bool true) ∧ Below w.heap.size w w' := proofClash_walk m hm A len cap L A2 len2 cap2 P hL.1 hP.1 hT
end Go.Proofs.YtkdajlhmodmkoaaDoor
