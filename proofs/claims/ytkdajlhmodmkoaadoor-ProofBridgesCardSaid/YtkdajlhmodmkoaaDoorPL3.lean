/-
  Layer 9 (proof): ProofBridges walked.
-/
import Derived.Test.YtkdajlhmodmkoaaDoorQB
namespace Go.Proofs.YtkdajlhmodmkoaaDoor
open Go.RowKit TreeM
set_option linter.unusedVariables false
set_option linter.unusedSimpArgs false

theorem u8_nat {a : Int} (ha : (Lit.int .u8 a).wf = true) : ∃ n : Nat, n < 256 ∧ a = (n : Int) := by
  simp [Lit.wf, IntKind.min, IntKind.max, IntKind.signed, IntKind.bits] at ha
  exact ⟨a.toNat, by omega, by omega⟩
theorem cBridge_yes' {w : World} (hT : Tab w) {v : Value} {M : List ByteArray} (h : SRead w v M) (hs : ∀ s ∈ M, s.size ≤ 80000000) (hl : M.length < 1000000) (m : Nat) (hm : 1 ≤ m ∧ m ≤ M.length) :
    Calls Tryd.prog 52 #[.int .i64 (m : Int), v] w fun e w' => (∃ A cap, e = .returned (.tuple #[.slice A (bridge m M).length cap, .int .i64 0]) ∧ SRead w' (.slice A (bridge m M).length cap) (bridge m M)) ∧ Below w.heap.size w w' := by
  refine (cbridge_yes hT h hs hl m hm).mono fun e w' ⟨⟨u, h1, h2⟩, hb⟩ => ⟨?_, hb⟩
  have h3 := h2.read (by rw [bridge_length]; have := steps_short 40 m M.length (by omega) hm.1; unfold maxLen; omega)
  obtain ⟨A, cap, rfl⟩ := h3.any rfl
  exact ⟨A, cap, h1, h3⟩
set_option maxRecDepth 100000 in
set_option maxHeartbeats 2000000 in
theorem proofBridges_walk (A : Option Addr) (len cap : Nat) (L : List ByteArray) (b : Int) (hb : (Lit.int .u8 b).wf = true) {w : World} (hL : SRead w (.slice A len cap) L) (hT : Tab w) :
    Calls Tryd.prog 17 #[.slice A len cap, .int .u8 b] w fun e w' => e = .returned (.bool true) ∧ Below w.heap.size w w' := by
  obtain ⟨a, ha, rfl⟩ := u8_nat hb
  have HT := Lib.hid hT; have HL := Lib.hid hL
  clear hT hL hb
  go_enter Tryd.func17, Tryd.ntmps17
  go_wp2_with fail
  refine (cut_any HL.out 20 (by decide)).mono ?_
  rintro e w1 ⟨⟨v1, rfl, ho1⟩, hb1⟩
  have hlen := cutL_length L 20
  have hsz : ∀ s ∈ cutL L 20, s.size ≤ 80000000 := fun s hs => by have := cutL_size L 20 s hs; omega
  have hsz4 : ∀ s ∈ cutL L 20, s.size ≤ 40 := cutL_size L 20
  generalize cutL L 20 = M at *
  have hl1 := ho1.read (by unfold maxLen; omega)
  obtain ⟨n, hn⟩ : ∃ n, M.length = n := ⟨_, rfl⟩
  rw [hn] at hlen
  have Hb1 := Lib.hid hb1
  clear ho1 hb1 HL
  have HT1 := Lib.hid (HT.out.below Hb1.out)
  by_cases h0 : n = 0
  · obtain ⟨A1, cap1, rfl⟩ := hl1.any hn
    subst h0
    clear hl1 hsz hsz4 hn
    go_wp2_with fail
    refine (pfixed_any HT1.out).mono ?_
    rintro e w2 ⟨rfl, hb2⟩
    go_wp2
    go_ret
    exact ⟨rfl, Hb1.out.trans (hb2.mono Hb1.out.size)⟩
  · obtain ⟨b1, o1, cap1, rfl, hcap⟩ := hl1.slice hn (by omega)
    have hi : a % n < n := Nat.mod_lt a (by omega)
    obtain ⟨i, hie⟩ : ∃ i, a % n = i := ⟨_, rfl⟩
    rw [hie] at hi
    have n0 : ((n : Int) == 0) = false := by rw [beq_eq_false_iff_ne]; omega
    have n1 : ((n : Int) = 0) = False := eq_false (by omega)
    have n2 : (n = 0) = False := eq_false h0
    have e1 : IntKind.i64.wrap (a : Int) = (a : Int) := IntWalk.i64_in _ (by omega)
    have e2 : (a : Int).tmod (n : Int) = (i : Int) := by rw [Int.tmod_eq_emod_of_nonneg (by omega), ← hie]; exact (Int.natCast_emod a n).symm
    have e3 : IntKind.i64.wrap (i : Int) = (i : Int) := IntWalk.i64_in _ (by omega)
    have e4 : IntKind.u64.wrap (i : Int) = (i : Int) := by show (i : Int) % 18446744073709551616 = _; omega
    have e5 : IntKind.u64.wrap (n : Int) = (n : Int) := by show (n : Int) % 18446744073709551616 = _; omega
    obtain ⟨m, hm⟩ : ∃ m, 1 + i = m := ⟨_, rfl⟩
    have e6 : IntKind.i64.wrap (1 + (i : Int)) = (m : Int) := by rw [show (1 : Int) + (i : Int) = (m : Int) by omega]; exact IntWalk.i64_in _ (by omega)
    have e7 : IntKind.u64.wrap (m : Int) = (m : Int) := by show (m : Int) % 18446744073709551616 = _; omega
    have hm1 : 1 ≤ m := by omega
    have hm2 : m ≤ M.length := by omega
    have hcA := fun wq (hq : Below w1.heap.size w1 wq) => cBridge_yes' (HT1.out.below hq) (hl1.below hq rfl) hsz (by omega) m ⟨hm1, hm2⟩
    have hcR := fun wq (hq : Below w1.heap.size w1 wq) => rroot_any (hl1.below hq rfl) hsz (by omega)
    have htk := hl1.take m (by omega)
    have hcR2 := fun wq (hq : Below w1.heap.size w1 wq) => rroot_any (htk.below hq rfl) (fun s hs' => hsz s (List.mem_of_mem_take hs')) (by rw [List.length_take]; omega)
    obtain ⟨u1, u2, u3⟩ := imp_of_bridge m M hm1 hm2 (by omega)
    have hcc := clR_bridge m M hm1 hm2 (by omega)
    have hst : stepsN m n = (bridge m M).length := by rw [bridge_length, hn]; exact stepsN_yes (may_mk hm1 (by omega) (by omega))
    have hcS := fun wq => cStepsN_any (w := wq) m n
    rw [hst] at hcS
    rw [hn] at u1 u2 u3
    obtain ⟨r, hr⟩ : ∃ r, root M = r := ⟨_, rfl⟩
    obtain ⟨r2, hr2⟩ : ∃ r, root (M.take m) = r := ⟨_, rfl⟩
    rw [hr] at u3 hcR; rw [hr2] at u2 hcR2
    have hcU := fun wq (hq : Tab wq) v (hv : SRead wq v (bridge m M)) => cImplied_any hq hv m n
    rw [u1, u2, u3] at hcU
    have hcC := fun wq (hq : Below w1.heap.size w1 wq) v (hv : SRead wq v (bridge m M)) => cClash_any (HT1.out.below hq) (hl1.below hq rfl) hsz (by omega) hv (m : Int)
    rw [hcc] at hcC
    obtain ⟨pl, hpl⟩ : ∃ pl, (bridge m M).length = pl := ⟨_, rfl⟩
    generalize bridge m M = Q at *
    rw [hpl] at hcA hcS
    have HA := Lib.hid hcA; have HR := Lib.hid hcR; have HU := Lib.hid hcU; have HR2 := Lib.hid hcR2; have HC := Lib.hid hcC; have HS := Lib.hid hcS
    have q0 : (0 : Int) ≤ (m : Int) := by omega
    have q1 : (m : Int) ≤ (n : Int) := by omega
    have q2 : (m : Int) ≤ (cap1 : Int) := by omega
    have q3 : m ≤ n := by omega
    have q4 : m ≤ cap1 := by omega
    clear hcA hcR hcU hcR2 hcC hcS hr hr2 u1 u2 u3 hl1 hsz hsz4 hpl hn hcap hie htk hst hcc hm1 hm2 hm
    go_wp2_with fail
    refine (HA.out _ (Below.refl _ _)).mono ?_
    rintro e w2 ⟨⟨A2, cap2, rfl, hp2⟩, hb2⟩
    have Hb2 := Lib.hid hb2; have Hp2 := Lib.hid hp2; clear hb2 hp2
    go_wp2_with fail
    refine (HU.out _ (HT1.out.below Hb2.out) _ Hp2.out).mono ?_
    rintro e w3 ⟨rfl, hb3⟩
    have Hp3 := Lib.hid (Hp2.out.below hb3 rfl); have Hb3 := Lib.hid (Hb2.out.trans (hb3.mono Hb2.out.size)); clear hb3
    go_wp2_with fail
    refine (HC.out _ Hb3.out _ Hp3.out).mono ?_
    rintro e w4 ⟨rfl, hb4⟩
    have Hb4 := Lib.hid (Hb3.out.trans (hb4.mono Hb3.out.size)); clear hb4
    go_wp2_with fail
    refine (HR2.out _ Hb4.out).mono ?_
    rintro e w5 ⟨rfl, hb5⟩
    have Hb5 := Lib.hid (Hb4.out.trans (hb5.mono Hb4.out.size)); clear hb5
    go_wp2_with fail
    refine (HR.out _ Hb5.out).mono ?_
    rintro e w6 ⟨rfl, hb6⟩
    have Hb6 := Lib.hid (Hb5.out.trans (hb6.mono Hb5.out.size)); clear hb6
    go_wp2_with fail
    refine (HS.out _).mono ?_
    rintro e w7 ⟨rfl, hb7⟩
    have Hb7 := Lib.hid (Hb6.out.trans (hb7.mono Hb6.out.size)); clear hb7
    go_wp2_with fail
    refine (pfixed_any (HT1.out.below Hb7.out)).mono ?_
    rintro e w8 ⟨rfl, hb8⟩
    have hb9 := Hb7.out.trans (hb8.mono Hb7.out.size)
    go_wp2
    go_ret
    exact ⟨rfl, Hb1.out.trans (hb9.mono Hb1.out.size)⟩
theorem proofBridges_walk' (A : Option Addr) (len cap : Nat) (L : List ByteArray) {w : World} (hL : SRead w (.slice A len cap) L ∧ ∀ s ∈ L, s.size ≤ maxLen) (b : Int) (hb : (Lit.int .u8 b).wf = true) (hT : Tab w) :
    Calls Tryd.prog 17 #[.slice A len cap, .int .u8 b] w fun e w' => e = .returned (.bool true) ∧ Below w.heap.size w w' := proofBridges_walk A len cap L b hb hL.1 hT
end Go.Proofs.YtkdajlhmodmkoaaDoor
