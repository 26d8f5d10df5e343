/-
  Layer 9 (proof): ProofPaths walked.
-/
import Derived.Test.YtkdajlhmodmkoaaDoorQB
namespace Go.Proofs.YtkdajlhmodmkoaaDoor
open Go.RowKit TreeM
set_option linter.unusedVariables false
set_option linter.unusedSimpArgs false

theorem u8_nat {a : Int} (ha : (Lit.int .u8 a).wf = true) : ∃ n : Nat, n < 256 ∧ a = (n : Int) := by
  simp [Lit.wf, IntKind.min, IntKind.max, IntKind.signed, IntKind.bits] at ha
  exact ⟨a.toNat, by omega, by omega⟩
theorem cAudit_yes' {w : World} (hT : Tab w) {v : Value} {M : List ByteArray} (h : SRead w v M) (hs : ∀ s ∈ M, s.size ≤ 80000000) (hl : M.length < 1000000) (i : Nat) (hi : i < M.length) :
    Calls Tryd.prog 59 #[.int .i64 (i : Int), v] w fun e w' => (∃ A cap, e = .returned (.tuple #[.slice A (audit i M).length cap, .int .i64 0]) ∧ SRead w' (.slice A (audit i M).length cap) (audit i M)) ∧ Below w.heap.size w w' := by
  refine (caudit_yes hT h hs hl i hi).mono fun e w' ⟨⟨u, h1, h2⟩, hb⟩ => ⟨?_, hb⟩
  have h3 := h2.read (by rw [audit_length]; have := sides_short 40 i M.length (by omega); unfold maxLen; omega)
  obtain ⟨A, cap, rfl⟩ := h3.any rfl
  exact ⟨A, cap, h1, h3⟩
set_option maxRecDepth 100000 in
set_option maxHeartbeats 2000000 in
theorem proofPaths_walk (A : Option Addr) (len cap : Nat) (L : List ByteArray) (b : Int) (hb : (Lit.int .u8 b).wf = true) {w : World} (hL : SRead w (.slice A len cap) L) (hT : Tab w) :
    Calls Tryd.prog 18 #[.slice A len cap, .int .u8 b] w fun e w' => e = .returned (.bool true) ∧ Below w.heap.size w w' := by
  obtain ⟨a, ha, rfl⟩ := u8_nat hb
  have HT := Lib.hid hT; have HL := Lib.hid hL
  clear hT hL hb
  go_enter Tryd.func18, Tryd.ntmps18
  go_wp2_with fail
  refine (cut_any HL.out 20 (by decide)).mono ?_
  rintro e w1 ⟨⟨v1, rfl, ho1⟩, hb1⟩
  have hlen := cutL_length L 20
  have hsz : ∀ s ∈ cutL L 20, s.size ≤ 80000000 := fun s hs => by have := cutL_size L 20 s hs; omega
  have hsz4 : ∀ s ∈ cutL L 20, s.size ≤ 40 := cutL_size L 20
  generalize cutL L 20 = M at *
  have hl1 := ho1.read (by unfold maxLen; omega)
  obtain ⟨n, hn⟩ : ∃ n, M.length = n := ⟨_, rfl⟩
  rw [hn] at hlen
  have Hb1 := Lib.hid hb1
  clear ho1 hb1 HL
  have HT1 := Lib.hid (HT.out.below Hb1.out)
  by_cases h0 : n = 0
  · obtain ⟨A1, cap1, rfl⟩ := hl1.any hn
    subst h0
    clear hl1 hsz hsz4 hn
    go_wp2_with fail
    refine (pfixed_any HT1.out).mono ?_
    rintro e w2 ⟨rfl, hb2⟩
    go_wp2
    go_ret
    exact ⟨rfl, Hb1.out.trans (hb2.mono Hb1.out.size)⟩
  · obtain ⟨b1, o1, cap1, rfl, hcap⟩ := hl1.slice hn (by omega)
    have hi : a % n < n := Nat.mod_lt a (by omega)
    obtain ⟨i, hie⟩ : ∃ i, a % n = i := ⟨_, rfl⟩
    rw [hie] at hi
    have n0 : ((n : Int) == 0) = false := by rw [beq_eq_false_iff_ne]; omega
    have n1 : ((n : Int) = 0) = False := eq_false (by omega)
    have n2 : (n = 0) = False := eq_false h0
    have e1 : IntKind.i64.wrap (a : Int) = (a : Int) := IntWalk.i64_in _ (by omega)
    have e2 : (a : Int).tmod (n : Int) = (i : Int) := by rw [Int.tmod_eq_emod_of_nonneg (by omega), ← hie]; exact (Int.natCast_emod a n).symm
    have e3 : IntKind.i64.wrap (i : Int) = (i : Int) := IntWalk.i64_in _ (by omega)
    have e4 : IntKind.u64.wrap (i : Int) = (i : Int) := by show (i : Int) % 18446744073709551616 = _; omega
    have e5 : IntKind.u64.wrap (n : Int) = (n : Int) := by show (n : Int) % 18446744073709551616 = _; omega
    have hcA := fun wq (hq : Below w1.heap.size w1 wq) => cAudit_yes' (HT1.out.below hq) (hl1.below hq rfl) hsz (by omega) i (by omega)
    have hcR := fun wq (hq : Below w1.heap.size w1 wq) => rroot_any (hl1.below hq rfl) hsz (by omega)
    obtain ⟨u1, u2⟩ := up_of_audit i M (by omega) (by omega)
    obtain ⟨x, hx⟩ : ∃ x, M[i]'(by omega) = x := ⟨_, rfl⟩
    have hxg : M.getD i ⟨#[]⟩ = x := by rw [List.getD_eq_getElem?_getD, List.getElem?_eq_getElem (by omega)]; exact hx
    have hxs : x.size ≤ 80000000 := by rw [← hx]; exact hsz _ (List.getElem_mem _)
    have hcx : w1.cell? ⟨b1, o1 + i, none⟩ = some (.string x) := by
      obtain ⟨A', cap', he, -, hc⟩ := id hl1
      injection he with q1 q2 q3
      obtain ⟨b', o', he2, -, hx'⟩ := hc i (by omega)
      rw [← q1] at he2; injection he2 with he2; injection he2 with f1 f2 _; subst f1 f2
      rw [hx', hx]
    rw [hxg, hn] at u1 u2
    obtain ⟨r, hr⟩ : ∃ r, root M = r := ⟨_, rfl⟩
    rw [hr] at u2 hcR
    have hcU := fun wq (hq : Tab wq) v (hv : SRead wq v (audit i M)) => cUp_any hq hv i n (leafB x)
    rw [u1, u2] at hcU
    obtain ⟨pl, hpl⟩ : ∃ pl, (audit i M).length = pl := ⟨_, rfl⟩
    generalize audit i M = Q at *
    rw [hpl] at hcA
    have HA := Lib.hid hcA; have HR := Lib.hid hcR; have HU := Lib.hid hcU; have Hx := Lib.hid hcx
    have q0 : (0 : Int) ≤ (i : Int) := by omega
    have q1 : (i : Int) < (n : Int) := by omega
    clear hcA hcR hcU hcx hr u1 u2 hxg hx hl1 hsz hsz4 hpl hn hcap hie
    go_wp2_with fail
    refine (HA.out _ (Below.refl _ _)).mono ?_
    rintro e w2 ⟨⟨A2, cap2, rfl, hp2⟩, hb2⟩
    have c1 := cell_belowB hb2 rfl Hx.out
    have Hb2 := Lib.hid hb2; have Hp2 := Lib.hid hp2; clear hb2 hp2
    go_wp2_with fail
    clear c1
    refine (leaf_any (HT1.out.below Hb2.out) x hxs).mono ?_
    rintro e w3 ⟨rfl, hb3⟩
    have Hp3 := Lib.hid (Hp2.out.below hb3 rfl); have Hb3 := Lib.hid (Hb2.out.trans (hb3.mono Hb2.out.size)); clear hb3
    go_wp2_with fail
    refine (HU.out _ (HT1.out.below Hb3.out) _ Hp3.out).mono ?_
    rintro e w4 ⟨rfl, hb4⟩
    have Hb4 := Lib.hid (Hb3.out.trans (hb4.mono Hb3.out.size)); clear hb4
    go_wp2_with fail
    refine (HR.out _ Hb4.out).mono ?_
    rintro e w5 ⟨rfl, hb5⟩
    have Hb5 := Lib.hid (Hb4.out.trans (hb5.mono Hb4.out.size)); clear hb5
    go_wp2_with fail
    refine (pfixed_any (HT1.out.below Hb5.out)).mono ?_
    rintro e w6 ⟨rfl, hb6⟩
    have hb7 := Hb5.out.trans (hb6.mono Hb5.out.size)
    go_wp2
    go_ret
    exact ⟨rfl, Hb1.out.trans (hb7.mono Hb1.out.size)⟩
theorem proofPaths_walk' (A : Option Addr) (len cap : Nat) (L : List ByteArray) {w : World} (hL : SRead w (.slice A len cap) L ∧ ∀ s ∈ L, s.size ≤ maxLen) (b : Int) (hb : (Lit.int .u8 b).wf = true) (hT : Tab w) :
    Calls Tryd.prog 18 #[.slice A len cap, .int .u8 b] w fun e w' => e = .returned (.bool true) ∧ Below w.heap.size w w' := proofPaths_walk A len cap L b hb hL.1 hT
end Go.Proofs.YtkdajlhmodmkoaaDoor
