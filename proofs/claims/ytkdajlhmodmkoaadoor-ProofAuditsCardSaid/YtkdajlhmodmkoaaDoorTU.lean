/-
  Layer 8 (tree), the document's: Top walked.
-/
import Derived.Test.YtkdajlhmodmkoaaDoorTT
namespace Go.Proofs.YtkdajlhmodmkoaaDoor
open Go.RowKit TreeM
set_option linter.unusedVariables false
set_option linter.unusedSimpArgs false
theorem rsum_empty (w : World) : Calls Tryd.prog 23 #[.string ⟨#[]⟩] w fun e w' => e = .returned (.string (sumB ⟨#[]⟩)) ∧ Below w.heap.size w w' := rsumB ⟨#[]⟩ (by decide) w
set_option maxRecDepth 100000 in
set_option maxHeartbeats 4000000 in
theorem rtop_any {w : World} (n : Nat) (hn : n < 18446744073709551616) {u : Value} {L : List ByteArray} (h : SRead w u L) :
    Calls Tryd.prog 47 #[.agg #[.int .u64 (n : Int), u]] w fun e w' => e = .returned (.tuple #[.string (topS n L), .int .i64 (topE n L)]) ∧ Below w.heap.size w w' := by
  have hw1 := alloc_below' w (.cells #[.int .u64 (n : Int), u] 51)
  have hB : Blk (w.alloc (.cells #[.int .u64 (n : Int), u] 51)) w.heap.size 51 #[.int .u64 (n : Int), u] := Blk.new _ _ _
  have c0 := hB.cell 0
  have c1 := hB.cell 1
  simp only [List.getElem?_toArray, List.getElem?_cons_succ, List.getElem?_cons_zero] at c0 c1
  have h1 := h.below hw1 rfl
  have hright := rright_any n hn h1
  cases hr : rightB n L with
  | false =>
    obtain ⟨A, cap, rfl, -, -⟩ := id h
    have e1 : topS n L = ⟨#[]⟩ := by unfold topS; rw [hr]; rfl
    have e2 : topE n L = 1 := by unfold topE; rw [hr]; rfl
    rw [e1, e2]
    rw [hr] at hright
    clear e1 e2 hr h h1
    go_enter Tryd.func47, Tryd.ntmps47
    go_wp2_with fail
    refine hright.mono ?_
    rintro e w2 ⟨rfl, hb2⟩
    go_wp2
    go_ret2
    exact ⟨rfl, hw1.trans (hb2.mono hw1.size)⟩
  | true =>
    rw [hr] at hright
    have e2 : topE n L = 0 := by unfold topE; rw [hr]; rfl
    rw [e2]
    by_cases h0 : n = 0
    · subst h0
      obtain ⟨A, cap, rfl, -, -⟩ := id h
      have e1 : topS 0 L = sumB ⟨#[]⟩ := by unfold topS; rw [hr]; rfl
      rw [e1]
      clear e1 e2 hr h h1
      go_enter Tryd.func47, Tryd.ntmps47
      go_wp2_with fail
      refine hright.mono ?_
      rintro e w2 ⟨rfl, hb2⟩
      have c0' := cell_belowB hb2 rfl c0
      have hW2 := hw1.trans (hb2.mono hw1.size)
      go_wp2_with fail
      refine (rsum_empty _).mono ?_
      rintro e w3 ⟨rfl, hb3⟩
      go_wp2
      go_ret2
      exact ⟨rfl, hW2.trans (hb3.mono hW2.size)⟩
    · obtain ⟨hwd, hones, -⟩ := right_wide hr
      have hpos := ones_pos (n := n) (by omega)
      have e1 : topS n L = L.dropLast.foldr nodeB (L.getLastD ⟨#[]⟩) := by unfold topS; rw [hr, if_pos rfl, if_neg h0]
      rw [e1]
      clear e1 e2 hr
      have hne : L ≠ [] := fun e => by subst e; simp at hones; omega
      obtain ⟨K, x0, rfl⟩ : ∃ K x0, L = K ++ [x0] := ⟨L.dropLast, L.getLast hne, (List.dropLast_concat_getLast hne).symm⟩
      have e3 : (K ++ [x0]).dropLast.foldr nodeB ((K ++ [x0]).getLastD ⟨#[]⟩) = K.foldr nodeB x0 := by simp
      rw [e3]
      obtain ⟨A, cap, rfl, hm, hc⟩ := id h
      obtain ⟨N, hN⟩ : ∃ N, (K ++ [x0]).length = N := ⟨_, rfl⟩
      have hNq : N = K.length + 1 := by rw [← hN]; simp
      obtain ⟨b, o, rfl, ⟨hbw, hcap⟩, -⟩ := hc 0 (by simp)
      have hcs : ∀ q (hq : q < K.length), w.cell? ⟨b, o + q, none⟩ = some (.string K[q]) := fun q hq => by
        obtain ⟨b', o', he, -, hx⟩ := hc q (by simp; omega)
        injection he with he; injection he with e4 e5 _
        subst e4 e5
        rw [List.getElem_append_left hq] at hx; exact hx
      have hc0 : w.cell? ⟨b, o + K.length, none⟩ = some (.string x0) := by
        obtain ⟨b', o', he, -, hx⟩ := hc K.length (by simp)
        injection he with he; injection he with e4 e5 _
        subst e4 e5
        rw [List.getElem_append_right (by omega)] at hx
        simpa using hx
      have h32 : ∀ q (hq : q < K.length), K[q].size = 32 := fun q hq => hwd _ (List.mem_append_left _ (List.getElem_mem hq))
      have hx32 : x0.size = 32 := hwd x0 (by simp)
      have hNx : N ≤ 9223372036854775807 := by rw [← hN]; exact hm
      rw [hN] at c1 hright hw1 c0
      have HC := Lib.hid hcs; have H32 := Lib.hid h32; have HR := Lib.hid hright; have Hw1 := Lib.hid hw1; have HNq := Lib.hid hNq; have Hc0 := Lib.hid hc0
      obtain ⟨q, hq⟩ : ∃ q, K.length = q := ⟨_, rfl⟩
      have e4 : IntKind.i64.wrap ((N : Int) - 1) = (q : Int) := by rw [show (N : Int) - 1 = (q : Int) by omega]; exact IntWalk.i64_in _ (by omega)
      have e5 : IntKind.i64.wrap ((N : Int) - 2) = (q : Int) - 1 := by rw [show (N : Int) - 2 = (q : Int) - 1 by omega]; exact IntWalk.i64_in _ (by omega)
      have q0 : (0 : Int) ≤ (q : Int) := by omega
      have q1 : (q : Int) < (N : Int) := by omega
      have Hq := Lib.hid hq
      rw [hN]
      clear hcs h32 hright hw1 hNq hc hcap hm hB h h1 hwd hones hpos e3 hne hN hc0 hq
      go_enter Tryd.func47, Tryd.ntmps47
      go_wp2_with fail
      refine HR.out.mono ?_
      rintro e w2 ⟨rfl, hb2⟩
      have d0 := cell_belowB hb2 rfl c0
      have d1 := cell_belowB hb2 rfl c1
      have hW2 := Hw1.out.trans (hb2.mono Hw1.out.size)
      have hx : w2.cell? ⟨b, o + q, none⟩ = some (.string x0) := by rw [← Hq.out]; exact cell_belowB hW2 rfl Hc0.out
      have hn0 : ((n : Int) == 0) = false := by rw [beq_eq_false_iff_ne]; omega
      have HW2 := Lib.hid hW2
      clear c0 c1 hb2 hW2 HR
      go_wp2
      go_loopw [4, 5] (fun hv i wr => ∃ (m : Nat) (hb : ByteArray), m ≤ q ∧ hv = .string hb ∧ i = .int .i64 ((m : Int) - 1) ∧ hb.size = 32 ∧ hb = (K.drop m).foldr nodeB x0 ∧ Below w2.heap.size w2 wr) (fun _ i _ => (intOf i + 1).toNat)
      case atStart => exact ⟨q, x0, Nat.le_refl _, rfl, rfl, hx32, by rw [List.drop_eq_nil_of_le (by rw [Hq.out]; exact Nat.le_refl _)]; rfl, Below.refl _ _⟩
      case round =>
        obtain ⟨m, hb, hm, rfl, rfl, hs, hf, hbl⟩ := hrel
        have f1 := cell_belowB hbl rfl d1
        have Hf := Lib.hid hf; have Hbl := Lib.hid hbl
        clear hf hbl
        cases m with
        | zero =>
          go_wp2
          go_ret2
          exact ⟨by rw [Hf.out]; rfl, HW2.out.trans (Hbl.out.mono HW2.out.size)⟩
        | succ m =>
          have hmi : ((m + 1 : Nat) : Int) - 1 = (m : Int) := by omega
          rw [hmi]
          have hmK : m < K.length := by rw [Hq.out]; omega
          have hk := HC.out m hmK
          have hk2 : wr.cell? ⟨b, o + m, none⟩ = some (.string K[m]) := cell_belowB (HW2.out.trans (Hbl.out.mono HW2.out.size)) rfl hk
          have hsK := H32.out m hmK
          have Hst : Hid ((K.drop m).foldr nodeB x0 = nodeB K[m] hb) := Lib.hid (by rw [Hf.out, List.drop_eq_getElem_cons hmK]; rfl)
          generalize K[m] = S at *
          have m0 : (0 : Int) ≤ (m : Int) := by omega
          have m1 : (m : Int) < (N : Int) := by omega
          clear hk Hf
          go_wp2_with fail
          refine (rnodeB S hb (by omega) (by omega) _).mono ?_
          rintro e w3 ⟨rfl, hb3⟩
          have Hb3 := Lib.hid (Hbl.out.trans (hb3.mono Hbl.out.size)); clear hb3
          go_wp2
          go_roundw
          case rel => exact ⟨m, _, by omega, rfl, by go_num, nodeB_size _ _, Hst.out.symm, Hb3.out⟩
          case measure => simp [intOf]
end Go.Proofs.YtkdajlhmodmkoaaDoor
