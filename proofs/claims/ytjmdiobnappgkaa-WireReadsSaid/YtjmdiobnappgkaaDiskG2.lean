/-
  Layer 14 (disk): the document's disk: the walks of Read, Sync, Put.
-/
import Derived.Test.YtjmdiobnappgkaaDiskG
namespace Go.Proofs.Ytjmdiobnappgkaa
open Go.RowKit
set_option linter.unusedVariables false
set_option linter.unusedSimpArgs false

theorem src_byte {w : World} (c : UInt8) : Src Try.prog 1 30 (.slice (some ⟨w.heap.size, 0, none⟩) 1 1) 1 (bvals [c]) (w.alloc (.cells #[.int .u8 (c.toNat : Int)] 5)) := by
  refine Src.ofSlice _ Try.underlying30 _ _ _ _ (by simp [bvals]) ?_ (bvals_one _)
  intro j u hu
  rw [Addr.add_lit, Nat.zero_add, cell_of_row _ _ _ _ _ _ (heap_alloc_new w _)]
  simpa [bvals] using hu
theorem file_small {r : RS} (hk : r.ok) (f k : Nat) : (if f = 0 then r.a else r.b).data.toList.length + (bytesOf f (r.loose.take k)).length ≤ 16777216 := by
  have h1 := hk.fits; have h2 := hk.room
  have h3 := bytesOf_le f (r.loose.take k)
  have h4 : (r.loose.take k).length ≤ r.loose.length := by simp; omega
  have e1 : r.a.data.toList.length = r.a.size := by rw [Array.length_toList]; rfl
  have e2 : r.b.data.toList.length = r.b.size := by rw [Array.length_toList]; rfl
  split <;> omega

set_option maxRecDepth 100000 in
set_option maxHeartbeats 800000 in
theorem rread_yes {base g : Nat} {v : Value} {r : RS} {w : World} (h : IsRef w base g v r) (hk : r.ok) (f : Nat) (hf : f < 2) : Calls Try.prog 43 #[.pointer (some ⟨g, 0, none⟩), .int .i64 (f : Int)] w fun e w' => e = .returned (.string (r.file f)) ∧ Below w.heap.size w w' := by
  obtain ⟨A, cp, rfl, hvl⟩ := own_form h.own
  obtain ⟨i0, hi, hz0, hz1, hz2⟩ := info_parts info5
  have c0 := h.c0
  have c1 := h.c1
  have c2 := h.c2
  have hgl := h.blk.lt
  have hlen : r.loose.length ≤ 16777216 := by have := hk.fits; have := hk.room; omega
  have hsm := fun k => file_small hk f k
  have hcell : ∀ k (hk : k < r.loose.length), ∃ gr, A = some ⟨gr, 0, none⟩ ∧ gr < w.heap.size ∧ w.cell? ⟨gr, k * 2, none⟩ = some (.int .i64 (r.loose[k].1 : Int)) ∧ w.cell? ⟨gr, k * 2 + 1, none⟩ = some (.int .u8 (r.loose[k].2.toNat : Int)) := by
    intro k hkl
    rcases h.own.2 with ⟨hv, hn⟩ | ⟨gr, cap, cur, hv, hbr, hh, hn, hm, hsz, htk⟩
    · rw [hn] at hkl; exact absurd hkl (Nat.not_lt_zero _)
    · injection hv with e1 e2 e3
      subst e1
      have hc := h.own.cellAt
      have hg := rvals_get r.loose k hkl
      refine ⟨gr, rfl, (Array.getElem?_eq_some_iff.1 hh).1, ?_, ?_⟩
      · rw [hc (k * 2) (by omega)]; exact hg.1
      · rw [hc (k * 2 + 1) (by omega)]; exact hg.2
  have Hcell := Lib.hid hcell; clear hcell
  have Hsm := Lib.hid hsm; clear hsm
  clear h hvl hk
  have hfc : f = 0 ∨ f = 1 := by omega
  obtain ⟨s, hs⟩ : ∃ s, (if f = 0 then r.a else r.b) = s := ⟨_, rfl⟩
  have hss : s.size ≤ 16777216 := by have := Hsm.out 0; rw [hs] at this; have e1 : s.data.toList.length = s.size := (by rw [Array.length_toList]; rfl)
                                     omega
  obtain ⟨bv, w2, hconv, hb2, hz2', hrow, hbo⟩ := rowX.ofString (P := Try.prog) w 9 30 5 s Try.underlying9 Try.underlying30 Try.underlying5 (by unfold maxLen; omega)
  have hfile : r.file f = ⟨(s.data.toList ++ bytesOf f r.loose).toArray⟩ := by rw [RS.file, hs]
  have Hfile := Lib.hid hfile; clear hfile
  have Hs := Lib.hid hs; clear hs
  have e0 : bytesOf f (r.loose.take 0) = [] := rfl
  rcases hfc with rfl | rfl
  · have hs' := Hs.out
    simp only [if_true, if_neg (show ¬ (1 : Nat) = 0 by decide), reduceIte, Nat.one_ne_zero] at hs'
    subst hs'
    clear c1
    go_enter Try.func43, Try.ntmps43
    go_wp2
    go_loopw [6, 7] (fun bv i wr => ∃ k : Nat, k ≤ r.loose.length ∧ i = .int .i64 k ∧ (∃ n, rowX wr w.heap.size 5 1 bv n (bvals (r.a.data.toList ++ bytesOf 0 (r.loose.take k)))) ∧ Below w.heap.size w wr ∧ w.heap.size ≤ wr.heap.size) (fun _ i _ => r.loose.length - (intOf i).toNat)
    case atStart => exact ⟨0, Nat.zero_le _, rfl, ⟨_, by rw [e0, List.append_nil]; exact hrow⟩, hb2, by omega⟩
    case round =>
      obtain ⟨k, hk', rfl, ⟨n, hrw⟩, hbel, hz⟩ := hrel
      by_cases hlt : k < r.loose.length
      · obtain ⟨gr, rfl, hgr, d0, d1⟩ := Hcell.out k hlt
        have q0 := (hbel.cell (p := ⟨gr, k * 2, none⟩) hgr).trans d0
        have q1 := (hbel.cell (p := ⟨gr, k * 2 + 1, none⟩) hgr).trans d1
        have q2 := (hbel.cell (p := ⟨g, 2, none⟩) hgl).trans c2
        have hsn := bytesOf_snoc 0 (r.loose.take k) r.loose[k]
        rw [← List.take_succ_eq_append_getElem hlt] at hsn
        have hln := hrw.1
        have hsm1 := Hsm.out k
        simp only [bvals_length, List.length_append, Nat.mul_one] at hln
        have hn1 : n + 1 ≤ 16777217 := by
          simp only [reduceIte, if_true, if_neg (show ¬ (1 : Nat) = 0 by decide)] at hsm1
          omega
        clear hsm1 hln
        generalize r.loose[k] = pp at *
        obtain ⟨pf, pc⟩ := pp
        simp only at q0 q1 hsn d0 d1
        have Hsn := Lib.hid hsn; clear hsn d0 d1
        by_cases hpf : pf = 0
        · have hb : ((pf : Int) == 0) = true := by rw [beq_iff_eq]; omega
          go_wp2_with (at_builtin; refine wpList_append_x rfl _ _ 30 30 rfl w.heap.size 5 i0 _ 1 1 Try.underlying30 hi hz0 hz1 hz2 rfl _ n _ rfl (hrw.alloc _) _ 1 (bvals [pc]) rfl (src_byte pc) (by unfold maxLen; omega) (by omega) (by simp; omega) ?_)
          intro v' w3 hrow3 hg3 hv3
          have hb3 : Below w.heap.size w w3 := (hbel.alloc hz _).grown hg3 (by simp; omega) (fun k hk => (hrw.lt k hk).1)
          have hz3 : w.heap.size ≤ w3.heap.size := hb3.size
          have H3 := Lib.hid hrow3; have B3 := Lib.hid hb3
          clear hrow3 hg3 hv3 hb3 hrw hbel
          go_wp2
          go_roundw
          case rel => exact ⟨k + 1, by omega, by go_num, ⟨n + 1, by rw [Hsn.out, if_pos hpf, ← List.append_assoc, bvals_append]; exact H3.out⟩, B3.out, hz3⟩
          case measure => simp [intOf]; omega
        · have hb : ((pf : Int) == 0) = false := by rw [beq_eq_false_iff_ne]; omega
          have H3 := Lib.hid hrw; have B3 := Lib.hid hbel
          clear hrw hbel
          go_wp2
          go_roundw
          case rel => exact ⟨k + 1, by omega, by go_num, ⟨n, by rw [Hsn.out, if_neg hpf, List.append_nil]; exact H3.out⟩, B3.out, hz⟩
          case measure => simp [intOf]; omega
      · obtain rfl : k = r.loose.length := by omega
        rw [List.take_length] at hrw
        have q2 := (hbel.cell (p := ⟨g, 2, none⟩) hgl).trans c2
        have hstr := hrw.toString (P := Try.prog) (src := 30) (dst := 9) Try.underlying30 Try.underlying5 Try.underlying9
        rw [← Hfile.out] at hstr
        have B3 := Lib.hid hbel
        clear hbel hrw
        go_wp2
        go_ret
        exact ⟨rfl, B3.out⟩
  · have hs' := Hs.out
    simp only [if_true, if_neg (show ¬ (1 : Nat) = 0 by decide), reduceIte, Nat.one_ne_zero] at hs'
    subst hs'
    show Calls Try.prog 43 #[.pointer (some ⟨g, 0, none⟩), .int .i64 1] w _
    go_enter Try.func43, Try.ntmps43
    go_wp2
    go_loopw [6, 7] (fun bv i wr => ∃ k : Nat, k ≤ r.loose.length ∧ i = .int .i64 k ∧ (∃ n, rowX wr w.heap.size 5 1 bv n (bvals (r.b.data.toList ++ bytesOf 1 (r.loose.take k)))) ∧ Below w.heap.size w wr ∧ w.heap.size ≤ wr.heap.size) (fun _ i _ => r.loose.length - (intOf i).toNat)
    case atStart => exact ⟨0, Nat.zero_le _, rfl, ⟨_, by rw [e0, List.append_nil]; exact hrow⟩, hb2, by omega⟩
    case round =>
      obtain ⟨k, hk', rfl, ⟨n, hrw⟩, hbel, hz⟩ := hrel
      by_cases hlt : k < r.loose.length
      · obtain ⟨gr, rfl, hgr, d0, d1⟩ := Hcell.out k hlt
        have q0 := (hbel.cell (p := ⟨gr, k * 2, none⟩) hgr).trans d0
        have q1 := (hbel.cell (p := ⟨gr, k * 2 + 1, none⟩) hgr).trans d1
        have q2 := (hbel.cell (p := ⟨g, 2, none⟩) hgl).trans c2
        have hsn := bytesOf_snoc 1 (r.loose.take k) r.loose[k]
        rw [← List.take_succ_eq_append_getElem hlt] at hsn
        have hln := hrw.1
        have hsm1 := Hsm.out k
        simp only [bvals_length, List.length_append, Nat.mul_one] at hln
        have hn1 : n + 1 ≤ 16777217 := by
          simp only [reduceIte, if_true, if_neg (show ¬ (1 : Nat) = 0 by decide)] at hsm1
          omega
        clear hsm1 hln
        generalize r.loose[k] = pp at *
        obtain ⟨pf, pc⟩ := pp
        simp only at q0 q1 hsn d0 d1
        have Hsn := Lib.hid hsn; clear hsn d0 d1
        by_cases hpf : pf = 1
        · have hb : ((pf : Int) == 1) = true := by rw [beq_iff_eq]; omega
          go_wp2_with (at_builtin; refine wpList_append_x rfl _ _ 30 30 rfl w.heap.size 5 i0 _ 1 1 Try.underlying30 hi hz0 hz1 hz2 rfl _ n _ rfl (hrw.alloc _) _ 1 (bvals [pc]) rfl (src_byte pc) (by unfold maxLen; omega) (by omega) (by simp; omega) ?_)
          intro v' w3 hrow3 hg3 hv3
          have hb3 : Below w.heap.size w w3 := (hbel.alloc hz _).grown hg3 (by simp; omega) (fun k hk => (hrw.lt k hk).1)
          have hz3 : w.heap.size ≤ w3.heap.size := hb3.size
          have H3 := Lib.hid hrow3; have B3 := Lib.hid hb3
          clear hrow3 hg3 hv3 hb3 hrw hbel
          go_wp2
          go_roundw
          case rel => exact ⟨k + 1, by omega, by go_num, ⟨n + 1, by rw [Hsn.out, if_pos hpf, ← List.append_assoc, bvals_append]; exact H3.out⟩, B3.out, hz3⟩
          case measure => simp [intOf]; omega
        · have hb : ((pf : Int) == 1) = false := by rw [beq_eq_false_iff_ne]; omega
          have H3 := Lib.hid hrw; have B3 := Lib.hid hbel
          clear hrw hbel
          go_wp2
          go_roundw
          case rel => exact ⟨k + 1, by omega, by go_num, ⟨n, by rw [Hsn.out, if_neg hpf, List.append_nil]; exact H3.out⟩, B3.out, hz⟩
          case measure => simp [intOf]; omega
      · obtain rfl : k = r.loose.length := by omega
        rw [List.take_length] at hrw
        have q2 := (hbel.cell (p := ⟨g, 2, none⟩) hgl).trans c2
        have hstr := hrw.toString (P := Try.prog) (src := 30) (dst := 9) Try.underlying30 Try.underlying5 Try.underlying9
        rw [← Hfile.out] at hstr
        have B3 := Lib.hid hbel
        clear hbel hrw
        go_wp2
        go_ret
        exact ⟨rfl, B3.out⟩
end Go.Proofs.Ytjmdiobnappgkaa
