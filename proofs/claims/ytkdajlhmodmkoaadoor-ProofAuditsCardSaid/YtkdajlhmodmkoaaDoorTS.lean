/-
  Rows of strings: as they are read, and owned; slices.Clone, Same; a slice of strings, opened. (turned from seat A's texts)
-/
import Derived.Test.YtkdajlhmodmkoaaDoorShaL1
import Derived.SliceStrings
import Derived.Deep.Slices
namespace Go.Proofs.YtkdajlhmodmkoaaDoor
open Go.RowKit
set_option linter.unusedVariables false
set_option linter.unusedSimpArgs false

theorem ba_list {a b : ByteArray} (h : a.data.toList = b.data.toList) : a = b := ba_eq h
/-- Strings as cells. -/
def svals (l : List ByteArray) : List Value := l.map Value.string
theorem svals_length (l : List ByteArray) : (svals l).length = l.length := by simp [svals]
theorem svals_append (a b : List ByteArray) : svals (a ++ b) = svals a ++ svals b := by simp [svals]
theorem svals_one (l : List ByteArray) : ∀ u ∈ svals l, u.oneCell' = true := by
  intro u hu; simp only [svals, List.mem_map] at hu; obtain ⟨_, _, rfl⟩ := hu; rfl
theorem winfo9 : (Tryd.prog.info? 9).map (fun i => (i.zero, i.size, i.bytes)) = some (some (.string ⟨#[]⟩), 1, 16) := by kernel_rfl
/-- In world w the slice v reads as the strings L. -/
def SRead (w : World) (v : Value) (L : List ByteArray) : Prop := ∃ (A : Option Addr) (cap : Nat), v = .slice A L.length cap ∧ L.length ≤ maxLen ∧ ∀ i (h : i < L.length), ∃ b o, A = some ⟨b, o, none⟩ ∧ (b < w.heap.size ∧ L.length ≤ cap) ∧ w.cell? ⟨b, o + i, none⟩ = some (.string L[i])
theorem SRead.below {w w' : World} {v : Value} {L : List ByteArray} {B : Nat} (h : SRead w v L) (hb : Below B w w') (hB : w.heap.size = B) : SRead w' v L := by
  obtain ⟨A, cap, hv, hm, hc⟩ := h
  refine ⟨A, cap, hv, hm, fun i hi => ?_⟩
  obtain ⟨b, o, h1, h2, h3⟩ := hc i hi
  exact ⟨b, o, h1, ⟨Nat.lt_of_lt_of_le h2.1 hb.size, h2.2⟩, cell_belowB hb hB h3⟩
/-- A row of strings of the call's own. -/
def SOwn (base : Nat) (w : World) (v : Value) (L : List ByteArray) : Prop := w.ownsRow base 9 1 v L.length (svals L)
theorem SOwn.read {base : Nat} {w : World} {v : Value} {L : List ByteArray} (h : SOwn base w v L) (hm : L.length ≤ maxLen) : SRead w v L := by
  rcases h.2 with ⟨hv, hn⟩ | ⟨g, cap, cur, hv, hg, hh, hn, hmx, hcs, htk⟩
  · have h0 : L = [] := List.eq_nil_of_length_eq_zero hn
    exact ⟨none, 0, by rw [hv, hn], hm, fun i hi => by omega⟩
  · refine ⟨some ⟨g, 0, none⟩, cap, hv, hm, fun i hi => ⟨g, 0, rfl, ⟨(Array.getElem?_eq_some_iff.1 hh).1, hn⟩, ?_⟩⟩
    subst hv
    have := h.cells rfl i (.string L[i]) (by simp [svals, hi])
    rw [Addr.add_lit] at this
    exact this
theorem SOwn.nil (base : Nat) (w : World) : SOwn base w (.slice none 0 0) [] := World.ownsRow_nil _ _ _ _
theorem SOwn.new {base : Nat} {w : World} (hb : base ≤ w.heap.size) : SOwn base (w.alloc (.cells #[] 9)) (.slice (some ⟨w.heap.size, 0, none⟩) 0 0) [] :=
  World.ownsRow_made w #[] 0 hb (by decide) rfl
theorem SRead.src {w : World} {v : Value} {L : List ByteArray} (h : SRead w v L) : Src Tryd.prog 1 25 v L.length (svals L) w := by
  obtain ⟨A, cap, rfl, hm, hc⟩ := h
  cases L with
  | nil =>
    cases A with
    | none => exact Src.ofNil w Tryd.underlying25 _
    | some a => exact Src.ofSlice w Tryd.underlying25 _ _ _ _ rfl (fun j u hu => by simp [svals] at hu) (by intro u hu; simp [svals] at hu)
  | cons x l =>
    obtain ⟨b, o, rfl, _, _⟩ := hc 0 (by simp)
    refine Src.ofSlice w Tryd.underlying25 _ _ _ _ (by simp [svals]) (fun j u hu => ?_) (svals_one _)
    have hj : j < (x :: l).length := by
      have := List.getElem?_eq_some_iff.1 hu
      obtain ⟨h, _⟩ := this
      rw [svals_length] at h; exact h
    obtain ⟨b', o', he, _, hcell⟩ := hc j hj
    injection he with he; injection he with e1 e2 _
    subst e1 e2
    rw [Addr.add_lit, hcell]
    simp only [svals, List.getElem?_map, List.getElem?_eq_getElem hj, Option.map_some] at hu
    exact hu
/-- How a row was got from another by appending: the same block, or a new one. -/
def Grew (w : World) (v v' : Value) : Prop := v'.ownBlock = v.ownBlock ∨ v'.ownBlock = some w.heap.size

set_option maxRecDepth 100000 in
set_option maxHeartbeats 400000 in
theorem clone_any {w : World} {v : Value} {L : List ByteArray} (h : SRead w v L) (hl : L.length ≤ 20000000) :
    Calls Tryd.prog 72 #[v] w fun e w' => (∃ v', e = .returned v' ∧ SOwn w.heap.size w' v' L) ∧ Below w.heap.size w w' := by
  obtain ⟨i0, hi, hz0, hz1, hz2⟩ := info_parts winfo9
  have hsrc0 := h.src
  have hh := h
  obtain ⟨A, cap, rfl, hm, hc⟩ := h
  cases A with
  | none =>
    have h0 : L = [] := by
      cases L with
      | nil => rfl
      | cons x l => obtain ⟨b, o, he, _⟩ := hc 0 (by simp); cases he
    subst h0
    clear hsrc0 hh hc hm hl
    have hq := fun wx => Lib.run_eql_slice_nil (P := Tryd.prog) wx 25 9 none 0 cap 0 0 Tryd.underlying25
    go_enter Tryd.func72, Tryd.ntmps72
    go_wp2
    go_ret
    exact ⟨⟨_, rfl, SOwn.nil _ _⟩, Below.refl _ _⟩
  | some a =>
    have hq := fun wx => Lib.run_eql_slice_nil (P := Tryd.prog) wx 25 9 (some a) L.length cap 0 0 Tryd.underlying25
    have hsrc : Src Tryd.prog 1 25 (.slice (some a) L.length cap) L.length (svals L) (w.alloc (.cells #[] 9)) := (hh.below (alloc_below' w _) rfl).src
    have hown : (w.alloc (.cells #[] 9)).ownsRow w.heap.size 9 1 (.slice (some ⟨w.heap.size, 0, none⟩) 0 0) 0 [] := SOwn.new (Nat.le_refl w.heap.size)
    clear hsrc0 hh hc hm
    go_enter Tryd.func72, Tryd.ntmps72
    go_wp2_with (at_builtin; refine wpList_append_o rfl _ _ 25 25 rfl w.heap.size 9 i0 _ 1 16 Tryd.underlying25 hi hz0 hz1 hz2 rfl _ _ _ rfl hown _ L.length (svals L) rfl hsrc (by unfold maxLen; omega) (by omega) (by simp) ?_)
    intro v' w3 hown3 hg3 hv3
    have hb : Below w.heap.size w w3 := (alloc_below' w (.cells #[] 9)).grown hg3 (by simp) (by intro k hk; simp [Value.ownBlock] at hk; omega)
    have H3 := Lib.hid hown3; have Hb := Lib.hid hb; clear hown3 hg3 hv3 hb hown hsrc
    go_wp2
    go_ret
    exact ⟨⟨_, rfl, H3.out⟩, Hb.out⟩
/-- Same: are two slices of strings the same? -/
theorem SRead.inj {w : World} {v : Value} {L M : List ByteArray} (h : SRead w v L) (k : SRead w v M) : L = M := by
  obtain ⟨A, cap, rfl, hm, hc⟩ := h
  obtain ⟨A', cap', he, hm', hc'⟩ := k
  injection he with e1 e2 e3
  subst e1
  refine List.ext_getElem e2 (fun i h1 h2 => ?_)
  obtain ⟨b, o, ha, _, hx⟩ := hc i h1
  obtain ⟨b', o', ha', _, hy⟩ := hc' i h2
  rw [ha] at ha'; injection ha' with ha'; injection ha' with q1 q2 _
  subst q1 q2
  rw [hx] at hy; injection hy with hy; injection hy
/-- The first k are the same. -/
def SameTo (L M : List ByteArray) (k : Nat) : Prop := L.take k = M.take k
theorem SameTo.succ {L M : List ByteArray} {k : Nat} (h : SameTo L M k) (h1 : k < L.length) (h2 : k < M.length) (e : L[k] = M[k]) : SameTo L M (k + 1) := by
  unfold SameTo at h ⊢
  rw [List.take_succ_eq_append_getElem h1, List.take_succ_eq_append_getElem h2, h, e]
set_option maxRecDepth 100000 in
set_option maxHeartbeats 800000 in
theorem same_any {w : World} {v u : Value} {L M : List ByteArray} (h : SRead w v L) (k : SRead w u M) :
    Calls Tryd.prog 41 #[v, u] w fun e w' => e = .returned (.bool (decide (L = M))) ∧ ∃ n, w' = w.drewN n := by
  obtain ⟨A, cap, rfl, hm, hc⟩ := h
  obtain ⟨A', cap', rfl, hm', hc'⟩ := k
  have hl1 : L.length ≤ 9223372036854775807 := hm
  have hl2 : M.length ≤ 9223372036854775807 := hm'
  by_cases hlen : L.length = M.length
  · obtain ⟨R, hR⟩ : ∃ R, decide (L = M) = R := ⟨_, rfl⟩
    rw [hR]
    have HR := Lib.hid hR; have Hc := Lib.hid hc; have Hc' := Lib.hid hc'; have Hlen := Lib.hid hlen
    have hne : ((L.length : Int) != (M.length : Int)) = false := by rw [bne_eq_false_iff_eq]; omega
    clear hR hc hc' hm hm' hlen
    go_enter Tryd.func41, Tryd.ntmps41
    go_wp2
    go_loopw [5] (fun i wr => ∃ j : Nat, j ≤ L.length ∧ i = .int .i64 j ∧ SameTo L M j ∧ ∃ n, wr = w.drewN n) (fun i _ => L.length - (intOf i).toNat)
    case atStart => exact ⟨0, Nat.zero_le _, rfl, rfl, 0, rfl⟩
    case round =>
      obtain ⟨j, hj, rfl, hs, n, hw⟩ := hrel
      have Hs := Lib.hid hs; have Hw := Lib.hid hw; clear hs hw
      by_cases hlt : j < L.length
      · have hlt2 : j < M.length := by have := Hlen.out; omega
        obtain ⟨b, o, rfl, _, hx⟩ := Hc.out j hlt
        obtain ⟨b', o', rfl, _, hy⟩ := Hc'.out j hlt2
        have hx' : wr.cell? ⟨b, o + j, none⟩ = some (.string L[j]) := by rw [Hw.out]; exact hx
        have hy' : wr.cell? ⟨b', o' + j, none⟩ = some (.string M[j]) := by rw [Hw.out]; exact hy
        have hj1 : (j : Int) < (L.length : Int) := by omega
        have hj2 : (j : Int) < (M.length : Int) := by omega
        have hstep := fun e => SameTo.succ Hs.out hlt hlt2 e
        have Hst := Lib.hid hstep
        have Hne : Hid (L[j] ≠ M[j] → R = false) := Lib.hid (fun hq => by rw [← HR.out]; simp; rintro rfl; exact hq rfl)
        clear hx hy hstep
        generalize L[j] = x at *
        generalize M[j] = y at *
        by_cases he : x = y
        · subst he
          have Hst2 := Lib.hid (Hst.out rfl)
          clear Hne
          go_wp2
          go_quiet (fail)
          go_wp2
          go_roundw
          case rel => exact ⟨j + 1, by omega, by go_num, Hst2.out, _, by rw [Hw.out, World.drewN_drewN]⟩
          case measure => simp [intOf]; omega
        · have Hr := Lib.hid (Hne.out he)
          have hb : (x.toList == y.toList) = false := by
            rw [ByteArray.toList_eq, ByteArray.toList_eq, beq_eq_false_iff_ne]
            intro hq; exact he (ba_list hq)
          clear Hne Hst
          go_wp2
          go_quiet (fail)
          go_wp2
          go_ret
          exact ⟨by rw [Hr.out]; rfl, _, by rw [Hw.out, World.drewN_drewN]⟩
      · have Hr : Hid (R = true) := Lib.hid (by
          rw [← HR.out]; simp
          have h1 := Hs.out
          unfold SameTo at h1
          rw [List.take_of_length_le (by omega), List.take_of_length_le (by have := Hlen.out; omega)] at h1
          exact h1)
        go_wp2
        go_ret
        exact ⟨by rw [Hr.out]; rfl, n, Hw.out⟩
  · have hd : decide (L = M) = false := by simp; rintro rfl; exact hlen rfl
    rw [hd]
    have hne : ((L.length : Int) != (M.length : Int)) = true := by rw [bne_iff_ne]; omega
    clear hc hc' hm hm' hlen hd
    go_enter Tryd.func41, Tryd.ntmps41
    go_wp2
    go_ret
    exact ⟨rfl, 0, rfl⟩
end Go.Proofs.YtkdajlhmodmkoaaDoor
