/-
  Layer 15 (journal): the walks of step and Renew.
-/
import Derived.Test.YtjmdiobnappgkaaJ7
namespace Go.Proofs.Ytjmdiobnappgkaa
open Go.RowKit
set_option linter.unusedVariables false
set_option linter.unusedSimpArgs false

/-- A slice that reads as strings, in blocks of strings. -/
def SReadT (w : World) (v : Value) (L : List ByteArray) : Prop := ∃ (A : Option Addr) (cap : Nat), v = .slice A L.length cap ∧ L.length ≤ maxLen ∧ ∀ i (h : i < L.length), ∃ (b o : Nat) (cs : Array Value) (fr : Nat × Nat), A = some ⟨b, o, none⟩ ∧ w.heap[b]? = some (.cells cs 9 fr) ∧ cs[o + i]? = some (.string L[i])
theorem SReadT.read {w : World} {v : Value} {L : List ByteArray} (h : SReadT w v L) : SRead w v L := by
  obtain ⟨A, cap, hv, hm, hc⟩ := h
  refine ⟨A, cap, hv, hm, fun i hi => ?_⟩
  obtain ⟨b, o, cs, fr, h1, h2, h3⟩ := hc i hi
  exact ⟨b, o, h1, heap_lt h2, by rw [cell_of_row w b (o + i) cs 9 fr h2]; exact h3⟩
theorem SReadT.spare {T : List TypeId} {w w' : World} {v : Value} {L : List ByteArray} (h : SReadT w v L) (hs : Spare T w w') (hT : 9 ∉ T) : SReadT w' v L := by
  obtain ⟨A, cap, hv, hm, hc⟩ := h
  refine ⟨A, cap, hv, hm, fun i hi => ?_⟩
  obtain ⟨b, o, cs, fr, h1, h2, h3⟩ := hc i hi
  exact ⟨b, o, cs, fr, h1, hs b cs 9 fr h2 hT, h3⟩
theorem SReadT.below {w w' : World} {v : Value} {L : List ByteArray} (h : SReadT w v L) (hb : Below w.heap.size w w') : SReadT w' v L := h.spare (Spare.ofBelow (T := []) hb) (by simp)
theorem SOwn.readT {base : Nat} {w : World} {v : Value} {L : List ByteArray} (h : SOwn base w v L) (hm : L.length ≤ maxLen) : SReadT w v L := by
  rcases h.2 with ⟨hv, hn⟩ | ⟨g, cap, cur, hv, hg, hh, hn, hmx, hcs, htk⟩
  · exact ⟨none, 0, by rw [hv, hn], hm, fun i hi => by omega⟩
  · refine ⟨some ⟨g, 0, none⟩, cap, hv, hm, fun i hi => ⟨g, 0, cur, _, rfl, hh, ?_⟩⟩
    have h1 : (svals L)[i]? = some (.string L[i]) := by simp [svals, hi]
    rw [← htk, List.getElem?_take] at h1
    split at h1
    · rw [Nat.zero_add]; simpa using h1
    · cases h1
theorem SOwn.mono {base base' : Nat} {w : World} {v : Value} {L : List ByteArray} (h : SOwn base w v L) (hb : base' ≤ base) : SOwn base' w v L := World.ownsRow.mono h hb

/-- The disk behind k steps of writing anew. -/
def stD (d : DS) (all : ByteArray) : Nat → DS
  | 0 => d
  | 1 => putD d 1 all
  | 2 => (putD d 1 all).sync
  | 3 => turnD (putD d 1 all).sync
  | _ => trimD (turnD (putD d 1 all).sync) 1 0
section
variable {j : JS} {L : List ByteArray} {n : Int}
theorem rn_state (h : j.cut = true ∨ j.sure < j.l.length) : renewR j L n = 7 ∧ renewJ j L n = j := ⟨by rw [renewR, if_pos h], by rw [renewJ, if_pos h]⟩
theorem rn_arg (h : ¬ (j.cut = true ∨ j.sure < j.l.length)) (h2 : ¬ fine L ∨ n < 0) : renewR j L n = 1 ∧ renewJ j L n = j := ⟨by rw [renewR, if_neg h, if_pos h2], by rw [renewJ, if_neg h, if_pos h2]⟩
theorem rn_full (h : ¬ (j.cut = true ∨ j.sure < j.l.length)) (h1 : fine L) (h2 : 0 < n) (h3 : ¬ putR j.d 1 (framesS L) = 0) : renewR j L n = putR j.d 1 (framesS L) ∧ renewJ j L n = j := by
  have e : ¬ (¬ fine L ∨ n < 0) := fun c => c.elim (fun h => h h1) (fun h => by omega)
  exact ⟨by rw [renewR, if_neg h, if_neg e, if_neg (by omega), if_pos h3], by rw [renewJ, if_neg h, if_neg e, if_neg (by omega), if_pos h3]⟩
theorem rn_cut (h : ¬ (j.cut = true ∨ j.sure < j.l.length)) (h1 : fine L) (h2 : 0 ≤ n) (h4 : n < 4) (h3 : 0 < n → putR j.d 1 (framesS L) = 0) : renewR j L n = 7 ∧ renewJ j L n = ⟨stD j.d (framesS L) n.toNat, j.l, j.sure, true⟩ := by
  have e : ¬ (¬ fine L ∨ n < 0) := fun c => c.elim (fun h => h h1) (fun h => by omega)
  have hc : n = 0 ∨ n = 1 ∨ n = 2 ∨ n = 3 := by omega
  rcases hc with rfl | rfl | rfl | rfl
  · exact ⟨by rw [renewR, if_neg h, if_neg e, if_pos rfl], by rw [renewJ, if_neg h, if_neg e, if_pos rfl]; rfl⟩
  · have h5 := h3 (by decide)
    exact ⟨by rw [renewR, if_neg h, if_neg e, if_neg (by decide), if_neg (fun c => c h5), if_pos (by decide)], by rw [renewJ, if_neg h, if_neg e, if_neg (by decide), if_neg (fun c => c h5), if_pos rfl]; rfl⟩
  · have h5 := h3 (by decide)
    exact ⟨by rw [renewR, if_neg h, if_neg e, if_neg (by decide), if_neg (fun c => c h5), if_pos (by decide)], by rw [renewJ, if_neg h, if_neg e, if_neg (by decide), if_neg (fun c => c h5), if_neg (by decide), if_pos rfl]; rfl⟩
  · have h5 := h3 (by decide)
    exact ⟨by rw [renewR, if_neg h, if_neg e, if_neg (by decide), if_neg (fun c => c h5), if_pos (by decide)], by rw [renewJ, if_neg h, if_neg e, if_neg (by decide), if_neg (fun c => c h5), if_neg (by decide), if_neg (by decide), if_pos rfl]; rfl⟩
theorem rn_all (h : ¬ (j.cut = true ∨ j.sure < j.l.length)) (h1 : fine L) (h4 : 4 ≤ n) (h3 : putR j.d 1 (framesS L) = 0) : renewR j L n = 0 ∧ renewJ j L n = ⟨stD j.d (framesS L) 4, L, L.length, j.cut⟩ := by
  have e : ¬ (¬ fine L ∨ n < 0) := fun c => c.elim (fun h => h h1) (fun h => by omega)
  exact ⟨by rw [renewR, if_neg h, if_neg e, if_neg (by omega), if_neg (fun c => c h3), if_neg (by omega)],
    by rw [renewJ, if_neg h, if_neg e, if_neg (by omega), if_neg (fun c => c h3), if_neg (by omega), if_neg (by omega), if_neg (by omega)]; rfl⟩
end
theorem turn_after_sync (d : DS) : turnR d.sync = 0 ∧ trimR (turnD d.sync) 1 0 = 0 := by
  have h0 : looseAll d.sync.loose = 0 := rfl
  have e : turnD d.sync = d.sync.turn := by rw [turnD, if_neg (by omega)]
  have h1 : looseAll d.sync.turn.loose = 0 := rfl
  refine ⟨by rw [turnR, if_neg (by omega)], ?_⟩
  rw [e, trimR, if_neg, if_neg (by omega)]
  unfold trimBad valid
  have hz : ((d.sync.turn.file (1 : Int).toNat).size : Int) ≥ 0 := Int.natCast_nonneg _
  omega
section
variable {w0 w w' : World} {gj gd : Nat} {v : Value} {j : JS} {n : Nat}
/-- A step: the disk has turned, nothing else. -/
def SPost (w0 w w' : World) (gj gd : Nat) (v : Value) (j : JS) (d' : DS) (m : Nat) : Prop := JK w0 w' gj gd v { j with d := d' } m ∧ Spare [117, 120] w w' ∧ w.heap.size ≤ w'.heap.size
set_option maxRecDepth 100000 in
theorem j_step0 (h : JK w0 w gj gd v j n) (hn : n < 1000000) (all : ByteArray) : Calls Try.prog 103 #[.pointer (some ⟨gj, 0, none⟩), .int .i64 0, .string all] w fun e w' => e = .returned (.int .i64 (putR j.d 1 all)) ∧ SPost w0 w w' gj gd v j (putD j.d 1 all) (n + 1) := by
  have c0 := h.c0
  go_enter Try.func103, Try.ntmps103
  go_wp2_with fail
  refine (dz_put h.dk hn 1 all).mono ?_
  rintro e w1 ⟨rfl, hd, hs, hz⟩
  have H := Lib.hid (h.disk hd hs); have S := Lib.hid hs; have Z := Lib.hid hz
  clear h hd hs hz
  go_wp2
  go_ret
  exact ⟨rfl, H.out, S.out, Z.out⟩
set_option maxRecDepth 100000 in
theorem j_step1 (h : JK w0 w gj gd v j n) (all : ByteArray) : Calls Try.prog 103 #[.pointer (some ⟨gj, 0, none⟩), .int .i64 1, .string all] w fun e w' => e = .returned (.int .i64 0) ∧ SPost w0 w w' gj gd v j j.d.sync n := by
  have c0 := h.c0
  go_enter Try.func103, Try.ntmps103
  go_wp2_with fail
  refine (dz_sync h.dk).mono ?_
  rintro e w1 ⟨rfl, hd, hs, hz⟩
  have H := Lib.hid ((h.disk hd hs).mono (Nat.zero_le n)); have S := Lib.hid hs; have Z := Lib.hid hz
  clear h hd hs hz
  go_wp2
  go_ret
  exact ⟨rfl, H.out, S.out, Z.out⟩
set_option maxRecDepth 100000 in
theorem j_step2 (h : JK w0 w gj gd v j n) (all : ByteArray) : Calls Try.prog 103 #[.pointer (some ⟨gj, 0, none⟩), .int .i64 2, .string all] w fun e w' => e = .returned (.int .i64 (turnR j.d)) ∧ SPost w0 w w' gj gd v j (turnD j.d) n := by
  have c0 := h.c0
  go_enter Try.func103, Try.ntmps103
  go_wp2_with fail
  refine (dz_turn h.dk).mono ?_
  rintro e w1 ⟨rfl, hd, hs, hz⟩
  have H := Lib.hid (h.disk hd hs); have S := Lib.hid hs; have Z := Lib.hid hz
  clear h hd hs hz
  go_wp2
  go_ret
  exact ⟨rfl, H.out, S.out, Z.out⟩
set_option maxRecDepth 100000 in
theorem j_step3 (h : JK w0 w gj gd v j n) (all : ByteArray) : Calls Try.prog 103 #[.pointer (some ⟨gj, 0, none⟩), .int .i64 3, .string all] w fun e w' => e = .returned (.int .i64 (trimR j.d 1 0)) ∧ SPost w0 w w' gj gd v j (trimD j.d 1 0) n := by
  have c0 := h.c0
  go_enter Try.func103, Try.ntmps103
  go_wp2_with fail
  refine (dz_trim h.dk 1 0).mono ?_
  rintro e w1 ⟨rfl, hd, hs, hz⟩
  have H := Lib.hid (h.disk hd hs); have S := Lib.hid hs; have Z := Lib.hid hz
  clear h hd hs hz
  go_wp2
  go_ret
  exact ⟨rfl, H.out, S.out, Z.out⟩
end
end Go.Proofs.Ytjmdiobnappgkaa
