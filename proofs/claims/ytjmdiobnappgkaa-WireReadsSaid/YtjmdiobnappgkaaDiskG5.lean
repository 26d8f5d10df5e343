/-
  Layer 14 (disk): the document's disk: the walk of Crash.
-/
import Derived.Test.YtjmdiobnappgkaaDiskG4
namespace Go.Proofs.Ytjmdiobnappgkaa
open Go.RowKit
set_option linter.unusedVariables false
set_option linter.unusedSimpArgs false

theorem rvals_take (l : List (Nat × UInt8)) (m : Nat) : (rvals l).take (m * 2) = rvals (l.take m) := by
  induction l generalizing m with
  | nil => simp [rvals]
  | cons p l ih =>
    cases m with
    | zero => simp [rvals]
    | succ m =>
      have := ih m
      simp only [rvals, List.flatMap_cons, List.take_succ_cons, List.cons_append, List.nil_append] at this ⊢
      rw [show (m + 1) * 2 = m * 2 + 1 + 1 by omega, List.take_succ_cons, List.take_succ_cons, this]
def RS.lose (r : RS) (m : Nat) : RS := { r with loose := r.loose.take m }
/-- How many loose bytes stay. -/
def stayN (keep : Int) (n : Nat) : Nat := (max 0 (min keep (n : Int))).toNat
theorem lose_ok {r : RS} (hk : r.ok) (m : Nat) : (r.lose m).ok := ⟨by have := hk.fits; simp [RS.lose]; omega, hk.room⟩

set_option maxRecDepth 100000 in
set_option maxHeartbeats 800000 in
theorem rcrash_any {base g : Nat} {v : Value} {r : RS} {w : World} (h : IsRef w base g v r) (hk : r.ok) (keep : Int) (h1 : -9223372036854775808 ≤ keep) (h2 : keep ≤ 9223372036854775807) :
    Calls Try.prog 74 #[.pointer (some ⟨g, 0, none⟩), .int .i64 keep] w fun e w' => e = .returned (.tuple #[]) ∧ ∃ v', IsRef w' base g v' (r.lose (stayN keep r.loose.length)).sync ∧ Only w.heap.size [g] w w' := by
  obtain ⟨A, cp, rfl, hvl⟩ := own_form h.own
  obtain ⟨i0, hi, hz0, hz1, hz2⟩ := info_parts info123
  have hlen : r.loose.length ≤ 16777216 := by have := hk.fits; have := hk.room; omega
  have hm : ∃ m, stayN keep r.loose.length = m ∧ m ≤ r.loose.length ∧ ((keep < 0 ∧ m = 0) ∨ (¬ keep < 0 ∧ (r.loose.length : Int) < keep ∧ m = r.loose.length) ∨ (¬ keep < 0 ∧ ¬ (r.loose.length : Int) < keep ∧ (m : Int) = keep)) := by
    refine ⟨_, rfl, ?_, ?_⟩ <;> unfold stayN <;> omega
  obtain ⟨m, hm, hml, hmc⟩ := hm
  have hmi : (m : Int) ≤ (r.loose.length : Int) := by omega
  have hcp : r.loose.length ≤ cp := by
    rcases h.own.2 with ⟨hv, h0⟩ | ⟨g', cap', cur, hv, hg, hh, hn, _⟩
    · omega
    · injection hv with e1 e2 e3; omega
  have hmcp : (m : Int) ≤ (cp : Int) := by omega
  have hmcp2 : m ≤ cp := by omega
  have hsrc := src_own (P := Try.prog) (tx := 55) Try.underlying55 (h.own.alloc (.cells #[] 123)) (rvals_one _) m cp hml
  have hempty : (w.alloc (.cells #[] 123)).ownsRow base 123 2 (.slice (some ⟨w.heap.size, 0, none⟩) 0 0) 0 [] := ownsRow_empty base 123 2 (by have := h.hb; have := h.blk.lt; omega) (heap_alloc_new w _)
  rw [rvals_take] at hsrc
  have c2 := h.c2
  have hgl := h.blk.lt
  have hbase : base ≤ w.heap.size := by have := h.hb; omega
  rw [hm]
  have H := Lib.hid h; clear h hvl hm
  rcases hmc with ⟨hneg, rfl⟩ | ⟨hneg, hbig, rfl⟩ | ⟨hneg, hbig, rfl⟩
  · have hlen0 : ¬ (r.loose.length : Int) < 0 := by omega
    go_enter Try.func74, Try.ntmps74
    go_wp2_with (at_builtin; refine wpList_append_o rfl _ _ 55 55 rfl base 123 i0 _ 2 16 Try.underlying55 hi hz0 hz1 hz2 rfl _ 0 [] rfl hempty _ _ _ rfl hsrc (by unfold maxLen; omega) (by omega) (by simp; omega) ?_)
    intro v' w3 hown3 hg3 hv3
    replace hown3 : w3.ownsRow base 123 2 v' 0 (rvals (r.loose.take 0)) := by simpa using hown3
    obtain ⟨A', c', rfl, hl3⟩ := own_form hown3
    have hb3 : Blk w3 g 57 (rcells r (.slice A r.loose.length cp)) := (H.out.blk.alloc (.cells #[] 123)).grown hg3 (by simp [Value.ownBlock]; omega)
    have c23 : w3.cell? ⟨g, 2, none⟩ = some (.slice A r.loose.length cp) := hb3.cell 2
    have f23 : w3.frozen? ⟨g, 2, none⟩ = false := hb3.frozen 2
    have hne : (Value.slice A' 0 c').ownBlock ≠ some g := by
      intro he
      rcases hv3 with h1 | h1
      · rw [he] at h1; simp [Value.ownBlock] at h1; omega
      · rw [he] at h1; simp at h1; omega
    have ho3 : Only w.heap.size [g] w w3 := ((Only.refl w.heap.size [g] w).alloc (Nat.le_refl _) _).grown hg3 (by simp) (by intro q hq; simp [Value.ownBlock] at hq; exact .inr (by omega))
    have hr4 : IsRef (w3.setCell ⟨g, 2, none⟩ (.slice A' 0 c')) base g (.slice A' 0 c') (r.lose 0) := by
      refine ⟨hb3.set_ 2 _, H.out.hb, ?_⟩
      have := own_set_far (p := ⟨g, 2, none⟩) hown3 hne (.slice A' 0 c')
      have e : (r.lose 0).loose.length = 0 := by simp [RS.lose] <;> omega
      rw [e]; exact this
    have ho4 := ho3.setCell (p := ⟨g, 2, none⟩) (.inl (by simp)) (.slice A' 0 c')
    have H4 := Lib.hid hr4; have O4 := Lib.hid ho4
    clear hown3 hg3 hv3 hl3 hb3 hne ho3 hr4 ho4 hempty hsrc
    go_wp2_with fail
    refine (rsync_any H4.out (lose_ok hk _)).mono ?_
    rintro e w5 ⟨rfl, v5, h5, o5⟩
    have H5 := Lib.hid h5; have O5 := Lib.hid (O4.out.trans (o5.mono (O4.out.size) (fun _ _ h => h))); clear h5 o5
    go_wp2
    go_end0
    exact ⟨rfl, v5, H5.out, O5.out⟩
  · have hlen0 : ¬ (r.loose.length : Int) < 0 := by omega
    go_enter Try.func74, Try.ntmps74
    go_wp2_with (at_builtin; refine wpList_append_o rfl _ _ 55 55 rfl base 123 i0 _ 2 16 Try.underlying55 hi hz0 hz1 hz2 rfl _ 0 [] rfl hempty _ _ _ rfl hsrc (by unfold maxLen; omega) (by omega) (by simp; omega) ?_)
    intro v' w3 hown3 hg3 hv3
    replace hown3 : w3.ownsRow base 123 2 v' r.loose.length (rvals (r.loose.take r.loose.length)) := by simpa using hown3
    obtain ⟨A', c', rfl, hl3⟩ := own_form hown3
    have hb3 : Blk w3 g 57 (rcells r (.slice A r.loose.length cp)) := (H.out.blk.alloc (.cells #[] 123)).grown hg3 (by simp [Value.ownBlock]; omega)
    have c23 : w3.cell? ⟨g, 2, none⟩ = some (.slice A r.loose.length cp) := hb3.cell 2
    have f23 : w3.frozen? ⟨g, 2, none⟩ = false := hb3.frozen 2
    have hne : (Value.slice A' r.loose.length c').ownBlock ≠ some g := by
      intro he
      rcases hv3 with h1 | h1
      · rw [he] at h1; simp [Value.ownBlock] at h1; omega
      · rw [he] at h1; simp at h1; omega
    have ho3 : Only w.heap.size [g] w w3 := ((Only.refl w.heap.size [g] w).alloc (Nat.le_refl _) _).grown hg3 (by simp) (by intro q hq; simp [Value.ownBlock] at hq; exact .inr (by omega))
    have hr4 : IsRef (w3.setCell ⟨g, 2, none⟩ (.slice A' r.loose.length c')) base g (.slice A' r.loose.length c') (r.lose r.loose.length) := by
      refine ⟨hb3.set_ 2 _, H.out.hb, ?_⟩
      have := own_set_far (p := ⟨g, 2, none⟩) hown3 hne (.slice A' r.loose.length c')
      have e : (r.lose r.loose.length).loose.length = r.loose.length := by simp [RS.lose] <;> omega
      rw [e]; exact this
    have ho4 := ho3.setCell (p := ⟨g, 2, none⟩) (.inl (by simp)) (.slice A' r.loose.length c')
    have H4 := Lib.hid hr4; have O4 := Lib.hid ho4
    clear hown3 hg3 hv3 hl3 hb3 hne ho3 hr4 ho4 hempty hsrc
    go_wp2_with fail
    refine (rsync_any H4.out (lose_ok hk _)).mono ?_
    rintro e w5 ⟨rfl, v5, h5, o5⟩
    have H5 := Lib.hid h5; have O5 := Lib.hid (O4.out.trans (o5.mono (O4.out.size) (fun _ _ h => h))); clear h5 o5
    go_wp2
    go_end0
    exact ⟨rfl, v5, H5.out, O5.out⟩
  · have hlen0 : ¬ (r.loose.length : Int) < 0 := by omega
    go_enter Try.func74, Try.ntmps74
    go_wp2_with (at_builtin; refine wpList_append_o rfl _ _ 55 55 rfl base 123 i0 _ 2 16 Try.underlying55 hi hz0 hz1 hz2 rfl _ 0 [] rfl hempty _ _ _ rfl hsrc (by unfold maxLen; omega) (by omega) (by simp; omega) ?_)
    intro v' w3 hown3 hg3 hv3
    replace hown3 : w3.ownsRow base 123 2 v' m (rvals (r.loose.take m)) := by simpa using hown3
    obtain ⟨A', c', rfl, hl3⟩ := own_form hown3
    have hb3 : Blk w3 g 57 (rcells r (.slice A r.loose.length cp)) := (H.out.blk.alloc (.cells #[] 123)).grown hg3 (by simp [Value.ownBlock]; omega)
    have c23 : w3.cell? ⟨g, 2, none⟩ = some (.slice A r.loose.length cp) := hb3.cell 2
    have f23 : w3.frozen? ⟨g, 2, none⟩ = false := hb3.frozen 2
    have hne : (Value.slice A' m c').ownBlock ≠ some g := by
      intro he
      rcases hv3 with h1 | h1
      · rw [he] at h1; simp [Value.ownBlock] at h1; omega
      · rw [he] at h1; simp at h1; omega
    have ho3 : Only w.heap.size [g] w w3 := ((Only.refl w.heap.size [g] w).alloc (Nat.le_refl _) _).grown hg3 (by simp) (by intro q hq; simp [Value.ownBlock] at hq; exact .inr (by omega))
    have hr4 : IsRef (w3.setCell ⟨g, 2, none⟩ (.slice A' m c')) base g (.slice A' m c') (r.lose m) := by
      refine ⟨hb3.set_ 2 _, H.out.hb, ?_⟩
      have := own_set_far (p := ⟨g, 2, none⟩) hown3 hne (.slice A' m c')
      have e : (r.lose m).loose.length = m := by simp [RS.lose] <;> omega
      rw [e]; exact this
    have ho4 := ho3.setCell (p := ⟨g, 2, none⟩) (.inl (by simp)) (.slice A' m c')
    have H4 := Lib.hid hr4; have O4 := Lib.hid ho4
    clear hown3 hg3 hv3 hl3 hb3 hne ho3 hr4 ho4 hempty hsrc
    go_wp2_with fail
    refine (rsync_any H4.out (lose_ok hk _)).mono ?_
    rintro e w5 ⟨rfl, v5, h5, o5⟩
    have H5 := Lib.hid h5; have O5 := Lib.hid (O4.out.trans (o5.mono (O4.out.size) (fun _ _ h => h))); clear h5 o5
    go_wp2
    go_end0
    exact ⟨rfl, v5, H5.out, O5.out⟩
end Go.Proofs.Ytjmdiobnappgkaa
