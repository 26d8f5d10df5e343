/-
  Layer 14 (disk): each method of both disks, with what it leaves alone, and that no block goes.
-/
import Derived.Test.YtjmdiobnappgkaaJ5
namespace Go.Proofs.Ytjmdiobnappgkaa
open Go.RowKit
set_option linter.unusedVariables false
set_option linter.unusedSimpArgs false

section
variable {w0 w w' : World} {g gr : Nat} {d : DS} {r : RS} {n : Nat} {base : Nat} {v : Value}
theorem dz_put (h : DK w0 w g d n) (hn : n < 1000000) (f : Int) (s : ByteArray) : Calls Try.prog 31 #[.pointer (some ⟨g, 0, none⟩), .int .i64 f, .string s] w fun e w' => e = .returned (.int .i64 (putR d f s)) ∧ DK w0 w' g (putD d f s) (n + 1) ∧ Spare [117, 120] w w' ∧ w.heap.size ≤ w'.heap.size := by
  have hh := h
  obtain ⟨⟨v, hv⟩, hb0, hk, hl, h3⟩ := h
  by_cases hf : valid f
  · by_cases hs : d.free < s.size
    · refine (put_full hv hk f hf.1 hf.2 s hs).mono ?_
      rintro e w' ⟨rfl, q, rfl⟩
      refine ⟨by rw [putR, if_pos hf, if_pos hs], ?_, Spare.refl _ _, Nat.le_refl _⟩
      rw [putD, if_neg (fun c => c.2 hs)]
      obtain ⟨a, b, c, e, f'⟩ := hh.drewN q
      exact ⟨a, b, c, by omega, f'⟩
    · obtain ⟨m, rfl⟩ := Int.eq_ofNat_of_zero_le hf.1
      have hm : m < 2 := by have := hf.2; omega
      refine (put_ok hv hk m hm s (by omega) (by omega)).mono ?_
      rintro e w' ⟨rfl, v', hv', hvv, ho⟩
      refine ⟨by rw [putR, if_pos hf, if_neg hs], ?_, Spare.ofOnly ho hv.typed, ho.size⟩
      rw [putD, if_pos ⟨hf, hs⟩, Int.toNat_natCast]
      exact hh.only hv hv' ho (put_okd hk m hm s (by omega) (by omega)) (by rw [put_loose d m hm]; simp; omega)
  · have hf' : f < 0 ∨ 2 ≤ f := by unfold valid at hf; omega
    refine (put_arg g f hf' s w).mono ?_
    rintro e w' ⟨rfl, rfl⟩
    refine ⟨by rw [putR, if_neg hf], ?_, Spare.refl _ _, Nat.le_refl _⟩
    rw [putD, if_neg (fun c => hf c.1)]
    obtain ⟨a, b, c, e, f'⟩ := hh
    exact ⟨a, b, c, by omega, f'⟩
theorem dz_sync (h : DK w0 w g d n) : Calls Try.prog 32 #[.pointer (some ⟨g, 0, none⟩)] w fun e w' => e = .returned (.tuple #[]) ∧ DK w0 w' g d.sync 0 ∧ Spare [117, 120] w w' ∧ w.heap.size ≤ w'.heap.size := by
  have hh := h
  obtain ⟨⟨v, hv⟩, hb0, hk, hl, h3⟩ := h
  refine (sync_any hv).mono ?_
  rintro e w' ⟨rfl, hv', ho⟩
  exact ⟨rfl, hh.only hv hv' (only_one ho) (sync_okd hk) (by simp [DS.sync]), Spare.ofOnly (only_one ho) hv.typed, ho.size⟩
theorem dz_crash (h : DK w0 w g d n) (keep : Int) (h1 : -9223372036854775808 ≤ keep) (h2 : keep ≤ 9223372036854775807) : Calls Try.prog 35 #[.pointer (some ⟨g, 0, none⟩), .int .i64 keep] w fun e w' => e = .returned (.tuple #[]) ∧ DK w0 w' g (crashD d keep) 0 ∧ Spare [117, 120] w w' ∧ w.heap.size ≤ w'.heap.size := by
  have hh := h
  obtain ⟨⟨v, hv⟩, hb0, hk, hl, h3⟩ := h
  refine (crash_any hv hk keep h1 h2).mono ?_
  rintro e w' ⟨rfl, hv', ho⟩
  exact ⟨rfl, hh.only hv hv' (only_one ho) (crash_okd hk keep) (by simp [crashD, DS.sync]), Spare.ofOnly (only_one ho) hv.typed, ho.size⟩
theorem dz_turn (h : DK w0 w g d n) : Calls Try.prog 38 #[.pointer (some ⟨g, 0, none⟩)] w fun e w' => e = .returned (.int .i64 (turnR d)) ∧ DK w0 w' g (turnD d) n ∧ Spare [117, 120] w w' ∧ w.heap.size ≤ w'.heap.size := by
  have hh := h
  obtain ⟨⟨v, hv⟩, hb0, hk, hl, h3⟩ := h
  by_cases h0 : 0 < looseAll d.loose
  · refine (turn_no hv hk h0).mono ?_
    rintro e w' ⟨rfl, hb⟩
    exact ⟨by rw [turnR, if_pos h0], by rw [turnD, if_pos h0]; exact hh.below hb, Spare.ofBelow hb, hb.size⟩
  · refine (turn_yes hv hk (by omega)).mono ?_
    rintro e w' ⟨rfl, hv', ho⟩
    refine ⟨by rw [turnR, if_neg h0], ?_, Spare.ofOnly (only_one ho) hv.typed, ho.size⟩
    rw [turnD, if_neg h0]
    exact hh.only hv hv' (only_one ho) (turn_okd hk (by omega)) hl
theorem dz_trim (h : DK w0 w g d n) (f m : Int) : Calls Try.prog 39 #[.pointer (some ⟨g, 0, none⟩), .int .i64 f, .int .i64 m] w fun e w' => e = .returned (.int .i64 (trimR d f m)) ∧ DK w0 w' g (trimD d f m) n ∧ Spare [117, 120] w w' ∧ w.heap.size ≤ w'.heap.size := by
  have hh := h
  obtain ⟨⟨v, hv⟩, hb0, hk, hl, h3⟩ := h
  by_cases hf : valid f
  · obtain ⟨f, rfl⟩ := Int.eq_ofNat_of_zero_le hf.1
    have hf2 : f < 2 := by have := hf.2; omega
    by_cases hm : m < 0 ∨ ((d.file f).size : Int) < m
    · have hbad : trimBad d (f : Int) m := by unfold trimBad; rw [Int.toNat_natCast]; exact .inr hm
      refine (trim_arg hv hk f hf2 m hm).mono ?_
      rintro e w' ⟨rfl, rfl⟩
      exact ⟨by rw [trimR, if_pos hbad], by rw [trimD, if_pos (.inl hbad)]; exact hh, Spare.refl _ _, Nat.le_refl _⟩
    · have hbad : ¬ trimBad d (f : Int) m := by
        unfold trimBad; rw [Int.toNat_natCast]
        rintro (h | h)
        · exact h hf
        · exact hm h
      obtain ⟨m, rfl⟩ := Int.eq_ofNat_of_zero_le (show 0 ≤ m by omega)
      by_cases h0 : 0 < looseAll d.loose
      · refine (trim_state hv hk f hf2 m (by omega) h0).mono ?_
        rintro e w' ⟨rfl, hb⟩
        exact ⟨by rw [trimR, if_neg hbad, if_pos h0], by rw [trimD, if_pos (.inr h0)]; exact hh.below hb, Spare.ofBelow hb, hb.size⟩
      · refine (trim_yes hv hk f hf2 m (by omega) (by omega)).mono ?_
        rintro e w' ⟨rfl, hv', ho⟩
        refine ⟨by rw [trimR, if_neg hbad, if_neg h0], ?_, Spare.ofOnly (only_one ho) hv.typed, ho.size⟩
        rw [trimD, if_neg (fun c => c.elim hbad h0), Int.toNat_natCast, Int.toNat_natCast]
        exact hh.only hv hv' (only_one ho) (trim_okd hk f m hf2 (by omega)) (by rw [trim_loose d f hf2]; exact hl)
  · have hbad : trimBad d f m := .inl hf
    refine (trim_arg0 g f (by unfold valid at hf; omega) m w).mono ?_
    rintro e w' ⟨rfl, rfl⟩
    exact ⟨by rw [trimR, if_pos hbad], by rw [trimD, if_pos (.inl hbad)]; exact hh, Spare.refl _ _, Nat.le_refl _⟩

theorem rz_put (h : RK w0 w gr r) (rel : Rel d r) (hk : d.ok) (f : Int) (s : ByteArray) : Calls Try.prog 86 #[.pointer (some ⟨gr, 0, none⟩), .int .i64 f, .string s] w fun e w' => e = .returned (.int .i64 (putR d f s)) ∧ (∃ r', RK w0 w' gr r' ∧ Rel (putD d f s) r') ∧ Spare [57, 123] w w' ∧ w.heap.size ≤ w'.heap.size := by
  have hh := h
  obtain ⟨⟨v, hv⟩, hb0, h3⟩ := h
  have hro := rel.ok hk
  have hfr := rel.free hk
  by_cases hf : valid f
  · obtain ⟨m, rfl⟩ := Int.eq_ofNat_of_zero_le hf.1
    have hm : m < 2 := by have := hf.2; omega
    by_cases hs : d.free < s.size
    · refine (rput_full hv hro m hm s (by omega)).mono ?_
      rintro e w' ⟨rfl, q, rfl⟩
      refine ⟨by rw [putR, if_pos hf, if_pos hs], ⟨r, ⟨⟨v, hv.drewN q⟩, below_drewN' hb0 q, h3⟩, ?_⟩, Spare.refl _ _, Nat.le_refl _⟩
      rw [putD, if_neg (fun c => c.2 hs)]; exact rel
    · refine (rput_ok hv hro m hm s (by omega)).mono ?_
      rintro e w' ⟨rfl, v', hv', hvv, ho⟩
      refine ⟨by rw [putR, if_pos hf, if_neg hs], ⟨_, hh.only hv hv' ho, ?_⟩, Spare.ofOnly ho hv.typed, ho.size⟩
      rw [putD, if_pos ⟨hf, hs⟩, Int.toNat_natCast]
      exact rel.put m hm s
  · have hf' : f < 0 ∨ 2 ≤ f := by unfold valid at hf; omega
    refine (rput_arg gr f hf' s w).mono ?_
    rintro e w' ⟨rfl, rfl⟩
    refine ⟨by rw [putR, if_neg hf], ⟨r, hh, ?_⟩, Spare.refl _ _, Nat.le_refl _⟩
    rw [putD, if_neg (fun c => hf c.1)]; exact rel
theorem rz_sync (h : RK w0 w gr r) (rel : Rel d r) (hk : d.ok) : Calls Try.prog 87 #[.pointer (some ⟨gr, 0, none⟩)] w fun e w' => e = .returned (.tuple #[]) ∧ (∃ r', RK w0 w' gr r' ∧ Rel d.sync r') ∧ Spare [57, 123] w w' ∧ w.heap.size ≤ w'.heap.size := by
  have hh := h
  obtain ⟨⟨v, hv⟩, hb0, h3⟩ := h
  refine (rsync_any hv (rel.ok hk)).mono ?_
  rintro e w' ⟨rfl, v', hv', ho⟩
  exact ⟨rfl, ⟨_, hh.only hv hv' (only_one ho), rel.sync⟩, Spare.ofOnly (only_one ho) hv.typed, ho.size⟩
theorem rz_crash (h : RK w0 w gr r) (rel : Rel d r) (hk : d.ok) (keep : Int) (h1 : -9223372036854775808 ≤ keep) (h2 : keep ≤ 9223372036854775807) : Calls Try.prog 74 #[.pointer (some ⟨gr, 0, none⟩), .int .i64 keep] w fun e w' => e = .returned (.tuple #[]) ∧ (∃ r', RK w0 w' gr r' ∧ Rel (crashD d keep) r') ∧ Spare [57, 123] w w' ∧ w.heap.size ≤ w'.heap.size := by
  have hh := h
  obtain ⟨⟨v, hv⟩, hb0, h3⟩ := h
  refine (rcrash_any hv (rel.ok hk) keep h1 h2).mono ?_
  rintro e w' ⟨rfl, v', hv', ho⟩
  exact ⟨rfl, ⟨_, hh.only hv hv' (only_one ho), rel.crash hk keep⟩, Spare.ofOnly (only_one ho) hv.typed, ho.size⟩
theorem rz_turn (h : RK w0 w gr r) (rel : Rel d r) (hk : d.ok) : Calls Try.prog 89 #[.pointer (some ⟨gr, 0, none⟩)] w fun e w' => e = .returned (.int .i64 (turnR d)) ∧ (∃ r', RK w0 w' gr r' ∧ Rel (turnD d) r') ∧ Spare [57, 123] w w' ∧ w.heap.size ≤ w'.heap.size := by
  have hh := h
  obtain ⟨⟨v, hv⟩, hb0, h3⟩ := h
  have hl := rel.len
  by_cases h0 : 0 < looseAll d.loose
  · refine (rturn_no hv (rel.ok hk) (by omega)).mono ?_
    rintro e w' ⟨rfl, rfl⟩
    exact ⟨by rw [turnR, if_pos h0], ⟨r, hh, by rw [turnD, if_pos h0]; exact rel⟩, Spare.refl _ _, Nat.le_refl _⟩
  · refine (rturn_yes hv (by omega)).mono ?_
    rintro e w' ⟨rfl, hv', ho⟩
    exact ⟨by rw [turnR, if_neg h0], ⟨_, hh.only hv hv' (only_one ho), by rw [turnD, if_neg h0]; exact rel.turn (by omega)⟩, Spare.ofOnly (only_one ho) hv.typed, ho.size⟩
theorem rz_trim (h : RK w0 w gr r) (rel : Rel d r) (hk : d.ok) (f m : Int) : Calls Try.prog 88 #[.pointer (some ⟨gr, 0, none⟩), .int .i64 f, .int .i64 m] w fun e w' => e = .returned (.int .i64 (trimR d f m)) ∧ (∃ r', RK w0 w' gr r' ∧ Rel (trimD d f m) r') ∧ Spare [57, 123] w w' ∧ w.heap.size ≤ w'.heap.size := by
  have hh := h
  obtain ⟨⟨v, hv⟩, hb0, h3⟩ := h
  have hro := rel.ok hk
  have hl := rel.len
  by_cases hf : valid f
  · obtain ⟨f, rfl⟩ := Int.eq_ofNat_of_zero_le hf.1
    have hf2 : f < 2 := by have := hf.2; omega
    have hfile := rel.file f hf2
    by_cases hm : m < 0 ∨ ((d.file f).size : Int) < m
    · have hbad : trimBad d (f : Int) m := by unfold trimBad; rw [Int.toNat_natCast]; exact .inr hm
      refine (rtrim_arg hv hro f hf2 m (by rw [hfile]; exact hm)).mono ?_
      rintro e w' ⟨rfl, hb⟩
      exact ⟨by rw [trimR, if_pos hbad], ⟨r, hh.below hb, by rw [trimD, if_pos (.inl hbad)]; exact rel⟩, Spare.ofBelow hb, hb.size⟩
    · have hbad : ¬ trimBad d (f : Int) m := by
        unfold trimBad; rw [Int.toNat_natCast]
        rintro (h | h)
        · exact h hf
        · exact hm h
      obtain ⟨m, rfl⟩ := Int.eq_ofNat_of_zero_le (show 0 ≤ m by omega)
      by_cases h0 : 0 < looseAll d.loose
      · refine (rtrim_state hv hro f hf2 m (by rw [hfile]; omega) (by omega)).mono ?_
        rintro e w' ⟨rfl, hb⟩
        exact ⟨by rw [trimR, if_neg hbad, if_pos h0], ⟨r, hh.below hb, by rw [trimD, if_pos (.inr h0)]; exact rel⟩, Spare.ofBelow hb, hb.size⟩
      · refine (rtrim_yes hv hro f hf2 m (by rw [hfile]; omega) (by omega)).mono ?_
        rintro e w' ⟨rfl, hv', ho⟩
        refine ⟨by rw [trimR, if_neg hbad, if_neg h0], ⟨_, hh.only hv hv' (only_one ho), ?_⟩, Spare.ofOnly (only_one ho) hv.typed, ho.size⟩
        rw [trimD, if_neg (fun c => c.elim hbad h0), Int.toNat_natCast, Int.toNat_natCast]
        exact rel.trim (by omega) f m hf2
  · have hbad : trimBad d f m := .inl hf
    refine (rtrim_arg0 gr f (by unfold valid at hf; omega) m w).mono ?_
    rintro e w' ⟨rfl, rfl⟩
    exact ⟨by rw [trimR, if_pos hbad], ⟨r, hh, by rw [trimD, if_pos (.inl hbad)]; exact rel⟩, Spare.refl _ _, Nat.le_refl _⟩
end
end Go.Proofs.Ytjmdiobnappgkaa
