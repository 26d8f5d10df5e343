/-
  Layer 14 (disk): one disk that a call made itself: each method as a plain function of the model.
-/
import Derived.Test.YtjmdiobnappgkaaDiskC2
namespace Go.Proofs.Ytjmdiobnappgkaa
open Go.RowKit
set_option linter.unusedVariables false
set_option linter.unusedSimpArgs false

/-- In world w block g is a disk d that was made since w0; at most n entries are loose; of what was there in w0 nothing has turned. -/
def DK (w0 w : World) (g : Nat) (d : DS) (n : Nat) : Prop := (∃ v, IsDisk w w0.heap.size g v d) ∧ Below w0.heap.size w0 w ∧ d.ok ∧ d.loose.length ≤ n ∧ w0.heap.size ≤ w.heap.size

def valid (f : Int) : Prop := 0 ≤ f ∧ f < 2
instance (f : Int) : Decidable (valid f) := inferInstanceAs (Decidable (0 ≤ f ∧ f < 2))
def putR (d : DS) (f : Int) (s : ByteArray) : Int := if valid f then (if d.free < s.size then 8 else 0) else 1
def putD (d : DS) (f : Int) (s : ByteArray) : DS := if valid f ∧ ¬ d.free < s.size then d.put f.toNat s else d
def trimBad (d : DS) (f n : Int) : Prop := ¬ valid f ∨ n < 0 ∨ ((d.file f.toNat).size : Int) < n
instance (d : DS) (f n : Int) : Decidable (trimBad d f n) := inferInstanceAs (Decidable (¬ valid f ∨ n < 0 ∨ ((d.file f.toNat).size : Int) < n))
def trimR (d : DS) (f n : Int) : Int := if trimBad d f n then 1 else if 0 < looseAll d.loose then 7 else 0
def trimD (d : DS) (f n : Int) : DS := if trimBad d f n ∨ 0 < looseAll d.loose then d else d.trim f.toNat n.toNat
def turnR (d : DS) : Int := if 0 < looseAll d.loose then 7 else 0
def turnD (d : DS) : DS := if 0 < looseAll d.loose then d else d.turn
def crashD (d : DS) (keep : Int) : DS := (undoL d d.loose (stays d.loose keep)).sync
def readR (d : DS) (f : Int) : ByteArray := if valid f then d.file f.toNat else ⟨#[]⟩

theorem looseOf_snoc (f : Nat) (l : List (Nat × Nat)) (p : Nat × Nat) : looseOf f (l ++ [p]) = looseOf f l + if p.1 = f then p.2 else 0 := by simp [looseOf]
theorem put_okd {d : DS} (h : d.ok) (f : Nat) (hf : f < 2) (s : ByteArray) (hs : s.size ≤ d.free) (hn : d.loose.length < 1000000) : (d.put f s).ok := by
  have h1 := h.fits; have h2 := h.l0; have h3 := h.l1
  unfold DS.free at hs
  have : f = 0 ∨ f = 1 := by omega
  rcases this with rfl | rfl
  · refine ⟨?_, h.room, ?_, ?_, ?_, ?_⟩
    · simp only [DS.put, if_pos, ByteArray.size_append]; omega
    · simp only [DS.put, if_pos, List.length_append, List.length_cons, List.length_nil]; omega
    · intro p hp; simp [DS.put] at hp; rcases hp with hp | rfl
      · exact h.two p hp
      · exact Nat.zero_lt_two
    · simp only [DS.put, if_pos, looseOf_snoc, ByteArray.size_append]; omega
    · simp only [DS.put, if_pos, looseOf_snoc]; simp; exact h3
  · refine ⟨?_, h.room, ?_, ?_, ?_, ?_⟩
    · simp only [DS.put, ByteArray.size_append, if_neg (show ¬ (1 : Nat) = 0 by decide)]; omega
    · simp only [DS.put, if_neg (show ¬ (1 : Nat) = 0 by decide), List.length_append, List.length_cons, List.length_nil]; omega
    · intro p hp; simp [DS.put] at hp; rcases hp with hp | rfl
      · exact h.two p hp
      · exact Nat.one_lt_two
    · simp only [DS.put, if_neg (show ¬ (1 : Nat) = 0 by decide), looseOf_snoc]; simp; exact h2
    · simp only [DS.put, if_neg (show ¬ (1 : Nat) = 0 by decide), looseOf_snoc, ByteArray.size_append]; simp; omega
theorem loose0_of {d : DS} (h : d.ok) (hl : looseAll d.loose = 0) : looseOf 0 d.loose = 0 ∧ looseOf 1 d.loose = 0 := by
  have := looseAll_two d.loose h.two; omega
theorem turn_okd {d : DS} (h : d.ok) (hl : looseAll d.loose = 0) : d.turn.ok := by
  have h1 := h.fits
  have h2 := loose0_of h hl
  exact ⟨by simp only [DS.turn]; omega, h.room, h.few, h.two, by simp only [DS.turn]; omega, by simp only [DS.turn]; omega⟩
theorem trim_okd {d : DS} (h : d.ok) (f n : Nat) (hf : f < 2) (hl : looseAll d.loose = 0) : (d.trim f n).ok := by
  have h1 := h.fits
  have h2 := loose0_of h hl
  have : f = 0 ∨ f = 1 := by omega
  rcases this with rfl | rfl
  · exact ⟨by simp only [DS.trim, if_pos, ByteArray.size_extract]; omega, h.room, h.few, h.two, by simp only [DS.trim, if_pos]; omega, by simp only [DS.trim, if_pos]; omega⟩
  · exact ⟨by simp only [DS.trim, if_neg (show ¬ (1 : Nat) = 0 by decide), ByteArray.size_extract]; omega, h.room, h.few, h.two, by simp only [DS.trim, if_neg (show ¬ (1 : Nat) = 0 by decide)]; omega, by simp only [DS.trim, if_neg (show ¬ (1 : Nat) = 0 by decide)]; omega⟩
theorem sync_okd {d : DS} (h : d.ok) : d.sync.ok := ⟨h.fits, h.room, by simp [DS.sync], by simp [DS.sync], by simp [DS.sync, looseOf], by simp [DS.sync, looseOf]⟩
theorem crash_okd {d : DS} (h : d.ok) (keep : Int) : (crashD d keep).ok := by
  have e0 := undo_size d 0 (by decide) d.loose (stays d.loose keep) h.two h.l0
  have e1 := undo_size d 1 (by decide) d.loose (stays d.loose keep) h.two h.l1
  have er := undoL_loose d d.loose (stays d.loose keep)
  have h1 := h.fits; have h2 := h.room
  have k0 : (undoL d d.loose (stays d.loose keep)).f0.size ≤ d.f0.size := e0.2
  have k1 : (undoL d d.loose (stays d.loose keep)).f1.size ≤ d.f1.size := e1.2
  exact ⟨by show _ + _ ≤ (undoL d d.loose (stays d.loose keep)).room; rw [er.2]; simp only [crashD, DS.sync]; omega, by show (undoL d d.loose (stays d.loose keep)).room ≤ _; rw [er.2]; exact h2, by simp [crashD, DS.sync], by simp [crashD, DS.sync], by simp [crashD, DS.sync, looseOf], by simp [crashD, DS.sync, looseOf]⟩

section
variable {w0 w : World} {g : Nat} {d : DS} {n : Nat}
theorem DK.drewN (h : DK w0 w g d n) (q : Nat) : DK w0 (w.drewN q) g d n := by
  obtain ⟨⟨v, hv⟩, hb, r⟩ := h
  exact ⟨⟨v, hv.drewN q⟩, below_drewN' hb q, r⟩
theorem DK.below {w' : World} (h : DK w0 w g d n) (hb : Below w.heap.size w w') : DK w0 w' g d n := by
  obtain ⟨⟨v, hv⟩, hb0, h1, h2, h3⟩ := h
  exact ⟨⟨v, hv.below hb⟩, hb0.trans (hb.mono h3), h1, h2, Nat.le_trans h3 hb.size⟩
/-- The disk's own blocks alone have turned. -/
theorem DK.only {w' : World} {v v' : Value} {d' : DS} {n' : Nat} (h : DK w0 w g d n) (hv : IsDisk w w0.heap.size g v d) (hv' : IsDisk w' w0.heap.size g v' d') (ho : Only w.heap.size (g :: v.ownBlock.toList) w w') (hk : d'.ok) (hn : d'.loose.length ≤ n') : DK w0 w' g d' n' := by
  obtain ⟨_, hb0, h1, h2, h3⟩ := h
  refine ⟨⟨v', hv'⟩, hb0.trans ?_, hk, hn, Nat.le_trans h3 ho.size⟩
  refine (ho.mono h3 (l' := (g :: v.ownBlock.toList)) (fun k _ h => h)).below ?_
  intro k hk
  rcases List.mem_cons.1 hk with rfl | hk
  · exact hv.hb
  · simp only [Option.mem_toList] at hk
    exact (hv.own.lt k hk).1

theorem dk_put (h : DK w0 w g d n) (hn : n < 1000000) (f : Int) (s : ByteArray) : Calls Try.prog 31 #[.pointer (some ⟨g, 0, none⟩), .int .i64 f, .string s] w fun e w' => e = .returned (.int .i64 (putR d f s)) ∧ DK w0 w' g (putD d f s) (n + 1) := by
  have hh := h
  obtain ⟨⟨v, hv⟩, hb0, hk, hl, h3⟩ := h
  by_cases hf : valid f
  · by_cases hs : d.free < s.size
    · refine (put_full hv hk f hf.1 hf.2 s hs).mono ?_
      rintro e w' ⟨rfl, q, rfl⟩
      refine ⟨by rw [putR, if_pos hf, if_pos hs], ?_⟩
      rw [putD, if_neg (fun c => c.2 hs)]
      obtain ⟨a, b, c, e, f'⟩ := hh.drewN q
      exact ⟨a, b, c, by omega, f'⟩
    · obtain ⟨m, rfl⟩ := Int.eq_ofNat_of_zero_le hf.1
      have hm : m < 2 := by have := hf.2; omega
      refine (put_ok hv hk m hm s (by omega) (by omega)).mono ?_
      rintro e w' ⟨rfl, v', hv', hvv, ho⟩
      refine ⟨by rw [putR, if_pos hf, if_neg hs], ?_⟩
      rw [putD, if_pos ⟨hf, hs⟩, Int.toNat_natCast]
      exact hh.only hv hv' ho (put_okd hk m hm s (by omega) (by omega)) (by rw [put_loose d m hm]; simp; omega)
  · have hf' : f < 0 ∨ 2 ≤ f := by unfold valid at hf; omega
    refine (put_arg g f hf' s w).mono ?_
    rintro e w' ⟨rfl, rfl⟩
    refine ⟨by rw [putR, if_neg hf], ?_⟩
    rw [putD, if_neg (fun c => hf c.1)]
    obtain ⟨a, b, c, e, f'⟩ := hh
    exact ⟨a, b, c, by omega, f'⟩

theorem dk_sync (h : DK w0 w g d n) : Calls Try.prog 32 #[.pointer (some ⟨g, 0, none⟩)] w fun e w' => e = .returned (.tuple #[]) ∧ DK w0 w' g d.sync 0 := by
  have hh := h
  obtain ⟨⟨v, hv⟩, hb0, hk, hl, h3⟩ := h
  refine (sync_any hv).mono ?_
  rintro e w' ⟨rfl, hv', ho⟩
  exact ⟨rfl, hh.only hv hv' (ho.mono (Nat.le_refl _) (fun k _ hk => by simp at hk; simp [hk])) (sync_okd hk) (by simp [DS.sync])⟩

theorem dk_crash (h : DK w0 w g d n) (keep : Int) (h1 : -9223372036854775808 ≤ keep) (h2 : keep ≤ 9223372036854775807) : Calls Try.prog 35 #[.pointer (some ⟨g, 0, none⟩), .int .i64 keep] w fun e w' => e = .returned (.tuple #[]) ∧ DK w0 w' g (crashD d keep) 0 := by
  have hh := h
  obtain ⟨⟨v, hv⟩, hb0, hk, hl, h3⟩ := h
  refine (crash_any hv hk keep h1 h2).mono ?_
  rintro e w' ⟨rfl, hv', ho⟩
  exact ⟨rfl, hh.only hv hv' (ho.mono (Nat.le_refl _) (fun k _ hk => by simp at hk; simp [hk])) (crash_okd hk keep) (by simp [crashD, DS.sync])⟩

theorem dk_loose (h : DK w0 w g d n) : Calls Try.prog 34 #[.pointer (some ⟨g, 0, none⟩)] w fun e w' => e = .returned (.int .i64 (looseAll d.loose : Int)) ∧ DK w0 w' g d n := by
  have hh := h
  obtain ⟨⟨v, hv⟩, hb0, hk, hl, h3⟩ := h
  refine (loose_any hv hk).mono ?_
  rintro e w' ⟨rfl, hb⟩
  exact ⟨rfl, hh.below hb⟩
theorem dk_free (h : DK w0 w g d n) : Calls Try.prog 37 #[.pointer (some ⟨g, 0, none⟩)] w fun e w' => e = .returned (.int .i64 (d.free : Int)) ∧ DK w0 w' g d n := by
  have hh := h
  obtain ⟨⟨v, hv⟩, hb0, hk, hl, h3⟩ := h
  refine (free_any hv hk).mono ?_
  rintro e w' ⟨rfl, q, rfl⟩
  exact ⟨rfl, hh.drewN q⟩
theorem dk_read (h : DK w0 w g d n) (f : Int) : Calls Try.prog 33 #[.pointer (some ⟨g, 0, none⟩), .int .i64 f] w fun e w' => e = .returned (.string (readR d f)) ∧ w = w' := by
  obtain ⟨⟨v, hv⟩, hb0, hk, hl, h3⟩ := h
  by_cases hf : valid f
  · obtain ⟨m, rfl⟩ := Int.eq_ofNat_of_zero_le hf.1
    refine (read_yes hv m (by have := hf.2; omega)).mono ?_
    rintro e w' ⟨rfl, rfl⟩
    exact ⟨by rw [readR, if_pos hf]; rfl, rfl⟩
  · refine (read_no g f (by unfold valid at hf; omega) w).mono ?_
    rintro e w' ⟨rfl, rfl⟩
    exact ⟨by rw [readR, if_neg hf], rfl⟩
theorem dk_turn (h : DK w0 w g d n) : Calls Try.prog 38 #[.pointer (some ⟨g, 0, none⟩)] w fun e w' => e = .returned (.int .i64 (turnR d)) ∧ DK w0 w' g (turnD d) n := by
  have hh := h
  obtain ⟨⟨v, hv⟩, hb0, hk, hl, h3⟩ := h
  by_cases h0 : 0 < looseAll d.loose
  · refine (turn_no hv hk h0).mono ?_
    rintro e w' ⟨rfl, hb⟩
    exact ⟨by rw [turnR, if_pos h0], by rw [turnD, if_pos h0]; exact hh.below hb⟩
  · refine (turn_yes hv hk (by omega)).mono ?_
    rintro e w' ⟨rfl, hv', ho⟩
    refine ⟨by rw [turnR, if_neg h0], ?_⟩
    rw [turnD, if_neg h0]
    exact hh.only hv hv' (ho.mono (Nat.le_refl _) (fun k _ hk => by simp at hk; simp [hk])) (turn_okd hk (by omega)) hl
theorem dk_trim (h : DK w0 w g d n) (f m : Int) : Calls Try.prog 39 #[.pointer (some ⟨g, 0, none⟩), .int .i64 f, .int .i64 m] w fun e w' => e = .returned (.int .i64 (trimR d f m)) ∧ DK w0 w' g (trimD d f m) n := by
  have hh := h
  obtain ⟨⟨v, hv⟩, hb0, hk, hl, h3⟩ := h
  by_cases hf : valid f
  · obtain ⟨f, rfl⟩ := Int.eq_ofNat_of_zero_le hf.1
    have hf2 : f < 2 := by have := hf.2; omega
    by_cases hm : m < 0 ∨ ((d.file f).size : Int) < m
    · have hbad : trimBad d (f : Int) m := by unfold trimBad; rw [Int.toNat_natCast]; exact .inr hm
      refine (trim_arg hv hk f hf2 m hm).mono ?_
      rintro e w' ⟨rfl, rfl⟩
      exact ⟨by rw [trimR, if_pos hbad], by rw [trimD, if_pos (.inl hbad)]; exact hh⟩
    · have hbad : ¬ trimBad d (f : Int) m := by
        unfold trimBad; rw [Int.toNat_natCast]
        rintro (h | h)
        · exact h hf
        · exact hm h
      obtain ⟨m, rfl⟩ := Int.eq_ofNat_of_zero_le (show 0 ≤ m by omega)
      by_cases h0 : 0 < looseAll d.loose
      · refine (trim_state hv hk f hf2 m (by omega) h0).mono ?_
        rintro e w' ⟨rfl, hb⟩
        exact ⟨by rw [trimR, if_neg hbad, if_pos h0], by rw [trimD, if_pos (.inr h0)]; exact hh.below hb⟩
      · refine (trim_yes hv hk f hf2 m (by omega) (by omega)).mono ?_
        rintro e w' ⟨rfl, hv', ho⟩
        refine ⟨by rw [trimR, if_neg hbad, if_neg h0], ?_⟩
        rw [trimD, if_neg (fun c => c.elim hbad h0), Int.toNat_natCast, Int.toNat_natCast]
        exact hh.only hv hv' (ho.mono (Nat.le_refl _) (fun k _ hk => by simp at hk; simp [hk])) (trim_okd hk f m hf2 (by omega)) (by rw [trim_loose d f hf2]; exact hl)
  · have hbad : trimBad d f m := .inl hf
    refine (trim_arg0 g f (by unfold valid at hf; omega) m w).mono ?_
    rintro e w' ⟨rfl, rfl⟩
    exact ⟨by rw [trimR, if_pos hbad], by rw [trimD, if_pos (.inl hbad)]; exact hh⟩
theorem dk_new (m : Nat) (hm : m ≤ 16777216) (w : World) : Calls Try.prog 30 #[.int .i64 (m : Int)] w fun e w' => e = .returned (.tuple #[.pointer (some ⟨w.heap.size, 0, none⟩), .int .i64 0]) ∧ DK w w' w.heap.size (DS.empty m) 0 := by
  refine (new_yes m hm w).mono ?_
  rintro e w' ⟨rfl, hv, ho⟩
  exact ⟨rfl, ⟨_, hv⟩, ho.below (by simp), DS.empty_ok m hm, by simp [DS.empty], ho.size⟩
end
end Go.Proofs.Ytjmdiobnappgkaa
