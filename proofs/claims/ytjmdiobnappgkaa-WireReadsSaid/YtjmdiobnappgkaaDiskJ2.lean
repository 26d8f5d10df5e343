/-
  Layer 14 (disk): a disk of the program and one of the document in one memory: what each method leaves alone; the document's methods as functions of the program's model.
-/
import Derived.Test.YtjmdiobnappgkaaDiskJ
namespace Go.Proofs.Ytjmdiobnappgkaa
open Go.RowKit
set_option linter.unusedVariables false
set_option linter.unusedSimpArgs false

/-- Blocks of rows of other types than those of T stay as they are. -/
def Spare (T : List TypeId) (w w' : World) : Prop := ∀ (k : Nat) (cs : Array Value) (t : TypeId) (fr : Nat × Nat), w.heap[k]? = some (.cells cs t fr) → t ∉ T → w'.heap[k]? = some (.cells cs t fr)
section
variable {T : List TypeId} {w w' : World}
theorem Spare.refl (T : List TypeId) (w : World) : Spare T w w := fun _ _ _ _ h _ => h
theorem Spare.trans {w'' : World} (h : Spare T w w') (k : Spare T w' w'') : Spare T w w'' := fun i cs t fr hh ht => k i cs t fr (h i cs t fr hh ht) ht
theorem Spare.mono {T' : List TypeId} (h : Spare T w w') (hT : ∀ t ∈ T, t ∈ T') : Spare T' w w' := fun i cs t fr hh ht => h i cs t fr hh (fun hm => ht (hT t hm))
theorem Spare.ofBelow (hb : Below w.heap.size w w') : Spare T w w' := fun k cs t fr h _ => by rw [hb.block k (Array.getElem?_eq_some_iff.1 h).1]; exact h
theorem Spare.ofOnly {l : List Nat} (ho : Only w.heap.size l w w') (hl : ∀ k ∈ l, ∃ (cs : Array Value) (t : TypeId) (fr : Nat × Nat), w.heap[k]? = some (.cells cs t fr) ∧ t ∈ T) : Spare T w w' := fun k cs t fr h ht => by
  rw [ho.block k (Array.getElem?_eq_some_iff.1 h).1 (fun hm => ?_)]
  · exact h
  · obtain ⟨cs', t', fr', h', ht'⟩ := hl k hm
    rw [h] at h'; injection h' with h'; injection h' with _ e; subst e; exact ht ht'
theorem Spare.blk {g : Nat} {t : TypeId} {cs : Array Value} (h : Spare T w w') (hb : Blk w g t cs) (ht : t ∉ T) : Blk w' g t cs := h g cs t (0, 0) hb ht
theorem Spare.own {base : Nat} {e : TypeId} {size n : Nat} {v : Value} {xs : List Value} (h : Spare T w w') (ho : w.ownsRow base e size v n xs) (ht : e ∉ T) : w'.ownsRow base e size v n xs := by
  refine ⟨ho.1, ho.2.imp id ?_⟩
  rintro ⟨g, cap, cur, hv, hg, hh, r⟩
  exact ⟨g, cap, cur, hv, hg, h g cur e (0, 0) hh ht, r⟩
theorem own_typed {base : Nat} {e : TypeId} {size n : Nat} {v : Value} {xs : List Value} (ho : w.ownsRow base e size v n xs) {k : Nat} (hk : v.ownBlock = some k) : ∃ cs, w.heap[k]? = some (.cells cs e (0, 0)) := by
  rcases ho.2 with ⟨rfl, _⟩ | ⟨g, cap, cur, rfl, hg, hh, r⟩
  · simp [Value.ownBlock] at hk
  · simp [Value.ownBlock] at hk; subst hk; exact ⟨cur, hh⟩
end
section
variable {w0 w w' : World} {g gr : Nat} {d : DS} {r : RS} {n : Nat} {base : Nat} {v : Value}
theorem IsDisk.typed (h : IsDisk w base g v d) : ∀ k ∈ (g :: v.ownBlock.toList), ∃ (cs : Array Value) (t : TypeId) (fr : Nat × Nat), w.heap[k]? = some (.cells cs t fr) ∧ t ∈ [117, 120] := by
  intro k hk
  rcases List.mem_cons.1 hk with rfl | hk
  · exact ⟨_, _, _, h.blk, by simp⟩
  · simp only [Option.mem_toList] at hk
    obtain ⟨cs, hc⟩ := own_typed h.own hk
    exact ⟨cs, 120, _, hc, by simp⟩
theorem IsRef.typed (h : IsRef w base g v r) : ∀ k ∈ (g :: v.ownBlock.toList), ∃ (cs : Array Value) (t : TypeId) (fr : Nat × Nat), w.heap[k]? = some (.cells cs t fr) ∧ t ∈ [57, 123] := by
  intro k hk
  rcases List.mem_cons.1 hk with rfl | hk
  · exact ⟨_, _, _, h.blk, by simp⟩
  · simp only [Option.mem_toList] at hk
    obtain ⟨cs, hc⟩ := own_typed h.own hk
    exact ⟨cs, 123, _, hc, by simp⟩
theorem IsDisk.spare {T : List TypeId} (h : IsDisk w base g v d) (hs : Spare T w w') (h1 : 117 ∉ T) (h2 : 120 ∉ T) : IsDisk w' base g v d := ⟨hs.blk h.blk h1, h.hb, hs.own h.own h2⟩
theorem IsRef.spare {T : List TypeId} (h : IsRef w base g v r) (hs : Spare T w w') (h1 : 57 ∉ T) (h2 : 123 ∉ T) : IsRef w' base g v r := ⟨hs.blk h.blk h1, h.hb, hs.own h.own h2⟩

/-- In world w block gr is the document's disk r, made since w0. -/
def RK (w0 w : World) (gr : Nat) (r : RS) : Prop := (∃ v, IsRef w w0.heap.size gr v r) ∧ Below w0.heap.size w0 w ∧ w0.heap.size ≤ w.heap.size
theorem RK.below (h : RK w0 w gr r) (hb : Below w.heap.size w w') : RK w0 w' gr r := by
  obtain ⟨⟨v, hv⟩, hb0, h3⟩ := h
  exact ⟨⟨v, hv.below hb⟩, hb0.trans (hb.mono h3), Nat.le_trans h3 hb.size⟩
theorem RK.spare (h : RK w0 w gr r) (hb : Below w0.heap.size w0 w') (hs : Spare [117, 120] w w') : RK w0 w' gr r := by
  obtain ⟨⟨v, hv⟩, hb0, h3⟩ := h
  exact ⟨⟨v, hv.spare hs (by decide) (by decide)⟩, hb, hb.size⟩
theorem DK.spare (h : DK w0 w g d n) (hb : Below w0.heap.size w0 w') (hs : Spare [57, 123] w w') : DK w0 w' g d n := by
  obtain ⟨⟨v, hv⟩, hb0, h1, h2, h3⟩ := h
  exact ⟨⟨v, hv.spare hs (by decide) (by decide)⟩, hb, h1, h2, hb.size⟩
theorem RK.only {v v' : Value} {r' : RS} (h : RK w0 w gr r) (hv : IsRef w w0.heap.size gr v r) (hv' : IsRef w' w0.heap.size gr v' r') (ho : Only w.heap.size (gr :: v.ownBlock.toList) w w') : RK w0 w' gr r' := by
  obtain ⟨_, hb0, h3⟩ := h
  refine ⟨⟨v', hv'⟩, hb0.trans ?_, Nat.le_trans h3 ho.size⟩
  refine (ho.mono h3 (l' := (gr :: v.ownBlock.toList)) (fun k _ h => h)).below ?_
  intro k hk
  rcases List.mem_cons.1 hk with rfl | hk
  · exact hv.hb
  · simp only [Option.mem_toList] at hk
    exact (hv.own.lt k hk).1
theorem only_one {v : Value} {B : Nat} (h : Only B [g] w w') : Only B (g :: v.ownBlock.toList) w w' := h.mono (Nat.le_refl _) (fun k _ hk => by simp at hk; simp [hk])

/-! The program's methods, and what they leave alone. -/
theorem ds_put (h : DK w0 w g d n) (hn : n < 1000000) (f : Int) (s : ByteArray) : Calls Try.prog 31 #[.pointer (some ⟨g, 0, none⟩), .int .i64 f, .string s] w fun e w' => e = .returned (.int .i64 (putR d f s)) ∧ DK w0 w' g (putD d f s) (n + 1) ∧ Spare [117, 120] w w' := by
  have hh := h
  obtain ⟨⟨v, hv⟩, hb0, hk, hl, h3⟩ := h
  by_cases hf : valid f
  · by_cases hs : d.free < s.size
    · refine (put_full hv hk f hf.1 hf.2 s hs).mono ?_
      rintro e w' ⟨rfl, q, rfl⟩
      refine ⟨by rw [putR, if_pos hf, if_pos hs], ?_, Spare.refl _ _⟩
      rw [putD, if_neg (fun c => c.2 hs)]
      obtain ⟨a, b, c, e, f'⟩ := hh.drewN q
      exact ⟨a, b, c, by omega, f'⟩
    · obtain ⟨m, rfl⟩ := Int.eq_ofNat_of_zero_le hf.1
      have hm : m < 2 := by have := hf.2; omega
      refine (put_ok hv hk m hm s (by omega) (by omega)).mono ?_
      rintro e w' ⟨rfl, v', hv', hvv, ho⟩
      refine ⟨by rw [putR, if_pos hf, if_neg hs], ?_, Spare.ofOnly ho hv.typed⟩
      rw [putD, if_pos ⟨hf, hs⟩, Int.toNat_natCast]
      exact hh.only hv hv' ho (put_okd hk m hm s (by omega) (by omega)) (by rw [put_loose d m hm]; simp; omega)
  · have hf' : f < 0 ∨ 2 ≤ f := by unfold valid at hf; omega
    refine (put_arg g f hf' s w).mono ?_
    rintro e w' ⟨rfl, rfl⟩
    refine ⟨by rw [putR, if_neg hf], ?_, Spare.refl _ _⟩
    rw [putD, if_neg (fun c => hf c.1)]
    obtain ⟨a, b, c, e, f'⟩ := hh
    exact ⟨a, b, c, by omega, f'⟩
theorem ds_sync (h : DK w0 w g d n) : Calls Try.prog 32 #[.pointer (some ⟨g, 0, none⟩)] w fun e w' => e = .returned (.tuple #[]) ∧ DK w0 w' g d.sync 0 ∧ Spare [117, 120] w w' := by
  have hh := h
  obtain ⟨⟨v, hv⟩, hb0, hk, hl, h3⟩ := h
  refine (sync_any hv).mono ?_
  rintro e w' ⟨rfl, hv', ho⟩
  exact ⟨rfl, hh.only hv hv' (only_one ho) (sync_okd hk) (by simp [DS.sync]), Spare.ofOnly (only_one ho) hv.typed⟩
theorem ds_crash (h : DK w0 w g d n) (keep : Int) (h1 : -9223372036854775808 ≤ keep) (h2 : keep ≤ 9223372036854775807) : Calls Try.prog 35 #[.pointer (some ⟨g, 0, none⟩), .int .i64 keep] w fun e w' => e = .returned (.tuple #[]) ∧ DK w0 w' g (crashD d keep) 0 ∧ Spare [117, 120] w w' ∧ Only w.heap.size [g] w w' := by
  have hh := h
  obtain ⟨⟨v, hv⟩, hb0, hk, hl, h3⟩ := h
  refine (crash_any hv hk keep h1 h2).mono ?_
  rintro e w' ⟨rfl, hv', ho⟩
  exact ⟨rfl, hh.only hv hv' (only_one ho) (crash_okd hk keep) (by simp [crashD, DS.sync]), Spare.ofOnly (only_one ho) hv.typed, ho⟩
theorem ds_turn (h : DK w0 w g d n) : Calls Try.prog 38 #[.pointer (some ⟨g, 0, none⟩)] w fun e w' => e = .returned (.int .i64 (turnR d)) ∧ DK w0 w' g (turnD d) n ∧ Spare [117, 120] w w' := by
  have hh := h
  obtain ⟨⟨v, hv⟩, hb0, hk, hl, h3⟩ := h
  by_cases h0 : 0 < looseAll d.loose
  · refine (turn_no hv hk h0).mono ?_
    rintro e w' ⟨rfl, hb⟩
    exact ⟨by rw [turnR, if_pos h0], by rw [turnD, if_pos h0]; exact hh.below hb, Spare.ofBelow hb⟩
  · refine (turn_yes hv hk (by omega)).mono ?_
    rintro e w' ⟨rfl, hv', ho⟩
    refine ⟨by rw [turnR, if_neg h0], ?_, Spare.ofOnly (only_one ho) hv.typed⟩
    rw [turnD, if_neg h0]
    exact hh.only hv hv' (only_one ho) (turn_okd hk (by omega)) hl
theorem ds_trim (h : DK w0 w g d n) (f m : Int) : Calls Try.prog 39 #[.pointer (some ⟨g, 0, none⟩), .int .i64 f, .int .i64 m] w fun e w' => e = .returned (.int .i64 (trimR d f m)) ∧ DK w0 w' g (trimD d f m) n ∧ Spare [117, 120] w w' := by
  have hh := h
  obtain ⟨⟨v, hv⟩, hb0, hk, hl, h3⟩ := h
  by_cases hf : valid f
  · obtain ⟨f, rfl⟩ := Int.eq_ofNat_of_zero_le hf.1
    have hf2 : f < 2 := by have := hf.2; omega
    by_cases hm : m < 0 ∨ ((d.file f).size : Int) < m
    · have hbad : trimBad d (f : Int) m := by unfold trimBad; rw [Int.toNat_natCast]; exact .inr hm
      refine (trim_arg hv hk f hf2 m hm).mono ?_
      rintro e w' ⟨rfl, rfl⟩
      exact ⟨by rw [trimR, if_pos hbad], by rw [trimD, if_pos (.inl hbad)]; exact hh, Spare.refl _ _⟩
    · have hbad : ¬ trimBad d (f : Int) m := by
        unfold trimBad; rw [Int.toNat_natCast]
        rintro (h | h)
        · exact h hf
        · exact hm h
      obtain ⟨m, rfl⟩ := Int.eq_ofNat_of_zero_le (show 0 ≤ m by omega)
      by_cases h0 : 0 < looseAll d.loose
      · refine (trim_state hv hk f hf2 m (by omega) h0).mono ?_
        rintro e w' ⟨rfl, hb⟩
        exact ⟨by rw [trimR, if_neg hbad, if_pos h0], by rw [trimD, if_pos (.inr h0)]; exact hh.below hb, Spare.ofBelow hb⟩
      · refine (trim_yes hv hk f hf2 m (by omega) (by omega)).mono ?_
        rintro e w' ⟨rfl, hv', ho⟩
        refine ⟨by rw [trimR, if_neg hbad, if_neg h0], ?_, Spare.ofOnly (only_one ho) hv.typed⟩
        rw [trimD, if_neg (fun c => c.elim hbad h0), Int.toNat_natCast, Int.toNat_natCast]
        exact hh.only hv hv' (only_one ho) (trim_okd hk f m hf2 (by omega)) (by rw [trim_loose d f hf2]; exact hl)
  · have hbad : trimBad d f m := .inl hf
    refine (trim_arg0 g f (by unfold valid at hf; omega) m w).mono ?_
    rintro e w' ⟨rfl, rfl⟩
    exact ⟨by rw [trimR, if_pos hbad], by rw [trimD, if_pos (.inl hbad)]; exact hh, Spare.refl _ _⟩

/-! The document's methods. -/
theorem rk_put (h : RK w0 w gr r) (rel : Rel d r) (hk : d.ok) (f : Int) (s : ByteArray) : Calls Try.prog 86 #[.pointer (some ⟨gr, 0, none⟩), .int .i64 f, .string s] w fun e w' => e = .returned (.int .i64 (putR d f s)) ∧ (∃ r', RK w0 w' gr r' ∧ Rel (putD d f s) r') ∧ Spare [57, 123] w w' := by
  have hh := h
  obtain ⟨⟨v, hv⟩, hb0, h3⟩ := h
  have hro := rel.ok hk
  have hfr := rel.free hk
  by_cases hf : valid f
  · obtain ⟨m, rfl⟩ := Int.eq_ofNat_of_zero_le hf.1
    have hm : m < 2 := by have := hf.2; omega
    by_cases hs : d.free < s.size
    · refine (rput_full hv hro m hm s (by omega)).mono ?_
      rintro e w' ⟨rfl, q, rfl⟩
      refine ⟨by rw [putR, if_pos hf, if_pos hs], ⟨r, ⟨⟨v, hv.drewN q⟩, below_drewN' hb0 q, h3⟩, ?_⟩, Spare.refl _ _⟩
      rw [putD, if_neg (fun c => c.2 hs)]; exact rel
    · refine (rput_ok hv hro m hm s (by omega)).mono ?_
      rintro e w' ⟨rfl, v', hv', hvv, ho⟩
      refine ⟨by rw [putR, if_pos hf, if_neg hs], ⟨_, hh.only hv hv' ho, ?_⟩, Spare.ofOnly ho hv.typed⟩
      rw [putD, if_pos ⟨hf, hs⟩, Int.toNat_natCast]
      exact rel.put m hm s
  · have hf' : f < 0 ∨ 2 ≤ f := by unfold valid at hf; omega
    refine (rput_arg gr f hf' s w).mono ?_
    rintro e w' ⟨rfl, rfl⟩
    refine ⟨by rw [putR, if_neg hf], ⟨r, hh, ?_⟩, Spare.refl _ _⟩
    rw [putD, if_neg (fun c => hf c.1)]; exact rel
theorem rk_sync (h : RK w0 w gr r) (rel : Rel d r) (hk : d.ok) : Calls Try.prog 87 #[.pointer (some ⟨gr, 0, none⟩)] w fun e w' => e = .returned (.tuple #[]) ∧ (∃ r', RK w0 w' gr r' ∧ Rel d.sync r') ∧ Spare [57, 123] w w' := by
  have hh := h
  obtain ⟨⟨v, hv⟩, hb0, h3⟩ := h
  refine (rsync_any hv (rel.ok hk)).mono ?_
  rintro e w' ⟨rfl, v', hv', ho⟩
  exact ⟨rfl, ⟨_, hh.only hv hv' (only_one ho), rel.sync⟩, Spare.ofOnly (only_one ho) hv.typed⟩
theorem rk_crash (h : RK w0 w gr r) (rel : Rel d r) (hk : d.ok) (keep : Int) (h1 : -9223372036854775808 ≤ keep) (h2 : keep ≤ 9223372036854775807) : Calls Try.prog 74 #[.pointer (some ⟨gr, 0, none⟩), .int .i64 keep] w fun e w' => e = .returned (.tuple #[]) ∧ (∃ r', RK w0 w' gr r' ∧ Rel (crashD d keep) r') ∧ Spare [57, 123] w w' := by
  have hh := h
  obtain ⟨⟨v, hv⟩, hb0, h3⟩ := h
  refine (rcrash_any hv (rel.ok hk) keep h1 h2).mono ?_
  rintro e w' ⟨rfl, v', hv', ho⟩
  exact ⟨rfl, ⟨_, hh.only hv hv' (only_one ho), rel.crash hk keep⟩, Spare.ofOnly (only_one ho) hv.typed⟩
theorem rk_turn (h : RK w0 w gr r) (rel : Rel d r) (hk : d.ok) : Calls Try.prog 89 #[.pointer (some ⟨gr, 0, none⟩)] w fun e w' => e = .returned (.int .i64 (turnR d)) ∧ (∃ r', RK w0 w' gr r' ∧ Rel (turnD d) r') ∧ Spare [57, 123] w w' := by
  have hh := h
  obtain ⟨⟨v, hv⟩, hb0, h3⟩ := h
  have hl := rel.len
  by_cases h0 : 0 < looseAll d.loose
  · refine (rturn_no hv (rel.ok hk) (by omega)).mono ?_
    rintro e w' ⟨rfl, rfl⟩
    exact ⟨by rw [turnR, if_pos h0], ⟨r, hh, by rw [turnD, if_pos h0]; exact rel⟩, Spare.refl _ _⟩
  · refine (rturn_yes hv (by omega)).mono ?_
    rintro e w' ⟨rfl, hv', ho⟩
    exact ⟨by rw [turnR, if_neg h0], ⟨_, hh.only hv hv' (only_one ho), by rw [turnD, if_neg h0]; exact rel.turn (by omega)⟩, Spare.ofOnly (only_one ho) hv.typed⟩
theorem rk_trim (h : RK w0 w gr r) (rel : Rel d r) (hk : d.ok) (f m : Int) : Calls Try.prog 88 #[.pointer (some ⟨gr, 0, none⟩), .int .i64 f, .int .i64 m] w fun e w' => e = .returned (.int .i64 (trimR d f m)) ∧ (∃ r', RK w0 w' gr r' ∧ Rel (trimD d f m) r') ∧ Spare [57, 123] w w' := by
  have hh := h
  obtain ⟨⟨v, hv⟩, hb0, h3⟩ := h
  have hro := rel.ok hk
  have hl := rel.len
  by_cases hf : valid f
  · obtain ⟨f, rfl⟩ := Int.eq_ofNat_of_zero_le hf.1
    have hf2 : f < 2 := by have := hf.2; omega
    have hfile := rel.file f hf2
    by_cases hm : m < 0 ∨ ((d.file f).size : Int) < m
    · have hbad : trimBad d (f : Int) m := by unfold trimBad; rw [Int.toNat_natCast]; exact .inr hm
      refine (rtrim_arg hv hro f hf2 m (by rw [hfile]; exact hm)).mono ?_
      rintro e w' ⟨rfl, hb⟩
      exact ⟨by rw [trimR, if_pos hbad], ⟨r, hh.below hb, by rw [trimD, if_pos (.inl hbad)]; exact rel⟩, Spare.ofBelow hb⟩
    · have hbad : ¬ trimBad d (f : Int) m := by
        unfold trimBad; rw [Int.toNat_natCast]
        rintro (h | h)
        · exact h hf
        · exact hm h
      obtain ⟨m, rfl⟩ := Int.eq_ofNat_of_zero_le (show 0 ≤ m by omega)
      by_cases h0 : 0 < looseAll d.loose
      · refine (rtrim_state hv hro f hf2 m (by rw [hfile]; omega) (by omega)).mono ?_
        rintro e w' ⟨rfl, hb⟩
        exact ⟨by rw [trimR, if_neg hbad, if_pos h0], ⟨r, hh.below hb, by rw [trimD, if_pos (.inr h0)]; exact rel⟩, Spare.ofBelow hb⟩
      · refine (rtrim_yes hv hro f hf2 m (by rw [hfile]; omega) (by omega)).mono ?_
        rintro e w' ⟨rfl, hv', ho⟩
        refine ⟨by rw [trimR, if_neg hbad, if_neg h0], ⟨_, hh.only hv hv' (only_one ho), ?_⟩, Spare.ofOnly (only_one ho) hv.typed⟩
        rw [trimD, if_neg (fun c => c.elim hbad h0), Int.toNat_natCast, Int.toNat_natCast]
        exact rel.trim (by omega) f m hf2
  · have hbad : trimBad d f m := .inl hf
    refine (rtrim_arg0 gr f (by unfold valid at hf; omega) m w).mono ?_
    rintro e w' ⟨rfl, rfl⟩
    exact ⟨by rw [trimR, if_pos hbad], ⟨r, hh, by rw [trimD, if_pos (.inl hbad)]; exact rel⟩, Spare.refl _ _⟩
end
end Go.Proofs.Ytjmdiobnappgkaa
