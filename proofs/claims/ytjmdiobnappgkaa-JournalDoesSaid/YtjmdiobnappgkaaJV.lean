/-
  Layer 15 (journal): plain laws for JournalKeeps: what a journal's disk holds, cut off or not, and what a crash leaves of its records.
-/
import Derived.Test.YtjmdiobnappgkaaJQ
import Derived.Test.YtjmdiobnappgkaaJU
namespace Go.Proofs.Ytjmdiobnappgkaa
open Go.RowKit
set_option linter.unusedVariables false
set_option linter.unusedSimpArgs false

theorem fine_snoc2 {l : List ByteArray} {s : ByteArray} (h : fine l) (hs : ¬ (frameS s).size = 0) : fine (l ++ [s]) := fun x hx => by
  rw [List.mem_append] at hx
  rcases hx with hx | hx
  · exact h x hx
  · simp at hx; subst hx; exact hs
theorem openD_eq (d : DS) : openD d = ⟨d.f0.extract 0 (recsOf d.sync).2, ⟨#[]⟩, [], d.room⟩ := by
  have hle : (recsOf d.sync).2 ≤ d.f0.size := by
    have := readFrom_at (readR d.sync 0) [] 0 (Nat.zero_le _)
    rw [sync_read] at this
    rw [recsOf, sync_read]; exact this
  unfold openD
  generalize (recsOf d.sync).2 = a at *
  have e1 : trimD d.sync 0 (a : Int) = ⟨d.f0.extract 0 a, d.f1, [], d.room⟩ := by
    have h0 : ¬ (trimBad d.sync 0 (a : Int) ∨ 0 < looseAll d.sync.loose) := by
      have hz : looseAll d.sync.loose = 0 := rfl
      have hf : (d.sync.file (0 : Int).toNat) = d.f0 := rfl
      unfold trimBad valid
      rw [hf, hz]
      omega
    rw [trimD, if_neg h0, Int.toNat_natCast]; rfl
  rw [e1]
  have h0 : ¬ (trimBad (⟨d.f0.extract 0 a, d.f1, [], d.room⟩ : DS) 1 0 ∨ 0 < looseAll (⟨d.f0.extract 0 a, d.f1, [], d.room⟩ : DS).loose) := by
    have hz : looseAll (⟨d.f0.extract 0 a, d.f1, [], d.room⟩ : DS).loose = 0 := rfl
    unfold trimBad valid
    rw [hz]
    omega
  rw [trimD, if_neg h0]
  show DS.mk _ (d.f1.extract 0 0) [] d.room = _
  congr 1
  apply ba_list; rw [extract_list]; simp
/-- The records lie in file 0, those that are sure for sure. -/
structure KA (J : JS) (b : ByteArray) : Prop where
  f0 : J.d.f0 = framesS J.l
  fin_ : fine J.l
  le : J.sure ≤ J.l.length
  sure : Sure J.d (framesS (J.l.take J.sure)) b
  f1 : J.cut = false → J.d.f1 = ⟨#[]⟩
/-- .. or others lie there, laid instead. -/
def KI (J : JS) (M : List ByteArray) : Prop := (∃ b, KA J b) ∨ (J.cut = true ∧ J.d.f0 = framesS M ∧ fine M ∧ J.d.loose = [])
theorem sure_rest (f0 f1 : ByteArray) (room : Nat) : Sure (⟨f0, f1, [], room⟩ : DS) f0 f1 := by
  refine ⟨?_, ?_, ?_, ?_⟩ <;> simp [looseOf]
theorem KA.rest {l : List ByteArray} (h : fine l) (f1 : ByteArray) (room : Nat) (c : Bool) (hc : c = false → f1 = ⟨#[]⟩) : KA ⟨⟨framesS l, f1, [], room⟩, l, l.length, c⟩ f1 :=
  ⟨rfl, h, Nat.le_refl _, by show Sure _ (framesS (l.take l.length)) f1; rw [List.take_length]; exact sure_rest _ _ _, hc⟩
theorem KI.start (room : Nat) (M : List ByteArray) : KI (stJ room []) M := .inl ⟨_, KA.rest (l := []) (fun s hs => by simp at hs) ⟨#[]⟩ room false (fun _ => rfl)⟩
section
variable {J : JS} {M : List ByteArray} {s : ByteArray}
theorem looseR_zero (h : looseR J s = 0) : J.cut = false ∧ ¬ (frameS s).size = 0 ∧ (frameS s).size ≤ J.d.free ∧ putR J.d 0 (frameS s) = 0 := by
  by_cases hc : J.cut = true
  · rw [(looseR_cut hc).1] at h; exact absurd h (by decide)
  · by_cases hf : (frameS s).size = 0
    · rw [(looseR_no hc hf).1] at h; exact absurd h (by decide)
    · rw [looseR_put hc hf] at h
      refine ⟨by simpa using hc, hf, (putR_zero _ _ _ (by decide)).1 h, h⟩
theorem put0_files {d : DS} {t : ByteArray} (h : t.size ≤ d.free) : (putD d 0 t).f0 = d.f0 ++ t ∧ (putD d 0 t).f1 = d.f1 := by
  rw [putD, if_pos ⟨by decide, by omega⟩]; exact ⟨rfl, rfl⟩
theorem put1_files {d : DS} {t : ByteArray} (h : t.size ≤ d.free) : (putD d 1 t).f0 = d.f0 ∧ (putD d 1 t).f1 = d.f1 ++ t := by
  rw [putD, if_pos ⟨by decide, by omega⟩]; exact ⟨rfl, rfl⟩
theorem take_snoc_le {l : List ByteArray} {k : Nat} (h : k ≤ l.length) (s : ByteArray) : (l ++ [s]).take k = l.take k := by
  rw [List.take_append_of_le_length h]
theorem KI.ka (h : KI J M) (hc : J.cut = false) : ∃ b, KA J b := by
  rcases h with h | ⟨h, _⟩
  · exact h
  · rw [hc] at h; exact absurd h (by decide)
theorem KI.loose (h : KI J M) : KI (looseJ J s) M ∧ (looseR J s = 0 → (looseJ J s).l = J.l ++ [s] ∧ (looseJ J s).sure = J.sure ∧ (looseJ J s).cut = J.cut) ∧ (¬ looseR J s = 0 → looseJ J s = J) := by
  by_cases hr : looseR J s = 0
  · obtain ⟨hc, hf, hz, hp⟩ := looseR_zero hr
    obtain ⟨b, k⟩ := h.ka hc
    have e : looseJ J s = ⟨putD J.d 0 (frameS s), J.l ++ [s], J.sure, J.cut⟩ := by rw [looseJ, if_pos hr]
    obtain ⟨p0, p1⟩ := put0_files hz
    rw [e]
    refine ⟨.inl ⟨b, ⟨?_, fine_snoc2 k.fin_ hf, ?_, ?_, fun _ => ?_⟩⟩, fun _ => ⟨rfl, rfl, rfl⟩, fun h => absurd hr h⟩
    · show (putD J.d 0 (frameS s)).f0 = framesS (J.l ++ [s])
      rw [p0, framesS_snoc, k.f0]
    · show J.sure ≤ (J.l ++ [s]).length
      have := k.le
      rw [List.length_append]; omega
    · show Sure (putD J.d 0 (frameS s)) (framesS ((J.l ++ [s]).take J.sure)) b
      rw [take_snoc_le k.le]
      exact (k.sure.put 0 (.inl rfl) (frameS s) hz).1
    · show (putD J.d 0 (frameS s)).f1 = _
      rw [p1]; exact k.f1 hc
  · have e : looseJ J s = J := by rw [looseJ, if_neg hr]
    rw [e]
    exact ⟨h, fun h => absurd h hr, fun _ => rfl⟩
theorem KI.add (h : KI J M) : KI (addJ J s) M ∧ (looseR J s = 0 → (addJ J s).l = J.l ++ [s] ∧ (addJ J s).sure = J.l.length + 1 ∧ (addJ J s).cut = J.cut) ∧ (¬ looseR J s = 0 → addJ J s = J) := by
  by_cases hr : looseR J s = 0
  · obtain ⟨hc, hf, hz, hp⟩ := looseR_zero hr
    obtain ⟨b, k⟩ := h.ka hc
    have e : addJ J s = ⟨(putD J.d 0 (frameS s)).sync, J.l ++ [s], J.l.length + 1, J.cut⟩ := by rw [addJ, if_pos hr]
    obtain ⟨p0, p1⟩ := put0_files hz
    have e2 : (putD J.d 0 (frameS s)).sync = ⟨framesS (J.l ++ [s]), J.d.f1, [], (putD J.d 0 (frameS s)).room⟩ := by
      show DS.mk _ _ _ _ = DS.mk _ _ _ _
      rw [p0, p1, framesS_snoc, k.f0]
    rw [e]
    refine ⟨.inl ⟨J.d.f1, ?_⟩, fun _ => ⟨rfl, rfl, rfl⟩, fun h => absurd hr h⟩
    rw [e2]
    have := KA.rest (l := J.l ++ [s]) (fine_snoc2 k.fin_ hf) J.d.f1 (putD J.d 0 (frameS s)).room J.cut (fun h => k.f1 h)
    rw [List.length_append] at this
    exact this
  · have e : addJ J s = J := by rw [addJ, if_neg hr]
    rw [e]
    exact ⟨h, fun h => absurd h hr, fun _ => rfl⟩
theorem turn_sync (d : DS) : turnD d.sync = ⟨d.f1, d.f0, [], d.room⟩ := by
  have h0 : looseAll d.sync.loose = 0 := rfl
  rw [turnD, if_neg (by omega)]; rfl
theorem trim1_rest (f0 f1 : ByteArray) (room : Nat) : trimD (⟨f0, f1, [], room⟩ : DS) 1 0 = ⟨f0, ⟨#[]⟩, [], room⟩ := by
  have h0 : ¬ (trimBad (⟨f0, f1, [], room⟩ : DS) 1 0 ∨ 0 < looseAll (⟨f0, f1, [], room⟩ : DS).loose) := by
    have hz : looseAll (⟨f0, f1, [], room⟩ : DS).loose = 0 := rfl
    unfold trimBad valid
    rw [hz]
    omega
  rw [trimD, if_neg h0]
  show DS.mk f0 (f1.extract 0 0) [] room = _
  congr 1
  apply ba_list; rw [extract_list]; simp
theorem KI.renew {L : List ByteArray} {n : Int} (h : KI J M) :
    (renewR J L n = 0 ∧ J.cut = false ∧ (renewJ J L n).l = L ∧ (renewJ J L n).sure = L.length ∧ (renewJ J L n).cut = false ∧ KI (renewJ J L n) M) ∨
    (¬ renewR J L n = 0 ∧ renewJ J L n = J) ∨
    (¬ renewR J L n = 0 ∧ J.cut = false ∧ (renewJ J L n).cut = true ∧ (renewJ J L n).l = J.l ∧ (renewJ J L n).sure = J.sure ∧ KI (renewJ J L n) L) := by
  by_cases hA : J.cut = true ∨ J.sure < J.l.length
  · obtain ⟨r1, r2⟩ := rn_state (L := L) (n := n) hA
    exact .inr (.inl ⟨by rw [r1]; decide, r2⟩)
  · by_cases hB : ¬ fine L ∨ n < 0
    · obtain ⟨r1, r2⟩ := rn_arg (L := L) (n := n) hA hB
      exact .inr (.inl ⟨by rw [r1]; decide, r2⟩)
    · have hc : J.cut = false := by
        cases h1 : J.cut with
        | false => rfl
        | true => exact absurd (.inl h1) hA
      have hs : ¬ J.sure < J.l.length := fun h => hA (.inr h)
      have hF : fine L := by
        by_cases hF : fine L
        · exact hF
        · exact absurd (.inl hF) hB
      have hN : 0 ≤ n := by
        by_cases hN : n < 0
        · exact absurd (.inr hN) hB
        · omega
      obtain ⟨b, k⟩ := h.ka hc
      have hse : J.sure = J.l.length := by have := k.le; omega
      by_cases hp : 0 < n ∧ ¬ putR J.d 1 (framesS L) = 0
      · obtain ⟨r1, r2⟩ := rn_full hA hF hp.1 hp.2
        exact .inr (.inl ⟨by rw [r1]; exact hp.2, r2⟩)
      · have hp0 : 0 < n → putR J.d 1 (framesS L) = 0 := fun h0 => by
          by_cases h1 : putR J.d 1 (framesS L) = 0
          · exact h1
          · exact absurd ⟨h0, h1⟩ hp
        have hfiles : 0 < n → (putD J.d 1 (framesS L)).f0 = framesS J.l ∧ (putD J.d 1 (framesS L)).f1 = framesS L ∧ Sure (putD J.d 1 (framesS L)) (framesS (J.l.take J.sure)) b := fun h0 => by
          have hz := (putR_zero _ _ _ (by decide)).1 (hp0 h0)
          obtain ⟨p0, p1⟩ := put1_files hz
          refine ⟨by rw [p0]; exact k.f0, by rw [p1, k.f1 hc, nil_app], (k.sure.put 1 (.inr rfl) _ hz).1⟩
        by_cases h4 : n < 4
        · obtain ⟨r1, r2⟩ := rn_cut hA hF hN h4 hp0
          refine .inr (.inr ⟨by rw [r1]; decide, hc, by rw [r2], by rw [r2], by rw [r2], ?_⟩)
          rw [r2]
          have hcs : n = 0 ∨ n = 1 ∨ n = 2 ∨ n = 3 := by omega
          rcases hcs with rfl | rfl | rfl | rfl
          · exact .inl ⟨b, ⟨k.f0, k.fin_, k.le, k.sure, fun h => by cases h⟩⟩
          · obtain ⟨q0, q1, q2⟩ := hfiles (by decide)
            exact .inl ⟨b, ⟨q0, k.fin_, k.le, q2, fun h => by cases h⟩⟩
          · obtain ⟨q0, q1, q2⟩ := hfiles (by decide)
            have e2 : stD J.d (framesS L) (2 : Int).toNat = ⟨framesS J.l, framesS L, [], (putD J.d 1 (framesS L)).room⟩ := by
              show DS.mk _ _ _ _ = DS.mk _ _ _ _
              rw [q0, q1]
            rw [e2, hse]
            exact .inl ⟨_, KA.rest k.fin_ (framesS L) _ true (fun h => by cases h)⟩
          · obtain ⟨q0, q1, q2⟩ := hfiles (by decide)
            have e3 : stD J.d (framesS L) (3 : Int).toNat = ⟨framesS L, framesS J.l, [], (putD J.d 1 (framesS L)).room⟩ := by
              show turnD (putD J.d 1 (framesS L)).sync = _
              rw [turn_sync, q0, q1]
            rw [e3]
            exact .inr ⟨rfl, rfl, hF, rfl⟩
        · obtain ⟨r1, r2⟩ := rn_all (n := n) hA hF (by omega) (hp0 (by omega))
          obtain ⟨q0, q1, q2⟩ := hfiles (by omega)
          have e4 : stD J.d (framesS L) 4 = ⟨framesS L, ⟨#[]⟩, [], (putD J.d 1 (framesS L)).room⟩ := by
            show trimD (turnD (putD J.d 1 (framesS L)).sync) 1 0 = _
            rw [turn_sync, trim1_rest, q1]
          refine .inl ⟨r1, hc, by rw [r2], by rw [r2], by rw [r2]; exact hc, ?_⟩
          rw [r2, e4]
          exact .inl ⟨_, KA.rest hF ⟨#[]⟩ _ J.cut (fun _ => rfl)⟩
theorem ext0_le (s : ByteArray) (n : Nat) (h : s.size ≤ n) : s.extract 0 n = s := by
  apply ba_list; rw [extract_list, List.drop_zero, List.take_of_length_le (by rw [list_size]; omega)]
/-- What a crash leaves, wherever it strikes. -/
theorem KI.crash (h : KI J M) (hok : J.d.ok) (keep : Int) (M' : List ByteArray) :
    (openJ (crashD J.d keep)).cut = false ∧ (openJ (crashD J.d keep)).sure = (openJ (crashD J.d keep)).l.length ∧ KI (openJ (crashD J.d keep)) M' ∧
    ((∃ m, J.sure ≤ m ∧ m ≤ J.l.length ∧ (openJ (crashD J.d keep)).l = J.l.take m) ∨ (J.cut = true ∧ (openJ (crashD J.d keep)).l = M)) := by
  refine ⟨openJ_c _, openJ_s _, ?_⟩
  have key : ∀ l tail, fine l → (firstS tail).size = 0 → (crashD J.d keep).f0 = framesS l ++ tail → (openJ (crashD J.d keep)).l = l ∧ KI (openJ (crashD J.d keep)) M' := by
    intro l tail hf ht he
    have hl : (openJ (crashD J.d keep)).l = l := by rw [openJ_read, he, read_all hf ht]
    refine ⟨hl, .inl ⟨⟨#[]⟩, ?_⟩⟩
    have hd : (openJ (crashD J.d keep)).d = ⟨framesS l, ⟨#[]⟩, [], (crashD J.d keep).room⟩ := by
      have hrec : recsOf (crashD J.d keep).sync = (l, (framesS l).size) := by rw [recsOf, sync_read, he, read_all hf ht]
      rw [openJ_d, openD_eq, hrec, he, ext_app0]
    have e : openJ (crashD J.d keep) = ⟨⟨framesS l, ⟨#[]⟩, [], (crashD J.d keep).room⟩, l, l.length, false⟩ := by
      have h1 := openJ_s (crashD J.d keep); have h2 := openJ_c (crashD J.d keep)
      generalize openJ (crashD J.d keep) = X at *
      obtain ⟨a1, a2, a3, a4⟩ := X
      simp only at hl hd h1 h2
      subst hl hd h1 h2; rfl
    rw [e]
    exact KA.rest hf ⟨#[]⟩ _ false (fun _ => rfl)
  rcases h with ⟨b, k⟩ | ⟨hc, hf0, hfM, hlo⟩
  · obtain ⟨u, v, e1, e2, e3, e4, e5, e6, e7, e8, e9, e10, e11, e12⟩ := k.sure.crash hok keep
    rw [f0_read] at e1 e6 e8
    rw [k.f0] at e6 e8
    obtain ⟨m, hm, ⟨tail, ht, hft⟩, hmax⟩ := read_cut J.l u.size k.fin_
    rw [e8] at ht
    obtain ⟨q1, q2⟩ := key (J.l.take m) tail (fine_take k.fin_ m) hft (by rw [e1]; exact ht)
    exact ⟨q2, .inl ⟨m, hmax J.sure k.le e4, hm, q1⟩⟩
  · have hcr : (crashD J.d keep).f0 = framesS M := by
      have : crashD J.d keep = J.d := by
        unfold crashD
        rw [hlo]
        show J.d.sync = J.d
        rw [DS.sync, ← hlo]
      rw [this]; exact hf0
    obtain ⟨q1, q2⟩ := key M ⟨#[]⟩ hfM nil_first (by rw [hcr, app_nil])
    exact ⟨q2, .inr ⟨hc, q1⟩⟩
end
end Go.Proofs.Ytjmdiobnappgkaa
