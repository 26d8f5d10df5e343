/-
  Layer 15 (journal): plain laws: a journal's file is read as its records, wherever it is cut.
-/
import Derived.Test.YtjmdiobnappgkaaJF
namespace Go.Proofs.Ytjmdiobnappgkaa
set_option linter.unusedVariables false
set_option linter.unusedSimpArgs false

theorem app_list (a b : ByteArray) : (a ++ b).data.toList = a.data.toList ++ b.data.toList := by rw [ByteArray.data_append]; simp
theorem app_nil (a : ByteArray) : a ++ (⟨#[]⟩ : ByteArray) = a := by apply ba_list; rw [app_list]; simp
theorem nil_app (a : ByteArray) : (⟨#[]⟩ : ByteArray) ++ a = a := by apply ba_list; rw [app_list]; simp
theorem ext_app (a b : ByteArray) : (a ++ b).extract a.size (a ++ b).size = b := by
  apply ba_list
  rw [extract_list, app_list, ByteArray.size_append, ← list_size, List.drop_left, List.take_of_length_le (by rw [list_size]; omega)]
theorem ext_app0 (a b : ByteArray) : (a ++ b).extract 0 a.size = a := by
  apply ba_list
  rw [extract_list, app_list, List.drop_zero, Nat.sub_zero, ← list_size, List.take_left]
theorem frame_fine {s : ByteArray} (h : ¬ (frameS s).size = 0) : 0 < s.size ∧ s.size ≤ 4096 ∧ frameS s = blobStr s ++ crcStr s := by
  have h1 : ¬ (s.size = 0 ∨ 4096 < s.size) := fun h2 => h ((frameS_size s).2.1.2 h2)
  exact ⟨by omega, by omega, frameS_yes (by omega) (by omega)⟩
theorem blob_at {t s : ByteArray} {rest : List UInt8} (hsz : s.size ≤ 4096) (ht : t.data.toList = (blobStr s).data.toList ++ rest) : blobOf t = s := by
  rw [blobStr_list, List.append_assoc] at ht
  obtain ⟨h1, h2⟩ := num_ok (y := ⟨t, 0⟩) (by omega) rfl ht
  have h3 := take_ok (y := ⟨⟨(s.data.toList ++ rest).toArray⟩, 0⟩) (l := s.data.toList) (rest := rest) rfl (by simp)
  rw [list_size] at h3
  unfold blobOf
  rw [RD.blobS, h1, h2, if_pos ⟨rfl, hsz, by omega⟩, h3.1]
theorem blob_err {t : ByteArray} (h : ¬ ((⟨t, 0⟩ : RD).numX).e = 0) : blobOf t = ⟨#[]⟩ := by
  unfold blobOf; rw [RD.blobS, if_neg (fun c => h c.1)]
theorem blob_few {t s : ByteArray} {j : Nat} (hsz : s.size ≤ 4096) (hj : j < s.size) (ht : t.data.toList = numL s.size ++ s.data.toList.take j) : blobOf t = ⟨#[]⟩ := by
  obtain ⟨h1, h2⟩ := num_ok (y := ⟨t, 0⟩) (by omega) rfl ht
  unfold blobOf
  rw [RD.blobS, h1, h2, if_pos ⟨rfl, hsz, by omega⟩, RD.takeS, if_neg]
  rintro ⟨_, _, h⟩
  have e : (⟨(s.data.toList.take j).toArray⟩ : ByteArray).size = j := by rw [← list_size]; simp; omega
  have h' : (s.size : Int) ≤ ((⟨(s.data.toList.take j).toArray⟩ : ByteArray).size : Int) := h
  omega
theorem stands_no_empty {t : ByteArray} (h : blobOf t = ⟨#[]⟩) : (firstS t).size = 0 := by
  rw [firstS_zero]
  rintro ⟨h1, _⟩
  rw [h] at h1
  exact h1 ((frameS_size _).2.1.2 (.inl rfl))
theorem firstS_frame {s : ByteArray} (rest : ByteArray) (h : ¬ (frameS s).size = 0) : firstS (frameS s ++ rest) = s := by
  obtain ⟨h0, h1, h2⟩ := frame_fine h
  have hb : blobOf (frameS s ++ rest) = s := blob_at (rest := (crcStr s).data.toList ++ rest.data.toList) h1 (by rw [h2, app_list, app_list, List.append_assoc])
  refine first_is hb rfl h (by rw [ByteArray.size_append]; omega) (ext_app0 _ _)
theorem firstS_cut {s : ByteArray} {k : Nat} (h : ¬ (frameS s).size = 0) (hk : k < (frameS s).size) : (firstS ((frameS s).extract 0 k)).size = 0 := by
  obtain ⟨h0, h1, h2⟩ := frame_fine h
  have hl : ((frameS s).extract 0 k).data.toList = ((blobStr s).data.toList ++ (crcStr s).data.toList).take k := by
    rw [extract_list, h2, app_list, List.drop_zero, Nat.sub_zero]
  have hz : ((frameS s).extract 0 k).size = k := by rw [ByteArray.size_extract]; omega
  have hbl : (blobStr s).data.toList = numL s.size ++ s.data.toList := blobStr_list s
  by_cases c1 : k < (numL s.size).length
  · refine stands_no_empty (blob_err ?_)
    have e : ((frameS s).extract 0 k).data.toList = (numL s.size).take k := by
      rw [hl, hbl, List.append_assoc, List.take_append_of_le_length (by omega)]
    rw [num_short (y := ⟨(frameS s).extract 0 k, 0⟩) (n := s.size) (j := k) (by omega) rfl c1 e]; decide
  · by_cases c2 : k < (numL s.size).length + s.size
    · refine stands_no_empty (blob_few (s := s) (j := k - (numL s.size).length) h1 (by omega) ?_)
      rw [hl, hbl, List.append_assoc, List.take_append, List.take_of_length_le (by omega), List.take_append_of_le_length (by rw [list_size]; omega)]
    · have hb : blobOf ((frameS s).extract 0 k) = s := by
        refine blob_at (rest := (crcStr s).data.toList.take (k - (blobStr s).data.toList.length)) h1 ?_
        rw [hl, List.take_append, List.take_of_length_le (by rw [hbl, List.length_append, list_size]; omega)]
      refine first_not hb rfl (fun c => ?_)
      have := c.2.1
      rw [hz] at this; omega
theorem fine_tail {s : ByteArray} {l : List ByteArray} (h : fine (s :: l)) : ¬ (frameS s).size = 0 ∧ fine l := ⟨h s (by simp), fun x hx => h x (by simp [hx])⟩
theorem read_go : ∀ (l pre : List ByteArray) (tail : ByteArray), fine l → readFrom (framesS pre ++ framesS l ++ tail) pre (framesS pre).size = readFrom (framesS pre ++ framesS l ++ tail) (pre ++ l) (framesS (pre ++ l)).size
  | [], pre, tail, _ => by rw [List.append_nil]
  | s :: l, pre, tail, h => by
    obtain ⟨h1, h2⟩ := fine_tail h
    have hx : (framesS pre ++ framesS (s :: l) ++ tail).extract (framesS pre).size (framesS pre ++ framesS (s :: l) ++ tail).size = frameS s ++ (framesS l ++ tail) := by
      have e : framesS pre ++ framesS (s :: l) ++ tail = framesS pre ++ (frameS s ++ (framesS l ++ tail)) := by
        rw [framesS, ByteArray.append_assoc, ByteArray.append_assoc]
      rw [e, ext_app]
    have hf := firstS_frame (framesS l ++ tail) h1
    rw [rdf_step hx hf rfl (by have := (frame_fine h1).1; omega)]
    have e1 : (framesS pre).size + (frameS s).size = (framesS (pre ++ [s])).size := by rw [framesS_snoc, ByteArray.size_append]
    have e2 : framesS pre ++ framesS (s :: l) ++ tail = framesS (pre ++ [s]) ++ framesS l ++ tail := by
      rw [framesS_snoc, framesS, ByteArray.append_assoc, ByteArray.append_assoc, ByteArray.append_assoc, ByteArray.append_assoc]
    rw [e1, e2, read_go l (pre ++ [s]) tail h2, List.append_assoc]; rfl
theorem read_all {l : List ByteArray} {tail : ByteArray} (hf : fine l) (ht : (firstS tail).size = 0) : readFrom (framesS l ++ tail) [] 0 = (l, (framesS l).size) := by
  have h := read_go l [] tail hf
  have e : framesS [] ++ framesS l ++ tail = framesS l ++ tail := by rw [framesS, nil_app]
  rw [e] at h
  rw [List.nil_append] at h
  exact h.trans (rdf_end (ext_app _ _) ht)
theorem nil_first : (firstS ⟨#[]⟩).size = 0 := stands_no_empty (blob_err (by decide))
theorem read_full {l : List ByteArray} (hf : fine l) : readFrom (framesS l) [] 0 = (l, (framesS l).size) := by
  have := read_all hf nil_first
  rw [app_nil] at this; exact this
/-- Cut anywhere, the whole frames are read. -/
theorem read_cut : ∀ (l : List ByteArray) (c : Nat), fine l → ∃ m, m ≤ l.length ∧ (∃ tail, (framesS l).extract 0 c = framesS (l.take m) ++ tail ∧ (firstS tail).size = 0) ∧ ∀ m', m' ≤ l.length → (framesS (l.take m')).size ≤ c → m' ≤ m
  | [], c, _ => ⟨0, Nat.le_refl _, ⟨⟨#[]⟩, by
      apply ba_list; rw [extract_list, app_list]; simp [framesS], nil_first⟩, fun m' h _ => h⟩
  | s :: l, c, h => by
    obtain ⟨h1, h2⟩ := fine_tail h
    rcases Nat.lt_or_ge c (frameS s).size with hc | hc
    · refine ⟨0, Nat.zero_le _, ⟨(frameS s).extract 0 c, ?_, firstS_cut h1 hc⟩, fun m' hm hz => ?_⟩
      · apply ba_list
        rw [extract_list, app_list, extract_list, framesS, app_list, List.take_zero]
        simp only [List.drop_zero, Nat.sub_zero, framesS]
        rw [List.take_append_of_le_length (by rw [list_size]; omega)]; simp
      · cases m' with
        | zero => exact Nat.le_refl _
        | succ m' =>
          rw [List.take_succ_cons, framesS, ByteArray.size_append] at hz; omega
    · obtain ⟨m, hm, ⟨tail, ht, hft⟩, hmax⟩ := read_cut l (c - (frameS s).size) h2
      refine ⟨m + 1, by simp; omega, ⟨tail, ?_, hft⟩, fun m' hm' hz => ?_⟩
      · rw [List.take_succ_cons, framesS, framesS, ByteArray.append_assoc, ← ht]
        apply ba_list
        rw [extract_list, app_list, app_list, extract_list]
        simp only [List.drop_zero, Nat.sub_zero]
        rw [List.take_append, List.take_of_length_le (by rw [list_size]; omega), list_size]
      · cases m' with
        | zero => exact Nat.zero_le _
        | succ m' =>
          rw [List.take_succ_cons, framesS, ByteArray.size_append] at hz
          have := hmax m' (by simpa using hm') (by omega)
          omega
theorem fine_take {l : List ByteArray} (h : fine l) (m : Nat) : fine (l.take m) := fun s hs => h s (List.mem_of_mem_take hs)

/-- A journal at rest: all of its records are sure. -/
def stJ (room : Nat) (l : List ByteArray) : JS := ⟨⟨framesS l, ⟨#[]⟩, [], room⟩, l, l.length, false⟩
theorem open_empty (r : Nat) : openJ (DS.empty r) = stJ r [] := by
  have hr : readFrom (⟨#[]⟩ : ByteArray) [] 0 = ([], 0) := rdf_end (t := ⟨#[]⟩) (by decide) nil_first
  have hd : (DS.empty r).sync = DS.empty r := rfl
  have hrec : recsOf (DS.empty r).sync = ([], 0) := by rw [recsOf, sync_read]; exact hr
  have e : openD (DS.empty r) = ⟨⟨#[]⟩, ⟨#[]⟩, [], r⟩ := by
    rw [openD, hrec, hd]
    have h1 : trimD (DS.empty r) 0 ((0 : Nat) : Int) = DS.empty r := by
      have h0 : ¬ (trimBad (DS.empty r) 0 ((0 : Nat) : Int) ∨ 0 < looseAll (DS.empty r).loose) := by
        have hz : looseAll (DS.empty r).loose = 0 := rfl
        unfold trimBad valid; rw [hz]; omega
      rw [trimD, if_neg h0]; rfl
    rw [h1]
    have h0 : ¬ (trimBad (DS.empty r) 1 0 ∨ 0 < looseAll (DS.empty r).loose) := by
      have hz : looseAll (DS.empty r).loose = 0 := rfl
      unfold trimBad valid; rw [hz]; omega
    rw [trimD, if_neg h0]; rfl
  rw [openJ, hrec, e]; rfl
theorem st_free (room : Nat) (l : List ByteArray) : (stJ room l).d.free = room - (framesS l).size := by
  show room - (framesS l).size - (⟨#[]⟩ : ByteArray).size = _
  rw [empty_size]; omega
theorem st_cut (room : Nat) (l : List ByteArray) : ¬ (stJ room l).cut = true := Bool.false_ne_true
theorem st_no {room : Nat} {l : List ByteArray} {s : ByteArray} (h : (frameS s).size = 0) : looseR (stJ room l) s = 1 ∧ addJ (stJ room l) s = stJ room l := by
  have e := (looseR_no (j := stJ room l) (s := s) (st_cut _ _) h).1
  exact ⟨e, by rw [addJ, e, if_neg (by decide)]⟩
theorem st_full {room : Nat} {l : List ByteArray} {s : ByteArray} (h : ¬ (frameS s).size = 0) (hz : room - (framesS l).size < (frameS s).size) : looseR (stJ room l) s = 8 ∧ addJ (stJ room l) s = stJ room l := by
  have e : looseR (stJ room l) s = 8 := by
    rw [looseR_put (st_cut _ _) h, putR, if_pos (by decide), if_pos (by rw [st_free]; exact hz)]
  exact ⟨e, by rw [addJ, e, if_neg (by decide)]⟩
theorem st_putD {room : Nat} {l : List ByteArray} {s : ByteArray} (hz : (frameS s).size ≤ room - (framesS l).size) : putD (stJ room l).d 0 (frameS s) = ⟨framesS (l ++ [s]), ⟨#[]⟩, [(0, (frameS s).size)], room⟩ := by
  rw [putD, if_pos ⟨by decide, by rw [st_free]; omega⟩, framesS_snoc]; rfl
theorem st_put {room : Nat} {l : List ByteArray} {s : ByteArray} (h : ¬ (frameS s).size = 0) (hz : (frameS s).size ≤ room - (framesS l).size) : looseR (stJ room l) s = 0 ∧ addJ (stJ room l) s = stJ room (l ++ [s]) := by
  have e : looseR (stJ room l) s = 0 := by
    rw [looseR_put (st_cut _ _) h, putR, if_pos (by decide), if_neg (by rw [st_free]; omega)]
  refine ⟨e, ?_⟩
  rw [addJ, if_pos e, st_putD hz]
  show JS.mk _ (l ++ [s]) (l.length + 1) false = JS.mk _ (l ++ [s]) (l ++ [s]).length false
  rw [List.length_append]; rfl
end Go.Proofs.Ytjmdiobnappgkaa
