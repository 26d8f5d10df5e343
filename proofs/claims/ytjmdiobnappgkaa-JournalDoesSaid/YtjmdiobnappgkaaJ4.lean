/-
  Layer 15 (journal): the walks of frames, and of the document's first and Read.
-/
import Derived.Test.YtjmdiobnappgkaaJ3
namespace Go.Proofs.Ytjmdiobnappgkaa
open Go.RowKit
set_option linter.unusedVariables false
set_option linter.unusedSimpArgs false

/-- The first k are fine. -/
def FineTo (L : List ByteArray) (k : Nat) : Prop := fine (L.take k) ∧ (framesS (L.take k)).size ≤ 4110 * k
theorem FineTo.zero (L : List ByteArray) : FineTo L 0 := ⟨fun s hs => by simp at hs, Nat.zero_le _⟩
theorem FineTo.succ {L : List ByteArray} {k : Nat} (h : FineTo L k) (hk : k < L.length) (hf : ¬ (frameS L[k]).size = 0) : FineTo L (k + 1) ∧ framesS (L.take (k + 1)) = framesS (L.take k) ++ frameS L[k] := by
  have e : framesS (L.take (k + 1)) = framesS (L.take k) ++ frameS L[k] := by rw [List.take_succ_eq_append_getElem hk, framesS_snoc]
  refine ⟨⟨?_, ?_⟩, e⟩
  · rw [List.take_succ_eq_append_getElem hk]
    intro s hs
    rw [List.mem_append] at hs
    rcases hs with hs | hs
    · exact h.1 s hs
    · simp at hs; subst hs; exact hf
  · rw [e, ByteArray.size_append]
    have h1 := h.2
    have h2 := (frameS_size L[k]).1
    omega
def allOf (L : List ByteArray) : ByteArray := if fine L then framesS L else ⟨#[]⟩
set_option maxRecDepth 100000 in
set_option maxHeartbeats 800000 in
theorem frames_any {w : World} {v : Value} {L : List ByteArray} (h : SRead w v L) (hl : L.length ≤ 1000) (hz : ∀ s ∈ L, s.size ≤ 100000) :
    Calls Try.prog 102 #[v] w fun e w' => e = .returned (.tuple #[.string (allOf L), .bool (decide (fine L))]) ∧ Below w.heap.size w w' := by
  obtain ⟨A, cap, rfl, hm, hc⟩ := h
  obtain ⟨R, hR⟩ : ∃ R, decide (fine L) = R := ⟨_, rfl⟩
  obtain ⟨T, hT⟩ : ∃ T, allOf L = T := ⟨_, rfl⟩
  rw [hR, hT]
  have HR := Lib.hid hR; have HT := Lib.hid hT; have Hc := Lib.hid hc; have Hz := Lib.hid hz
  clear hR hT hc hm hz
  go_enter Try.func102, Try.ntmps102
  go_wp2
  go_loopw [4, 10] (fun a i wr => ∃ k : Nat, k ≤ L.length ∧ i = .int .i64 k ∧ a = .string (framesS (L.take k)) ∧ FineTo L k ∧ Below w.heap.size w wr) (fun _ i _ => L.length - (intOf i).toNat)
  case atStart => exact ⟨0, Nat.zero_le _, rfl, rfl, FineTo.zero _, Below.refl _ _⟩
  case round =>
    obtain ⟨k, hk, rfl, rfl, hf, hb⟩ := hrel
    have Hf := Lib.hid hf; clear hf
    by_cases hlt : k < L.length
    · obtain ⟨b, o, rfl, hbl, hx⟩ := Hc.out k hlt
      have hx' := cell_belowB hb rfl hx
      have hk1 : (k : Int) < (L.length : Int) := by omega
      have hsz := Hz.out L[k] (List.getElem_mem hlt)
      have hsz2 := (frameS_size L[k]).1
      have hbound := Hf.out.2
      have hstep := fun hq => FineTo.succ Hf.out hlt hq
      have Hst := Lib.hid hstep
      have Hno : Hid ((frameS L[k]).size = 0 → R = false ∧ T = ⟨#[]⟩) := Lib.hid (fun hq => by
        have hn : ¬ fine L := fun hf => hf _ (List.getElem_mem hlt) hq
        exact ⟨by rw [← HR.out]; simpa using hn, by rw [← HT.out, allOf, if_neg hn]⟩)
      clear hx hstep
      generalize L[k] = x at *
      go_wp2_with fail
      refine (frame_any x (by omega) _).mono ?_
      rintro e w1 ⟨rfl, hb1⟩
      clear hx'
      by_cases he : (frameS x).size = 0
      · have e1 := ba_empty he
        have Hr := Lib.hid (Hno.out he)
        rw [e1]
        have Hb := Lib.hid (below_step hb1 rfl hb)
        clear hb hb1 Hno Hst he e1 hsz2
        go_wp2
        go_ret2
        exact ⟨by rw [Hr.out.1, Hr.out.2]; rfl, Hb.out⟩
      · have hne := ne_toList he
        have Hst2 := Lib.hid (Hst.out he)
        have Hb := Lib.hid (below_step hb1 rfl hb)
        have hs1 : (framesS (L.take k)).size + (frameS x).size ≤ 9223372036854775807 := by omega
        have hs2 : ((framesS (L.take k)).size : Int) + ((frameS x).size : Int) ≤ 9223372036854775807 := by omega
        clear hb hb1 Hno Hst he hsz2 hsz hbound
        generalize frameS x = f at *
        go_wp2
        go_roundw
        case rel => exact ⟨k + 1, by omega, by go_num, by rw [Hst2.out.2], Hst2.out.1, Hb.out⟩
        case measure => simp [intOf]; omega
    · obtain rfl : k = L.length := by omega
      have Hr : Hid (R = true ∧ T = framesS (L.take L.length)) := Lib.hid (by
        have hf : fine L := by have := Hf.out.1; rw [List.take_length] at this; exact this
        exact ⟨by rw [← HR.out]; simpa using hf, by rw [← HT.out, allOf, if_pos hf, List.take_length]⟩)
      go_wp2
      go_ret2
      exact ⟨by rw [Hr.out.1, Hr.out.2]; rfl, hb⟩
theorem extract_all (s : ByteArray) : s.extract 0 s.size = s := by
  apply ba_list; rw [extract_list, List.drop_zero, List.take_of_length_le (by rw [list_size]; omega)]
theorem vnew (w : World) (t : ByteArray) (ht : t.size ≤ 1000000) : RVK w (w.alloc (.cells #[.string t, .int .i64 0, .int .i64 0] 83)) w.heap.size ⟨t, 0, 0⟩ :=
  ⟨Blk.new _ _ _, Nat.le_refl _, alloc_below' w _, by simp, Nat.zero_le _, ht⟩
theorem vnew_blob (t : ByteArray) : (⟨t, 0, 0⟩ : RV).rd.blobS 4096 = blobOf t := by
  have : (⟨t, 0, 0⟩ : RV).rd = ⟨t, 0⟩ := by
    show RD.mk (t.extract 0 t.size) 0 = _
    rw [extract_all]
  rw [this]; rfl
theorem blobOf_size (t : ByteArray) : (blobOf t).size ≤ 4096 := by
  unfold blobOf RD.blobS
  split
  · rename_i h
    unfold RD.takeS
    split
    · rw [ByteArray.size_extract]; omega
    · decide
  · decide
set_option maxRecDepth 100000 in
set_option maxHeartbeats 800000 in
theorem rfirst_any (t : ByteArray) (ht : t.size ≤ 1000000) (w : World) : Calls Try.prog 105 #[.string t] w fun e w' => e = .returned (.string (firstS t)) ∧ Below w.heap.size w w' := by
  have hv := vnew w t ht
  have hvb := vnew_blob t
  have hbz := blobOf_size t
  obtain ⟨x, hx⟩ : ∃ x, blobOf t = x := ⟨_, rfl⟩
  obtain ⟨f, hf⟩ : ∃ f, frameS x = f := ⟨_, rfl⟩
  have hyes : ¬ f.size = 0 → f.size ≤ t.size → t.extract 0 f.size = f → firstS t = x := fun h1 h2 h3 => by
    rw [← hf, ← hx] at h1 h2 h3
    rw [← hx]; exact firstS_yes ⟨h1, h2, h3⟩
  have hno : (f.size = 0 ∨ ¬ f.size ≤ t.size ∨ t.extract 0 f.size ≠ f) → firstS t = ⟨#[]⟩ := fun h => firstS_no (fun ⟨h1, h2, h3⟩ => by
    rw [hx, hf] at h1 h2 h3
    rcases h with h | h | h
    · exact h1 h
    · exact h h2
    · exact h h3)
  rw [hx] at hvb hbz
  have hfr := frame_any
  have hframe := rframe_any x (by omega)
  rw [hf] at hframe
  obtain ⟨T, hT⟩ : ∃ T, firstS t = T := ⟨_, rfl⟩
  rw [hT] at hyes hno ⊢
  have Hyes := Lib.hid hyes; have Hno := Lib.hid hno; have Hvb := Lib.hid hvb; have Hframe := Lib.hid hframe
  clear hyes hno hvb hframe hbz hx hf hT hfr
  go_enter Try.func105, Try.ntmps105
  go_wp2_with fail
  have hcall := v_blobd hv 4096
  rw [Hvb.out] at hcall
  refine hcall.mono ?_
  rintro e w1 ⟨rfl, k1, m1⟩
  have hb1 := k1.2.2.1
  clear k1 m1 hv hcall
  go_wp2_with fail
  refine (Hframe.out _).mono ?_
  rintro e w2 ⟨rfl, hb2⟩
  have Hb := Lib.hid (bthen hb1 hb2)
  clear hb1 hb2
  by_cases h1 : f.size = 0
  · have Hr := Lib.hid (Hno.out (.inl h1))
    obtain rfl := ba_empty h1
    clear h1 Hyes Hno
    go_wp2
    go_ret
    exact ⟨by rw [Hr.out]; rfl, Hb.out⟩
  · have hne := ne_toList h1
    by_cases h2 : f.size ≤ t.size
    · have h2i : ¬ (t.size : Int) < (f.size : Int) := by omega
      have h2j : (f.size : Int) ≤ (t.size : Int) := by omega
      by_cases h3 : t.extract 0 f.size = f
      · have Hr := Lib.hid (Hyes.out h1 h2 h3)
        have h3b : ((t.extract 0 f.size).toList == f.toList) = true := by rw [h3]; exact beq_self_eq_true _
        clear h1 h3 Hyes Hno
        go_wp2
        go_ret
        exact ⟨by rw [Hr.out]; rfl, Hb.out⟩
      · have Hr := Lib.hid (Hno.out (.inr (.inr h3)))
        have h3b : ((t.extract 0 f.size).toList == f.toList) = false := by
          rw [ByteArray.toList_eq, ByteArray.toList_eq, beq_eq_false_iff_ne]
          intro hq; exact h3 (ba_list hq)
        clear h1 h3 Hyes Hno
        go_wp2
        go_ret
        exact ⟨by rw [Hr.out]; rfl, Hb.out⟩
    · have Hr := Lib.hid (Hno.out (.inr (.inl h2)))
      have h2i : (t.size : Int) < (f.size : Int) := by omega
      clear h1 h2 Hyes Hno
      go_wp2
      go_ret
      exact ⟨by rw [Hr.out]; rfl, Hb.out⟩
/-- Where reading stands. -/
def ReadAt (s : ByteArray) (L : List ByteArray) (a : Nat) : Prop := readFrom s L a = readFrom s [] 0 ∧ L.length ≤ a ∧ a ≤ s.size
theorem ReadAt.start (s : ByteArray) : ReadAt s [] 0 := ⟨rfl, Nat.le_refl _, Nat.zero_le _⟩
theorem ReadAt.step {s : ByteArray} {L : List ByteArray} {a : Nat} (h : ReadAt s L a) (hx : ¬ (firstS (s.extract a s.size)).size = 0) :
    ReadAt s (L ++ [firstS (s.extract a s.size)]) (a + (frameS (firstS (s.extract a s.size))).size) ∧ 0 < (frameS (firstS (s.extract a s.size))).size := by
  have h1 := first_room hx
  refine ⟨⟨by rw [← readFrom_step hx]; exact h.1, ?_, h1.2.1⟩, h1.1⟩
  rw [List.length_append]
  have := h.2.1
  simp; omega
theorem ReadAt.done {s : ByteArray} {L : List ByteArray} {a : Nat} (h : ReadAt s L a) (hx : (firstS (s.extract a s.size)).size = 0) : readFrom s [] 0 = (L, a) := by
  rw [← h.1]; exact readFrom_end hx
def ReadPost (s : ByteArray) (w : World) (e : Ending) (w' : World) : Prop :=
  ∃ v', e = .returned (.tuple #[v', .int .i64 ((readFrom s [] 0).2 : Int)]) ∧ SOwn w.heap.size w' v' (readFrom s [] 0).1 ∧ Below w.heap.size w w' ∧ (readFrom s [] 0).1.length ≤ s.size ∧ (readFrom s [] 0).2 ≤ s.size
theorem readPost_of {s : ByteArray} {L : List ByteArray} {a : Nat} {w w' : World} {v' : Value} (h : ReadAt s L a) (hx : (firstS (s.extract a s.size)).size = 0) (ho : SOwn w.heap.size w' v' L) (hb : Below w.heap.size w w') : ReadPost s w (.returned (.tuple #[v', .int .i64 (a : Int)])) w' := by
  have e := h.done hx
  refine ⟨v', by rw [e], by rw [e]; exact ho, hb, ?_, ?_⟩
  · rw [e]; exact Nat.le_trans h.2.1 h.2.2
  · rw [e]; exact h.2.2
set_option maxRecDepth 100000 in
set_option maxHeartbeats 800000 in
theorem rread_any (s : ByteArray) (hs : s.size ≤ 1000000) (w : World) : Calls Try.prog 80 #[.string s] w (ReadPost s w) := by
  obtain ⟨i0, hi, hz0, hz1, hz2⟩ := info_parts winfo9
  have hn := SOwn.new (Nat.le_refl w.heap.size)
  have hfirst := rfirst_any s hs
  have Hfirst := Lib.hid hfirst; have HS := ReadAt.start s
  have hsi : (s.size : Int) ≤ 1000000 := by omega
  clear hfirst
  go_enter Try.func80, Try.ntmps80
  go_wp2_with fail
  refine (Hfirst.out _).mono ?_
  rintro e w1 ⟨rfl, hb1⟩
  have hn1 : SOwn w.heap.size w1 (.slice (some ⟨w.heap.size, 0, none⟩) 0 0) [] := own_belowB hb1 rfl hn
  have hb2 := bthen (alloc_below' w (.cells #[] 9)) hb1
  clear hn hb1 Hfirst
  go_wp2
  go_loopw [4, 5, 6] (fun ov av xv wr => ∃ (L : List ByteArray) (a : Nat), av = .int .i64 (a : Int) ∧ xv = .string (firstS (s.extract a s.size)) ∧ SOwn w.heap.size wr ov L ∧ ReadAt s L a ∧ Below w.heap.size w wr) (fun _ av _ _ => s.size - (intOf av).toNat)
  case atStart => exact ⟨[], 0, rfl, by rw [extract_all], hn1, HS, hb2⟩
  case round =>
    clear hn1 HS hb2
    obtain ⟨L, a, rfl, rfl, hown, hat, hb⟩ := hrel
    have hz := hb.size
    have hle1 := hat.2.1
    have hle2 := hat.2.2
    by_cases hx : (firstS (s.extract a s.size)).size = 0
    · have hx0 := ba_empty hx
      have H := Lib.hid (readPost_of hat hx hown hb)
      rw [hx0]
      clear hx hx0 hown hat hb
      go_wp2
      go_ret2
      exact H.out
    · have hst := ReadAt.step hat hx
      have hne := ne_toList hx
      obtain ⟨x, hX⟩ : ∃ x, firstS (s.extract a s.size) = x := ⟨_, rfl⟩
      have hxs : x.size ≤ 4096 := by
        rw [← hX]
        by_cases hstd : stands (s.extract a s.size)
        · rw [firstS_yes hstd]; exact blobOf_size _
        · rw [firstS_no hstd]; decide
      rw [hX] at hne hst ⊢
      have Hst := Lib.hid hst
      have Hx := Lib.hid hxs
      clear hx hX hst hat hxs
      have hown' := hown
      unfold SOwn at hown'
      clear hown
      go_wp2_with (at_builtin; refine wpList_append1 rfl _ _ 94 rfl w.heap.size 9 i0 (.string ⟨#[]⟩) 16 Try.underlying94 hi hz0 hz1 hz2 rfl _ _ _ rfl (hown'.alloc _) wr.heap.size rfl (.string x) (by simp [go_sem]) rfl (by unfold maxLen; omega) (by omega) (by simp; omega) ?_)
      intro v' w3 hown3 hg3 hv3
      have hb3 : Below w.heap.size w w3 := (hb.alloc hz _).grown hg3 (by simp; omega) (fun k hk => (hown'.lt k hk).1)
      have ho3 : SOwn w.heap.size w3 v' (L ++ [x]) := by
        show World.ownsRow _ _ _ _ _ (L ++ [x]).length (svals (L ++ [x]))
        rw [svals_append, List.length_append]; exact hown3
      have H3 := Lib.hid ho3
      clear hown3 hg3 hv3 hb hown' ho3
      go_wp2_with fail
      refine (rframe_any x (by have := Hx.out; omega) _).mono ?_
      rintro e w4 ⟨rfl, hb4⟩
      have ho4 := Lib.hid (show SOwn w.heap.size w4 v' (L ++ [x]) from own_belowB hb4 rfl H3.out)
      have hb5 := below_step hb4 rfl hb3
      obtain ⟨f, hF⟩ : ∃ f, frameS x = f := ⟨_, rfl⟩
      rw [hF] at Hst ⊢
      have q1 := Hst.out.1.2.2
      have q2 := Hst.out.2
      have t1 : (a : Int) + (f.size : Int) ≤ (s.size : Int) := by omega
      have t2 : ((a : Int) + (f.size : Int)).toNat = a + f.size := by omega
      have t3 : (0 : Int) ≤ (a : Int) + (f.size : Int) := by omega
      clear hb3 hb4 H3 hF
      go_wp2_with fail
      refine (rfirst_any (s.extract (a + f.size) s.size) (by rw [ByteArray.size_extract]; omega) _).mono ?_
      rintro e w6 ⟨rfl, hb6⟩
      have ho6 := Lib.hid (show SOwn w.heap.size w6 v' (L ++ [x]) from own_belowB hb6 rfl ho4.out)
      have Hb7 := Lib.hid (below_step hb6 rfl hb5)
      clear hb5 hb6 ho4
      go_wp2
      go_roundw
      case rel => exact ⟨L ++ [x], a + f.size, by go_num, rfl, ho6.out, Hst.out.1, Hb7.out⟩
      case measure => simp [intOf]; omega
end Go.Proofs.Ytjmdiobnappgkaa
