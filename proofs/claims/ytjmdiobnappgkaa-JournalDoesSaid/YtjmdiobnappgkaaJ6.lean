/-
  Layer 15 (journal): the walks of Loose and Add.
-/
import Derived.Test.YtjmdiobnappgkaaJZ
namespace Go.Proofs.Ytjmdiobnappgkaa
open Go.RowKit
set_option linter.unusedVariables false
set_option linter.unusedSimpArgs false

/-- A journal's call: the journal behind it, its row, and what else stays. -/
def JPost (w0 w w' : World) (gj gd : Nat) (v : Value) (j' : JS) (n' : Nat) : Prop :=
  ∃ v', JK w0 w' gj gd v' j' n' ∧ Fresh w v v' ∧ Spare [117, 120, 129, 9] w w' ∧ RowsL v.ownBlock.toList w w'
theorem JPost.stay {w0 w w' : World} {gj gd : Nat} {v : Value} {j : JS} {n m : Nat} (h : JK w0 w gj gd v j n) (hb : Below w.heap.size w w') (hm : n ≤ m) : JPost w0 w w' gj gd v j m :=
  ⟨v, (h.below hb).mono hm, Fresh.refl _ _, Spare.ofBelow hb, RowsL.ofBelow hb _⟩
theorem JPost.trans {w0 w w' w'' : World} {gj gd : Nat} {v v' : Value} {j'' : JS} {n'' : Nat} (hf : Fresh w v v') (hz : w.heap.size ≤ w'.heap.size) (hs : Spare [117, 120, 129, 9] w w') (hr : RowsL v.ownBlock.toList w w') (k : JPost w0 w' w'' gj gd v' j'' n'') : JPost w0 w w'' gj gd v j'' n'' := by
  obtain ⟨v'', k1, k2, k3, k4⟩ := k
  exact ⟨v'', k1, hf.trans k2 hz, hs.trans k3, hr.trans k4 hf.mem⟩
section
variable {w0 w w' : World} {gj gd : Nat} {v : Value} {j : JS} {n : Nat}
theorem looseR_cut {s : ByteArray} (h : j.cut = true) : looseR j s = 7 ∧ looseJ j s = j := by
  have e : looseR j s = 7 := by rw [looseR, if_pos h]
  exact ⟨e, by rw [looseJ, e, if_neg (by decide)]⟩
theorem looseR_no {s : ByteArray} (h : ¬ j.cut = true) (hf : (frameS s).size = 0) : looseR j s = 1 ∧ looseJ j s = j := by
  have e : looseR j s = 1 := by rw [looseR, if_neg h, if_pos hf]
  exact ⟨e, by rw [looseJ, e, if_neg (by decide)]⟩
theorem looseR_put {s : ByteArray} (h : ¬ j.cut = true) (hf : ¬ (frameS s).size = 0) : looseR j s = putR j.d 0 (frameS s) := by rw [looseR, if_neg h, if_neg hf]
set_option maxRecDepth 100000 in
set_option maxHeartbeats 800000 in
theorem j_loose (h : JK w0 w gj gd v j n) (hn : n < 1000000) (hl : j.l.length < 20000000) (s : ByteArray) (hs : s.size ≤ 140737488351232) :
    Calls Try.prog 70 #[.pointer (some ⟨gj, 0, none⟩), .string s] w fun e w' => e = .returned (.int .i64 (looseR j s)) ∧ JPost w0 w w' gj gd v (looseJ j s) (n + 1) := by
  obtain ⟨i0, hi, hz0, hz1, hz2⟩ := info_parts winfo9
  have hfr := frame_any s hs
  have Hfr := Lib.hid hfr
  clear hfr hs
  by_cases hct : j.cut = true
  · obtain ⟨r1, r2⟩ := looseR_cut (s := s) hct
    rw [r1, r2]
    clear r1 r2
    obtain ⟨f, hF⟩ : ∃ f, frameS s = f := ⟨_, rfl⟩
    rw [hF] at Hfr
    have Hct := Lib.hid hct; clear hct hF
    go_enter Try.func70, Try.ntmps70
    go_wp2_with fail
    refine (Hfr.out _).mono ?_
    rintro e w1 ⟨rfl, hb1⟩
    have c3 := (h.below hb1).c3
    rw [Hct.out] at c3
    have Hst := Lib.hid (JPost.stay (m := n + 1) h hb1 (by omega))
    clear hb1 h
    go_wp2
    go_ret
    exact ⟨rfl, Hst.out⟩
  · have hct' : j.cut = false := by simpa using hct
    by_cases hf0 : (frameS s).size = 0
    · obtain ⟨r1, r2⟩ := looseR_no hct hf0
      rw [r1, r2]
      rw [ba_empty hf0] at Hfr
      have Hct := Lib.hid hct'; clear hct hct' hf0 r1 r2
      go_enter Try.func70, Try.ntmps70
      go_wp2_with fail
      refine (Hfr.out _).mono ?_
      rintro e w1 ⟨rfl, hb1⟩
      have c3 := (h.below hb1).c3
      rw [Hct.out] at c3
      have Hst := Lib.hid (JPost.stay (m := n + 1) h hb1 (by omega))
      clear hb1 h
      go_wp2
      go_ret
      exact ⟨rfl, Hst.out⟩
    · have hr := looseR_put hct hf0
      have hne := ne_toList hf0
      have hJ0 : putR j.d 0 (frameS s) = 0 → looseJ j s = ⟨putD j.d 0 (frameS s), j.l ++ [s], j.sure, j.cut⟩ := fun h => by rw [looseJ, hr, if_pos h]
      have hJ1 : ¬ putR j.d 0 (frameS s) = 0 → looseJ j s = j := fun h => by rw [looseJ, hr, if_neg h]
      rw [hr]
      obtain ⟨f, hF⟩ : ∃ f, frameS s = f := ⟨_, rfl⟩
      rw [hF] at hJ0 hJ1 hne Hfr ⊢
      have Hct := Lib.hid hct'
      clear hct hct' hf0 hr hF
      by_cases hr0 : putR j.d 0 f = 0
      · rw [hJ0 hr0, hr0]
        have Hr0 := Lib.hid hr0
        clear hJ0 hJ1 hr0
        go_enter Try.func70, Try.ntmps70
        go_wp2_with fail
        refine (Hfr.out _).mono ?_
        rintro e w1 ⟨rfl, hb1⟩
        have h1 := h.below hb1
        have Hz1 := Lib.hid hb1.size
        have S1 := Lib.hid (Spare.ofBelow (T := [117, 120, 129, 9]) hb1); have R1 := Lib.hid (RowsL.ofBelow hb1 v.ownBlock.toList)
        clear hb1 h
        have c3 := h1.c3
        rw [Hct.out] at c3
        have c0 := h1.c0
        go_wp2_with fail
        refine (dz_put h1.dk hn 0 f).mono ?_
        rintro e w2 ⟨rfl, hd2, s2, z2⟩
        have h2 := h1.disk hd2 s2
        have S2 := Lib.hid (S1.out.trans (s2.mono (by simp))); have R2 := Lib.hid (R1.out.trans (RowsL.ofSpare s2 (by decide) v.ownBlock.toList) (fun i hi => .inl hi))
        have Hz2 := Lib.hid (Nat.le_trans Hz1.out z2)
        clear h1 hd2 s2 S1 R1 c0 c3 z2
        rw [Hr0.out]
        have c1 := h2.c1
        have f1 := h2.fr 1
        have hown := h2.own
        unfold SOwn at hown
        have hbase := h2.sz
        go_wp2_with (at_builtin; refine wpList_append1 rfl _ _ 94 rfl w0.heap.size 9 i0 (.string ⟨#[]⟩) 16 Try.underlying94 hi hz0 hz1 hz2 rfl _ _ _ rfl (hown.alloc _) w2.heap.size rfl (.string s) (by simp [go_sem]) rfl (by unfold maxLen; omega) (by omega) (by simp; omega) ?_)
        intro v' w3 hown3 hg3 hv3
        obtain ⟨A', c', rfl, hl3⟩ := own_form hown3
        obtain ⟨k1, k2, k3, k4, k5, k6⟩ := h2.append _ hg3 hown3 (by simpa using hv3)
        have K1 := Lib.hid k1; have K2 := Lib.hid k2; have K3 := Lib.hid k3; have K4 := Lib.hid k4
        clear hown3 hg3 hv3 hl3 hown h2 k1 k2 k3 k4 c1 f1
        go_wp2
        go_ret
        exact ⟨rfl, _, K1.out, fun i hi => by
          rcases K2.out i hi with h | h
          · exact .inl h
          · exact .inr (Nat.le_trans Hz2.out h), S2.out.trans (K3.out.mono (by simp)), R2.out.trans K4.out (fun i hi => .inl hi)⟩
      · rw [hJ1 hr0]
        have Hp := Lib.hid (putD_same hr0)
        have hput := fun w n (h : DK w0 w gd j.d n) hn => dz_put h hn 0 f
        have Hput := Lib.hid hput; clear hput
        have hne0 : ((putR j.d 0 f : Int) == 0) = false := by rw [beq_eq_false_iff_ne]; exact hr0
        generalize putR j.d 0 f = pr at *
        clear hJ0 hJ1 hr0
        go_enter Try.func70, Try.ntmps70
        go_wp2_with fail
        refine (Hfr.out _).mono ?_
        rintro e w1 ⟨rfl, hb1⟩
        have h1 := h.below hb1
        have S1 := Lib.hid (Spare.ofBelow (T := [117, 120, 129, 9]) hb1); have R1 := Lib.hid (RowsL.ofBelow hb1 v.ownBlock.toList)
        clear hb1 h
        have c3 := h1.c3
        rw [Hct.out] at c3
        have c0 := h1.c0
        go_wp2_with fail
        refine (Hput.out _ _ h1.dk hn).mono ?_
        rintro e w2 ⟨rfl, hd2, s2, z2⟩
        rw [Hp.out] at hd2
        have H2 := Lib.hid (h1.disk hd2 s2)
        have S2 := Lib.hid (S1.out.trans (s2.mono (by simp))); have R2 := Lib.hid (R1.out.trans (RowsL.ofSpare s2 (by decide) v.ownBlock.toList) (fun i hi => .inl hi))
        clear h1 hd2 s2 S1 R1 c0 c3 z2
        go_wp2
        go_ret
        exact ⟨rfl, v, H2.out, Fresh.refl _ _, S2.out, R2.out⟩
theorem looseJ_cut (j : JS) (s : ByteArray) : (looseJ j s).cut = j.cut := by unfold looseJ; split <;> rfl
theorem looseJ_sure (j : JS) (s : ByteArray) : (looseJ j s).sure = j.sure := by unfold looseJ; split <;> rfl
set_option maxRecDepth 100000 in
set_option maxHeartbeats 800000 in
theorem j_add (h : JK w0 w gj gd v j n) (hn : n < 1000000) (hl : j.l.length < 20000000) (s : ByteArray) (hs : s.size ≤ 140737488351232) :
    Calls Try.prog 68 #[.pointer (some ⟨gj, 0, none⟩), .string s] w fun e w' => e = .returned (.int .i64 (looseR j s)) ∧ JPost w0 w w' gj gd v (addJ j s) (n + 1) := by
  have Hl := Lib.hid (j_loose h hn hl s hs)
  by_cases hr : looseR j s = 0
  · have hJ : looseJ j s = ⟨putD j.d 0 (frameS s), j.l ++ [s], j.sure, j.cut⟩ := by rw [looseJ, if_pos hr]
    have hA : addJ j s = ⟨(putD j.d 0 (frameS s)).sync, j.l ++ [s], j.l.length + 1, j.cut⟩ := by rw [addJ, if_pos hr]
    rw [hJ, hr] at Hl
    rw [hA, hr]
    have hlen : (j.l ++ [s]).length = j.l.length + 1 := by simp
    clear h hr hJ hA hs
    generalize putD j.d 0 (frameS s) = D at *
    generalize j.l ++ [s] = L at *
    have Hlen := Lib.hid hlen; clear hlen
    go_enter Try.func68, Try.ntmps68
    go_wp2_with fail
    refine Hl.out.mono ?_
    rintro e w1 ⟨rfl, v1, k1, k2, k3, k4⟩
    have c0 := k1.c0
    have K2 := Lib.hid k2; have K3 := Lib.hid k3; have K4 := Lib.hid k4
    clear k2 k3 k4
    go_wp2_with fail
    refine (dz_sync k1.dk).mono ?_
    rintro e w2 ⟨rfl, hd2, s2, z2⟩
    have h2 := k1.disk hd2 s2
    have S2 := Lib.hid (K3.out.trans (s2.mono (by simp))); have R2 := Lib.hid (K4.out.trans (RowsL.ofSpare s2 (by decide) v.ownBlock.toList) (fun i hi => .inl hi))
    clear k1 hd2 s2 z2 c0 K3 K4
    have c1 := h2.c1
    have c2 := h2.c2
    have f2 := h2.fr 2
    obtain ⟨A, cap, hv⟩ := h2.own.len
    have hlen2 := Hlen.out
    simp only at hv
    rw [hlen2] at hv
    subst hv
    obtain ⟨p1, p2, p3⟩ := h2.set 2 (.int .i64 ((j.l.length + 1 : Nat) : Int)) _ ⟨D.sync, L, j.l.length + 1, j.cut⟩ rfl rfl h2.own h2.far
    have P1 := Lib.hid (p1.mono (show 0 ≤ n + 1 by omega)); have P2 := Lib.hid (S2.out.trans (p2.mono (by simp))); have P3 := Lib.hid (R2.out.trans (p3 v.ownBlock.toList) (fun i hi => .inl hi))
    clear p1 p2 p3 h2 S2 R2 hlen2
    go_wp2
    go_ret
    exact ⟨rfl, _, P1.out, K2.out, P2.out, P3.out⟩
  · have hJ : looseJ j s = j := by rw [looseJ, if_neg hr]
    have hA : addJ j s = j := by rw [addJ, if_neg hr]
    rw [hJ] at Hl
    rw [hA]
    have hne0 : ((looseR j s : Int) == 0) = false := by rw [beq_eq_false_iff_ne]; exact hr
    clear h hr hJ hA hs
    generalize looseR j s = r at *
    go_enter Try.func68, Try.ntmps68
    go_wp2_with fail
    refine Hl.out.mono ?_
    rintro e w1 ⟨rfl, k1⟩
    have K1 := Lib.hid k1; clear k1
    go_wp2
    go_ret
    exact ⟨rfl, K1.out⟩
end
end Go.Proofs.Ytjmdiobnappgkaa
