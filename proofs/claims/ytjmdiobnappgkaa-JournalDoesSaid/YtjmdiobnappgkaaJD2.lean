/-
  Layer 15 (journal): the walks of the document's Loose and Add.
-/
import Derived.Test.YtjmdiobnappgkaaJD1
namespace Go.Proofs.Ytjmdiobnappgkaa
open Go.RowKit
set_option linter.unusedVariables false
set_option linter.unusedSimpArgs false
section
variable {w0 w w' : World} {gj gd : Nat} {v : Value} {j : JS} {n : Nat}
theorem RJ.keepB {w1 wy wz : World} (h : RJ w0 w1 gj gd v j n) (hh : Mid w1 wy ∧ wy.cell? ⟨gj, 0, none⟩ = some (.pointer (some ⟨gd, 0, none⟩))) (hb : Below wy.heap.size wy wz) : Mid w1 wz ∧ wz.cell? ⟨gj, 0, none⟩ = some (.pointer (some ⟨gd, 0, none⟩)) := ⟨hh.1.below hb, h.mid0 (hh.1.below hb)⟩
theorem RJ.keepS {w1 wy wz : World} (h : RJ w0 w1 gj gd v j n) (hh : Mid w1 wy ∧ wy.cell? ⟨gj, 0, none⟩ = some (.pointer (some ⟨gd, 0, none⟩))) (hs : Spare [57, 123] wy wz) (hz : wy.heap.size ≤ wz.heap.size) : Mid w1 wz ∧ wz.cell? ⟨gj, 0, none⟩ = some (.pointer (some ⟨gd, 0, none⟩)) := ⟨hh.1.spare hs hz, h.mid0 (hh.1.spare hs hz)⟩
set_option maxRecDepth 100000 in
set_option maxHeartbeats 1600000 in
theorem r_loose (h : RJ w0 w gj gd v j n) (hn : n < 1000000) (hl : j.l.length < 20000000) (s : ByteArray) (hs : s.size ≤ 140737488351232) :
    Calls Try.prog 71 #[.pointer (some ⟨gj, 0, none⟩), .string s] w fun e w' => e = .returned (.int .i64 (looseR j s)) ∧ RPost w0 w w' gj gd v (looseJ j s) (n + 1) := by
  obtain ⟨i0, hi, hz0, hz1, hz2⟩ := info_parts winfo9
  have hfr := rframe_any s hs
  have Hfr := Lib.hid hfr
  clear hfr hs
  by_cases hct : j.cut = true
  · obtain ⟨r1, r2⟩ := looseR_cut (s := s) hct
    rw [r1, r2]
    clear r1 r2
    have c3 := h.c3
    rw [hct] at c3
    have Hst := Lib.hid (RPost.stay (m := n + 1) h (Below.refl _ _) (by omega))
    clear h hct Hfr
    go_enter Try.func71, Try.ntmps71
    go_wp2
    go_ret
    exact ⟨rfl, Hst.out⟩
  · have hct' : j.cut = false := by simpa using hct
    have c3 := h.c3
    rw [hct'] at c3
    by_cases hf0 : (frameS s).size = 0
    · obtain ⟨r1, r2⟩ := looseR_no hct hf0
      rw [r1, r2]
      rw [ba_empty hf0] at Hfr
      clear hct hct' hf0 r1 r2
      go_enter Try.func71, Try.ntmps71
      go_wp2_with fail
      refine (Hfr.out _).mono ?_
      rintro e w1 ⟨rfl, hb1⟩
      have Hst := Lib.hid (RPost.stay (m := n + 1) h hb1 (by omega))
      clear hb1 h c3
      go_wp2
      go_ret
      exact ⟨rfl, Hst.out⟩
    · have hr := looseR_put hct hf0
      have hne := ne_toList hf0
      have hJ0 : putR j.d 0 (frameS s) = 0 → looseJ j s = ⟨putD j.d 0 (frameS s), j.l ++ [s], j.sure, j.cut⟩ := fun h => by rw [looseJ, hr, if_pos h]
      have hJ1 : ¬ putR j.d 0 (frameS s) = 0 → looseJ j s = j := fun h => by rw [looseJ, hr, if_neg h]
      rw [hr]
      obtain ⟨f, hF⟩ : ∃ f, frameS s = f := ⟨_, rfl⟩
      rw [hF] at hJ0 hJ1 hne Hfr ⊢
      clear hct hct' hf0 hr hF
      have hput := fun w (h : FK w0 w gd j.d) => fz_put h (Nat.lt_of_le_of_lt (RJ.few ‹RJ w0 _ gj gd v j n›) hn) 0 f
      have hpd := fun h : ¬ putR j.d 0 f = 0 => putD_same (d := j.d) (f := 0) (s := f) h
      obtain ⟨pr, hpr⟩ : ∃ pr, putR j.d 0 f = pr := ⟨_, rfl⟩
      obtain ⟨J', hJ'⟩ : ∃ J', looseJ j s = J' := ⟨_, rfl⟩
      rw [hpr] at hJ0 hJ1 hput hpd ⊢
      rw [hJ'] at hJ0 hJ1 ⊢
      have Hput := Lib.hid hput; have HJ0 := Lib.hid hJ0; have HJ1 := Lib.hid hJ1; have Hpd := Lib.hid hpd
      clear hput hpr hJ' hJ0 hJ1 hpd
      go_enter Try.func71, Try.ntmps71
      go_wp2_with fail
      refine (Hfr.out _).mono ?_
      rintro e w1 ⟨rfl, hb1⟩
      have h1 := h.below hb1
      have Hz1 := Lib.hid hb1.size
      have S1 := Lib.hid (Spare.ofBelow (T := [57, 123, 102, 9]) hb1); have R1 := Lib.hid (RowsL.ofBelow hb1 v.ownBlock.toList)
      clear hb1 h c3
      have hF1 := Lib.hid h1.dk
      have H1 := Lib.hid h1
      have c0 := h1.c0
      clear h1
      have hm := Mid.refl w1
      go_wp2_with fail
      go_region_held3 (fun wy => Mid w1 wy ∧ wy.cell? ⟨gj, 0, none⟩ = some (.pointer (some ⟨gd, 0, none⟩))) (first | exact H1.out.keepS (by assumption) hsq hzq | exact H1.out.keepB (by assumption) hbq | exact H1.out.keepB ⟨hm, c0⟩ ((Below.refl _ _).drew) | (go_keep; done))
        (first | (go_at_call 82; refine (Hfr.out _).mono ?_; rintro e w' ⟨rfl, hbq⟩) | (go_at_call 86; refine (Hput.out _ ((hF1.out.below ((Below.refl _ _).drew)).below hbq)).mono ?_; rintro e w2 ⟨rfl, hdq, hsq, hzq⟩))
      rename_i hHeld
      have hm2 := hHeld.1
      have h2 := H1.out.disk hdq (putD_len j.d 0 f n H1.out.few) hm2.1
      have Hz2 := Lib.hid (Nat.le_trans Hz1.out hm2.2)
      have S2 := Lib.hid (S1.out.trans (hm2.1.mono (by simp))); have R2 := Lib.hid (R1.out.trans (RowsL.ofSpare hm2.1 (by decide) v.ownBlock.toList) (fun i hi => .inl hi))
      clear hHeld hm2 hdq hsq hzq hbq hm c0 S1 R1 hF1 Hz1 Hput Hfr
      by_cases hr0 : pr = 0
      · subst hr0
        have Hje := Lib.hid (HJ0.out rfl)
        clear HJ0 HJ1 H1 Hpd
        have c1 := h2.c1
        have f1 := h2.fr 1
        have hown : w2.ownsRow w0.heap.size 9 1 v j.l.length (svals j.l) := h2.own
        have hbase := h2.sz
        go_wp2_with (at_builtin; refine wpList_append1 rfl _ _ 94 rfl w0.heap.size 9 i0 (.string ⟨#[]⟩) 16 Try.underlying94 hi hz0 hz1 hz2 rfl _ _ _ rfl (hown.alloc _) w2.heap.size rfl (.string s) (by simp [go_sem]) rfl (by unfold maxLen; omega) (by omega) (by simp; omega) ?_)
        intro v' w3 hown3 hg3 hv3
        obtain ⟨A', c', rfl, hl3⟩ := own_form hown3
        obtain ⟨k1, k2, k3, k4, k5, k6⟩ := h2.append _ hg3 hown3 (by simpa using hv3)
        have K1 := Lib.hid k1; have K2 := Lib.hid k2; have K3 := Lib.hid k3; have K4 := Lib.hid k4
        clear hown3 hg3 hv3 hl3 hown h2 k1 k2 k3 k4 c1 f1
        go_wp2
        go_ret
        rw [Hje.out]
        exact ⟨rfl, _, K1.out, fun i hi => by
          rcases K2.out i hi with h | h
          · exact .inl h
          · exact .inr (Nat.le_trans Hz2.out h), S2.out.trans (K3.out.mono (by simp)), R2.out.trans K4.out (fun i hi => .inl hi)⟩
      · have Hje := Lib.hid (HJ1.out hr0)
        rw [Hpd.out hr0] at h2
        have hne0 : ((pr : Int) == 0) = false := by rw [beq_eq_false_iff_ne]; exact hr0
        have H2 := Lib.hid h2
        clear HJ0 HJ1 hr0 H1 h2 Hpd
        go_wp2
        go_ret
        rw [Hje.out]
        exact ⟨rfl, v, H2.out, Fresh.refl _ _, S2.out, R2.out⟩
set_option maxRecDepth 100000 in
set_option maxHeartbeats 800000 in
theorem r_add (h : RJ w0 w gj gd v j n) (hn : n < 1000000) (hl : j.l.length < 20000000) (s : ByteArray) (hs : s.size ≤ 140737488351232) :
    Calls Try.prog 69 #[.pointer (some ⟨gj, 0, none⟩), .string s] w fun e w' => e = .returned (.int .i64 (looseR j s)) ∧ RPost w0 w w' gj gd v (addJ j s) (n + 1) := by
  have Hl := Lib.hid (r_loose h hn hl s hs)
  by_cases hr : looseR j s = 0
  · have hJ : looseJ j s = ⟨putD j.d 0 (frameS s), j.l ++ [s], j.sure, j.cut⟩ := by rw [looseJ, if_pos hr]
    have hA : addJ j s = ⟨(putD j.d 0 (frameS s)).sync, j.l ++ [s], j.l.length + 1, j.cut⟩ := by rw [addJ, if_pos hr]
    rw [hJ, hr] at Hl
    rw [hA, hr]
    have hlen : (j.l ++ [s]).length = j.l.length + 1 := by simp
    clear h hr hJ hA hs
    generalize putD j.d 0 (frameS s) = D at *
    generalize j.l ++ [s] = L at *
    have Hlen := Lib.hid hlen; clear hlen
    go_enter Try.func69, Try.ntmps69
    go_wp2_with fail
    refine Hl.out.mono ?_
    rintro e w1 ⟨rfl, v1, k1, k2, k3, k4⟩
    have c0 := k1.c0
    have K2 := Lib.hid k2; have K3 := Lib.hid k3; have K4 := Lib.hid k4
    clear k2 k3 k4
    go_wp2_with fail
    refine (fz_sync k1.dk).mono ?_
    rintro e w2 ⟨rfl, hd2, s2, z2⟩
    have h2 := k1.disk (m := 0) hd2 (by simp [DS.sync]) s2
    have S2 := Lib.hid (K3.out.trans (s2.mono (by simp))); have R2 := Lib.hid (K4.out.trans (RowsL.ofSpare s2 (by decide) v.ownBlock.toList) (fun i hi => .inl hi))
    clear k1 hd2 s2 z2 c0 K3 K4
    have c1 := h2.c1
    have c2 := h2.c2
    have f2 := h2.fr 2
    obtain ⟨A, cap, hv⟩ := h2.own.len
    have hlen2 := Hlen.out
    simp only at hv
    rw [hlen2] at hv
    subst hv
    obtain ⟨p1, p2, p3⟩ := h2.set 2 (.int .i64 ((j.l.length + 1 : Nat) : Int)) _ ⟨D.sync, L, j.l.length + 1, j.cut⟩ rfl rfl h2.own h2.far
    have P1 := Lib.hid (p1.mono (show 0 ≤ n + 1 by omega)); have P2 := Lib.hid (S2.out.trans (p2.mono (by simp))); have P3 := Lib.hid (R2.out.trans (p3 v.ownBlock.toList) (fun i hi => .inl hi))
    clear p1 p2 p3 h2 S2 R2 hlen2
    go_wp2
    go_ret
    exact ⟨rfl, _, P1.out, K2.out, P2.out, P3.out⟩
  · have hJ : looseJ j s = j := by rw [looseJ, if_neg hr]
    have hA : addJ j s = j := by rw [addJ, if_neg hr]
    rw [hJ] at Hl
    rw [hA]
    have hne0 : ((looseR j s : Int) == 0) = false := by rw [beq_eq_false_iff_ne]; exact hr
    clear h hr hJ hA hs
    generalize looseR j s = r at *
    go_enter Try.func69, Try.ntmps69
    go_wp2_with fail
    refine Hl.out.mono ?_
    rintro e w1 ⟨rfl, k1⟩
    have K1 := Lib.hid k1; clear k1
    go_wp2
    go_ret
    exact ⟨rfl, K1.out⟩
end
end Go.Proofs.Ytjmdiobnappgkaa
