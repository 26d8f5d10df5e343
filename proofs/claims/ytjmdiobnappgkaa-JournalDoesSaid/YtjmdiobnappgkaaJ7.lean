/-
  Layer 15 (journal): the walk of Open.
-/
import Derived.Test.YtjmdiobnappgkaaJ6
namespace Go.Proofs.Ytjmdiobnappgkaa
open Go.RowKit
set_option linter.unusedVariables false
set_option linter.unusedSimpArgs false

/-- A journal is opened. -/
def OPost (w0 w : World) (gd : Nat) (d : DS) (e : Ending) (w' : World) : Prop :=
  ∃ gj v, e = .returned (.pointer (some ⟨gj, 0, none⟩)) ∧ JK w0 w' gj gd v (openJ d) 0 ∧ w.heap.size ≤ gj ∧ (∀ k, v.ownBlock = some k → w.heap.size ≤ k) ∧ Spare [117, 120] w w' ∧ w.heap.size ≤ w'.heap.size ∧ (openJ d).l.length ≤ d.f0.size
theorem ext_ext (s : ByteArray) (a n : Nat) (h : a + n ≤ s.size) : (s.extract a s.size).extract 0 n = s.extract a (a + n) := by
  apply ba_list
  rw [extract_list, extract_list, extract_list, List.drop_zero, List.take_take]
  congr 1; omega
theorem sync_read (d : DS) : readR d.sync 0 = d.f0 := by simp [readR, valid, DS.file, DS.sync]
theorem below_stepB {B : Nat} {w w1 w2 : World} (h : Below B w w1) (k : Below w1.heap.size w1 w2) (hB : B ≤ w1.heap.size) : Below B w w2 := h.trans (k.mono hB)
theorem spare_new {T : List TypeId} {w w' : World} {g i : Nat} (h : Spare T w w') (hg : w.heap.size ≤ g) (u : Value) : Spare T w (w'.setCell ⟨g, i, none⟩ u) := fun k cs t fr hk ht =>
  (Below.heap_setCell w' _ u k (by intro e; have h1 := heap_lt hk; have e2 : k = g := e; omega)).trans (h k cs t fr hk ht)
section
variable {w0 w w' : World} {gj gd : Nat} {v : Value} {d : DS} {n : Nat}
set_option maxRecDepth 100000 in
set_option maxHeartbeats 1600000 in
theorem j_open (h : DK w0 w gd d n) : Calls Try.prog 66 #[.pointer (some ⟨gd, 0, none⟩)] w (OPost w0 w gd d) := by
  obtain ⟨i0, hi, hz0, hz1, hz2⟩ := info_parts winfo9
  have hokd := h.2.2.1
  have hfits := hokd.fits; have hroom := hokd.room
  have hfin := sync_read d
  have hOpen : ∀ L a, readFrom d.f0 [] 0 = (L, a) → openJ d = ⟨trimD (trimD d.sync 0 (a : Int)) 1 0, L, L.length, false⟩ := fun L a he => by
    have e : recsOf d.sync = (L, a) := by rw [recsOf, hfin]; exact he
    rw [openJ, openD, e]
  obtain ⟨s, hs⟩ : ∃ s, d.f0 = s := ⟨_, rfl⟩
  rw [hs] at hOpen hfin hfits
  have hd0s : s.size ≤ d.f0.size := by rw [hs]; omega
  have hss : s.size ≤ 16777216 := by omega
  have hsi : (s.size : Int) ≤ 16777216 := by omega
  have HOpen := Lib.hid hOpen; have Hfin := Lib.hid hfin; have Hd0 := Lib.hid hd0s
  clear hokd hfits hroom hOpen hfin hs hd0s
  go_enter Try.func66, Try.ntmps66
  go_wp2_with fail
  refine (dz_sync h).mono ?_
  rintro e w1 ⟨rfl, h1, s1, z1⟩
  have hb2 := alloc_below' w1 (.cells (jcells gd (.slice none 0 0) ⟨d.sync, [], 0, false⟩) 129)
  have hJ : JK w0 (w1.alloc (.cells (jcells gd (.slice none 0 0) ⟨d.sync, [], 0, false⟩) 129)) w1.heap.size gd (.slice none 0 0) ⟨d.sync, [], 0, false⟩ 0 :=
    ⟨h1.below hb2, Blk.new _ _ _, h1.2.2.2.2, SOwn.nil _ _⟩
  have S1 := Lib.hid s1; have Z1 := Lib.hid z1
  clear h h1 s1 z1
  go_wp2_with fail
  refine (at_read hJ.dk 0 s Hfin.out).mono ?_
  rintro e wx ⟨rfl, rfl⟩
  go_wp2
  generalize w1.alloc (.cells (jcells gd (.slice none 0 0) ⟨d.sync, [], 0, false⟩) 129) = w2 at *
  go_loopw [5] (fun av wr => ∃ (L : List ByteArray) (a : Nat) (v : Value), av = .int .i64 (a : Int) ∧ ReadAt s L a ∧ JK w0 wr w1.heap.size gd v ⟨d.sync, L, 0, false⟩ 0 ∧ (∀ k, v.ownBlock = some k → w1.heap.size ≤ k) ∧ Below w1.heap.size w1 wr) (fun av _ => s.size - (intOf av).toNat)
  case atStart => exact ⟨[], 0, _, rfl, ReadAt.start s, hJ, by intro k hk; simp [Value.ownBlock] at hk, hb2⟩
  case round =>
    clear hJ hb2
    obtain ⟨L, a, v, rfl, hat, hj, hv, hb⟩ := hrel
    have hz := hb.size
    have hle1 := hat.2.1
    have hle2 := hat.2.2
    have a1 : (a : Int) ≤ (s.size : Int) := by omega
    have hyes := fun hq => ReadAt.step hat hq
    have hdone := fun hq => HOpen.out _ _ (ReadAt.done hat hq)
    have hts : (s.extract a s.size).size = s.size - a := by rw [ByteArray.size_extract]; omega
    have hee := fun n h => ext_ext s a n h
    have Hj := Lib.hid hj; have Hv := Lib.hid hv
    clear hat hj hv
    go_wp2_with fail
    refine (rd_new (Below.refl _ _) (Nat.le_refl _) (s.extract a s.size)).mono ?_
    rintro e w3 ⟨rfl, r3, b3⟩
    go_wp2_with fail
    refine (rd_blob r3 4096).mono ?_
    rintro e w4 ⟨rfl, r4, m4⟩
    have hb4 := r4.2.2.1
    clear r3 b3 r4 m4
    have hbx : (⟨s.extract a s.size, 0⟩ : RD).blobS 4096 = blobOf (s.extract a s.size) := rfl
    rw [hbx]
    have hxs := blobOf_size (s.extract a s.size)
    have hst : ∀ x f, blobOf (s.extract a s.size) = x → frameS x = f → (¬ f.size = 0 → f.size ≤ s.size - a → s.extract a (a + f.size) = f → firstS (s.extract a s.size) = x) ∧ ((f.size = 0 ∨ ¬ f.size ≤ s.size - a ∨ (f.size ≤ s.size - a ∧ s.extract a (a + f.size) ≠ f)) → (firstS (s.extract a s.size)).size = 0) := by
      intro x f hx hf
      subst hx; subst hf
      constructor
      · intro q1 q2 q3
        refine firstS_yes ⟨q1, by rw [hts]; exact q2, ?_⟩
        rw [hee _ (by omega)]; exact q3
      · intro q
        rw [firstS_zero]
        rintro ⟨q1, q2, q3⟩
        rcases q with q | q | ⟨q, q4⟩
        · exact q1 q
        · rw [hts] at q2; exact q q2
        · rw [hee _ (by omega)] at q3; exact q4 q3
    obtain ⟨x, hX⟩ : ∃ x, blobOf (s.extract a s.size) = x := ⟨_, rfl⟩
    obtain ⟨f, hF⟩ : ∃ f, frameS x = f := ⟨_, rfl⟩
    obtain ⟨hst1, hst2⟩ := hst x f hX hF
    rw [hX] at hxs ⊢
    have hfz : f.size ≤ 4110 := by rw [← hF]; exact (frameS_size x).1
    have hframe := frame_any x (by omega)
    rw [hF] at hframe
    have Hyes := Lib.hid hyes; have Hdone := Lib.hid hdone; have Hst1 := Lib.hid hst1; have Hst2 := Lib.hid hst2; have Hframe := Lib.hid hframe; have HF := Lib.hid hF
    clear hyes hdone hst hst1 hst2 hframe hF hX hbx hts hee hxs
    go_wp2_with fail
    refine (Hframe.out _).mono ?_
    rintro e w5 ⟨rfl, hb5⟩
    have h5 := Hj.out.below (bthen hb4 hb5)
    have B5 := Lib.hid (show Below w1.heap.size w1 w5 from below_stepB (below_stepB hb hb4 hz) hb5 (Nat.le_trans hz hb4.size))
    have Z5 := Lib.hid (Nat.le_trans hz (Nat.le_trans hb4.size hb5.size))
    clear hb hb4 hb5 Hj hz
    by_cases hgood : ¬ f.size = 0 ∧ f.size ≤ s.size - a ∧ s.extract a (a + f.size) = f
    · obtain ⟨g1, g2, g3⟩ := hgood
      have hfirst := Hst1.out g1 g2 g3
      have hst := Hyes.out (by rw [hfirst]; intro h0; exact g1 (by rw [← HF.out]; exact (frameS_size x).2.1.2 (.inl h0)))
      rw [hfirst, HF.out] at hst
      have Hst := Lib.hid hst
      have hne := ne_toList g1
      have t1 : (s.size : Int) - (a : Int) = ((s.size - a : Nat) : Int) := by omega
      have t2 : ¬ (s.size : Int) - (a : Int) < (f.size : Int) := by omega
      have t3 : (a : Int) + (f.size : Int) ≤ (s.size : Int) := by omega
      have t4 : ((a : Int) + (f.size : Int)).toNat = a + f.size := by omega
      have t5 : (0 : Int) ≤ (a : Int) + (f.size : Int) := by omega
      have t6 : ((s.extract a (a + f.size)).toList == f.toList) = true := by rw [g3]; exact beq_self_eq_true _
      have g4 : 0 < f.size := by omega
      have c1 := h5.c1
      have f1 := h5.fr 1
      have hown := h5.own
      unfold SOwn at hown
      have hbase := h5.sz
      have Hv2 := Lib.hid (show ∀ k, v.ownBlock = some k → w1.heap.size ≤ k from Hv.out)
      clear Hst1 Hst2 Hyes Hdone hfirst hst g1 g2 g3 t1 Hv
      simp only at c1 hown
      have H5 := Lib.hid h5; clear h5
      go_wp2_with (at_builtin; refine wpList_append1 rfl _ _ 94 rfl w0.heap.size 9 i0 (.string ⟨#[]⟩) 16 Try.underlying94 hi hz0 hz1 hz2 rfl _ _ _ rfl (hown.alloc _) w5.heap.size rfl (.string x) (by simp [go_sem]) rfl (by unfold maxLen; omega) (by omega) (by simp; omega) ?_)
      intro v' w6 hown6 hg6 hv6
      obtain ⟨A', c', rfl, hl6⟩ := own_form hown6
      obtain ⟨k1, k2, -, -, k5, k6⟩ := H5.out.append _ hg6 hown6 (by simpa using hv6)
      have hb6 : Below w1.heap.size w1 (w6.setCell ⟨w1.heap.size, 1, none⟩ (.slice A' (L.length + 1) c')) :=
        (((B5.out.alloc Z5.out _).grown hg6 (by have := Z5.out; simp; omega) Hv2.out)).setCell (p := ⟨w1.heap.size, 1, none⟩) (Nat.le_refl _) _
      have K1 := Lib.hid k1; have B6 := Lib.hid hb6
      have K2 : Hid (∀ k, (Value.slice A' (L.length + 1) c').ownBlock = some k → w1.heap.size ≤ k) := Lib.hid (fun k hk => by
        rcases k2 k hk with h | h
        · exact Hv2.out k h
        · exact Nat.le_trans Z5.out h)
      clear hown6 hg6 hv6 hl6 hown k1 k2 hb6 c1 f1 H5 B5 Z5 Hv2
      go_wp2
      go_roundw
      case rel => exact ⟨L ++ [x], a + f.size, _, by go_num, Hst.out.1, K1.out, K2.out, B6.out⟩
      case measure => simp [intOf]; omega
    · have hJend := Hdone.out (Hst2.out (by
        by_cases q1 : f.size = 0
        · exact .inl q1
        · by_cases q2 : f.size ≤ s.size - a
          · exact .inr (.inr ⟨q2, fun q3 => hgood ⟨q1, q2, q3⟩⟩)
          · exact .inr (.inl q2)))
      have HJend := Lib.hid hJend
      clear Hst1 Hst2 Hyes Hdone hJend
      have hcase : f.size = 0 ∨ (¬ f.size = 0 ∧ ¬ f.size ≤ s.size - a) ∨ (¬ f.size = 0 ∧ f.size ≤ s.size - a ∧ ¬ s.extract a (a + f.size) = f) := by
        by_cases q1 : f.size = 0
        · exact .inl q1
        · by_cases q2 : f.size ≤ s.size - a
          · exact .inr (.inr ⟨q1, q2, fun q3 => hgood ⟨q1, q2, q3⟩⟩)
          · exact .inr (.inl ⟨q1, q2⟩)
      clear hgood
      have H5 := Lib.hid h5; clear h5
      rcases hcase with q1 | ⟨q1, q2⟩ | ⟨q1, q2, q3⟩
      focus
        obtain rfl := ba_empty q1
        clear q1 HF Hframe
        go_wp2_with fail
      rotate_left
      focus
        have hne := ne_toList q1
        have t2 : (s.size : Int) - (a : Int) < (f.size : Int) := by omega
        clear q1 q2
        go_wp2_with fail
      rotate_left
      focus
        have hne := ne_toList q1
        have t2 : ¬ (s.size : Int) - (a : Int) < (f.size : Int) := by omega
        have t3 : (a : Int) + (f.size : Int) ≤ (s.size : Int) := by omega
        have t4 : ((a : Int) + (f.size : Int)).toNat = a + f.size := by omega
        have t5 : (0 : Int) ≤ (a : Int) + (f.size : Int) := by omega
        have t6 : ((s.extract a (a + f.size)).toList == f.toList) = false := by
          rw [ByteArray.toList_eq, ByteArray.toList_eq, beq_eq_false_iff_ne]
          intro hq; exact q3 (ba_list hq)
        clear q1 q2 q3
        go_wp2_with fail
      rotate_left
      all_goals
        refine (dz_trim H5.out.dk 0 (a : Int)).mono ?_
        rintro e w6 ⟨rfl, hd6, s6, z6⟩
        have h6 := H5.out.disk hd6 s6
        have S6 := Lib.hid ((S1.out.trans (Spare.ofBelow B5.out)).trans s6)
        have Z6 := Lib.hid (Nat.le_trans (Nat.le_trans Z1.out Z5.out) z6)
        clear hd6 s6 z6 H5
        try clear hne
        try clear t2
        go_wp2_with fail
        refine (dz_trim h6.dk 1 0).mono ?_
        rintro e w7 ⟨rfl, hd7, s7, z7⟩
        have h7 := h6.disk hd7 s7
        have S7 := Lib.hid (S6.out.trans s7)
        have Z7 := Lib.hid (Nat.le_trans Z6.out z7)
        clear hd7 s7 z7 h6 S6 Z6
        have c1 := h7.c1
        have c2 := h7.c2
        have f2 := h7.fr 2
        have HvF := Lib.hid (show ∀ k, v.ownBlock = some k → w.heap.size ≤ k from fun k hk => Nat.le_trans Z1.out (Hv.out k hk))
        obtain ⟨A, cap, hve⟩ := h7.own.len
        simp only at hve
        subst hve
        obtain ⟨p1, p2, p3⟩ := h7.set 2 (.int .i64 (L.length : Int)) _ ⟨trimD (trimD d.sync 0 (a : Int)) 1 0, L, L.length, false⟩ rfl rfl h7.own h7.far
        have P1 := Lib.hid p1
        have P2 := Lib.hid (spare_new S7.out (i := 2) Z1.out (.int .i64 (L.length : Int)))
        clear p1 p2 p3 h7 S7
        go_wp2
        go_ret
        refine ⟨w1.heap.size, _, rfl, by rw [HJend.out]; exact P1.out, Z1.out, HvF.out, P2.out, ?_, by rw [HJend.out]; exact Nat.le_trans hle1 (Nat.le_trans hle2 Hd0.out)⟩
        have := Z7.out
        simp [World.setCell]; omega
end
end Go.Proofs.Ytjmdiobnappgkaa
