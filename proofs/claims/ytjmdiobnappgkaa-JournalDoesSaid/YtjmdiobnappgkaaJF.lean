/-
  Layer 15 (journal): JournalFrames walked.
-/
import Derived.Test.YtjmdiobnappgkaaJY
namespace Go.Proofs.Ytjmdiobnappgkaa
open Go.RowKit
set_option linter.unusedVariables false
set_option linter.unusedSimpArgs false

theorem openD_reads {d : DS} (hok : d.ok) : readR (openD d) 0 = d.f0.extract 0 (recsOf d.sync).2 ∧ readR (openD d) 1 = ⟨#[]⟩ ∧ (recsOf d.sync).2 ≤ d.f0.size ∧ looseAll (openD d).loose = 0 ∧ (openD d).room = d.room := by
  have hle : (recsOf d.sync).2 ≤ d.f0.size := by
    have := readFrom_at (readR d.sync 0) [] 0 (Nat.zero_le _)
    rw [sync_read] at this
    rw [recsOf, sync_read]; exact this
  unfold openD
  generalize (recsOf d.sync).2 = a at *
  have e1 : trimD d.sync 0 (a : Int) = ⟨d.f0.extract 0 a, d.f1, [], d.room⟩ := by
    have h0 : ¬ (trimBad d.sync 0 (a : Int) ∨ 0 < looseAll d.sync.loose) := by
      have hz : looseAll d.sync.loose = 0 := rfl
      have hf : (d.sync.file (0 : Int).toNat) = d.f0 := rfl
      unfold trimBad valid
      rw [hf, hz]
      omega
    rw [trimD, if_neg h0, Int.toNat_natCast]; rfl
  have e2 : trimD (⟨d.f0.extract 0 a, d.f1, [], d.room⟩ : DS) 1 0 = ⟨d.f0.extract 0 a, d.f1.extract 0 0, [], d.room⟩ := by
    have h0 : ¬ (trimBad (⟨d.f0.extract 0 a, d.f1, [], d.room⟩ : DS) 1 0 ∨ 0 < looseAll (⟨d.f0.extract 0 a, d.f1, [], d.room⟩ : DS).loose) := by
      have hz : looseAll (⟨d.f0.extract 0 a, d.f1, [], d.room⟩ : DS).loose = 0 := rfl
      unfold trimBad valid
      rw [hz]
      omega
    rw [trimD, if_neg h0]; rfl
  rw [e1, e2]
  refine ⟨rfl, ?_, hle, rfl, rfl⟩
  show d.f1.extract 0 0 = _
  apply ba_list; rw [extract_list]; simp
theorem openJ_l (d : DS) : (openJ d).l = (recsOf d.sync).1 := by rw [openJ]
theorem openJ_d (d : DS) : (openJ d).d = openD d := by rw [openJ]
theorem openJ_s (d : DS) : (openJ d).sure = (openJ d).l.length := by rw [openJ]
theorem openJ_c (d : DS) : (openJ d).cut = false := by rw [openJ]
/-- What JournalFrames has before its last test. -/
structure FrS (w wx : World) (gj gd : Nat) (v : Value) (j : JS) (u : Value) (L : List ByteArray) : Prop where
  jk : JK w wx gj gd v j 0
  ow : SOwn w.heap.size wx u L
theorem FrS.below {w wx wy : World} {gj gd : Nat} {v u : Value} {j : JS} {L : List ByteArray} (h : FrS w wx gj gd v j u L) (hb : Below wx.heap.size wx wy) : FrS w wy gj gd v j u L := ⟨h.jk.below hb, h.ow.below hb⟩
set_option maxRecDepth 100000 in
set_option maxHeartbeats 4000000 in
theorem journalFrames_walk (s : ByteArray) (hs : s.size ≤ maxLen) (t : ByteArray) (ht : t.size ≤ 140737488351232) (w : World) :
    Calls Try.prog 19 #[.string s, .string t] w fun e w' => e = .returned (.bool true) ∧ Below w.heap.size w w' := by
  obtain ⟨m, hm⟩ : ∃ m : Nat, min s.size 1000 = m := ⟨_, rfl⟩
  have hmin : ∀ wx, (Builtin.min_ #[3, 3] 3 #[.int .i64 (s.size : Int), .int .i64 1000]).run Try.prog wx = .ok (.int .i64 m) wx := fun wx => run_min_int2 wx _ _ _ _ _ _ _ (by omega)
  have hm0 : (0 : Int) ≤ (m : Int) := by omega
  have hm1 : (m : Int) ≤ (s.size : Int) := by omega
  have hm2 : m ≤ s.size := by omega
  have hss : (s.extract 0 m).size ≤ 1000 := by rw [ByteArray.size_extract]; omega
  obtain ⟨S, hS⟩ : ∃ S, s.extract 0 m = S := ⟨_, rfl⟩
  rw [hS] at hss
  have hput : putR (DS.empty 1000) 0 S = 0 := (putR_zero _ _ _ (by decide)).2 (by show S.size ≤ 1000 - 0 - 0; omega)
  have hf0 : (putD (DS.empty 1000) 0 S).f0 = S := by
    rw [putD, if_pos ⟨by decide, by have e : (DS.empty 1000).free = 1000 := rfl; omega⟩]
    show (⟨#[]⟩ : ByteArray) ++ S = S
    apply ba_list; rw [ByteArray.data_append]; simp
  obtain ⟨f, hF⟩ : ∃ f, frameS t = f := ⟨_, rfl⟩
  have Hput := Lib.hid hput; have Hf0 := Lib.hid hf0; have Ht := Lib.hid ht; have HF := Lib.hid hF; have Hss := Lib.hid hss
  clear hm hs hput hf0 ht hF hss
  go_enter Try.func19, Try.ntmps19
  go_wp2_with fail
  refine (dk_new 1000 (by decide) w).mono ?_
  rintro e w1 ⟨rfl, h1⟩
  go_wp2_with fail
  refine (at_put h1 (by decide) 0 S 0 _ Hput.out rfl).mono ?_
  rintro e w2 ⟨rfl, h2⟩
  clear h1 hm0 hm1 hm2 hmin hS
  go_wp2_with fail
  refine (j_open h2).mono ?_
  rintro e w3 ⟨gj, v3, rfl, h3, -, -, -, -, hlen⟩
  have hok := h2.2.2.1
  clear h2
  generalize putD (DS.empty 1000) 0 S = D at *
  obtain ⟨r0, -, rle, -, -⟩ := openD_reads hok
  have hrec : recsOf D.sync = readFrom S [] 0 := by rw [recsOf, sync_read, Hf0.out]
  rw [Hf0.out] at r0 rle
  rw [hrec] at r0 rle
  have hJl : (openJ D).l = (readFrom S [] 0).1 := by rw [openJ_l, hrec]
  have hJd : (openJ D).d = openD D := openJ_d D
  clear hok hlen hrec
  go_wp2_with fail
  refine (rread_any S (by have := Hss.out; omega) w3).mono ?_
  rintro e w4 ⟨u, rfl, ho, hb, hl1, hl2⟩
  have h4 := h3.below hb
  have F4 : FrS w w4 gj w.heap.size v3 (openJ D) u (readFrom S [] 0).1 := ⟨h4, ho.mono h3.sz⟩
  clear h3 hb ho h4
  generalize openJ D = J at *
  obtain ⟨RL, hRL⟩ : ∃ RL, (readFrom S [] 0).1 = RL := ⟨_, rfl⟩
  obtain ⟨RA, hRA⟩ : ∃ RA, (readFrom S [] 0).2 = RA := ⟨_, rfl⟩
  rw [hRL] at F4 hJl hl1
  rw [hRA] at r0 rle hl2 ⊢
  have hrd : readR J.d 0 = S.extract 0 RA := by rw [hJd]; exact r0
  have hl5 : J.l.length ≤ 20000000 := by rw [hJl]; have := Hss.out; omega
  have hl6 : RL.length ≤ maxLen := by unfold maxLen; have := Hss.out; omega
  have hdec : decide (J.l = RL) = true := by simpa using hJl
  have q1 : (RA : Int) ≤ (S.size : Int) := by omega
  have q2 : (0 : Int) ≤ (RA : Int) := by omega
  have Hrd := Lib.hid hrd; have Hl5 := Lib.hid hl5; have Hl6 := Lib.hid hl6; have Hdec := Lib.hid hdec; have F5 := Lib.hid F4
  clear hRL hRA hJl hJd r0 rle hl1 hrd hl5 hl6 hdec F4 Hf0
  go_wp2_with fail
  go_region_held3 (fun wx => FrS w wx gj w.heap.size v3 J u RL) (first | exact F5.out.below ((Below.refl _ _).drew) | exact FrS.below (by assumption) hbq | assumption)
    (first
      | (go_at_call 76; refine (j_records (FrS.jk (by assumption)) Hl5.out).mono ?_; rintro e w' ⟨⟨ur, rfl, our⟩, hbq⟩)
      | (go_at_call 75; refine (same_at (SOwn.read our (by rw [of_decide_eq_true Hdec.out]; exact Hl6.out)) ((FrS.ow (by assumption)).read Hl6.out) true Hdec.out).mono ?_; rintro e w' ⟨rfl, hbq⟩)
      | (go_at_call 33; refine (at_read (FrS.jk (by assumption)).dk 0 _ Hrd.out).mono ?_; rintro e w' ⟨rfl, rfl⟩)
      | (go_at_call 81; refine (frame_at t f Ht.out HF.out _).mono ?_; rintro e w' ⟨rfl, hbq⟩)
      | (go_at_call 82; refine (rframe_any t Ht.out _).mono ?_; rintro e w' ⟨rfl, hbq⟩; rw [HF.out])
      | (go_at_call 79; refine (journalFixed_any _).mono ?_; rintro e w' ⟨rfl, hbq⟩))
  rename_i hHeld
  have H4 := Lib.hid hHeld.jk.b0
  clear hHeld
  go_wp2
  go_ret
  exact ⟨rfl, H4.out⟩
theorem journalFrames_go (s : ByteArray) (hs : s.size ≤ maxLen) (t : ByteArray) (ht : t.size ≤ 140737488351232) (w : World) :
    Calls Try.prog 19 #[.string s, .string t] w fun e w' => e = .returned (.bool true) ∧ Below w.heap.size w w' := journalFrames_walk s hs t ht w
end Go.Proofs.Ytjmdiobnappgkaa
