/-
  Layer 11 (wire): WireNums walked.
-/
import Derived.Test.YtjmdiobnappgkaaWireM
namespace Go.Proofs.Ytjmdiobnappgkaa
open Go.RowKit
set_option linter.unusedVariables false
set_option linter.unusedSimpArgs false

theorem text_of (l : List UInt8) : (⟨l, 0⟩ : WS).text = ⟨l.toArray⟩ := by rw [WS.text, if_pos rfl]
theorem sz_lt {a b : ByteArray} (h : a ≠ b) : ¬ a = b := h
/-- Both writers, made and written to. -/
theorem two_writers {w w2 w3 w4 : World} {ga gb : Nat} {va vb : Value} {xa xb : WS} (hb2 : Below w.heap.size w w2) (hga : w.heap.size ≤ ga) (hgb : w.heap.size ≤ gb) (hne : ga ≠ gb)
    (hB : Blk w2 gb 62 #[.slice none 0 0, .int .i64 0]) (ha : IsW w3 w.heap.size ga va xa) (o3 : Only w2.heap.size [ga] w2 w3) (hbb : IsW w4 w.heap.size gb vb xb) (o4 : Only w3.heap.size [gb] w3 w4) : WK w w4 ga xa ∧ WK w w4 gb xb := by
  have hB3 : Blk w3 gb 62 #[.slice none 0 0, .int .i64 0] := hB.only o3 hB.lt (by simp; exact fun h => hne h.symm)
  have hfar := own_blk_ne ha.own hB3 (by decide)
  have z2 := hb2.size; have z3 := o3.size; have z4 := o4.size
  have hb3 : Below w.heap.size w w3 := hb2.trans ((o3.mono z2 (l' := [ga]) (fun _ _ h => h)).below (by simp; exact hga))
  have hb4 : Below w.heap.size w w4 := hb3.trans ((o4.mono (by omega) (l' := [gb]) (fun _ _ h => h)).below (by simp; exact hgb))
  refine ⟨⟨⟨va, ha.blk.only o4 ha.blk.lt (by simp; exact hne), ha.hb, own_only ha.own o4 (fun k hk => ⟨(ha.own.lt k hk).2, ?_⟩)⟩, hb4, by omega⟩, ⟨vb, hbb⟩, hb4, by omega⟩
  simp; intro he; subst he; exact hfar hk

set_option maxRecDepth 100000 in
set_option maxHeartbeats 4000000 in
theorem wireNums_walk (n m : Nat) (hn : n < 18446744073709551616) (hm : m < 18446744073709551616) (s : ByteArray) (hs : s.size ≤ maxLen) (w : World) :
    Calls Try.prog 15 #[.int .u64 (n : Int), .int .u64 (m : Int), .string s] w fun e w' => e = .returned (.bool true) ∧ Below w.heap.size w w' := by
  have hA0 : Blk ((w.alloc (.cells #[.slice none 0 0, .int .i64 0] 62)).alloc (.cells #[.slice none 0 0, .int .i64 0] 62)) w.heap.size 62 #[.slice none 0 0, .int .i64 0] := (Blk.new w 62 _).alloc _
  have e1 : (w.alloc (.cells #[.slice none 0 0, .int .i64 0] 62)).heap.size = w.heap.size + 1 := by simp
  have hB0 := Blk.new (w.alloc (.cells #[.slice none 0 0, .int .i64 0] 62)) 62 #[.slice none 0 0, .int .i64 0]
  rw [e1] at hB0
  have hb2 : Below w.heap.size w ((w.alloc (.cells #[.slice none 0 0, .int .i64 0] 62)).alloc (.cells #[.slice none 0 0, .int .i64 0] 62)) := bthen (alloc_below' w _) (alloc_below' _ _)
  obtain ⟨mm, hmm⟩ : ∃ mm : Nat, min (s.size : Int) 20 = (mm : Int) := ⟨(min (s.size : Int) 20).toNat, by omega⟩
  have hmin : ∀ wx, (Builtin.min_ #[3, 3] 3 #[.int .i64 (s.size : Int), .int .i64 20]).run Try.prog wx = .ok (.int .i64 mm) wx := fun wx => run_min_int2 wx _ _ _ _ _ _ _ hmm
  have hm0 : (0 : Int) ≤ (mm : Int) := by omega
  have hm1 : (mm : Int) ≤ (s.size : Int) := by omega
  have hm2 : mm ≤ s.size := by omega
  have hss : (s.extract 0 mm).size ≤ 20 := by rw [ByteArray.size_extract]; omega
  obtain ⟨s', hs'⟩ : ∃ s', s.extract 0 mm = s' := ⟨_, rfl⟩
  rw [hs'] at hss
  clear hmm hs
  have la1 := numL_pos n
  have la2 := numL_len10 n hn
  have hmono := numL_mono n m
  have hinj := numL_inj n m
  obtain ⟨la, hla⟩ : ∃ la, (numL n).length = la := ⟨_, rfl⟩
  obtain ⟨lb, hlb⟩ : ∃ lb, (numL m).length = lb := ⟨_, rfl⟩
  obtain ⟨ta, hta⟩ : ∃ ta, (⟨(numL n).toArray⟩ : ByteArray) = ta := ⟨_, rfl⟩
  obtain ⟨tb, htb⟩ : ∃ tb, (⟨(numL m).toArray⟩ : ByteArray) = tb := ⟨_, rfl⟩
  have za : ta.size = la := by rw [← hta, ← hla]; exact str_size' _
  have zb : tb.size = lb := by rw [← htb, ← hlb]; exact str_size' _
  have hTa := Lib.hid ((text_of (numL n)).trans hta)
  have hTb := Lib.hid ((text_of (numL m)).trans htb)
  have hi2 : ta = tb → n = m := fun h => hinj (by
    rw [← hta, ← htb] at h
    have := congrArg (fun (q : ByteArray) => q.data.toList) h
    simpa using this)
  have hi3 : n = m → ta = tb := fun h => by subst h; exact hta.symm.trans htb
  rw [hla] at la1 la2 hmono
  rw [hlb] at hmono
  have g1 : ¬ (ta.size : Int) < 1 := by omega
  have g2 : ¬ (10 : Int) < (ta.size : Int) := by omega
  have hcase : ((tb.size : Int) < (ta.size : Int) ∧ ¬ (n : Int) ≤ (m : Int) ∧ ¬ n = m) ∨ (¬ (tb.size : Int) < (ta.size : Int) ∧ ¬ n = m) ∨ (¬ (tb.size : Int) < (ta.size : Int) ∧ n = m) := by
    by_cases h1 : (tb.size : Int) < (ta.size : Int)
    · left
      have : ¬ n ≤ m := fun h => by have := hmono h; omega
      exact ⟨h1, by omega, by omega⟩
    · by_cases h2 : n = m
      · exact .inr (.inr ⟨h1, h2⟩)
      · exact .inr (.inl ⟨h1, h2⟩)
  clear hla hlb hta htb la1 la2 hmono hinj za zb
  go_enter Try.func15, Try.ntmps15
  go_wp2_with fail
  refine (num_new (base := w.heap.size) hA0 (Nat.le_refl _) n hn).mono ?_
  rintro e w3 ⟨rfl, va, h3, o3⟩
  have hB3 := hB0.only o3 hB0.lt (by simp)
  go_wp2_with fail
  refine (num_new (base := w.heap.size) hB3 (Nat.le_add_right _ 1) m hm).mono ?_
  rintro e w4 ⟨rfl, vb, h4, o4⟩
  obtain ⟨hka, hkb⟩ := two_writers hb2 (Nat.le_refl _) (Nat.le_add_right _ 1) (by omega) hB0 h3 o3 h4 o4
  clear hb2 hB0 h3 o3 h4 o4 hB3 hA0
  generalize w.heap.size + 1 = gb at *
  rcases hcase with ⟨q1, q2, q3⟩ | ⟨q1, q3⟩ | ⟨q1, q3⟩
  all_goals
    first
      | (have k3 : (ta.toList == tb.toList) = false := by
           rw [ByteArray.toList_eq, ByteArray.toList_eq, beq_eq_false_iff_ne]
           intro h; exact q3 (hi2 (ba_ext (Array.ext' h)))
         have k2 : ((n : Int) == (m : Int)) = false := by rw [beq_eq_false_iff_ne]; omega)
      | (have k3 : (ta.toList == tb.toList) = true := by rw [hi3 q3]; exact beq_self_eq_true _
         have k2 : ((n : Int) == (m : Int)) = true := by rw [beq_iff_eq]; omega)
    try have q2n : ¬ n ≤ m := by omega
    clear hi2 hi3 q3
    go_wp2_with fail
    refine (aw_text hka ta hTa.out).mono ?_
    rintro e wx ⟨rfl, rfl⟩
    go_wp2_with fail
    refine (aw_text hkb tb hTb.out).mono ?_
    rintro e wx ⟨rfl, rfl⟩
    go_wp2_with fail
    refine (aw_text hka ta hTa.out).mono ?_
    rintro e wx ⟨rfl, rfl⟩
    go_wp2_with fail
    refine (aw_text hka ta hTa.out).mono ?_
    rintro e wx ⟨rfl, rfl⟩
    go_wp2_with fail
    refine (aw_text hka ta hTa.out).mono ?_
    rintro e wx ⟨rfl, rfl⟩
    go_wp2_with fail
    refine (aw_text hkb tb hTb.out).mono ?_
    rintro e wx ⟨rfl, rfl⟩
    go_wp2_with fail
    refine (rd_new hka.2.1 hka.2.2 s').mono ?_
    rintro e w5 ⟨rfl, r5, b5⟩
    have hLl : s'.data.toList.length = s'.size := by rw [Array.length_toList]; rfl
    clear hka hkb k3 k2 q1 g1 g2 hTa hTb b5 hm0 hm1 hm2 hmin hs'
    generalize w4.heap.size = gr at *
    obtain ⟨R, hR⟩ : ∃ R, numF 10 s'.data.toList 0 0 = R := ⟨_, rfl⟩
    cases R with
    | error er =>
      have her := numF_err 10 0 0 _ er hR
      have v1 : (((⟨s', 0⟩ : RD).numV : Nat) : Int) = 0 := by rw [RD.numV, if_pos rfl, hR]; rfl
      have v2 : (⟨s', 0⟩ : RD).numX = ⟨s', er⟩ := by rw [RD.numX, if_pos rfl, hR]
      have hend : (((⟨s', er⟩ : RD).endV : Nat) : Int) = (er : Int) := by rw [err_end (show ¬ (⟨s', er⟩ : RD).e = 0 from by show ¬ er = 0; omega)]
      have hne : ¬ (er : Int) = 0 := by omega
      have Hbn := Lib.hid (show ((er : Int) != 0) = true by simp; omega)
      clear hR her
      go_wp2_with fail
      refine (ar_num r5 0 v1 v2).mono ?_
      rintro e w6 ⟨rfl, r6, m6⟩
      clear r5 m6 v1 v2
      go_wp2_with fail
      refine (ar_left r6 (s'.size : Int) rfl).mono ?_
      rintro e wx ⟨rfl, rfl⟩
      go_wp2_with fail
      refine (ar_end r6 (er : Int) hend).mono ?_
      rintro e wx ⟨rfl, rfl⟩
      go_wp2_with fail
      refine (wireFixed_any _).mono ?_
      rintro e w7 ⟨rfl, hb7⟩
      have H4 := Lib.hid (below_step hb7 rfl r6.2.2.1)
      clear hb7 r6 hend
      go_wp2
      go_ret
      first | exact ⟨rfl, H4.out⟩ | exact ⟨by show Ending.returned (Value.bool ((er : Int) != 0)) = _; rw [Hbn.out], H4.out⟩
    | ok p =>
      obtain ⟨v, k⟩ := p
      obtain ⟨hk1, hk2, hback⟩ := numF_back hR
      have hv := numF_lt 10 0 0 _ v k (by decide) hR
      have v1 : (((⟨s', 0⟩ : RD).numV : Nat) : Int) = (v : Int) := by rw [RD.numV, if_pos rfl, hR]
      obtain ⟨s2, hs2⟩ : ∃ s2, s'.extract k s'.size = s2 := ⟨_, rfl⟩
      have v2 : (⟨s', 0⟩ : RD).numX = ⟨s2, 0⟩ := by rw [RD.numX, if_pos rfl, hR, ← hs2]
      obtain ⟨lf, hlf⟩ : ∃ lf, s2.size = lf := ⟨_, rfl⟩
      have hsum : lf + k = s'.size := by rw [← hlf, ← hs2, ByteArray.size_extract]; omega
      have v3 : (((⟨s2, 0⟩ : RD).s.size : Nat) : Int) = (lf : Int) := by show ((s2.size : Nat) : Int) = _; rw [hlf]
      obtain ⟨tc, htc⟩ : ∃ tc, (⟨(numL v).toArray⟩ : ByteArray) = tc := ⟨_, rfl⟩
      have hpre : s'.extract 0 k = tc := by
        rw [← htc]; apply ba_ext; apply Array.ext'
        show (s'.extract 0 k).data.toList = _
        rw [hback, Lib.extract_data]; simp
      have Htc := Lib.hid ((text_of (numL v)).trans htc)
      have c1 : ¬ (lf : Int) < 0 := by omega
      have c2 : ¬ (s'.size : Int) < (lf : Int) := by omega
      have c3 : ((lf : Int) == (s'.size : Int)) = false := by rw [beq_eq_false_iff_ne]; omega
      have c4 : (s'.size : Int) - (lf : Int) = (k : Int) := by omega
      have c5 : IntKind.i64.wrap (k : Int) = (k : Int) := by rw [IntKind.wrap_i64]; omega
      have c6 : (k : Int) ≤ (s'.size : Int) := by omega
      have c7 : k ≤ s'.size := by omega
      clear hR hback htc hlf hs2 hsum hk1 hk2
      go_wp2_with fail
      refine (ar_num r5 (v : Int) v1 v2).mono ?_
      rintro e w6 ⟨rfl, r6, m6⟩
      clear r5 m6 v1 v2
      go_wp2_with fail
      refine (ar_left r6 (lf : Int) v3).mono ?_
      rintro e wx ⟨rfl, rfl⟩
      have hb6 := r6.2.2.1
      clear r6 v3
      have hz6 := hb6.size
      go_wp2_with fail
      refine (num_new (base := w.heap.size) (Blk.new w6 62 _) hz6 v hv).mono ?_
      rintro e w7 ⟨rfl, vc, h7, o7⟩
      have hkc : WK w w7 w6.heap.size ⟨numL v, 0⟩ := by
        have hb := hb6.trans ((alloc_below' w6 (.cells #[.slice none 0 0, .int .i64 0] 62)).mono hz6)
        have hbb := hb.trans ((o7.mono (hb.size) (l' := [w6.heap.size]) (fun _ _ h => h)).below (by simp; exact hz6))
        exact ⟨⟨vc, h7⟩, hbb, hbb.size⟩
      clear h7 o7 hb6 hz6
      generalize w6.heap.size = gc at *
      go_wp2_with fail
      go_region_held3 (fun wx => WK w wx gc ⟨numL v, 0⟩) (first | exact hkc.below ((Below.refl _ _).drew) | exact WK.below (by assumption) hbq | assumption | (go_keep; done))
        (first
          | (go_at_call 46; refine (aw_text (by assumption) tc Htc.out).mono ?_; rintro e wx ⟨rfl, rfl⟩)
          | (go_at_call 49; refine (wireFixed_any _).mono ?_; rintro e w' ⟨rfl, hbq⟩))
      rename_i hHeld
      have H4 := Lib.hid hHeld.2.1
      clear hHeld hkc
      go_wp2
      go_ret
      exact ⟨rfl, H4.out⟩
theorem wireNums_go (n : Int) (hn : (Lit.int .u64 n).wf = true) (m : Int) (hm : (Lit.int .u64 m).wf = true) (s : ByteArray) (hs : s.size ≤ maxLen) (w : World) :
    Calls Try.prog 15 #[.int .u64 n, .int .u64 m, .string s] w fun e w' => e = .returned (.bool true) ∧ Below w.heap.size w w' := by
  obtain ⟨a, ha, rfl⟩ := u64_of_wf hn
  obtain ⟨b, hb, rfl⟩ := u64_of_wf hm
  exact wireNums_walk a b ha hb s hs w
end Go.Proofs.Ytjmdiobnappgkaa
