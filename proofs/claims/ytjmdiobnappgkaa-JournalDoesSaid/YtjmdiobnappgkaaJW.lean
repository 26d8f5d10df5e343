/-
  Layer 15 (journal): JournalKeeps walked.
-/
import Derived.Test.YtjmdiobnappgkaaJV
namespace Go.Proofs.Ytjmdiobnappgkaa
open Go.RowKit
set_option linter.unusedVariables false
set_option linter.unusedSimpArgs false

theorem opvs_get : ∀ (l : List OpM) (k : Nat) (h : k < l.length), (opvs l)[k * 4]? = some (.int .i64 l[k].K) ∧ (opvs l)[k * 4 + 1]? = some (.string l[k].S) ∧ (opvs l)[k * 4 + 2]? = some l[k].u ∧ (opvs l)[k * 4 + 3]? = some (.int .i64 l[k].N)
  | [], k, h => by simp at h
  | o :: l, 0, h => by simp [opvs, opv]
  | o :: l, k + 1, h => by
    have ih := opvs_get l k (by simpa using h)
    have e : opvs (o :: l) = opv o ++ opvs l := by simp [opvs]
    rw [e, show (k + 1) * 4 = 4 + k * 4 by omega]
    have ho : (opv o).length = 4 := rfl
    refine ⟨?_, ?_, ?_, ?_⟩
    · rw [List.getElem?_append_right (by omega), ho, Nat.add_sub_cancel_left]; exact ih.1
    · rw [List.getElem?_append_right (by omega), ho, show 4 + k * 4 + 1 - 4 = k * 4 + 1 by omega]; exact ih.2.1
    · rw [List.getElem?_append_right (by omega), ho, show 4 + k * 4 + 2 - 4 = k * 4 + 2 by omega]; exact ih.2.2.1
    · rw [List.getElem?_append_right (by omega), ho, show 4 + k * 4 + 3 - 4 = k * 4 + 3 by omega]; exact ih.2.2.2
/-- A cut script, read call by call. -/
def ScriptAt (w : World) (A : Option Addr) (l : List OpM) : Prop := ∀ k (h : k < l.length), ∃ b, A = some ⟨b, 0, none⟩ ∧ w.cell? ⟨b, k * 4, none⟩ = some (.int .i64 l[k].K) ∧ w.cell? ⟨b, k * 4 + 1, none⟩ = some (.string l[k].S) ∧ w.cell? ⟨b, k * 4 + 2, none⟩ = some l[k].u ∧ w.cell? ⟨b, k * 4 + 3, none⟩ = some (.int .i64 l[k].N) ∧ Small l[k] ∧ SReadT w l[k].u l[k].L
theorem script_at {w : World} {base n : Nat} {v : Value} {l : List OpM} (h : w.ownsRow base 96 4 v l.length (opvs l)) (hok : OpsOk w l) : ∃ A c, v = .slice A l.length c ∧ ScriptAt w A l := by
  obtain ⟨A, c, hv, _⟩ := own_form h
  refine ⟨A, c, hv, fun k hk => ?_⟩
  rcases h.2 with ⟨hv2, hn⟩ | ⟨g, cap, cur, hv2, hg, hh, hn, hmx, hcs, htk⟩
  · omega
  · rw [hv2] at hv
    injection hv with e1 e2 e3
    obtain ⟨g0, g1, g2, g3⟩ := opvs_get l k hk
    have hcell : ∀ j u, (opvs l)[j]? = some u → w.cell? ⟨g, j, none⟩ = some u := fun j u hu => by
      have := World.ownsRow.cells h (by rw [hv2]; rfl) j u hu
      rw [Addr.add_lit, Nat.zero_add] at this; exact this
    exact ⟨g, e1.symm, hcell _ _ g0, hcell _ _ g1, hcell _ _ g2, hcell _ _ g3, (hok _ (List.getElem_mem hk)).1, (hok _ (List.getElem_mem hk)).2⟩

/-- What was laid: of the script, or nothing. -/
def LaidAt (w1 : World) (lv : Value) (M : List ByteArray) : Prop := (SReadT w1 lv M) ∨ (M = [] ∧ ∃ A c, lv = .slice A 0 c)
theorem LaidAt.read {w1 w : World} {lv : Value} {M : List ByteArray} (h : LaidAt w1 lv M) (hb : Below w1.heap.size w1 w) : SRead w lv M := by
  rcases h with h | ⟨rfl, A, c, rfl⟩
  · exact h.read.below hb rfl
  · exact ⟨A, c, rfl, by decide, fun i hi => by simp at hi⟩
theorem SRead.take {w : World} {A : Option Addr} {n c : Nat} {L : List ByteArray} (h : SRead w (.slice A n c) L) {k : Nat} (hk : k ≤ L.length) : SRead w (.slice A k c) (L.take k) := by
  obtain ⟨A', c', he, hm, hc⟩ := h
  injection he with e1 e2 e3
  subst e1 e3
  have hl : (L.take k).length = k := by rw [List.length_take]; omega
  refine ⟨A, c, by rw [hl], by omega, fun i hi => ?_⟩
  rw [hl] at hi
  obtain ⟨b, o, h1, h2, h3⟩ := hc i (by omega)
  exact ⟨b, o, h1, h2, by rw [h3, List.getElem_take]⟩
theorem SOwn.cap {base : Nat} {w : World} {v : Value} {L : List ByteArray} (h : SOwn base w v L) : ∃ A cap, v = .slice A L.length cap ∧ L.length ≤ cap ∧ cap ≤ maxLen := by
  rcases h.2 with ⟨hv, hn⟩ | ⟨g, cap, cur, hv, _, _, hn, hm, _⟩
  · exact ⟨none, 0, by rw [hv, hn], by omega, by decide⟩
  · exact ⟨_, _, hv, hn, hm⟩
theorem SReadT.belowB {w1 w : World} {v : Value} {L : List ByteArray} (h : SReadT w1 v L) (hb : Below w1.heap.size w1 w) : SReadT w v L := h.spare (Spare.ofBelow (T := []) hb) (by simp)
set_option maxRecDepth 100000 in
set_option maxHeartbeats 8000000 in
theorem journalKeeps_walk (A : Option Addr) (len cap : Nat) (ops : Nat → OpM) (w : World) (ho : IsScript w A len ops) :
    Calls Try.prog 20 #[.slice A len cap] w fun e w' => e = .returned (.bool true) ∧ Below w.heap.size w w' := by
  obtain ⟨i0, hi, hz0, hz1, hz2⟩ := info_parts winfo9
  go_enter Try.func20, Try.ntmps20
  go_wp2_with fail
  refine (cut_any A len cap ops 30 (by decide) w ho).mono ?_
  rintro e w1 ⟨v3, l, rfl, hrow, hl30, hok, hb1⟩
  obtain ⟨A3, c3, hv3, hsc⟩ := script_at (n := 0) hrow hok
  subst hv3
  have HSc := Lib.hid hsc; have Hb1 := Lib.hid hb1
  have hz1' := hb1.size
  clear hrow hok hsc hb1 ho
  go_wp2_with fail
  refine (dk_new 1048576 (by decide) w1).mono ?_
  rintro e w2 ⟨rfl, h2⟩
  go_wp2_with fail
  refine (aj_open h2 _ (open_empty 1048576)).mono ?_
  rintro e w3 ⟨gj0, v0, rfl, h3, -, -, -, -, -⟩
  clear h2
  have hal := bthen (alloc_below' w3 (.cells #[] 9)) (alloc_below' (w3.alloc (.cells #[] 9)) (.cells #[] 9))
  have hn1 : SOwn w1.heap.size ((w3.alloc (.cells #[] 9)).alloc (.cells #[] 9)) (.slice (some ⟨w3.heap.size, 0, none⟩) 0 0) [] := (SOwn.new h3.sz).below (alloc_below' _ _)
  have hn2 : LaidAt w1 (.slice (some ⟨w3.heap.size + 1, 0, none⟩) 0 0) [] := .inr ⟨rfl, _, _, rfl⟩
  have hJ0 : JI w1 ((w3.alloc (.cells #[] 9)).alloc (.cells #[] 9)) gj0 w1.heap.size v0 (stJ 1048576 []) 0 (.slice (some ⟨w3.heap.size, 0, none⟩) 0 0) (stJ 1048576 []).l :=
    ⟨h3.below hal, hn1, Ap.of (B := w3.heap.size) (fun i hi => by simp [Value.ownBlock] at hi; omega) (fun i hi => (h3.own.lt hi).2)⟩
  clear hal hn1 h3
  go_wp2
  generalize (w3.alloc (.cells #[] 9)).alloc (.cells #[] 9) = w4 at *
  go_loopw [6, 7, 8, 9, 10, 11] (fun jv av sv lv cv iv wr => ∃ (k gj : Nat) (v : Value) (J : JS) (M : List ByteArray), k ≤ l.length ∧ iv = .int .i64 (k : Int) ∧ jv = .pointer (some ⟨gj, 0, none⟩) ∧ sv = .int .i64 (J.sure : Int) ∧ cv = .bool J.cut ∧ KI J M ∧ J.l.length ≤ k + 6 ∧ M.length ≤ 6 ∧ LaidAt w1 lv M ∧ JI w1 wr gj w1.heap.size v J k av J.l) (fun _ _ _ _ _ iv _ => l.length - (intOf iv).toNat)
  case atStart => exact ⟨0, gj0, v0, stJ 1048576 [], [], Nat.zero_le _, rfl, rfl, rfl, rfl, KI.start _ _, by show 0 ≤ _; omega, by simp, hn2, hJ0⟩
  case round =>
    clear hn2 hJ0
    obtain ⟨k, gj, v, J, M, hk, rfl, rfl, rfl, rfl, hki, hjl, hml, hrd, hp⟩ := hrel
    by_cases hlt : k < l.length
    · obtain ⟨b, rfl, c0, c1, c2, c3', hsm, hru⟩ := HSc.out k hlt
      generalize l[k] = op at c0 c1 c2 c3' hsm hru
      obtain ⟨K, S, u, L, N⟩ := op
      simp only at c0 c1 c2 c3' hru
      have hbw := hp.jk.b0
      have d0 := cell_belowB hbw rfl c0
      have d1 := cell_belowB hbw rfl c1
      have d2 := cell_belowB hbw rfl c2
      have d3 := cell_belowB hbw rfl c3'
      obtain ⟨Au, cu, rfl, -, -⟩ := id hru
      have hal := alloc_below' wr (.cells #[.int .i64 K, .string S, .slice Au L.length cu, .int .i64 N] 96)
      have hblk := Blk.new wr 96 #[.int .i64 K, .string S, .slice Au L.length cu, .int .i64 N]
      have hp2 := hp.below hal
      have hkl : (k : Int) < (l.length : Int) := by omega
      have HKI := Lib.hid hki; have Hsm := Lib.hid hsm; have Hp := Lib.hid hp2; have Hru := Lib.hid hru; have Hrd := Lib.hid hrd; have Hblk := Lib.hid hblk
      clear c0 c1 c2 c3' hbw hru hal hblk hp hp2 hrd hki hsm
      have hKc : K = 0 ∨ K = 1 ∨ K = 2 ∨ (¬ K = 0 ∧ ¬ K = 1 ∧ ¬ K = 2) := by omega
      rcases hKc with rfl | rfl | rfl | ⟨hK0, hK1, hK2⟩
      · have hSz : S.size ≤ 200 := Hsm.out.s
        obtain ⟨ka, kb, kc⟩ := HKI.out.add (s := S)
        by_cases hr : looseR J S = 0
        · obtain ⟨kb1, kb2, kb3⟩ := kb hr
          have Ka := Lib.hid ka; have K1 := Lib.hid kb1; have K2 := Lib.hid kb2; have K3 := Lib.hid kb3; have Hr := Lib.hid hr
          clear ka kb kc kb1 kb2 kb3 hr
          go_wp2_with fail
          refine (aj_add Hp.out.jk (by omega) (by omega) S (by omega) 0 _ ⟨Hr.out, rfl⟩).mono ?_
          rintro e w5 ⟨rfl, p⟩
          have p' := p
          obtain ⟨v', -, -, sp, -⟩ := p'
          obtain ⟨v5, q5⟩ := Hp.out.post p
          have blk5 := sp.blk Hblk.out (by decide)
          have b1 : w5.cell? ⟨wr.heap.size, 1, none⟩ = some (.string S) := blk5.cell 1
          have hown := q5.ow
          unfold SOwn at hown
          have hbase := q5.jk.sz
          have Q5 := Lib.hid q5
          clear p sp q5 blk5
          go_wp2_with (at_builtin; refine wpList_append1 rfl _ _ 94 rfl w1.heap.size 9 i0 (.string ⟨#[]⟩) 16 Try.underlying94 hi hz0 hz1 hz2 rfl _ _ _ rfl (hown.alloc _) w5.heap.size rfl (.string S) (by simp [go_sem]) rfl (by unfold maxLen; omega) (by omega) (by simp; omega) ?_)
          intro u' w6 hown6 hg6 hv6
          obtain ⟨A', c', rfl, hl6⟩ := own_form hown6
          have q6 := Q5.out.append _ hg6 hown6 (by simpa using hv6)
          rw [← K1.out] at q6
          have Q6 := Lib.hid q6
          clear hown6 hg6 hv6 hl6 hown q6
          go_wp2
          refine ⟨⟨k + 1, gj, _, addJ J S, M, by omega, by simp, rfl, by rw [K2.out]; simp, by rw [K3.out], Ka.out, by rw [K1.out, List.length_append]; simp; omega, hml, Hrd.out, Q6.out⟩, ?_⟩
          simp [intOf]; omega
        · have kc' := kc hr
          have Kc := Lib.hid kc'
          have hne0 : ((looseR J S : Int) == 0) = false := by rw [beq_eq_false_iff_ne]; exact hr
          have Had := Lib.hid (aj_add Hp.out.jk (by omega) (by omega) S (by omega) (looseR J S) J ⟨rfl, kc'⟩)
          generalize looseR J S = R at *
          clear ka kb kc hr kc'
          go_wp2_with fail
          refine Had.out.mono ?_
          rintro e w5 ⟨rfl, p⟩
          obtain ⟨v5, q5⟩ := Hp.out.post p
          have Q5 := Lib.hid q5
          clear p q5
          go_wp2
          refine ⟨⟨k + 1, gj, _, J, M, by omega, by simp, rfl, rfl, rfl, HKI.out, by omega, hml, Hrd.out, Q5.out⟩, ?_⟩
          simp [intOf]; omega
      · have hSz : S.size ≤ 200 := Hsm.out.s
        obtain ⟨ka, kb, kc⟩ := HKI.out.loose (s := S)
        by_cases hr : looseR J S = 0
        · obtain ⟨kb1, kb2, kb3⟩ := kb hr
          have Ka := Lib.hid ka; have K1 := Lib.hid kb1; have K2 := Lib.hid kb2; have K3 := Lib.hid kb3; have Hr := Lib.hid hr
          clear ka kb kc kb1 kb2 kb3 hr
          go_wp2_with fail
          refine (aj_loose Hp.out.jk (by omega) (by omega) S (by omega) 0 _ ⟨Hr.out, rfl⟩).mono ?_
          rintro e w5 ⟨rfl, p⟩
          have p' := p
          obtain ⟨v', -, -, sp, -⟩ := p'
          obtain ⟨v5, q5⟩ := Hp.out.post p
          have blk5 := sp.blk Hblk.out (by decide)
          have b1 : w5.cell? ⟨wr.heap.size, 1, none⟩ = some (.string S) := blk5.cell 1
          have hown := q5.ow
          unfold SOwn at hown
          have hbase := q5.jk.sz
          have Q5 := Lib.hid q5
          clear p sp q5 blk5
          go_wp2_with (at_builtin; refine wpList_append1 rfl _ _ 94 rfl w1.heap.size 9 i0 (.string ⟨#[]⟩) 16 Try.underlying94 hi hz0 hz1 hz2 rfl _ _ _ rfl (hown.alloc _) w5.heap.size rfl (.string S) (by simp [go_sem]) rfl (by unfold maxLen; omega) (by omega) (by simp; omega) ?_)
          intro u' w6 hown6 hg6 hv6
          obtain ⟨A', c', rfl, hl6⟩ := own_form hown6
          have q6 := Q5.out.append _ hg6 hown6 (by simpa using hv6)
          rw [← K1.out] at q6
          have Q6 := Lib.hid q6
          clear hown6 hg6 hv6 hl6 hown q6
          go_wp2
          refine ⟨⟨k + 1, gj, _, looseJ J S, M, by omega, by simp, rfl, by rw [K2.out], by rw [K3.out], Ka.out, by rw [K1.out, List.length_append]; simp; omega, hml, Hrd.out, Q6.out⟩, ?_⟩
          simp [intOf]; omega
        · have kc' := kc hr
          have Kc := Lib.hid kc'
          have hne0 : ((looseR J S : Int) == 0) = false := by rw [beq_eq_false_iff_ne]; exact hr
          have Had := Lib.hid (aj_loose Hp.out.jk (by omega) (by omega) S (by omega) (looseR J S) J ⟨rfl, kc'⟩)
          generalize looseR J S = R at *
          clear ka kb kc hr kc'
          go_wp2_with fail
          refine Had.out.mono ?_
          rintro e w5 ⟨rfl, p⟩
          obtain ⟨v5, q5⟩ := Hp.out.post p
          have Q5 := Lib.hid q5
          clear p q5
          go_wp2
          refine ⟨⟨k + 1, gj, _, J, M, by omega, by simp, rfl, rfl, rfl, HKI.out, by omega, hml, Hrd.out, Q5.out⟩, ?_⟩
          simp [intOf]; omega
      · have hL6 : L.length ≤ 6 := Hsm.out.l
        have hLs : ∀ s ∈ L, s.size ≤ 100000 := fun s hs => by have := Hsm.out.ls s hs; omega
        have hu2 := Hru.out.belowB Hp.out.jk.b0
        have hren := HKI.out.renew (L := L) (n := N)
        have HLs := Lib.hid hLs; have Hu2 := Lib.hid hu2
        clear hLs hu2
        rcases hren with ⟨r0, hc0, e1, e2, e3, ki⟩ | ⟨r0, e1⟩ | ⟨r0, hc0, e1, e2, e3, ki⟩
        · have R0 := Lib.hid r0; have C0 := Lib.hid hc0; have E1 := Lib.hid e1; have E2 := Lib.hid e2; have E3 := Lib.hid e3; have KI2 := Lib.hid ki
          clear r0 hc0 e1 e2 e3 ki
          go_wp2_with fail
          refine (aj_renew Hp.out.jk (by omega) (by omega) _ L Hu2.out (by omega) HLs.out N 0 _ ⟨R0.out, rfl⟩).mono ?_
          rintro e w5 ⟨rfl, p⟩
          have p' := p
          obtain ⟨v', -, -, sp, -⟩ := p'
          obtain ⟨v5, q5⟩ := Hp.out.post p
          have blk5 := sp.blk Hblk.out (by decide)
          have b2 : (w5.alloc (.cells #[] 9)).cell? ⟨wr.heap.size, 2, none⟩ = some (.slice Au L.length cu) := (blk5.alloc _).cell 2
          have hal5 := alloc_below' w5 (.cells #[] 9)
          have hown : (w5.alloc (.cells #[] 9)).ownsRow w1.heap.size 9 1 (.slice (some ⟨w5.heap.size, 0, none⟩) 0 0) 0 [] := SOwn.new q5.jk.sz
          have hsrc : Src Try.prog 1 94 (.slice Au L.length cu) L.length (svals L) (w5.alloc (.cells #[] 9)) := (Hru.out.belowB (below_stepB q5.jk.b0 hal5 q5.jk.sz)).read.src
          have hbase : w1.heap.size ≤ (w5.alloc (.cells #[] 9)).heap.size := Nat.le_trans q5.jk.sz hal5.size
          have Q5 := Lib.hid q5
          clear p sp q5 blk5
          go_wp2_with (at_builtin; refine wpList_append_o rfl _ _ 94 94 rfl w1.heap.size 9 i0 _ 1 16 Try.underlying94 hi hz0 hz1 hz2 rfl _ _ _ rfl hown _ L.length (svals L) rfl hsrc (by unfold maxLen; omega) (by omega) hbase ?_)
          intro v' w6 hown6 hg6 hv6
          have hown7 : w6.ownsRow w1.heap.size 9 1 v' L.length (svals L) := by simpa using hown6
          obtain ⟨A', c', rfl, hl6⟩ := own_form hown7
          have hb6 : Below w5.heap.size w5 w6 := hal5.grown hg6 (by simp) (by intro i hi; simp [Value.ownBlock] at hi; omega)
          have hap : Ap (.slice A' L.length c') v5 := Ap.of (B := w5.heap.size) (fun i hi => by
            rcases hv6 with h | h
            · rw [h] at hi; simp [Value.ownBlock] at hi; omega
            · rw [h] at hi; injection hi with hi; omega) (fun i hi => (Q5.out.jk.own.lt hi).2)
          have hq6 : JI w1 w6 gj w1.heap.size v5 (renewJ J L N) (k + 1) (.slice A' L.length c') (renewJ J L N).l := ⟨Q5.out.jk.below hb6, by rw [E1.out]; exact hown7, hap⟩
          have Q6 := Lib.hid hq6
          clear hown6 hown7 hg6 hv6 hl6 hown hb6 hap hq6 hsrc hbase hal5 Q5
          go_wp2
          refine ⟨⟨k + 1, gj, _, renewJ J L N, M, by omega, by simp, rfl, by rw [E2.out], by rw [E3.out, C0.out], KI2.out, by rw [E1.out]; omega, hml, Hrd.out, Q6.out⟩, ?_⟩
          simp [intOf]; omega
        · have hne0 : ((renewR J L N : Int) == 0) = false := by rw [beq_eq_false_iff_ne]; exact r0
          have Hre := Lib.hid (aj_renew Hp.out.jk (by omega) (by omega) _ L Hu2.out (by omega) HLs.out N (renewR J L N) J ⟨rfl, e1⟩)
          generalize renewR J L N = R at *
          clear r0 e1
          obtain ⟨ct, hct⟩ : ∃ ct, J.cut = ct := ⟨_, rfl⟩
          cases ct
          all_goals
            go_wp2_with fail
            refine Hre.out.mono ?_
            rintro e w5 ⟨rfl, p⟩
            obtain ⟨v5, q5⟩ := Hp.out.post p
            clear p
            go_wp2_with fail
            refine (j_cutB q5.jk.blk _ hct).mono ?_
            rintro e wx ⟨rfl, rfl⟩
            have Q5 := Lib.hid q5
            clear q5
            go_wp2
            refine ⟨⟨k + 1, gj, _, J, M, by omega, by simp, rfl, rfl, by rw [hct], HKI.out, by omega, hml, Hrd.out, Q5.out⟩, ?_⟩
            simp [intOf]; omega
        · have hne0 : ((renewR J L N : Int) == 0) = false := by rw [beq_eq_false_iff_ne]; exact r0
          have E1 := Lib.hid e1; have E2 := Lib.hid e2; have E3 := Lib.hid e3; have KI2 := Lib.hid ki
          have Hre := Lib.hid (aj_renew Hp.out.jk (by omega) (by omega) _ L Hu2.out (by omega) HLs.out N (renewR J L N) (renewJ J L N) ⟨rfl, rfl⟩)
          generalize renewR J L N = R at *
          generalize renewJ J L N = J' at *
          clear r0 e1 e2 e3 ki
          go_wp2_with fail
          refine Hre.out.mono ?_
          rintro e w5 ⟨rfl, p⟩
          have p' := p
          obtain ⟨v', -, -, sp, -⟩ := p'
          obtain ⟨v5, q5⟩ := Hp.out.post p
          have blk5 := sp.blk Hblk.out (by decide)
          have b2 : w5.cell? ⟨wr.heap.size, 2, none⟩ = some (.slice Au L.length cu) := blk5.cell 2
          clear p sp blk5
          go_wp2_with fail
          refine (j_cutB q5.jk.blk true E1.out).mono ?_
          rintro e wx ⟨rfl, rfl⟩
          rw [← E2.out] at q5
          have Q5 := Lib.hid q5
          clear q5
          go_wp2
          refine ⟨⟨k + 1, gj, _, J', L, by omega, by simp, rfl, by rw [E3.out], by rw [E1.out], KI2.out, by rw [E2.out]; omega, hL6, .inl Hru.out, Q5.out⟩, ?_⟩
          simp [intOf]; omega
      · have hN := Hsm.out.n
        simp only at hN
        have hokd := Hp.out.jk.dk.2.2.1
        obtain ⟨hc1, hc2, hc3, hc4⟩ := HKI.out.crash hokd N M
        have hJl : (openJ (crashD J.d N)).l.length ≤ k + 6 := by
          rcases hc4 with ⟨m, -, -, h⟩ | ⟨-, h⟩
          · rw [h, List.length_take]; omega
          · rw [h]; omega
        obtain ⟨J', hJ'⟩ : ∃ J', openJ (crashD J.d N) = J' := ⟨_, rfl⟩
        rw [hJ'] at hc1 hc2 hc3 hc4 hJl
        have Hc1 := Lib.hid hc1; have Hc2 := Lib.hid hc2; have Hc3 := Lib.hid hc3; have HJ' := Lib.hid hJ'
        have hlen' := hc4
        have hcase : (J.sure ≤ J'.l.length ∧ J'.l.length ≤ J.l.length ∧ J'.l = J.l.take J'.l.length) ∨ ((J.cut = true ∧ J'.l = M) ∧ ((J.sure ≤ J'.l.length ∧ J'.l.length ≤ J.l.length ∧ ¬ J'.l = J.l.take J'.l.length) ∨ (¬ J.sure ≤ J'.l.length) ∨ (J.sure ≤ J'.l.length ∧ ¬ J'.l.length ≤ J.l.length))) := by
          rcases hc4 with ⟨m, h1, h2, h3⟩ | ⟨h1, h2⟩
          · left
            have hl : J'.l.length = m := by rw [h3, List.length_take]; omega
            exact ⟨by omega, by omega, by rw [hl]; exact h3⟩
          · by_cases q1 : J.sure ≤ J'.l.length
            · by_cases q2 : J'.l.length ≤ J.l.length
              · by_cases q3 : J'.l = J.l.take J'.l.length
                · exact .inl ⟨q1, q2, q3⟩
                · exact .inr ⟨⟨h1, h2⟩, .inl ⟨q1, q2, q3⟩⟩
              · exact .inr ⟨⟨h1, h2⟩, .inr (.inr ⟨q1, q2⟩)⟩
            · exact .inr ⟨⟨h1, h2⟩, .inr (.inl q1)⟩
        have Hcase := Lib.hid hcase
        clear hc1 hc2 hc3 hc4 hJ' hlen' hcase hokd
        go_wp2_with fail
        refine (dz_crash_at (d' := crashD J.d N) Hp.out.jk.dk N hN.1 hN.2 rfl).mono ?_
        rintro e w5 ⟨rfl, d5, s5, z5⟩
        have o5 := Hp.out.disk0 s5
        clear s5 z5 d0 d1 d2 d3
        go_wp2_with fail
        refine (aj_open d5 J' HJ'.out).mono ?_
        rintro e w6 ⟨gk, v6, rfl, h6, -, -, s6, -, -⟩
        have o6 := o5.rows (RowsL.ofSpare s6 (by decide) []) (by simp)
        clear d5 o5 s6
        go_wp2_with fail
        refine (j_records h6 (by omega)).mono ?_
        rintro e w8 ⟨⟨u8, rfl, ou⟩, b8⟩
        have h8 := h6.below b8
        have o8 := o6.below b8
        have apu : Ap u8 v6 := Ap.of (B := w6.heap.size) (fun i hi => (ou.lt hi).1) (fun i hi => (h6.own.lt hi).2)
        have ou1 := ou.mono h6.sz
        clear h6 o6 b8 ou
        obtain ⟨A8, c8, hu8⟩ := ou1.len
        subst hu8
        obtain ⟨A7, c7, hu7, hcap7, hcm7⟩ := o8.cap
        subst hu7
        have hcm7' : c7 ≤ 9223372036854775807 := hcm7
        have H8 : JI w1 w8 gk w1.heap.size v6 J' (k + 1) (.slice A8 J'.l.length c8) J'.l := ⟨h8.mono (Nat.zero_le _), ou1, apu⟩
        have hr8 := ou1.read (by unfold maxLen; omega)
        have hr7 := o8.read (by unfold maxLen; omega)
        have hrl := Hrd.out.read h8.b0
        clear h8 ou1 apu o8 hcm7
        have hcase2 : (J.sure ≤ J'.l.length ∧ J'.l.length ≤ J.l.length ∧ J'.l = J.l.take J'.l.length) ∨ (J.cut = true ∧ J'.l = M ∧ J.sure ≤ J'.l.length ∧ J'.l.length ≤ J.l.length ∧ ¬ J'.l = J.l.take J'.l.length) ∨ (J.cut = true ∧ J'.l = M ∧ ¬ J.sure ≤ J'.l.length) ∨ (J.cut = true ∧ J'.l = M ∧ J.sure ≤ J'.l.length ∧ ¬ J'.l.length ≤ J.l.length) := by
          rcases Hcase.out with h | ⟨⟨h1, h2⟩, h | h | h⟩
          · exact .inl h
          · exact .inr (.inl ⟨h1, h2, h⟩)
          · exact .inr (.inr (.inl ⟨h1, h2, h⟩))
          · exact .inr (.inr (.inr ⟨h1, h2, h⟩))
        clear Hcase
        rcases hcase2 with ⟨q1, q2, q3⟩ | ⟨hct, hM, q1, q2, q3⟩ | ⟨hct, hM, q1⟩ | ⟨hct, hM, q1, q2⟩
        focus
          have i1 : (J.sure : Int) ≤ (J'.l.length : Int) := by omega
          have i2 : (J'.l.length : Int) ≤ (J.l.length : Int) := by omega
          have i3 : (J'.l.length : Int) ≤ (c7 : Int) := by omega
          have i4 : J'.l.length ≤ c7 := by omega
          have hminL : ∀ wx, (Builtin.min_ #[3, 3] 3 #[.int .i64 (J'.l.length : Int), .int .i64 (J.l.length : Int)]).run Try.prog wx = .ok (.int .i64 (J'.l.length : Int)) wx := fun wx => run_min_int2 wx _ _ _ _ _ _ _ (by omega)
          have Q3 := Lib.hid q3; clear q3
          go_wp2_with fail
          refine (same_at hr8 (hr7.take q2) true (by simpa using Q3.out)).mono ?_
          rintro e w9 ⟨rfl, b9⟩
          have H9 := H8.below b9
          clear H8 hr8 hr7 hrl b9 hminL
          go_wp2_with fail
        rotate_left
        focus
          have i1 : (J.sure : Int) ≤ (J'.l.length : Int) := by omega
          have i2 : (J'.l.length : Int) ≤ (J.l.length : Int) := by omega
          have i3 : (J'.l.length : Int) ≤ (c7 : Int) := by omega
          have i4 : J'.l.length ≤ c7 := by omega
          have hminL : ∀ wx, (Builtin.min_ #[3, 3] 3 #[.int .i64 (J'.l.length : Int), .int .i64 (J.l.length : Int)]).run Try.prog wx = .ok (.int .i64 (J'.l.length : Int)) wx := fun wx => run_min_int2 wx _ _ _ _ _ _ _ (by omega)
          have Q3 := Lib.hid q3; have HM := Lib.hid hM; clear q3 hM
          go_wp2_with fail
          refine (same_at hr8 (hr7.take q2) false (by simpa using Q3.out)).mono ?_
          rintro e w9 ⟨rfl, b9⟩
          have H8' := H8.below b9
          have hr8' := hr8.below b9 rfl
          have hrl' := hrl.below b9 rfl
          clear H8 hr8 hr7 hrl b9 hminL
          go_wp2_with fail
          refine (same_at hr8' hrl' true (by simpa using HM.out)).mono ?_
          rintro e w10 ⟨rfl, b9⟩
          have H9 := H8'.below b9
          clear H8' hr8' hrl' b9
          go_wp2_with fail
        rotate_left
        focus
          have i1 : decide (J.sure ≤ J'.l.length) = false := by simpa using q1
          have HM := Lib.hid hM; clear hM
          go_wp2_with fail
          refine (same_at hr8 hrl true (by simpa using HM.out)).mono ?_
          rintro e w9 ⟨rfl, b9⟩
          have H9 := H8.below b9
          clear H8 hr8 hr7 hrl b9
          go_wp2_with fail
        rotate_left
        focus
          have i1 : (J.sure : Int) ≤ (J'.l.length : Int) := by omega
          have i2 : decide (J'.l.length ≤ J.l.length) = false := by simpa using q2
          have HM := Lib.hid hM; clear hM
          go_wp2_with fail
          refine (same_at hr8 hrl true (by simpa using HM.out)).mono ?_
          rintro e w9 ⟨rfl, b9⟩
          have H9 := H8.below b9
          clear H8 hr8 hr7 hrl b9
          go_wp2_with fail
        rotate_left
        all_goals
          try clear hct
          refine (aj_sure H9.jk (J'.l.length : Int) (by rw [Hc2.out])).mono ?_
          rintro e wx ⟨rfl, rfl⟩
          go_wp2_with fail
          refine (j_cutB H9.jk.blk false Hc1.out).mono ?_
          rintro e wx ⟨rfl, rfl⟩
          have Q9 := Lib.hid H9; clear H9
          go_wp2
          refine ⟨⟨k + 1, gk, _, J', M, by omega, by simp, rfl, by rw [Hc2.out], by rw [Hc1.out], Hc3.out, by omega, hml, Hrd.out, Q9.out⟩, ?_⟩
          simp [intOf]; omega
    · have hb := hp.jk.b0
      clear hp
      go_wp2_with fail
      refine (journalFixed_any _).mono ?_
      rintro e w12 ⟨rfl, b12⟩
      have H := Lib.hid (below_stepB (below_stepB Hb1.out hb hz1') b12 (Nat.le_trans hz1' hb.size))
      clear hb b12
      go_wp2
      go_ret
      exact ⟨rfl, H.out⟩
theorem journalKeeps_go (A : Option Addr) (len cap : Nat) (ops : Nat → OpM) {w' : World} (ho : IsScript w' A len ops) :
    Calls Try.prog 20 #[.slice A len cap] w' fun e w'' => e = .returned (.bool true) ∧ Below w'.heap.size w' w'' := journalKeeps_walk A len cap ops w' ho
end Go.Proofs.Ytjmdiobnappgkaa
