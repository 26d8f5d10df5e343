/-
  Layer 15 (journal): JournalDoes walked.
-/
import Derived.Test.YtjmdiobnappgkaaJD6
import Derived.Deep.DeepCutAuto
import Derived.Deep.LoopGhost
import Derived.Deep.CutBlock
namespace Go.Proofs.Ytjmdiobnappgkaa
open Go.RowKit
set_option linter.unusedVariables false
set_option linter.unusedSimpArgs false
/-- The room and the length behind a call. -/
def Tame (J : JS) (k : Nat) : Prop := J.d.room ≤ 4095 ∧ J.l.length ≤ 4095 + k
theorem Tame.add {J : JS} {k : Nat} (h : Tame J k) (s : ByteArray) : Tame (addJ J s) (k + 1) := by
  unfold addJ; split
  · exact ⟨by show (putD J.d 0 (frameS s)).sync.room ≤ 4095; have := put_room J.d 0 (frameS s); have := h.1; show (putD J.d 0 (frameS s)).room ≤ 4095; omega, by show (J.l ++ [s]).length ≤ _; rw [List.length_append]; have := h.2; simp; omega⟩
  · exact ⟨h.1, by have := h.2; omega⟩
theorem Tame.loose {J : JS} {k : Nat} (h : Tame J k) (s : ByteArray) : Tame (looseJ J s) (k + 1) := by
  unfold looseJ; split
  · exact ⟨by show (putD J.d 0 (frameS s)).room ≤ 4095; have := put_room J.d 0 (frameS s); have := h.1; omega, by show (J.l ++ [s]).length ≤ _; rw [List.length_append]; have := h.2; simp; omega⟩
  · exact ⟨h.1, by have := h.2; omega⟩
theorem sync_room (d : DS) : d.sync.room = d.room := rfl
theorem Tame.renew {J : JS} {k : Nat} (h : Tame J k) (L : List ByteArray) (hL : L.length ≤ 6) (N : Int) : Tame (renewJ J L N) (k + 1) := by
  have h1 := h.1; have h2 := h.2
  have p := put_room J.d 1 (framesS L)
  have same : Tame J (k + 1) := ⟨h1, by omega⟩
  unfold renewJ
  split
  · exact same
  split
  · exact same
  split
  · exact ⟨h1, by show J.l.length ≤ _; omega⟩
  split
  · exact same
  split
  · exact ⟨by show (putD J.d 1 (framesS L)).room ≤ 4095; omega, by show J.l.length ≤ _; omega⟩
  split
  · exact ⟨by show (putD J.d 1 (framesS L)).sync.room ≤ 4095; rw [sync_room]; omega, by show J.l.length ≤ _; omega⟩
  split
  · exact ⟨by show (turnD (putD J.d 1 (framesS L)).sync).room ≤ 4095; rw [turn_room, sync_room]; omega, by show J.l.length ≤ _; omega⟩
  · exact ⟨by show (trimD (turnD (putD J.d 1 (framesS L)).sync) 1 0).room ≤ 4095; rw [trim_room, turn_room, sync_room]; omega, by show L.length ≤ _; omega⟩
theorem open_room (d : DS) : (openJ d).d.room = d.room := by
  show (openD d).room = _
  unfold openD
  rw [trim_room, trim_room, sync_room]
/-- The call that is read: a cell of its block stays. -/
def Opd (W : World) (o i : Nat) (x : Value) (w : World) : Prop := Spare DT W w ∧ w.cell? ⟨o, i, none⟩ = some x
theorem opd_keep {W w w' : World} {o i : Nat} {x : Value} {cs : Array Value} (hb : Blk W o 96 cs) (hi : cs[i]? = some x) (h : Spare DT W w ∧ w.cell? ⟨o, i, none⟩ = some x) (hs : Spare DT w w') : Spare DT W w' ∧ w'.cell? ⟨o, i, none⟩ = some x :=
  ⟨h.1.trans hs, by rw [((h.1.trans hs).blk hb (by unfold DT; decide)).cell i]; exact hi⟩
theorem opd_drew {W : World} {o i : Nat} {x : Value} {cs : Array Value} (hb : Blk W o 96 cs) (hi : cs[i]? = some x) : Spare DT W W.drew ∧ W.drew.cell? ⟨o, i, none⟩ = some x :=
  opd_keep hb hi ⟨Spare.refl _ _, by rw [hb.cell i]; exact hi⟩ (Spare.ofBelow ((Below.refl _ _).drew))
theorem opd2_keep {W w w' : World} {o i j : Nat} {x y : Value} {cs : Array Value} (hb : Blk W o 96 cs) (hi : cs[i]? = some x) (hj : cs[j]? = some y) (h : Spare DT W w ∧ w.cell? ⟨o, i, none⟩ = some x ∧ w.cell? ⟨o, j, none⟩ = some y) (hs : Spare DT w w') : Spare DT W w' ∧ w'.cell? ⟨o, i, none⟩ = some x ∧ w'.cell? ⟨o, j, none⟩ = some y :=
  ⟨h.1.trans hs, by rw [((h.1.trans hs).blk hb (by unfold DT; decide)).cell i]; exact hi, by rw [((h.1.trans hs).blk hb (by unfold DT; decide)).cell j]; exact hj⟩
theorem opd2_drew {W : World} {o i j : Nat} {x y : Value} {cs : Array Value} (hb : Blk W o 96 cs) (hi : cs[i]? = some x) (hj : cs[j]? = some y) : Spare DT W W.drew ∧ W.drew.cell? ⟨o, i, none⟩ = some x ∧ W.drew.cell? ⟨o, j, none⟩ = some y :=
  opd2_keep hb hi hj ⟨Spare.refl _ _, by rw [hb.cell i]; exact hi, by rw [hb.cell j]; exact hj⟩ (Spare.ofBelow ((Below.refl _ _).drew))
set_option maxRecDepth 100000 in
set_option maxHeartbeats 8000000 in
theorem journalDoes_walk (room : Int) (A : Option Addr) (len cap : Nat) (ops : Nat → OpM) (w : World) (ho : IsScript w A len ops) :
    Calls Try.prog 18 #[.int .i64 room, .slice A len cap] w fun e w' => e = .returned (.bool true) ∧ Below w.heap.size w w' := by
  obtain ⟨m0, hm0, hand⟩ := low4095 room
  go_enter Try.func18, Try.ntmps18
  go_wp2_with fail
  refine (cut_any A len cap ops 30 (by decide) w ho).mono ?_
  rintro e w1 ⟨v3, l, rfl, hrow, hl30, hok, hb1⟩
  obtain ⟨A3, c3, hv3, hsc⟩ := script_at (n := 0) hrow hok
  subst hv3
  have HSc := Lib.hid hsc; have Hb1 := Lib.hid hb1
  have hz1' := hb1.size
  clear hrow hok hsc hb1 ho
  go_wp2_with fail
  refine (dk_new m0 (by omega) w1).mono ?_
  rintro e w2 ⟨rfl, h2⟩
  go_wp2_with fail
  refine (rnew_yes m0 (by omega) w2).mono ?_
  rintro e w3 ⟨rfl, h3, o3⟩
  have hb3 : Below w2.heap.size w2 w3 := o3.below (by simp)
  have hD : Disks w1 w3 w1.heap.size w2.heap.size (DS.empty m0) (DS.empty m0) 0 := by
    have h2' := h2.below hb3
    exact ⟨h2', ⟨⟨_, ⟨⟨_, ⟨h3.blk, h2.2.2.2.2, World.ownsRow_nil _ _ _ _⟩⟩, h2'.2.1, h2'.2.2.2.2⟩, Rel.start m0⟩, DS.empty_ok m0 (by omega)⟩⟩
  clear h2 h3 o3 hb3
  generalize w2.heap.size = gr at *
  obtain ⟨J0, hJ0⟩ : ∃ J, openJ (DS.empty m0) = J := ⟨_, rfl⟩
  have ht0 : J0.d.room ≤ 4095 := by rw [← hJ0, open_room]; exact hm0
  go_wp2_with fail
  refine (disks_open hD J0 hJ0).mono ?_
  rintro e w4 ⟨gj, rfl, h4, -, hl4⟩
  have hl4' : J0.l.length ≤ 4095 := Nat.le_trans hl4 (by show (0 : Nat) ≤ _; omega)
  clear hD hl4
  go_wp2_with fail
  refine (half_open h4 (by show (0 : Nat) ≤ _; omega) J0 hJ0).mono ?_
  rintro e w5 ⟨gk, rfl, h5, -⟩
  clear h4 hJ0
  have hT : Tame J0 0 := ⟨ht0, by omega⟩
  clear ht0 hl4'
  go_wp2
  go_loopg [10, 11, 12] l.length (fun q jv kv iv wr => ∃ (k gj gk : Nat) (J : JS), k + q = l.length ∧ iv = .int .i64 (k : Int) ∧ jv = .pointer (some ⟨gj, 0, none⟩) ∧ kv = .pointer (some ⟨gk, 0, none⟩) ∧ Tame J k ∧ Duo w1 wr gj w1.heap.size gk gr J k J k)
  case atStart => exact ⟨0, gj, gk, J0, Nat.zero_add _, rfl, rfl, rfl, hT, h5⟩
  case round =>
    clear h5 hT
    obtain ⟨k, gj, gl, J, hk, rfl, rfl, rfl, ht, hp⟩ := hrel
    by_cases hlt : k < l.length
    · obtain ⟨b, rfl, c0, c1, c2, c3', hsm, hru⟩ := HSc.out k hlt
      generalize l[k] = op at c0 c1 c2 c3' hsm hru
      obtain ⟨K, S, u, L, N⟩ := op
      simp only at c0 c1 c2 c3' hru
      have hbw := hp.b0
      have d0 := cell_belowB hbw rfl c0
      have d1 := cell_belowB hbw rfl c1
      have d2 := cell_belowB hbw rfl c2
      have d3 := cell_belowB hbw rfl c3'
      obtain ⟨Au, cu, rfl, -, -⟩ := id hru
      have hal := alloc_below' wr (.cells #[.int .i64 K, .string S, .slice Au L.length cu, .int .i64 N] 96)
      have hblk := Blk.new wr 96 #[.int .i64 K, .string S, .slice Au L.length cu, .int .i64 N]
      have hp2 := hp.below hal
      have hkl : (k : Int) < (l.length : Int) := by omega
      have Hsm := Lib.hid hsm; have Hp := Lib.hid hp2; have Hru := Lib.hid hru; have Hblk := Lib.hid hblk; have Ht := Lib.hid ht
      clear c0 c1 c2 c3' hbw hru hal hblk hp hp2 hsm ht
      go_upto_block 2 with fail
      go_cut [10, 11, 14] (fun jv kv okv wx => ∃ (gj' gk' : Nat) (JX : JS), jv = .pointer (some ⟨gj', 0, none⟩) ∧ kv = .pointer (some ⟨gk', 0, none⟩) ∧ okv = .bool true ∧ Tame JX (k + 1) ∧ Duo w1 wx gj' w1.heap.size gk' gr JX (k + 1) JX (k + 1))
      case first =>
        have hKc : K = 0 ∨ K = 1 ∨ K = 2 ∨ (¬ K = 0 ∧ ¬ K = 1 ∧ ¬ K = 2) := by omega
        rcases hKc with rfl | rfl | rfl | ⟨hK0, hK1, hK2⟩
        · have hSz : S.size ≤ 200 := Hsm.out.s
          obtain ⟨R, hR⟩ : ∃ R, looseR J S = R := ⟨_, rfl⟩
          obtain ⟨JX, hX⟩ : ∃ JX, addJ J S = JX := ⟨_, rfl⟩
          have hTX : Tame JX (k + 1) := by rw [← hX]; exact Ht.out.add S
          have hJl : J.l.length < 20000000 := by have := Ht.out.2; omega
          have hA := fun wx J' m (h : Duo w1 wx gj w1.heap.size gl gr J k J' m) => duo_add h (by omega) hJl S (by omega) R JX ⟨hR, hX⟩
          have hB := fun wx J' m (h : Duo w1 wx gj w1.heap.size gl gr J' m J k) => duo_radd h (by omega) hJl S (by omega) R JX ⟨hR, hX⟩
          have HA := Lib.hid hA; have HB := Lib.hid hB; have HTX := Lib.hid hTX
          clear hA hB hTX hR hX
          have b1 := Hblk.out.cell 1
          simp only [List.getElem?_toArray, List.getElem?_cons_succ, List.getElem?_cons_zero] at b1
          go_wp2_with fail
          generalize wr.alloc (.cells #[.int .i64 0, .string S, .slice Au L.length cu, .int .i64 N] 96) = W at *
          have hD0 := Lib.hid (Hp.out.below ((Below.refl _ _).drew))
          go_region_held3 (fun wy => Spare DT W wy ∧ wy.cell? ⟨wr.heap.size, 1, none⟩ = some (.string S)) (first | exact opd_drew Hblk.out rfl | exact opd_keep Hblk.out rfl (by assumption) hsq | (go_keep; done))
            (first
              | (go_at_call 68; first | (refine (HA.out _ _ _ hD0.out).mono ?_; rintro e w' ⟨rfl, hdA, hsq⟩) | (refine (HA.out _ _ _ hdB).mono ?_; rintro e w' ⟨rfl, hdA, hsq⟩))
              | (go_at_call 69; first | (refine (HB.out _ _ _ hD0.out).mono ?_; rintro e w' ⟨rfl, hdB, hsq⟩) | (refine (HB.out _ _ _ hdA).mono ?_; rintro e w' ⟨rfl, hdB, hsq⟩)))
          all_goals (go_wp2_with fail; go_meet; exact ⟨gj, gl, JX, rfl, rfl, rfl, HTX.out, by first | exact hdB | exact hdA⟩)
        · have hSz : S.size ≤ 200 := Hsm.out.s
          obtain ⟨R, hR⟩ : ∃ R, looseR J S = R := ⟨_, rfl⟩
          obtain ⟨JX, hX⟩ : ∃ JX, looseJ J S = JX := ⟨_, rfl⟩
          have hTX : Tame JX (k + 1) := by rw [← hX]; exact Ht.out.loose S
          have hJl : J.l.length < 20000000 := by have := Ht.out.2; omega
          have hA := fun wx J' m (h : Duo w1 wx gj w1.heap.size gl gr J k J' m) => duo_loose h (by omega) hJl S (by omega) R JX ⟨hR, hX⟩
          have hB := fun wx J' m (h : Duo w1 wx gj w1.heap.size gl gr J' m J k) => duo_rloose h (by omega) hJl S (by omega) R JX ⟨hR, hX⟩
          have HA := Lib.hid hA; have HB := Lib.hid hB; have HTX := Lib.hid hTX
          clear hA hB hTX hR hX
          have b1 := Hblk.out.cell 1
          simp only [List.getElem?_toArray, List.getElem?_cons_succ, List.getElem?_cons_zero] at b1
          go_wp2_with fail
          generalize wr.alloc (.cells #[.int .i64 1, .string S, .slice Au L.length cu, .int .i64 N] 96) = W at *
          have hD0 := Lib.hid (Hp.out.below ((Below.refl _ _).drew))
          go_region_held3 (fun wy => Spare DT W wy ∧ wy.cell? ⟨wr.heap.size, 1, none⟩ = some (.string S)) (first | exact opd_drew Hblk.out rfl | exact opd_keep Hblk.out rfl (by assumption) hsq | (go_keep; done))
            (first
              | (go_at_call 70; first | (refine (HA.out _ _ _ hD0.out).mono ?_; rintro e w' ⟨rfl, hdA, hsq⟩) | (refine (HA.out _ _ _ hdB).mono ?_; rintro e w' ⟨rfl, hdA, hsq⟩))
              | (go_at_call 71; first | (refine (HB.out _ _ _ hD0.out).mono ?_; rintro e w' ⟨rfl, hdB, hsq⟩) | (refine (HB.out _ _ _ hdA).mono ?_; rintro e w' ⟨rfl, hdB, hsq⟩)))
          all_goals (go_wp2_with fail; go_meet; exact ⟨gj, gl, JX, rfl, rfl, rfl, HTX.out, by first | exact hdB | exact hdA⟩)
        · obtain ⟨R, hR⟩ : ∃ R, renewR J L N = R := ⟨_, rfl⟩
          obtain ⟨JX, hX⟩ : ∃ JX, renewJ J L N = JX := ⟨_, rfl⟩
          have hLl : L.length ≤ 6 := Hsm.out.l
          have hTX : Tame JX (k + 1) := by rw [← hX]; exact Ht.out.renew L hLl N
          have hJl : J.l.length ≤ 20000000 := by have := Ht.out.2; omega
          have hLs : ∀ s ∈ L, s.size ≤ 100000 := fun s hs => by have := Hsm.out.ls s hs; omega
          have hA := fun wx J' m (h : Duo w1 wx gj w1.heap.size gl gr J k J' m) => duo_renew h (by omega) hJl _ L (Hru.out.below h.b0) (by omega) hLs N R JX ⟨hR, hX⟩
          have hB := fun wx J' m (h : Duo w1 wx gj w1.heap.size gl gr J' m J k) => duo_rrenew h (by omega) hJl _ L (Hru.out.below h.b0) (by omega) hLs N R JX ⟨hR, hX⟩
          have HA := Lib.hid hA; have HB := Lib.hid hB; have HTX := Lib.hid hTX
          clear hA hB hTX hR hX hLs
          have b2 := Hblk.out.cell 2
          have b3 := Hblk.out.cell 3
          simp only [List.getElem?_toArray, List.getElem?_cons_succ, List.getElem?_cons_zero] at b2 b3
          go_wp2_with fail
          generalize wr.alloc (.cells #[.int .i64 2, .string S, .slice Au L.length cu, .int .i64 N] 96) = W at *
          have hD0 := Lib.hid (Hp.out.below ((Below.refl _ _).drew))
          go_region_held3 (fun wy => Spare DT W wy ∧ wy.cell? ⟨wr.heap.size, 2, none⟩ = some (.slice Au L.length cu) ∧ wy.cell? ⟨wr.heap.size, 3, none⟩ = some (.int .i64 N)) (first | exact opd2_drew Hblk.out rfl rfl | exact opd2_keep Hblk.out rfl rfl (by assumption) hsq | (go_keep; done))
            (first
              | (go_at_call 72; first | (refine (HA.out _ _ _ hD0.out).mono ?_; rintro e w' ⟨rfl, hdA, hsq⟩) | (refine (HA.out _ _ _ hdB).mono ?_; rintro e w' ⟨rfl, hdA, hsq⟩))
              | (go_at_call 73; first | (refine (HB.out _ _ _ hD0.out).mono ?_; rintro e w' ⟨rfl, hdB, hsq⟩) | (refine (HB.out _ _ _ hdA).mono ?_; rintro e w' ⟨rfl, hdB, hsq⟩)))
          all_goals (go_wp2_with fail; go_meet; exact ⟨gj, gl, JX, rfl, rfl, rfl, HTX.out, by first | exact hdB | exact hdA⟩)
        · obtain ⟨dx, hdx⟩ : ∃ d, crashD J.d N = d := ⟨_, rfl⟩
          obtain ⟨JX, hX⟩ : ∃ JX, openJ dx = JX := ⟨_, rfl⟩
          have hrm : dx.room ≤ 4095 := by rw [← hdx, crash_room]; exact Ht.out.1
          have hrx : JX.d.room ≤ 4095 := by rw [← hX, open_room]; exact hrm
          have hN := Hsm.out.n
          simp only at hN
          obtain ⟨hN1, hN2⟩ := hN
          have Hd := Lib.hid hdx; have HX := Lib.hid hX; have Hrm := Lib.hid hrm; have Hrx := Lib.hid hrx
          clear hdx hX hrm hrx
          have b3 := Hblk.out.cell 3
          simp only [List.getElem?_toArray, List.getElem?_cons_succ, List.getElem?_cons_zero] at b3
          go_wp2_with fail
          refine (disks_crash Hp.out.disks N hN1 hN2 Hd.out).mono ?_
          rintro e w6 ⟨rfl, h6, hs6⟩
          have Hb6 := Lib.hid (hs6.blk Hblk.out (by unfold DT; decide))
          have b6 := Hb6.out.cell 3
          simp only [List.getElem?_toArray, List.getElem?_cons_succ, List.getElem?_cons_zero] at b6
          have H6 := Lib.hid h6
          clear hs6 b3 h6
          go_wp2_with fail
          refine (disks_rcrash H6.out N hN1 hN2 Hd.out).mono ?_
          rintro e w7 ⟨rfl, h7, -⟩
          have H7 := Lib.hid h7
          have hok := h7.2.2.fits
          clear h7 b6 H6 Hb6
          go_wp2_with fail
          refine (disks_open H7.out JX HX.out).mono ?_
          rintro e w8 ⟨gj', rfl, h8, -, hl8⟩
          have H8 := Lib.hid h8
          clear h8 H7
          go_wp2_with fail
          refine (half_open H8.out (by have := Hrm.out; omega) JX HX.out).mono ?_
          rintro e w9 ⟨gk', rfl, h9, -⟩
          have H9 := Lib.hid h9
          clear h9 H8
          go_wp2_with fail
          go_meet
          exact ⟨gj', gk', JX, rfl, rfl, rfl, ⟨Hrx.out, by have := Hrm.out; omega⟩, H9.out.mono (by omega) (by omega)⟩
      case rest =>
        obtain ⟨gj', gk', JX, rfl, rfl, rfl, hTX, hD⟩ := hcut
        obtain ⟨v9, Aw, cw, Ar, cr, hlk, hap⟩ := hD.look
        have hJX : JX.l.length ≤ 20000000 := by have := hTX.2; omega
        obtain ⟨Lr, hLr⟩ : ∃ Lr, looseAll JX.d.loose = Lr := ⟨_, rfl⟩
        rw [hLr] at hlk
        have HTX := Lib.hid hTX; have HLr := Lib.hid hLr; have Hap := Lib.hid hap; have Hlk := Lib.hid hlk
        obtain ⟨-, e1, e2, e3, e4⟩ := id hlk
        clear hD hTX hLr hap hlk d0 d1 d2 d3 Hsm Hp Hru Hblk Ht HSc
        go_wp2_with fail
        go_region_held3 (fun wy => (JK w1 wy gj' w1.heap.size v9 JX (k + 1) ∧ RJ w1 wy gk' gr (.slice Aw JX.l.length cw) JX (k + 1) ∧ gr < wy.heap.size) ∧ wy.cell? ⟨gk', 1, none⟩ = some (.slice Aw JX.l.length cw) ∧ wy.cell? ⟨gk', 2, none⟩ = some (.int .i64 (JX.sure : Int)) ∧ wy.cell? ⟨gk', 3, none⟩ = some (.bool JX.cut) ∧ wy.cell? ⟨gr, 2, none⟩ = some (.slice Ar Lr cr)) (first | exact Hlk.out.below ((Below.refl _ _).drew) | exact Look.below (by assumption) hbq | (go_keep; done))
          (first
            | (go_at_call 76; refine (k_records (by assumption) hJX).mono ?_; rintro e w' ⟨Aq, cq, rfl, hsr, hbq⟩)
            | (go_at_call 75; refine (k_same (by assumption) hJX hsr).mono ?_; rintro e w' ⟨rfl, hbq⟩)
            | (go_at_call 77; refine (k_sure (by assumption)).mono ?_; rintro e w' ⟨rfl, hbq⟩)
            | (go_at_call 78; refine (k_cut (by assumption)).mono ?_; rintro e w' ⟨rfl, hbq⟩)
            | (go_at_call 33; refine (k_read (by assumption) _).mono ?_; rintro e w' ⟨rfl, hbq⟩)
            | (go_at_call 43; refine (k_rread (by assumption) _ (by simp)).mono ?_; rintro e w' ⟨rfl, hbq⟩)
            | (go_at_call 34; refine (k_loose (by assumption) HLr.out).mono ?_; rintro e w' ⟨rfl, hbq⟩))
        all_goals (go_wp2; go_roundg (gk - 1))
        case rel => exact ⟨k + 1, gj', gk', JX, by omega, by go_num, rfl, rfl, HTX.out, Look.duo (by assumption) Hap.out⟩
        case measure => omega
    · have hkl : ¬ (k : Int) < (l.length : Int) := by omega
      have Hb := Lib.hid hp.b0
      clear hp ht
      go_wp2_with fail
      refine (journalFixed_any _).mono ?_
      rintro e w6 ⟨rfl, hb6⟩
      go_wp2
      go_ret
      exact ⟨rfl, bthen Hb1.out (bthen Hb.out hb6)⟩
end Go.Proofs.Ytjmdiobnappgkaa
