/-
  Layer 14 (disk): DiskTurns walked.
-/
import Derived.Test.YtjmdiobnappgkaaDiskN
namespace Go.Proofs.Ytjmdiobnappgkaa
open Go.RowKit
set_option linter.unusedVariables false
set_option linter.unusedSimpArgs false

theorem two_turns (D : DS) : D.turn.turn = D := by cases D; rfl

set_option maxRecDepth 100000 in
set_option maxHeartbeats 1600000 in
theorem diskTurns_walk (room : Nat) (hr : room < 256) (A : Option Addr) (len cap : Nat) (ops : Nat → OpV) (w : World) (ho : IsOps w w.heap.size A len ops) :
    Calls Try.prog 9 #[.int .u8 room, .slice A len cap] w fun e w' => e = .returned (.bool true) ∧ Below w.heap.size w w' := by
  have hlen : len ≤ 9223372036854775807 := ho.1
  have hwr : IntKind.i64.wrap (room : Int) = room := by rw [IntKind.wrap_i64]; omega
  go_enter Try.func9, Try.ntmps9
  go_wp2_with fail
  refine (dk_new room (by omega) w).mono ?_
  rintro e w1 ⟨rfl, h1⟩
  go_wp2
  go_loopw [7] (fun i wr => ∃ (k : Nat) (d : DS), k ≤ len ∧ k ≤ 30 ∧ i = .int .i64 k ∧ DK w wr w.heap.size d k) (fun i _ => 30 - (intOf i).toNat)
  case atStart => exact ⟨0, _, Nat.zero_le _, Nat.zero_le _, rfl, h1⟩
  case round =>
    obtain ⟨k, d, hk1, hk2, rfl, hd⟩ := hrel
    have hcase : (k < len ∧ k < 30) ∨ (¬ k < len) ∨ (k < len ∧ ¬ k < 30) := by omega
    rcases hcase with ⟨hlt, hlt2⟩ | hlt | ⟨hlt, hlt2⟩
    · obtain ⟨b, q, o⟩ := ho.2 k hlt
      generalize ops k = op at o
      obtain ⟨K, F, N, S⟩ := op
      obtain ⟨rfl, hbl, c0, c1, c2, c3, hK, hF, hN, hS⟩ := o
      simp only at c0 c1 c2 c3 hK hF hN hS
      have d1 := cell_belowB hd.2.1 rfl c1
      have d3 := cell_belowB hd.2.1 rfl c3
      obtain ⟨kf, hkf, hq⟩ : ∃ kf : Int, (kf = 0 ∨ kf = 1) ∧ bits BinOp.and IntKind.i64 F 1 = kf := ⟨_, low1 F, rfl⟩
      have Hkf := Lib.hid hkf; clear hkf
      obtain ⟨m, hm⟩ : ∃ m : Nat, min (S.size : Int) 60 = (m : Int) := ⟨(min (S.size : Int) 60).toNat, by omega⟩
      have hmin : ∀ wx, (Builtin.min_ #[3, 3] 3 #[.int .i64 (S.size : Int), .int .i64 60]).run Try.prog wx = .ok (.int .i64 m) wx := fun wx => run_min_int2 wx _ _ _ _ _ _ _ hm
      have hm0 : (0 : Int) ≤ (m : Int) := by omega
      have hm1 : (m : Int) ≤ (S.size : Int) := by omega
      have hm2 : m ≤ S.size := by omega
      have hm6 : m ≤ 60 := by omega
      clear hm
      go_wp2_with fail
      go_region_held3 (fun wx => DK w wx w.heap.size d k ∧ wx.cell? ⟨b, q + k * 4 + 1, none⟩ = some (.int .i64 F) ∧ wx.cell? ⟨b, q + k * 4 + 3, none⟩ = some (.string S)) (first | exact ⟨DK.below hd ((Below.refl _ _).drew), d1, d3⟩ | (go_keep; done)) (fail)
      rename_i hHeld
      have hd2 := hHeld.1
      clear hHeld hd c0 c1 c2 c3 d1 d3 hmin
      have hss : (S.extract 0 m).size ≤ 60 := by rw [ByteArray.size_extract]; omega
      clear hm0 hm1 hm2 hm6
      generalize S.extract 0 m = s at hss ⊢
      go_wp2_with fail
      refine (dk_read hd2 kf).mono ?_
      rintro e wx ⟨rfl, rfl⟩
      go_wp2_with fail
      refine (dk_free hd2).mono ?_
      rintro e w2 ⟨rfl, hd3⟩
      clear hd2
      have hok := hd3.2.2.1
      have hfr : d.free ≤ 16777216 := by have := hok.room; have := hok.fits; unfold DS.free; omega
      have hp := put_laws d kf Hkf.out s
      obtain ⟨was, hwas⟩ : ∃ x, readR d kf = x := ⟨_, rfl⟩
      have hwz : was.size ≤ 16777216 := by
        have h1 := hok.fits; have h2 := hok.room
        rw [← hwas]
        rcases Hkf.out with rfl | rfl <;> simp [readR, valid, DS.file] <;> omega
      have hcat : was.size + s.size ≤ maxLen := by unfold maxLen; omega
      have hcat2 : (was.size : Int) + (s.size : Int) ≤ 9223372036854775807 := by omega
      have hcat3 : was.size + s.size ≤ 9223372036854775807 := by omega
      clear hwz
      have hwrap : IntKind.i64.wrap ((d.free : Int) - s.size) = (d.free : Int) - s.size := by rw [IntKind.wrap_i64]; omega
      by_cases hfit : d.free < s.size
      · obtain ⟨p1, p2⟩ := hp.2 hfit
        clear hp
        have hle : ¬ (s.size : Int) ≤ (d.free : Int) := by omega
        have Hw := Lib.hid hwas
        rw [hwas]
        clear hwas hfit hfr hok
        go_wp2_with fail
        refine (at_put hd3 (by omega) kf s 8 d p1 p2).mono ?_
        rintro e w3 ⟨rfl, hd4⟩
        clear hd3 p1 p2
        go_wp2_with fail
        refine (at_read hd4 kf was Hw.out).mono ?_
        rintro e wx ⟨rfl, rfl⟩
        have Hd := Lib.hid hd4; clear hd4
        go_wp2
        refine ⟨⟨k + 1, _, by omega, by omega, by simp, Hd.out⟩, ?_⟩
        simp [intOf]; omega
      · obtain ⟨p1, p2, p3⟩ := hp.1 hfit
        have p4 := p3 hok
        clear hp p3
        have hle : (s.size : Int) ≤ (d.free : Int) := by omega
        rw [hwas] at p2 ⊢
        clear hwas hfit hfr hok
        obtain ⟨d', hd'⟩ : ∃ d', putD d kf s = d' := ⟨_, rfl⟩
        rw [hd'] at p2 p4
        have Hp2 := Lib.hid p2
        have Hp4 := Lib.hid p4
        clear p2 p4
        go_wp2_with fail
        refine (at_put hd3 (by omega) kf s 0 d' p1 hd').mono ?_
        rintro e w3 ⟨rfl, hd4⟩
        clear hd3 p1 hd'
        go_wp2_with fail
        refine (at_read hd4 kf _ Hp2.out).mono ?_
        rintro e wx ⟨rfl, rfl⟩
        go_wp2_with fail
        refine (at_free hd4 _ Hp4.out).mono ?_
        rintro e w4 ⟨rfl, hd5⟩
        have Hd := Lib.hid hd5; clear hd5 hd4
        go_wp2
        refine ⟨⟨k + 1, _, by omega, by omega, by simp, Hd.out⟩, ?_⟩
        simp [intOf]; omega
    all_goals
      clear ho h1 hlen hwr
      have hT := turn_laws d
      have hb : ∃ (L : Nat) (r : Int) (dd : DS), looseAll d.loose = L ∧ turnR d = r ∧ turnD d = dd ∧ ((L = 0 ∧ r = 0) ∨ (0 < L ∧ r = 7)) := by
        rcases Nat.eq_zero_or_pos (looseAll d.loose) with hl | hl
        · exact ⟨_, 0, d.turn, rfl, (hT.1 hl).1, (hT.1 hl).2, Or.inl ⟨hl, rfl⟩⟩
        · exact ⟨_, 7, d, rfl, (hT.2 hl).1, (hT.2 hl).2, Or.inr ⟨hl, rfl⟩⟩
      clear hT
      obtain ⟨L, r, dd, e1, e2, e3, hc⟩ := hb
      have E1 := Lib.hid e1; have E2 := Lib.hid e2; have E3 := Lib.hid e3
      clear e1 e2 e3
      go_wp2_with fail
      refine (at_loose hd (L : Int) (by rw [E1.out])).mono ?_
      rintro e w2 ⟨rfl, h2⟩
      clear hd
      go_wp2_with fail
      refine (at_turn h2 r dd E2.out E3.out).mono ?_
      rintro e w3 ⟨rfl, h3⟩
      clear h2 E1 E2 E3
      rcases hc with ⟨rfl, rfl⟩ | ⟨hL, rfl⟩
    all_goals
      try have hL2 : ¬ ((L : Int) = 0) := by omega
      go_wp2_with fail
      refine (dk_sync h3).mono ?_
      rintro e w4 ⟨rfl, h4⟩
      clear h3
      have hl0 : looseAll dd.sync.loose = 0 := rfl
      generalize dd.sync = D at h4 hl0
      have Ht := Lib.hid ((turn_laws D).1 hl0)
      have Ht2 := Lib.hid ((turn_laws D.turn).1 hl0)
      clear hl0
      obtain ⟨x, hx⟩ : ∃ x, readR D 0 = x := ⟨_, rfl⟩
      obtain ⟨y, hy⟩ : ∃ y, readR D 1 = y := ⟨_, rfl⟩
      have Hu := Lib.hid (show readR D.turn 0 = y by rw [← hy]; simp [readR, valid, DS.turn, DS.file])
      have Hv := Lib.hid (show readR D.turn 1 = x by rw [← hx]; simp [readR, valid, DS.turn, DS.file])
      have Hx := Lib.hid hx; have Hy := Lib.hid hy
      clear hx hy
      go_wp2_with fail
      refine (at_read h4 0 x Hx.out).mono ?_
      rintro e wx ⟨rfl, rfl⟩
      go_wp2_with fail
      refine (at_read h4 1 y Hy.out).mono ?_
      rintro e wx ⟨rfl, rfl⟩
      go_wp2_with fail
      refine (at_turn h4 0 D.turn Ht.out.1 Ht.out.2).mono ?_
      rintro e w5 ⟨rfl, h5⟩
      clear h4
      go_wp2_with fail
      refine (at_read h5 0 y Hu.out).mono ?_
      rintro e wx ⟨rfl, rfl⟩
      go_wp2_with fail
      refine (at_read h5 1 x Hv.out).mono ?_
      rintro e wx ⟨rfl, rfl⟩
      go_wp2_with fail
      refine (at_turn h5 0 D Ht2.out.1 (Ht2.out.2.trans (two_turns D))).mono ?_
      rintro e w6 ⟨rfl, h6⟩
      clear h5
      go_wp2_with fail
      refine (at_read h6 0 x Hx.out).mono ?_
      rintro e wx ⟨rfl, rfl⟩
      go_wp2_with fail
      refine (at_read h6 1 y Hy.out).mono ?_
      rintro e wx ⟨rfl, rfl⟩
      go_wp2_with fail
      refine (diskFixed_any _).mono ?_
      rintro e w7 ⟨rfl, hb7⟩
      have H4 := Lib.hid (below_step hb7 rfl h6.2.1)
      clear hb7 h6
      go_wp2
      go_ret
      exact ⟨rfl, H4.out⟩
theorem diskTurns_go (room : Int) (hr : (Lit.int .u8 room).wf = true) (A : Option Addr) (len cap : Nat) (ops : Nat → OpV) {w' : World} (ho : IsOps w' w'.heap.size A len ops) :
    Calls Try.prog 9 #[.int .u8 room, .slice A len cap] w' fun e w'' => e = .returned (.bool true) ∧ Below w'.heap.size w' w'' := by
  obtain ⟨m, hm, rfl⟩ := u8_of_wf hr
  exact diskTurns_walk m hm A len cap ops w' ho
end Go.Proofs.Ytjmdiobnappgkaa
