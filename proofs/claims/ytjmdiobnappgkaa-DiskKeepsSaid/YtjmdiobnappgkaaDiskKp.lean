/-
  Layer 14 (disk): DiskKeeps walked.
-/
import Derived.Test.YtjmdiobnappgkaaDiskQ
namespace Go.Proofs.Ytjmdiobnappgkaa
open Go.RowKit
set_option linter.unusedVariables false
set_option linter.unusedSimpArgs false

theorem run_max_int2 {P : Program} (w : World) (ts : Array TypeId) (t : TypeId) (k1 k2 : IntKind) (x y : Int) (n : Int) (hn : max x y = n) : (Builtin.max_ ts t #[.int k1 x, .int k2 y]).run P w = .ok (.int k1 n) w := by
  subst hn
  simp [Builtin.max_, Builtin.max2]
  have e : ∀ p q : Int, (if p < q then q else p) = max p q := fun p q => by rw [Int.max_def]; split <;> split <;> omega
  simp only [e]

set_option maxRecDepth 100000 in
set_option maxHeartbeats 6000000 in
theorem diskKeeps_walk (A1 : Option Addr) (len1 cap1 : Nat) (ops1 : Nat → OpV) (A2 : Option Addr) (len2 cap2 : Nat) (ops2 : Nat → OpV) (keep : Int) (hn1 : -9223372036854775808 ≤ keep) (hn2 : keep ≤ 9223372036854775807) (w : World) (ho1 : IsOps w w.heap.size A1 len1 ops1) (ho2 : IsOps w w.heap.size A2 len2 ops2) :
    Calls Try.prog 8 #[.slice A1 len1 cap1, .slice A2 len2 cap2, .int .i64 keep] w fun e w' => e = .returned (.bool true) ∧ Below w.heap.size w w' := by
  have hlen : len1 ≤ 9223372036854775807 := ho1.1
  have hlen2 : len2 ≤ 9223372036854775807 := ho2.1
  go_enter Try.func8, Try.ntmps8
  go_wp2_with fail
  refine (dk_new 100000 (by decide) w).mono ?_
  rintro e w1 ⟨rfl, h1⟩
  go_wp2
  go_loopw [9] (fun i wr => ∃ (k : Nat) (d : DS), k ≤ len1 ∧ k ≤ 30 ∧ i = .int .i64 k ∧ d.room = 100000 ∧ d.f0.size + d.f1.size ≤ 60 * k ∧ DK w wr w.heap.size d k) (fun i _ => 30 - (intOf i).toNat)
  case atStart => exact ⟨0, _, Nat.zero_le _, Nat.zero_le _, rfl, rfl, Nat.le_refl _, h1⟩
  case round =>
    obtain ⟨k, d, hk1, hk2, rfl, hroom, hsz, hd⟩ := hrel
    have hcase : (k < len1 ∧ k < 30) ∨ (¬ k < len1) ∨ (k < len1 ∧ ¬ k < 30) := by omega
    rcases hcase with ⟨hlt, hlt2⟩ | hlt | ⟨hlt, hlt2⟩
    · obtain ⟨b, q, o⟩ := ho1.2 k hlt
      generalize ops1 k = op at o
      obtain ⟨K, F, N, S⟩ := op
      obtain ⟨rfl, hbl, c0, c1, c2, c3, hK, hF, hN, hS⟩ := o
      simp only at c0 c1 c2 c3 hK hF hN hS
      have d1 := cell_belowB hd.2.1 rfl c1
      have d3 := cell_belowB hd.2.1 rfl c3
      obtain ⟨m, hm⟩ : ∃ m : Nat, min (S.size : Int) 60 = (m : Int) := ⟨(min (S.size : Int) 60).toNat, by omega⟩
      have hmin : ∀ wx, (Builtin.min_ #[3, 3] 3 #[.int .i64 (S.size : Int), .int .i64 60]).run Try.prog wx = .ok (.int .i64 m) wx := fun wx => run_min_int2 wx _ _ _ _ _ _ _ hm
      have hm0 : (0 : Int) ≤ (m : Int) := by omega
      have hm1 : (m : Int) ≤ (S.size : Int) := by omega
      have hm2 : m ≤ S.size := by omega
      have hm6 : m ≤ 60 := by omega
      clear hm ho2 ho1 hlen2 hK hF hN hS c0 c2
      go_wp2_with fail
      go_region_held3 (fun wx => wx.cell? ⟨b, q + k * 4 + 1, none⟩ = some (.int .i64 F) ∧ wx.cell? ⟨b, q + k * 4 + 3, none⟩ = some (.string S)) (first | (go_keep; done) | exact ⟨cell_belowB (World.DKb (by assumption)) rfl c1, cell_belowB (World.DKb (by assumption)) rfl c3⟩)
          (first | (go_at_call 31; refine (dk_put hd (by omega) _ _).mono ?_; rintro e w' ⟨rfl, hd'⟩) | (go_at_call 31; refine (dk_put (hd.drewN _) (by omega) _ _).mono ?_; rintro e w' ⟨rfl, hd'⟩))
      have hss : (S.extract 0 m).size ≤ 60 := by rw [ByteArray.size_extract]; omega
      generalize S.extract 0 m = s at hss hd'
      have hps := put_sizes d (bits BinOp.and IntKind.i64 F 1) s
      have hpr := put_room d (bits BinOp.and IntKind.i64 F 1) s
      have Hd := Lib.hid hd'; clear hd'
      clear hd c1 c3 d1 d3 hmin hm0 hm1 hm2
      go_wp2
      refine ⟨⟨k + 1, _, by omega, by omega, by simp, hpr.trans hroom, by omega, Hd.out⟩, ?_⟩
      simp [intOf]; omega
    all_goals
      clear ho1 h1 hlen
      have hsz2 : d.f0.size + d.f1.size ≤ 1800 := by omega
      clear hsz
      go_wp2_with fail
      clear hlt hk1
      try clear hlt2
      refine (dk_sync hd).mono ?_
      rintro e w2 ⟨rfl, h2⟩
      clear hd
      have hs0 := Sure.start d
      have hl0 : looseAll d.sync.loose = 0 := rfl
      have hr0 : d.sync.room = 100000 := hroom
      have hz0 : d.sync.f0.size + d.sync.f1.size ≤ 1800 := hsz2
      clear hroom hsz2
      generalize d.sync = D0 at h2 hs0 hl0 hr0 hz0
      obtain ⟨a, ha⟩ : ∃ a, readR D0 0 = a := ⟨_, rfl⟩
      obtain ⟨b, hb⟩ : ∃ b, readR D0 1 = b := ⟨_, rfl⟩
      rw [ha, hb] at hs0
      have Ha := Lib.hid ha; have Hb := Lib.hid hb; clear ha hb
      go_wp2_with fail
      refine (at_read h2 0 a Ha.out).mono ?_
      rintro e wx ⟨rfl, rfl⟩
      go_wp2_with fail
      refine (at_read h2 1 b Hb.out).mono ?_
      rintro e wx ⟨rfl, rfl⟩
      clear Ha Hb
      go_wp2
      go_loopw [12, 13] (fun nv i wr => ∃ (k : Nat) (d : DS) (n : Nat), k ≤ len2 ∧ k ≤ 30 ∧ i = .int .i64 k ∧ nv = .int .i64 n ∧ looseAll d.loose = n ∧ n ≤ 60 * k ∧ d.room = 100000 ∧ d.f0.size + d.f1.size ≤ 1800 + n ∧ Sure d a b ∧ DK w wr w.heap.size d k) (fun _ i _ => 30 - (intOf i).toNat)
      case atStart => exact ⟨0, _, 0, Nat.zero_le _, Nat.zero_le _, rfl, rfl, hl0, Nat.le_refl _, hr0, by omega, hs0, h2⟩
      case round =>
        clear h2 hs0 hl0 hr0 hz0 hk2
        obtain ⟨k, d, n, hk1, hk2, rfl, rfl, hl, hn, hroom, hsz, hs, hd⟩ := hrel
        have hcase : (k < len2 ∧ k < 30) ∨ (¬ k < len2) ∨ (k < len2 ∧ ¬ k < 30) := by omega
        rcases hcase with ⟨hlt, hlt2⟩ | hlt | ⟨hlt, hlt2⟩
        · obtain ⟨b', q, o⟩ := ho2.2 k hlt
          generalize ops2 k = op at o
          obtain ⟨K, F, N, S⟩ := op
          obtain ⟨rfl, hbl, c0, c1, c2, c3, hK, hF, hN, hS⟩ := o
          simp only at c0 c1 c2 c3 hK hF hN hS
          have d1 := cell_belowB hd.2.1 rfl c1
          have d3 := cell_belowB hd.2.1 rfl c3
          obtain ⟨m, hm⟩ : ∃ m : Nat, min (S.size : Int) 60 = (m : Int) := ⟨(min (S.size : Int) 60).toNat, by omega⟩
          have hmin : ∀ wx, (Builtin.min_ #[3, 3] 3 #[.int .i64 (S.size : Int), .int .i64 60]).run Try.prog wx = .ok (.int .i64 m) wx := fun wx => run_min_int2 wx _ _ _ _ _ _ _ hm
          have hm0 : (0 : Int) ≤ (m : Int) := by omega
          have hm1 : (m : Int) ≤ (S.size : Int) := by omega
          have hm2 : m ≤ S.size := by omega
          have hm6 : m ≤ 60 := by omega
          obtain ⟨kf, hkf, hq⟩ : ∃ kf : Int, (kf = 0 ∨ kf = 1) ∧ bits BinOp.and IntKind.i64 F 1 = kf := ⟨_, low1 F, rfl⟩
          have Hkf := Lib.hid hkf; clear hkf
          clear hm ho2 hlen2 hK hF hN hS c0 c2
          have Hs := Lib.hid hs; clear hs
          go_wp2_with fail
          go_region_held3 (fun wx => DK w wx w.heap.size d k ∧ wx.cell? ⟨b', q + k * 4 + 1, none⟩ = some (.int .i64 F) ∧ wx.cell? ⟨b', q + k * 4 + 3, none⟩ = some (.string S)) (first | exact ⟨DK.below hd ((Below.refl _ _).drew), d1, d3⟩ | (go_keep; done)) (fail)
          rename_i hHeld
          have hd2 := hHeld.1
          have e1 := hHeld.2.1
          clear hHeld hd c1 c3 d1 d3 hmin
          have hss : (S.extract 0 m).size ≤ 60 := by rw [ByteArray.size_extract]; omega
          clear hm0 hm1 hm2 hm6
          generalize S.extract 0 m = s at hss ⊢
          have hfit : s.size ≤ d.free := by unfold DS.free; omega
          obtain ⟨u1, u2, u3, u4, u5⟩ := Hs.out.put kf Hkf.out s hfit
          obtain ⟨d', hd'⟩ : ∃ d', putD d kf s = d' := ⟨_, rfl⟩
          rw [hd'] at u1 u3 u4 u5
          clear Hs
          have U1 := Lib.hid u1
          have U3 := Lib.hid (u3.trans hroom)
          have U4 := Lib.hid (show looseAll d'.loose = n + s.size by omega)
          have U5 := Lib.hid (show d'.f0.size + d'.f1.size ≤ 1800 + (n + s.size) by omega)
          clear u1 u3 u4 u5 hroom hsz hl hfit
          have hwn : IntKind.i64.wrap ((n : Int) + (s.size : Int)) = ((n + s.size : Nat) : Int) := by rw [IntKind.wrap_i64]; omega
          go_wp2_with fail
          refine (at_put hd2 (by omega) kf s 0 d' u2 hd').mono ?_
          rintro e w3 ⟨rfl, hd3⟩
          clear hd2 u2 hd'
          have Hd := Lib.hid hd3; clear hd3
          go_wp2
          refine ⟨⟨k + 1, d', n + s.size, by omega, by omega, by simp, by simp, U4.out, by omega, U3.out, U5.out, U1.out, Hd.out⟩, ?_⟩
          simp [intOf]; omega
        all_goals
          go_wp2_with fail
          have hok := hd.2.2.1
          obtain ⟨u, v, eu, ev, el, l1, l2, l3, l4, p1, p2, p3, p4, hsum⟩ := hs.crash hok keep
          have hx0 : (readR d 0).size ≤ 16777216 ∧ (readR d 1).size ≤ 16777216 := by
            have h1 := hok.fits; have h2 := hok.room
            have r0 : readR d 0 = d.f0 := by simp [readR, valid, DS.file]
            have r1 : readR d 1 = d.f1 := by simp [readR, valid, DS.file]
            rw [r0, r1]; omega
          obtain ⟨x, hx⟩ : ∃ x, readR d 0 = x := ⟨_, rfl⟩
          obtain ⟨y, hy⟩ : ∃ y, readR d 1 = y := ⟨_, rfl⟩
          rw [hx] at hx0 l3 p1
          rw [hy] at hx0 l4 p2
          rw [hl] at hsum
          obtain ⟨m1, hm1⟩ : ∃ m1, min keep (n : Int) = m1 := ⟨_, rfl⟩
          obtain ⟨m2, hm2⟩ : ∃ m2, max 0 m1 = m2 := ⟨_, rfl⟩
          rw [hm1, hm2] at hsum
          have hmin : ∀ wx, (Builtin.min_ #[3, 3] 3 #[.int .i64 keep, .int .i64 (n : Int)]).run Try.prog wx = .ok (.int .i64 m1) wx := fun wx => run_min_int2 wx _ _ _ _ _ _ _ hm1
          have hmax : ∀ wx, (Builtin.max_ #[3, 3] 3 #[.int .i64 0, .int .i64 m1]).run Try.prog wx = .ok (.int .i64 m2) wx := fun wx => run_max_int2 wx _ _ _ _ _ _ _ hm2
          have hw1 : IntKind.i64.wrap ((u.size : Int) + (v.size : Int)) = (u.size : Int) + (v.size : Int) := by rw [IntKind.wrap_i64]; omega
          have hw2 : IntKind.i64.wrap ((u.size : Int) + (v.size : Int) - (a.size : Int)) = (u.size : Int) + (v.size : Int) - (a.size : Int) := by rw [IntKind.wrap_i64]; omega
          have hw3 : IntKind.i64.wrap ((u.size : Int) + (v.size : Int) - (a.size : Int) - (b.size : Int)) = m2 := by rw [IntKind.wrap_i64]; omega
          have g1 : ¬ ((u.size : Int) < (a.size : Int)) := by omega
          have g2 : ¬ ((v.size : Int) < (b.size : Int)) := by omega
          have g3 : ¬ ((x.size : Int) < (u.size : Int)) := by omega
          have g4 : ¬ ((y.size : Int) < (v.size : Int)) := by omega
          have Hx := Lib.hid hx; have Hy := Lib.hid hy; have Hu := Lib.hid eu; have Hv := Lib.hid ev
          have HL := Lib.hid (show (looseAll d.loose : Int) = n by rw [hl])
          have HL0 := Lib.hid (show (looseAll (crashD d keep).loose : Int) = 0 by rw [el]; rfl)
          clear hx hy eu ev el hx0 hsum hm1 hm2 hok hs hl hn hroom hsz hk1 hk2 hlt ho2 hlen2
          refine (at_read hd 0 x Hx.out).mono ?_
          rintro e wx ⟨rfl, rfl⟩
          go_wp2_with fail
          refine (at_read hd 1 y Hy.out).mono ?_
          rintro e wx ⟨rfl, rfl⟩
          go_wp2_with fail
          refine (at_loose hd n HL.out).mono ?_
          rintro e w3 ⟨rfl, h3⟩
          clear hd
          go_wp2_with fail
          refine (at_crash h3 keep hn1 hn2 _ rfl).mono ?_
          rintro e w4 ⟨rfl, h4⟩
          clear h3
          generalize crashD d keep = D at h4 Hu Hv HL0
          go_wp2_with fail
          refine (at_read h4 0 u Hu.out).mono ?_
          rintro e wx ⟨rfl, rfl⟩
          go_wp2_with fail
          refine (at_read h4 1 v Hv.out).mono ?_
          rintro e wx ⟨rfl, rfl⟩
          go_wp2_with fail
          refine (at_loose h4 0 HL0.out).mono ?_
          rintro e w5 ⟨rfl, h5⟩
          clear h4
          go_wp2_with fail
          refine (diskFixed_any _).mono ?_
          rintro e w7 ⟨rfl, hb7⟩
          have H4 := Lib.hid (below_step hb7 rfl h5.2.1)
          clear hb7 h5
          go_wp2
          go_ret
          exact ⟨rfl, H4.out⟩
theorem diskKeeps_go (A1 : Option Addr) (len1 cap1 : Nat) (ops1 : Nat → OpV) (A2 : Option Addr) (len2 cap2 : Nat) (ops2 : Nat → OpV) (keep : Int) (hn : (Lit.int .i64 keep).wf = true) {w' : World} (ho1 : IsOps w' w'.heap.size A1 len1 ops1) (ho2 : IsOps w' w'.heap.size A2 len2 ops2) :
    Calls Try.prog 8 #[.slice A1 len1 cap1, .slice A2 len2 cap2, .int .i64 keep] w' fun e w'' => e = .returned (.bool true) ∧ Below w'.heap.size w' w'' :=
  diskKeeps_walk A1 len1 cap1 ops1 A2 len2 cap2 ops2 keep (i64_of_wf hn).1 (i64_of_wf hn).2 w' ho1 ho2
end Go.Proofs.Ytjmdiobnappgkaa
