/-
  Layer 14 (disk): one call of a script, of both disks (function 42).
-/
import Derived.Test.YtjmdiobnappgkaaDiskJ2
import Derived.Test.YtjmdiobnappgkaaDiskL
namespace Go.Proofs.Ytjmdiobnappgkaa
open Go.RowKit
set_option linter.unusedVariables false
set_option linter.unusedSimpArgs false

/-- Both disks in one memory, the same. -/
structure Both (w0 w : World) (g gr : Nat) (d : DS) (n : Nat) : Prop where
  dk : DK w0 w g d n
  rk : ∃ r, RK w0 w gr r ∧ Rel d r
theorem Both.below {w0 w w' : World} {g gr : Nat} {d : DS} {n : Nat} (h : Both w0 w g gr d n) (hb : Below w.heap.size w w') : Both w0 w' g gr d n := by
  obtain ⟨h1, r, h2, h3⟩ := h
  exact ⟨h1.below hb, r, h2.below hb, h3⟩
theorem DK.more {w0 w : World} {g : Nat} {d : DS} {n n' : Nat} (h : DK w0 w g d n) (hn : n ≤ n') : DK w0 w g d n' := by
  obtain ⟨a, b, c, e, f⟩ := h
  exact ⟨a, b, c, Nat.le_trans e hn, f⟩
theorem alloc_below (w : World) (o : Obj) : Below w.heap.size w (w.alloc o) := (Below.refl _ _).alloc (Nat.le_refl _) _

set_option maxRecDepth 100000 in
set_option maxHeartbeats 1600000 in
theorem play_any {w0 w : World} {g gr : Nat} {d : DS} {n : Nat} (h : Both w0 w g gr d n) (hn : n < 1000000) (K F N : Int) (S : ByteArray) (hN1 : -9223372036854775808 ≤ N) (hN2 : N ≤ 9223372036854775807) (hS : S.size ≤ maxLen) :
    Calls Try.prog 42 #[.pointer (some ⟨g, 0, none⟩), .pointer (some ⟨gr, 0, none⟩), .agg #[.int .i64 K, .int .i64 F, .int .i64 N, .string S]] w fun e w' => e = .returned (.bool true) ∧ Spare [117, 120, 57, 123] w w' ∧ ∃ d', Both w0 w' g gr d' (n + 1) := by
  obtain ⟨hd, r, hr, rel⟩ := h
  have hk := hd.2.2.1
  have hd0 := hd.below (alloc_below w (.cells #[.int .i64 K, .int .i64 F, .int .i64 N, .string S] 41))
  have hr0 := hr.below (alloc_below w (.cells #[.int .i64 K, .int .i64 F, .int .i64 N, .string S] 41))
  have hsp0 : Spare [117, 120, 57, 123] w (w.alloc (.cells #[.int .i64 K, .int .i64 F, .int .i64 N, .string S] 41)) := Spare.ofBelow (alloc_below w _)
  have hblk0 : Blk (w.alloc (.cells #[.int .i64 K, .int .i64 F, .int .i64 N, .string S] 41)) w.heap.size 41 #[.int .i64 K, .int .i64 F, .int .i64 N, .string S] := Blk.new _ _ _
  have hgw : w.heap.size = w.heap.size := rfl
  have Rl := Lib.hid rel; have Hk := Lib.hid hk; have Sp := Lib.hid hsp0
  clear rel hk hsp0 hd hr hgw
  obtain ⟨m, hm⟩ : ∃ m : Nat, min (S.size : Int) 60 = (m : Int) := ⟨(min (S.size : Int) 60).toNat, by omega⟩
  have hmin : ∀ wx, (Builtin.min_ #[3, 3] 3 #[.int .i64 (S.size : Int), .int .i64 60]).run Try.prog wx = .ok (.int .i64 m) wx := fun wx => run_min_int2 wx _ _ _ _ _ _ _ hm
  have hm0 : (0 : Int) ≤ (m : Int) := by omega
  have hm1 : (m : Int) ≤ (S.size : Int) := by omega
  have hm2 : m ≤ S.size := by omega
  clear hm
  have hKc : K = 0 ∨ K = 1 ∨ K = 2 ∨ K = 3 ∨ (¬ K = 0 ∧ ¬ K = 1 ∧ ¬ K = 2 ∧ ¬ K = 3) := by omega
  rcases hKc with rfl | rfl | rfl | rfl | ⟨hK0, hK1, hK2, hK3⟩
  · go_enter Try.func42, Try.ntmps42
    go_wp2_with fail
    generalize w.alloc (.cells #[.int .i64 0, .int .i64 F, .int .i64 N, .string S] 41) = W at *
    generalize w.heap.size = o at *
    have c1 : W.cell? ⟨o, 1, none⟩ = some (.int .i64 F) := hblk0.cell 1
    have c2 : W.cell? ⟨o, 2, none⟩ = some (.int .i64 N) := hblk0.cell 2
    have hmn : n ≤ n + 1 := Nat.le_succ n
    have hmz : 0 ≤ n + 1 := Nat.zero_le _
    clear hmin hm0 hm1 hm2
    have Hs : ∃ s, S.extract 0 m = s := ⟨_, rfl⟩
    obtain ⟨s, hs⟩ := Hs
    rw [hs]
    go_region_held3 (fun wx => wx.cell? ⟨o, 1, none⟩ = some (.int .i64 F)) (first | exact hblk2.cell 1 | exact hblk1.cell 1 | exact hblk0.cell 1 | (go_keep; done))
      (first | (go_at_call 31; refine (ds_put hd0 hn _ _).mono ?_; rintro e w1 ⟨rfl, hd1, sp1⟩; have hr1 := hr0.spare hd1.2.1 sp1; have hblk1 := sp1.blk hblk0 (by decide)) | (go_at_call 31; refine (ds_put (hd0.drewN _) hn _ _).mono ?_; rintro e w1 ⟨rfl, hd1, sp1⟩; have hr1 := hr0.spare hd1.2.1 sp1; have hblk1 := sp1.blk hblk0 (by decide)) | (go_at_call 86; refine (rk_put hr1 Rl.out Hk.out _ _).mono ?_; rintro e w2 ⟨rfl, ⟨r2, hr2, rel2⟩, sp2⟩; have hd2 := (hd1.spare hr2.2.1 sp2); have hblk2 := sp2.blk hblk1 (by decide)))
    have H2 := Lib.hid hd2; have H3 := Lib.hid hr2; have H4 := Lib.hid rel2; have H5 := Lib.hid sp1; have H6 := Lib.hid sp2
    clear hd2 hr2 rel2 sp1 sp2 hd1 hr1 hd0 hr0 hblk0 hblk1
    go_wp2
    go_ret
    exact ⟨rfl, (Sp.out.trans (H5.out.mono (by simp))).trans (H6.out.mono (by simp)), _, ⟨H2.out, _, H3.out, H4.out⟩⟩
  · go_enter Try.func42, Try.ntmps42
    go_wp2_with fail
    generalize w.alloc (.cells #[.int .i64 1, .int .i64 F, .int .i64 N, .string S] 41) = W at *
    generalize w.heap.size = o at *
    have c1 : W.cell? ⟨o, 1, none⟩ = some (.int .i64 F) := hblk0.cell 1
    have c2 : W.cell? ⟨o, 2, none⟩ = some (.int .i64 N) := hblk0.cell 2
    have hmn : n ≤ n + 1 := Nat.le_succ n
    have hmz : 0 ≤ n + 1 := Nat.zero_le _
    clear hmin hm0 hm1 hm2
    refine (ds_sync hd0).mono ?_
    rintro e w1 ⟨rfl, hd1, sp1⟩
    have hr1 := hr0.spare hd1.2.1 sp1
    have hblk1 := sp1.blk hblk0 (by decide)
    have c21 : w1.cell? ⟨o, 2, none⟩ = some (.int .i64 N) := hblk1.cell 2
    go_wp2_with fail
    refine (rk_sync hr1 Rl.out Hk.out).mono ?_
    rintro e w2 ⟨rfl, ⟨r2, hr2, rel2⟩, sp2⟩
    have hd2 := (hd1.spare hr2.2.1 sp2).more hmz
    have H2 := Lib.hid hd2; have H3 := Lib.hid hr2; have H4 := Lib.hid rel2; have H5 := Lib.hid sp1; have H6 := Lib.hid sp2
    clear hd2 hr2 rel2 sp1 sp2 hd1 hr1 hd0 hr0 hblk0 hblk1
    go_wp2
    go_ret
    exact ⟨rfl, (Sp.out.trans (H5.out.mono (by simp))).trans (H6.out.mono (by simp)), _, ⟨H2.out, _, H3.out, H4.out⟩⟩
  · go_enter Try.func42, Try.ntmps42
    go_wp2_with fail
    generalize w.alloc (.cells #[.int .i64 2, .int .i64 F, .int .i64 N, .string S] 41) = W at *
    generalize w.heap.size = o at *
    have c1 : W.cell? ⟨o, 1, none⟩ = some (.int .i64 F) := hblk0.cell 1
    have c2 : W.cell? ⟨o, 2, none⟩ = some (.int .i64 N) := hblk0.cell 2
    have hmn : n ≤ n + 1 := Nat.le_succ n
    have hmz : 0 ≤ n + 1 := Nat.zero_le _
    clear hmin hm0 hm1 hm2
    go_region_held3 (fun wx => wx.cell? ⟨o, 1, none⟩ = some (.int .i64 F) ∧ wx.cell? ⟨o, 2, none⟩ = some (.int .i64 N)) (first | exact ⟨hblk2.cell 1, hblk2.cell 2⟩ | exact ⟨hblk1.cell 1, hblk1.cell 2⟩ | exact ⟨hblk0.cell 1, hblk0.cell 2⟩ | (go_keep; done))
      (first | (go_at_call 39; refine (ds_trim hd0 _ _).mono ?_; rintro e w1 ⟨rfl, hd1, sp1⟩; have hr1 := hr0.spare hd1.2.1 sp1; have hblk1 := sp1.blk hblk0 (by decide)) | (go_at_call 39; refine (ds_trim (hd0.drewN _) _ _).mono ?_; rintro e w1 ⟨rfl, hd1, sp1⟩; have hr1 := hr0.spare hd1.2.1 sp1; have hblk1 := sp1.blk hblk0 (by decide)) | (go_at_call 88; refine (rk_trim hr1 Rl.out Hk.out _ _).mono ?_; rintro e w2 ⟨rfl, ⟨r2, hr2, rel2⟩, sp2⟩; have hd2 := (hd1.spare hr2.2.1 sp2).more hmn; have hblk2 := sp2.blk hblk1 (by decide)))
    have H2 := Lib.hid hd2; have H3 := Lib.hid hr2; have H4 := Lib.hid rel2; have H5 := Lib.hid sp1; have H6 := Lib.hid sp2
    clear hd2 hr2 rel2 sp1 sp2 hd1 hr1 hd0 hr0 hblk0 hblk1
    go_wp2
    go_ret
    exact ⟨rfl, (Sp.out.trans (H5.out.mono (by simp))).trans (H6.out.mono (by simp)), _, ⟨H2.out, _, H3.out, H4.out⟩⟩
  · go_enter Try.func42, Try.ntmps42
    go_wp2_with fail
    generalize w.alloc (.cells #[.int .i64 3, .int .i64 F, .int .i64 N, .string S] 41) = W at *
    generalize w.heap.size = o at *
    have c1 : W.cell? ⟨o, 1, none⟩ = some (.int .i64 F) := hblk0.cell 1
    have c2 : W.cell? ⟨o, 2, none⟩ = some (.int .i64 N) := hblk0.cell 2
    have hmn : n ≤ n + 1 := Nat.le_succ n
    have hmz : 0 ≤ n + 1 := Nat.zero_le _
    clear hmin hm0 hm1 hm2
    refine (ds_turn hd0).mono ?_
    rintro e w1 ⟨rfl, hd1, sp1⟩
    have hr1 := hr0.spare hd1.2.1 sp1
    have hblk1 := sp1.blk hblk0 (by decide)
    have c21 : w1.cell? ⟨o, 2, none⟩ = some (.int .i64 N) := hblk1.cell 2
    go_wp2_with fail
    refine (rk_turn hr1 Rl.out Hk.out).mono ?_
    rintro e w2 ⟨rfl, ⟨r2, hr2, rel2⟩, sp2⟩
    have hd2 := (hd1.spare hr2.2.1 sp2).more hmn
    have H2 := Lib.hid hd2; have H3 := Lib.hid hr2; have H4 := Lib.hid rel2; have H5 := Lib.hid sp1; have H6 := Lib.hid sp2
    clear hd2 hr2 rel2 sp1 sp2 hd1 hr1 hd0 hr0 hblk0 hblk1
    go_wp2
    go_ret
    exact ⟨rfl, (Sp.out.trans (H5.out.mono (by simp))).trans (H6.out.mono (by simp)), _, ⟨H2.out, _, H3.out, H4.out⟩⟩
  · go_enter Try.func42, Try.ntmps42
    go_wp2_with fail
    generalize w.alloc (.cells #[.int .i64 K, .int .i64 F, .int .i64 N, .string S] 41) = W at *
    generalize w.heap.size = o at *
    have c1 : W.cell? ⟨o, 1, none⟩ = some (.int .i64 F) := hblk0.cell 1
    have c2 : W.cell? ⟨o, 2, none⟩ = some (.int .i64 N) := hblk0.cell 2
    have hmn : n ≤ n + 1 := Nat.le_succ n
    have hmz : 0 ≤ n + 1 := Nat.zero_le _
    clear hmin hm0 hm1 hm2
    refine (ds_crash hd0 N hN1 hN2).mono ?_
    rintro e w1 ⟨rfl, hd1, sp1, _⟩
    have hr1 := hr0.spare hd1.2.1 sp1
    have hblk1 := sp1.blk hblk0 (by decide)
    have c21 : w1.cell? ⟨o, 2, none⟩ = some (.int .i64 N) := hblk1.cell 2
    go_wp2_with fail
    refine (rk_crash hr1 Rl.out Hk.out N hN1 hN2).mono ?_
    rintro e w2 ⟨rfl, ⟨r2, hr2, rel2⟩, sp2⟩
    have hd2 := (hd1.spare hr2.2.1 sp2).more hmz
    have H2 := Lib.hid hd2; have H3 := Lib.hid hr2; have H4 := Lib.hid rel2; have H5 := Lib.hid sp1; have H6 := Lib.hid sp2
    clear hd2 hr2 rel2 sp1 sp2 hd1 hr1 hd0 hr0 hblk0 hblk1
    go_wp2
    go_ret
    exact ⟨rfl, (Sp.out.trans (H5.out.mono (by simp))).trans (H6.out.mono (by simp)), _, ⟨H2.out, _, H3.out, H4.out⟩⟩
end Go.Proofs.Ytjmdiobnappgkaa
