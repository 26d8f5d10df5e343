/-
  Layer 14 (disk): DiskRoom walked.
-/
import Derived.Test.YtjmdiobnappgkaaDiskP
namespace Go.Proofs.Ytjmdiobnappgkaa
open Go.RowKit
set_option linter.unusedVariables false
set_option linter.unusedSimpArgs false

theorem IsDisk.blocks {w : World} {base g : Nat} {v : Value} {d : DS} (h : IsDisk w base g v d) : ∀ k ∈ (g :: v.ownBlock.toList), k < w.heap.size := by
  intro k hk
  rcases List.mem_cons.1 hk with rfl | hk
  · exact h.blk.lt
  · simp only [Option.mem_toList] at hk
    exact (h.own.lt k hk).2
/-- Put, called where other blocks were made since: those stay. -/
theorem dk_put_b {w0 w : World} {g : Nat} {d : DS} {n : Nat} (h : DK w0 w g d n) (hn : n < 1000000) {w1 : World} (hb : Below w.heap.size w w1) (f : Int) (s : ByteArray) : Calls Try.prog 31 #[.pointer (some ⟨g, 0, none⟩), .int .i64 f, .string s] w1 fun e w' => e = .returned (.int .i64 (putR d f s)) ∧ DK w0 w' g (putD d f s) (n + 1) ∧ ∀ b o, w.heap.size ≤ b → b < w1.heap.size → w'.cell? ⟨b, o, none⟩ = w1.cell? ⟨b, o, none⟩ := by
  have hbl : ∀ v, IsDisk w w0.heap.size g v d → ∀ k ∈ (g :: v.ownBlock.toList), k < w.heap.size := fun v hv => hv.blocks
  obtain ⟨⟨v, hv0⟩, hb0, hk, hl, h3⟩ := h
  have hb1 := hbl v hv0
  have hv := hv0.below hb
  have hh : DK w0 w1 g d n := DK.below ⟨⟨v, hv0⟩, hb0, hk, hl, h3⟩ hb
  by_cases hf : valid f
  · by_cases hs : d.free < s.size
    · refine (put_full hv hk f hf.1 hf.2 s hs).mono ?_
      rintro e w' ⟨rfl, q, rfl⟩
      refine ⟨by rw [putR, if_pos hf, if_pos hs], ?_, fun _ _ _ _ => rfl⟩
      rw [putD, if_neg (fun c => c.2 hs)]
      obtain ⟨a, b, c, e, f'⟩ := hh.drewN q
      exact ⟨a, b, c, by omega, f'⟩
    · obtain ⟨m, rfl⟩ := Int.eq_ofNat_of_zero_le hf.1
      have hm : m < 2 := by have := hf.2; omega
      refine (put_ok hv hk m hm s (by omega) (by omega)).mono ?_
      rintro e w' ⟨rfl, v', hv', hvv, ho⟩
      refine ⟨by rw [putR, if_pos hf, if_neg hs], ?_, ?_⟩
      · rw [putD, if_pos ⟨hf, hs⟩, Int.toNat_natCast]
        exact hh.only hv hv' ho (put_okd hk m hm s (by omega) (by omega)) (by rw [put_loose d m hm]; simp; omega)
      · intro b o hbb hlt
        have := ho.block b hlt (fun hm => by have := hb1 b hm; omega)
        simp only [World.cell?, this]
  · have hf' : f < 0 ∨ 2 ≤ f := by unfold valid at hf; omega
    refine (put_arg g f hf' s w1).mono ?_
    rintro e w' ⟨rfl, rfl⟩
    refine ⟨by rw [putR, if_neg hf], ?_, fun _ _ _ _ => rfl⟩
    rw [putD, if_neg (fun c => hf c.1)]
    obtain ⟨a, b, c, e, f'⟩ := hh
    exact ⟨a, b, c, by omega, f'⟩

set_option maxRecDepth 100000 in
set_option maxHeartbeats 4000000 in
theorem diskRoom_walk (room : Nat) (hr : room < 256) (A : Option Addr) (len cap : Nat) (ops : Nat → OpV) (w : World) (ho : IsOps w w.heap.size A len ops) :
    Calls Try.prog 10 #[.int .u8 room, .slice A len cap] w fun e w' => e = .returned (.bool true) ∧ Below w.heap.size w w' := by
  have hlen : len ≤ 9223372036854775807 := ho.1
  have hwr : IntKind.i64.wrap (room : Int) = room := by rw [IntKind.wrap_i64]; omega
  go_enter Try.func10, Try.ntmps10
  go_wp2_with fail
  refine (dk_new room (by omega) w).mono ?_
  rintro e w1 ⟨rfl, h1⟩
  go_wp2
  go_loopw [7] (fun i wr => ∃ (k : Nat) (d : DS) (n : Nat), k ≤ len ∧ k ≤ 40 ∧ n ≤ k ∧ i = .int .i64 k ∧ d.room = room ∧ DK w wr w.heap.size d n) (fun i _ => 40 - (intOf i).toNat)
  case atStart => exact ⟨0, _, 0, Nat.zero_le _, Nat.zero_le _, Nat.le_refl _, rfl, rfl, h1⟩
  case round =>
    obtain ⟨k, d, n, hk1, hk2, hn, rfl, hroom, hd⟩ := hrel
    have hcase : (k < len ∧ k < 40) ∨ (¬ k < len) ∨ (k < len ∧ ¬ k < 40) := by omega
    rcases hcase with ⟨hlt, hlt2⟩ | hlt | ⟨hlt, hlt2⟩
    · obtain ⟨b, q, o⟩ := ho.2 k hlt
      generalize ops k = op at o
      obtain ⟨K, F, N, S⟩ := op
      obtain ⟨rfl, hbl, c0, c1, c2, c3, hK, hF, hN, hS⟩ := o
      simp only at c0 c1 c2 c3 hK hF hN hS
      have d0 := cell_belowB hd.2.1 rfl c0
      have d1 := cell_belowB hd.2.1 rfl c1
      have d2 := cell_belowB hd.2.1 rfl c2
      have d3 := cell_belowB hd.2.1 rfl c3
      have hKc : K = 0 ∨ K = 1 ∨ K = 2 ∨ K = 3 ∨ (¬ K = 0 ∧ ¬ K = 1 ∧ ¬ K = 2 ∧ ¬ K = 3) := by omega
      obtain ⟨m, hm⟩ : ∃ m : Nat, min (S.size : Int) 60 = (m : Int) := ⟨(min (S.size : Int) 60).toNat, by omega⟩
      have hmin : ∀ wx, (Builtin.min_ #[3, 3] 3 #[.int .i64 (S.size : Int), .int .i64 60]).run Try.prog wx = .ok (.int .i64 m) wx := fun wx => run_min_int2 wx _ _ _ _ _ _ _ hm
      have hm0 : (0 : Int) ≤ (m : Int) := by omega
      have hm1 : (m : Int) ≤ (S.size : Int) := by omega
      have hm2 : m ≤ S.size := by omega
      clear hm
      clear ho h1 c0 c1 c2 c3 hF hS
      rcases hKc with rfl | rfl | rfl | rfl | ⟨hK0, hK1, hK2, hK3⟩
      focus
        clear hK hN
        go_wp2_with fail
        go_region_held3 (fun wx => wx.cell? ⟨wr.heap.size, 1, none⟩ = some (.int .i64 F) ∧ wx.cell? ⟨wr.heap.size, 3, none⟩ = some (.string S)) (first | (go_keep; done) | exact ⟨(hcells _ 1 (Nat.le_refl _) (by simp)).trans (by simp), (hcells _ 3 (Nat.le_refl _) (by simp)).trans (by simp)⟩)
          (first | (go_at_call 31; refine (dk_put_b hd (by omega) ((Below.refl _ _).alloc (Nat.le_refl _) _) _ _).mono ?_; rintro e w' ⟨rfl, hd', hcells⟩) | (go_at_call 31; refine (dk_put_b hd (by omega) (below_drewN' ((Below.refl _ _).alloc (Nat.le_refl _) _) _) _ _).mono ?_; rintro e w' ⟨rfl, hd', hcells⟩))
        rename_i hHeld
        clear hHeld hmin hm0 hm1 hm2 d0 d1 d2 d3 hd
        have hrm : (putD d F (S.extract 0 m)).room = room := by rw [put_room]; exact hroom
        have hn' : n + 1 ≤ k + 1 := by omega
        generalize putD d F (S.extract 0 m) = D at hd' hrm
        clear hroom hn
        generalize n + 1 = np at hd' hn'
      rotate_left
      focus
        have ha : DK w (wr.alloc (.cells #[.int .i64 1, .int .i64 F, .int .i64 N, .string S] 41)) w.heap.size d n := DK.below hd ((Below.refl _ _).alloc (Nat.le_refl _) _)
        clear hmin hm0 hm1 hm2
        go_wp2_with fail
        refine (dk_sync ha).mono ?_
        rintro e w' ⟨rfl, hd'⟩
        clear ha hd d0 d1 d2 d3
        have hrm : d.sync.room = room := hroom
        generalize d.sync = D at hd' hrm
        clear hroom hn
        obtain ⟨np, hn', hd'⟩ : ∃ np, np ≤ k + 1 ∧ DK w w' w.heap.size D np := ⟨0, Nat.zero_le _, hd'⟩
      rotate_left
      focus
        have ha : DK w (wr.alloc (.cells #[.int .i64 2, .int .i64 F, .int .i64 N, .string S] 41)) w.heap.size d n := DK.below hd ((Below.refl _ _).alloc (Nat.le_refl _) _)
        clear hmin hm0 hm1 hm2
        go_wp2_with fail
        refine (dk_trim ha F N).mono ?_
        rintro e w' ⟨rfl, hd'⟩
        clear ha hd d0 d1 d2 d3
        have hrm : (trimD d F N).room = room := by rw [trim_room]; exact hroom
        have hn' : n ≤ k + 1 := by omega
        generalize trimD d F N = D at hd' hrm
        clear hroom hn
      rotate_left
      focus
        have ha : DK w (wr.alloc (.cells #[.int .i64 3, .int .i64 F, .int .i64 N, .string S] 41)) w.heap.size d n := DK.below hd ((Below.refl _ _).alloc (Nat.le_refl _) _)
        clear hmin hm0 hm1 hm2
        go_wp2_with fail
        refine (dk_turn ha).mono ?_
        rintro e w' ⟨rfl, hd'⟩
        clear ha hd d0 d1 d2 d3
        have hrm : (turnD d).room = room := by rw [turn_room]; exact hroom
        have hn' : n ≤ k + 1 := by omega
        generalize turnD d = D at hd' hrm
        clear hroom hn
      rotate_left
      focus
        have ha : DK w (wr.alloc (.cells #[.int .i64 K, .int .i64 F, .int .i64 N, .string S] 41)) w.heap.size d n := DK.below hd ((Below.refl _ _).alloc (Nat.le_refl _) _)
        clear hmin hm0 hm1 hm2
        go_wp2_with fail
        refine (dk_crash ha N hN.1 hN.2).mono ?_
        rintro e w' ⟨rfl, hd'⟩
        clear ha hd d0 d1 d2 d3
        have hrm : (crashD d N).room = room := by rw [crash_room]; exact hroom
        generalize crashD d N = D at hd' hrm
        clear hroom hn
        obtain ⟨np, hn', hd'⟩ : ∃ np, np ≤ k + 1 ∧ DK w w' w.heap.size D np := ⟨0, Nat.zero_le _, hd'⟩
      all_goals
        have hok := hd'.2.2.1
        have hf0 := free_sum hok
        have hl0 := loose_sum hok
        have hsz := hok.room
        rw [hrm] at hf0 hsz
        have Hrm := Lib.hid hrm
        clear hok hrm
        obtain ⟨x, hx⟩ : ∃ x, readR D 0 = x := ⟨_, rfl⟩
        obtain ⟨y, hy⟩ : ∃ y, readR D 1 = y := ⟨_, rfl⟩
        obtain ⟨L, hL⟩ : ∃ L, looseAll D.loose = L := ⟨_, rfl⟩
        obtain ⟨fr, hfr⟩ : ∃ fr, D.free = fr := ⟨_, rfl⟩
        rw [hx, hy, hL] at hl0
        rw [hx, hy, hfr] at hf0
        have Hx := Lib.hid hx; have Hy := Lib.hid hy
        have HL := Lib.hid (show (looseAll D.loose : Int) = L by rw [hL])
        have Hf := Lib.hid (show (D.free : Int) = fr by rw [hfr])
        clear hx hy hL hfr
        have hw1 : IntKind.i64.wrap ((x.size : Int) + (y.size : Int)) = (x.size : Int) + (y.size : Int) := by rw [IntKind.wrap_i64]; omega
        have hw2 : IntKind.i64.wrap ((fr : Int) + ((x.size : Int) + (y.size : Int))) = (room : Int) := by rw [hf0]; exact hwr
        have hg1 : ¬ ((x.size : Int) + (y.size : Int)) < (L : Int) := by omega
        have hg2 : ¬ (L : Int) < 0 := by omega
        have hg3 : ¬ (fr : Int) < 0 := by omega
        clear hf0 hl0 hsz
        go_wp2_with fail
        refine (at_read hd' 0 x Hx.out).mono ?_
        rintro e wx ⟨rfl, rfl⟩
        go_wp2_with fail
        refine (at_read hd' 1 y Hy.out).mono ?_
        rintro e wx ⟨rfl, rfl⟩
        go_wp2_with fail
        refine (at_free hd' fr Hf.out).mono ?_
        rintro e w2 ⟨rfl, h2⟩
        clear hd'
        go_wp2_with fail
        refine (at_loose h2 L HL.out).mono ?_
        rintro e w3 ⟨rfl, h3⟩
        clear h2
        go_wp2_with fail
        refine (at_loose h3 L HL.out).mono ?_
        rintro e w4 ⟨rfl, h4⟩
        clear h3
        go_wp2_with fail
        refine (at_free h4 fr Hf.out).mono ?_
        rintro e w5 ⟨rfl, h5⟩
        clear h4
        have H5 := Lib.hid h5; clear h5
        go_wp2
        refine ⟨⟨k + 1, _, _, by omega, by omega, hn', by simp, Hrm.out, H5.out⟩, ?_⟩
        simp [intOf]; omega
    all_goals
      clear ho h1 hlen hwr
      go_wp2_with fail
      refine (diskFixed_any _).mono ?_
      rintro e w7 ⟨rfl, hb7⟩
      have H4 := Lib.hid (below_step hb7 rfl hd.2.1)
      clear hb7 hd
      go_wp2
      go_ret
      exact ⟨rfl, H4.out⟩
theorem diskRoom_go (room : Int) (hr : (Lit.int .u8 room).wf = true) (A : Option Addr) (len cap : Nat) (ops : Nat → OpV) {w' : World} (ho : IsOps w' w'.heap.size A len ops) :
    Calls Try.prog 10 #[.int .u8 room, .slice A len cap] w' fun e w'' => e = .returned (.bool true) ∧ Below w'.heap.size w' w'' := by
  obtain ⟨m, hm, rfl⟩ := u8_of_wf hr
  exact diskRoom_walk m hm A len cap ops w' ho
end Go.Proofs.Ytjmdiobnappgkaa
