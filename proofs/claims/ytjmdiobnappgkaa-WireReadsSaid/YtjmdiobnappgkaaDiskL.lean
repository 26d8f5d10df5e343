/-
  Layer 14 (disk): DiskTrims walked.
-/
import Derived.Test.YtjmdiobnappgkaaDiskF
import Derived.Test.YtjmdiobnappgkaaDiskO
import Derived.Test.YtjmdiobnappgkaaCrcLaw4
import Derived.Deep.RegionHeld3
namespace Go.Proofs.Ytjmdiobnappgkaa
open Go.RowKit
set_option linter.unusedVariables false
set_option linter.unusedSimpArgs false

theorem IsOps.below {w w' : World} {B : Nat} {A : Option Addr} {len : Nat} {ops : Nat → OpV} (h : IsOps w B A len ops) (hB : w.heap.size = B) (hb : Below B w w') : IsOps w' B A len ops := by
  refine ⟨h.1, fun i hi => ?_⟩
  obtain ⟨b, q, o⟩ := h.2 i hi
  have c {p : Addr} {v : Value} (hc : w.cell? p = some v) : w'.cell? p = some v := cell_belowB hb hB hc
  exact ⟨b, q, o.at_, o.lt, c o.c0, c o.c1, c o.c2, c o.c3, o.hK, o.hF, o.hN, o.hS⟩

theorem run_min_int2 {P : Program} (w : World) (ts : Array TypeId) (t : TypeId) (k1 k2 : IntKind) (x y : Int) (n : Int) (hn : min x y = n) : (Builtin.min_ ts t #[.int k1 x, .int k2 y]).run P w = .ok (.int k1 n) w := by
  subst hn
  simp [Builtin.min_, Builtin.min2]
  have e : ∀ p q : Int, (if q < p then q else p) = min p q := fun p q => by rw [Int.min_def]; split <;> split <;> omega
  simp only [e]
theorem bit1 (f : Nat) (hf : f < 256) : ∃ kk : Int, (kk = 0 ∨ kk = 1) ∧ bits BinOp.and IntKind.u8 (f : Int) 1 = kk := by
  have : ∀ f : Fin 256, bits BinOp.and IntKind.u8 ((f.val : Nat) : Int) 1 = 0 ∨ bits BinOp.and IntKind.u8 ((f.val : Nat) : Int) 1 = 1 := by decide +kernel
  rcases this ⟨f, hf⟩ with h | h
  · exact ⟨0, Or.inl rfl, h⟩
  · exact ⟨1, Or.inr rfl, h⟩
theorem trim_bad {D : DS} {k n : Int} (hk : valid k) (hb : n < 0 ∨ ((readR D k).size : Int) < n) : trimR D k n = 1 ∧ trimD D k n = D := by
  rw [readR, if_pos hk] at hb
  have : trimBad D k n := Or.inr hb
  exact ⟨by rw [trimR, if_pos this], by rw [trimD, if_pos (Or.inl this)]⟩
theorem trim_good {D : DS} {k n : Int} (hk : valid k) (hl : looseAll D.loose = 0) (h0 : 0 ≤ n) (h1 : n ≤ ((readR D k).size : Int)) :
    trimR D k n = 0 ∧ readR (trimD D k n) k = (readR D k).extract 0 n.toNat ∧ readR (trimD D k n) (1 - k) = readR D (1 - k) ∧ looseAll (trimD D k n).loose = 0 := by
  rw [readR, if_pos hk] at h1
  have hb : ¬ trimBad D k n := by rintro (h | h | h); exact h hk; omega; omega
  have e : trimD D k n = D.trim k.toNat n.toNat := by rw [trimD, if_neg]; rintro (h | h); exact hb h; omega
  have hk2 : valid (1 - k) := by unfold valid at *; omega
  rw [e]
  have : k = 0 ∨ k = 1 := by unfold valid at hk; omega
  rcases this with rfl | rfl
  · exact ⟨by rw [trimR, if_neg hb, if_neg (by omega)], by simp [readR, valid, DS.trim, DS.file], by simp [readR, valid, DS.trim, DS.file], hl⟩
  · exact ⟨by rw [trimR, if_neg hb, if_neg (by omega)], by simp [readR, valid, DS.trim, DS.file], by simp [readR, valid, DS.trim, DS.file], hl⟩
theorem World.DKb {w0 w : World} {g : Nat} {d : DS} {n : Nat} (h : DK w0 w g d (n + 1)) : Below w0.heap.size w0 w := h.2.1
set_option maxRecDepth 100000 in
set_option maxHeartbeats 1600000 in
theorem diskTrims_walk (A : Option Addr) (len cap : Nat) (ops : Nat → OpV) (w : World) (ho : IsOps w w.heap.size A len ops) (f : Nat) (hf : f < 256) (n : Int) (hn1 : -9223372036854775808 ≤ n) (hn2 : n ≤ 9223372036854775807) :
    Calls Try.prog 11 #[.slice A len cap, .int .u8 f, .int .i64 n] w fun e w' => e = .returned (.bool true) ∧ Below w.heap.size w w' := by
  have hlen : len ≤ 9223372036854775807 := ho.1
  go_enter Try.func11, Try.ntmps11
  go_wp2_with fail
  refine (dk_new 10000 (by decide) w).mono ?_
  rintro e w1 ⟨rfl, h1⟩
  go_wp2
  go_loopw [9] (fun i wr => ∃ (k : Nat) (d : DS), k ≤ len ∧ k ≤ 20 ∧ i = .int .i64 k ∧ DK w wr w.heap.size d k) (fun i _ => 20 - (intOf i).toNat)
  case atStart => exact ⟨0, _, Nat.zero_le _, Nat.zero_le _, rfl, h1⟩
  case round =>
    obtain ⟨k, d, hk1, hk2, rfl, hd⟩ := hrel
    have hcase : (k < len ∧ k < 20) ∨ (¬ k < len) ∨ (k < len ∧ ¬ k < 20) := by omega
    rcases hcase with ⟨hlt, hlt2⟩ | hlt | ⟨hlt, hlt2⟩
    · obtain ⟨b, q, o⟩ := ho.2 k hlt
      generalize ops k = op at o
      obtain ⟨K, F, N, S⟩ := op
      obtain ⟨rfl, hbl, c0, c1, c2, c3, hK, hF, hN, hS⟩ := o
      simp only at c0 c1 c2 c3 hK hF hN hS
      have d1 := cell_belowB hd.2.1 rfl c1
      have d3 := cell_belowB hd.2.1 rfl c3
      obtain ⟨m, hm⟩ : ∃ m : Nat, min (S.size : Int) 60 = (m : Int) := ⟨(min (S.size : Int) 60).toNat, by omega⟩
      have hmin : ∀ wx, (Builtin.min_ #[3, 3] 3 #[.int .i64 (S.size : Int), .int .i64 60]).run Try.prog wx = .ok (.int .i64 m) wx := fun wx => run_min_int2 wx _ _ _ _ _ _ _ hm
      have hm0 : (0 : Int) ≤ (m : Int) := by omega
      have hm1 : (m : Int) ≤ (S.size : Int) := by omega
      have hm2 : m ≤ S.size := by omega
      clear hm
      go_wp2_with fail
      go_region_held3 (fun wx => wx.cell? ⟨b, q + k * 4 + 1, none⟩ = some (.int .i64 F) ∧ wx.cell? ⟨b, q + k * 4 + 3, none⟩ = some (.string S)) (first | (go_keep; done) | exact ⟨cell_belowB (World.DKb (by assumption)) rfl c1, cell_belowB (World.DKb (by assumption)) rfl c3⟩)
          (first | (go_at_call 31; refine (dk_put hd (by omega) _ _).mono ?_; rintro e w' ⟨rfl, hd'⟩) | (go_at_call 31; refine (dk_put (hd.drewN _) (by omega) _ _).mono ?_; rintro e w' ⟨rfl, hd'⟩))
      have Hd := Lib.hid hd'; clear hd'
      clear hd c0 c1 c2 c3 d1 d3 hmin hm0 hm1 hm2
      go_wp2
      refine ⟨⟨k + 1, _, by omega, by omega, by simp, Hd.out⟩, ?_⟩
      simp [intOf]; omega
    all_goals
      clear ho h1 hlen
      obtain ⟨kk, hv, hq⟩ := bit1 f hf
      have hw0 : IntKind.i64.wrap kk = kk := by rcases hv with rfl | rfl <;> rfl
      have hw1 : IntKind.i64.wrap (1 - kk) = 1 - kk := by rcases hv with rfl | rfl <;> rfl
      have hval : valid kk := by unfold valid; omega
      clear hv
      have Hval := Lib.hid hval; clear hval
      go_wp2_with fail
      refine (dk_sync hd).mono ?_
      rintro e w2 ⟨rfl, h2⟩
      clear hd
      have hl0 : looseAll d.sync.loose = 0 := rfl
      generalize d.sync = D at h2 hl0
      clear hlt
      obtain ⟨x, hx⟩ : ∃ x, readR D kk = x := ⟨_, rfl⟩
      obtain ⟨y, hy⟩ : ∃ y, readR D (1 - kk) = y := ⟨_, rfl⟩
      have Hx := Lib.hid hx; have Hy := Lib.hid hy; have Hl := Lib.hid hl0
      clear hx hy hl0
      go_wp2_with fail
      refine (at_read h2 kk x Hx.out).mono ?_
      rintro e wx ⟨rfl, rfl⟩
      go_wp2_with fail
      refine (at_read h2 (1 - kk) y Hy.out).mono ?_
      rintro e wx ⟨rfl, rfl⟩
      go_wp2_with fail
      have hcase : (n < 0 ∨ (¬ n < 0 ∧ (x.size : Int) < n)) ∨ (0 ≤ n ∧ n ≤ (x.size : Int)) := by omega
      rcases hcase with hbad | ⟨hg1, hg2⟩
      · have u := trim_bad (D := D) (n := n) Hval.out (by rw [Hx.out]; omega)
        refine (at_trim h2 kk n 1 D u.1 u.2).mono ?_
        rintro e w3 ⟨rfl, h3⟩
        clear h2 u
        rcases hbad with hbad | ⟨hbad, hbad2⟩
        all_goals
          go_wp2_with fail
          refine (at_read h3 kk x Hx.out).mono ?_
          rintro e wx ⟨rfl, rfl⟩
          go_wp2_with fail
          refine (at_read h3 (1 - kk) y Hy.out).mono ?_
          rintro e wx ⟨rfl, rfl⟩
          go_wp2_with fail
          refine (diskFixed_any _).mono ?_
          rintro e w4 ⟨rfl, hb4⟩
          have H4 := Lib.hid (below_step hb4 rfl h3.2.1)
          clear hb4 h3
          go_wp2
          go_ret
          exact ⟨rfl, H4.out⟩
      · have g := trim_good (D := D) (n := n) Hval.out Hl.out hg1 (by rw [Hx.out]; exact hg2)
        rw [Hx.out, Hy.out] at g
        obtain ⟨g0, gx, gy, gl⟩ := g
        refine (at_trim h2 kk n 0 (trimD D kk n) g0 rfl).mono ?_
        rintro e w3 ⟨rfl, h3⟩
        clear h2 g0
        generalize trimD D kk n = D' at h3 gx gy gl
        have hng : ¬ n < 0 := by omega
        have hng2 : ¬ (x.size : Int) < n := by omega
        have hs3 := h3.2.1
        go_wp2_with fail
        go_region_held3 (fun wx => DK w wx w.heap.size D' 0) (first | (go_keep; done) | assumption | exact DK.below (by assumption) ((Below.refl _ _).drew) | exact DK.below (by assumption) (by assumption))
          (first | (go_at_call 33; refine (dk_read (by assumption) _).mono ?_; rintro e w' ⟨rfl, rfl⟩) | (go_at_call 34; refine (dk_loose (by assumption)).mono ?_; rintro e w' ⟨rfl, hd'⟩) | (go_at_call 36; refine (diskFixed_any _).mono ?_; rintro e w' ⟨rfl, hb'⟩))
        rename_i hHeld
        have H4 := Lib.hid hHeld.2.1
        clear hHeld
        go_wp2
        go_ret
        exact ⟨rfl, H4.out⟩
theorem diskTrims_go (A : Option Addr) (len cap : Nat) (ops : Nat → OpV) {w' : World} (ho : IsOps w' w'.heap.size A len ops) (f : Int) (hf : (Lit.int .u8 f).wf = true) (n : Int) (hn : (Lit.int .i64 n).wf = true) :
    Calls Try.prog 11 #[.slice A len cap, .int .u8 f, .int .i64 n] w' fun e w'' => e = .returned (.bool true) ∧ Below w'.heap.size w' w'' := by
  obtain ⟨m, hm, rfl⟩ := u8_of_wf hf
  exact diskTrims_walk A len cap ops w' ho m hm n (i64_of_wf hn).1 (i64_of_wf hn).2
end Go.Proofs.Ytjmdiobnappgkaa
