/-
  Layer 14 (disk): DiskDoes walked.
-/
import Derived.Test.YtjmdiobnappgkaaDiskPl
namespace Go.Proofs.Ytjmdiobnappgkaa
open Go.RowKit
set_option linter.unusedVariables false
set_option linter.unusedSimpArgs false

theorem own_base {w : World} {base base' : Nat} {e : TypeId} {size n : Nat} {v : Value} {xs : List Value} (h : w.ownsRow base e size v n xs) (hb : base' ≤ base) : w.ownsRow base' e size v n xs := by
  refine ⟨h.1, h.2.imp id ?_⟩
  rintro ⟨g, cap, cur, hv, hg, r⟩
  exact ⟨g, cap, cur, hv, Nat.le_trans hb hg, r⟩
theorem IsDisk.base {w : World} {base base' g : Nat} {v : Value} {d : DS} (h : IsDisk w base g v d) (hb : base' ≤ base) : IsDisk w base' g v d := ⟨h.blk, Nat.le_trans hb h.hb, own_base h.own hb⟩
/-- What the comparison of both disks looks at. -/
def Held (w0 w : World) (g : Nat) (v : Value) (d : DS) (gr : Nat) (A : Option Addr) (cp L : Nat) (r : RS) (o : Nat) (cs : Array Value) : Prop :=
  IsDisk w w0.heap.size g v d ∧ IsRef w w0.heap.size gr (.slice A L cp) r ∧ Below w0.heap.size w0 w ∧ w0.heap.size ≤ w.heap.size ∧ Blk w o 41 cs
section
variable {w0 w w' : World} {g : Nat} {v : Value} {d : DS} {gr : Nat} {A : Option Addr} {cp L : Nat} {r : RS} {o : Nat} {cs : Array Value} {X : Prop} {K F N : Int} {S : ByteArray}
theorem Held.below (h : Held w0 w g v d gr A cp L r o cs) (hb : Below w.heap.size w w') : Held w0 w' g v d gr A cp L r o cs := by
  obtain ⟨h1, h2, h3, h4, h5⟩ := h
  exact ⟨h1.below hb, h2.below hb, h3.trans (hb.mono h4), Nat.le_trans h4 hb.size, (Spare.ofBelow (T := []) hb).blk h5 (by simp)⟩
theorem Held.full (h : Held w0 w g v d gr A cp L r o #[.int .i64 K, .int .i64 F, .int .i64 N, .string S]) : Held w0 w g v d gr A cp L r o #[.int .i64 K, .int .i64 F, .int .i64 N, .string S] ∧ w.cell? ⟨gr, 2, none⟩ = some (.slice A L cp) ∧ w.cell? ⟨o, 1, none⟩ = some (.int .i64 F) :=
  ⟨h, h.2.1.c2, h.2.2.2.2.cell 1⟩
theorem heldKeep (h : Held w0 w g v d gr A cp L r o #[.int .i64 K, .int .i64 F, .int .i64 N, .string S] ∧ X) (hb : Below w.heap.size w w') : Held w0 w' g v d gr A cp L r o #[.int .i64 K, .int .i64 F, .int .i64 N, .string S] ∧ w'.cell? ⟨gr, 2, none⟩ = some (.slice A L cp) ∧ w'.cell? ⟨o, 1, none⟩ = some (.int .i64 F) :=
  (h.1.below hb).full
theorem q_read (h : Held w0 w g v d gr A cp L r o cs ∧ X) (f : Int) (x : ByteArray) (hx : readR d f = x) : Calls Try.prog 33 #[.pointer (some ⟨g, 0, none⟩), .int .i64 f] w fun e w' => e = .returned (.string x) ∧ Below w.heap.size w w' := by
  obtain ⟨⟨h1, _⟩, _⟩ := h
  subst hx
  by_cases hf : valid f
  · obtain ⟨m, rfl⟩ := Int.eq_ofNat_of_zero_le hf.1
    refine (read_yes h1 m (by have := hf.2; omega)).mono ?_
    rintro e w' ⟨rfl, rfl⟩
    exact ⟨by rw [readR, if_pos hf]; rfl, Below.refl _ _⟩
  · refine (read_no g f (by unfold valid at hf; omega) w).mono ?_
    rintro e w' ⟨rfl, rfl⟩
    exact ⟨by rw [readR, if_neg hf], Below.refl _ _⟩
theorem q_rread (h : Held w0 w g v d gr A cp L r o cs ∧ X) (hk : r.ok) (rel : Rel d r) (f : Int) (hf : f = 0 ∨ f = 1) : Calls Try.prog 43 #[.pointer (some ⟨gr, 0, none⟩), .int .i64 f] w fun e w' => e = .returned (.string (readR d f)) ∧ Below w.heap.size w w' := by
  rcases hf with rfl | rfl
  · have : readR d 0 = r.file 0 := by rw [rel.f0]; simp [readR, valid, DS.file]
    rw [this]; exact rread_yes h.1.2.1 hk 0 (by decide)
  · have : readR d 1 = r.file 1 := by rw [rel.f1]; simp [readR, valid, DS.file]
    rw [this]; exact rread_yes h.1.2.1 hk 1 (by decide)
theorem q_loose (h : Held w0 w g v d gr A cp L r o cs ∧ X) (hk : d.ok) (hl : looseAll d.loose = L) : Calls Try.prog 34 #[.pointer (some ⟨g, 0, none⟩)] w fun e w' => e = .returned (.int .i64 (L : Int)) ∧ Below w.heap.size w w' := by
  subst hl; exact loose_any h.1.1 hk
theorem q_free (h : Held w0 w g v d gr A cp L r o cs ∧ X) (hk : d.ok) (fr : Int) (hf : (d.free : Int) = fr) : Calls Try.prog 37 #[.pointer (some ⟨g, 0, none⟩)] w fun e w' => e = .returned (.int .i64 fr) ∧ Below w.heap.size w w' := by
  subst hf
  refine (free_any h.1.1 hk).mono ?_
  rintro e w' ⟨rfl, n, rfl⟩
  exact ⟨rfl, below_drewN' (Below.refl _ _) n⟩
theorem q_rfree (h : Held w0 w g v d gr A cp L r o cs ∧ X) (hk : r.ok) (fr : Int) (hf : (r.room : Int) - (r.a.size : Int) - (r.b.size : Int) - (r.loose.length : Int) = fr) : Calls Try.prog 44 #[.pointer (some ⟨gr, 0, none⟩)] w fun e w' => e = .returned (.int .i64 fr) ∧ Below w.heap.size w w' := by
  subst hf
  refine (rfree_any h.1.2.1 hk).mono ?_
  rintro e w' ⟨rfl, n, rfl⟩
  exact ⟨rfl, below_drewN' (Below.refl _ _) n⟩
/-- Put, called on a disk where other blocks were made since: which blocks it may turn. -/
theorem old_put {n : Nat} (h : DK w0 w g d n) (hn : n < 1000000) {w1 : World} (hb : Below w.heap.size w w1) (f : Int) (s : ByteArray) : Calls Try.prog 31 #[.pointer (some ⟨g, 0, none⟩), .int .i64 f, .string s] w1 fun e w' => e = .returned (.int .i64 (putR d f s)) ∧ DK w0 w' g (putD d f s) (n + 1) ∧ Spare [117, 120] w1 w' ∧ ∃ l, Only w1.heap.size l w1 w' ∧ ∀ k ∈ l, k < w.heap.size := by
  obtain ⟨⟨v, hv0⟩, hb0, hk, hl, h3⟩ := h
  have hb1 : ∀ k ∈ (g :: v.ownBlock.toList), k < w.heap.size := fun k hk => by
    obtain ⟨cs, t, fr, h, _⟩ := hv0.typed k hk
    exact (Array.getElem?_eq_some_iff.1 h).1
  have hv := hv0.below hb
  have hh : DK w0 w1 g d n := DK.below ⟨⟨v, hv0⟩, hb0, hk, hl, h3⟩ hb
  by_cases hf : valid f
  · by_cases hs : d.free < s.size
    · refine (put_full hv hk f hf.1 hf.2 s hs).mono ?_
      rintro e w' ⟨rfl, q, rfl⟩
      refine ⟨by rw [putR, if_pos hf, if_pos hs], ?_, Spare.refl _ _, [], (Only.refl _ _ _).drewN q, by simp⟩
      rw [putD, if_neg (fun c => c.2 hs)]
      obtain ⟨a, b, c, e, f'⟩ := hh.drewN q
      exact ⟨a, b, c, by omega, f'⟩
    · obtain ⟨m, rfl⟩ := Int.eq_ofNat_of_zero_le hf.1
      have hm : m < 2 := by have := hf.2; omega
      refine (put_ok hv hk m hm s (by omega) (by omega)).mono ?_
      rintro e w' ⟨rfl, v', hv', hvv, ho⟩
      refine ⟨by rw [putR, if_pos hf, if_neg hs], ?_, Spare.ofOnly ho hv.typed, _, ho, hb1⟩
      rw [putD, if_pos ⟨hf, hs⟩, Int.toNat_natCast]
      exact hh.only hv hv' ho (put_okd hk m hm s (by omega) (by omega)) (by rw [put_loose d m hm]; simp; omega)
  · have hf' : f < 0 ∨ 2 ≤ f := by unfold valid at hf; omega
    refine (put_arg g f hf' s w1).mono ?_
    rintro e w' ⟨rfl, rfl⟩
    refine ⟨by rw [putR, if_neg hf], ?_, Spare.refl _ _, [], Only.refl _ _ _, by simp⟩
    rw [putD, if_neg (fun c => hf c.1)]
    obtain ⟨a, b, c, e, f'⟩ := hh
    exact ⟨a, b, c, by omega, f'⟩
end
theorem low7 (F : Int) : ∃ k : Nat, k ≤ 7 ∧ bits BinOp.and IntKind.i64 F 7 = (k : Int) := by
  simp only [bits, BitVec.toNat_and, BitVec.toNat_ofInt]
  have e' : ((7 : Int) % ((2 ^ IntKind.i64.bits : Nat) : Int)).toNat = 7 := by decide
  rw [e']
  have hle : (F % ((2 ^ IntKind.i64.bits : Nat) : Int)).toNat &&& 7 ≤ 7 := Nat.and_le_right
  generalize (F % ((2 ^ IntKind.i64.bits : Nat) : Int)).toNat &&& 7 = k at hle ⊢
  refine ⟨k, hle, ?_⟩
  rw [IntKind.wrap_i64]; omega

set_option maxRecDepth 100000 in
set_option maxHeartbeats 6000000 in
theorem diskDoes_walk (room : Int) (A : Option Addr) (len cap : Nat) (ops : Nat → OpV) (w : World) (ho : IsOps w w.heap.size A len ops) :
    Calls Try.prog 12 #[.int .i64 room, .slice A len cap] w fun e w' => e = .returned (.bool true) ∧ Below w.heap.size w w' := by
  have hlen : len ≤ 9223372036854775807 := ho.1
  have hrc : (room < 0 ∨ 16777216 < room) ∨ ∃ m : Nat, room = (m : Int) ∧ m ≤ 16777216 := by
    by_cases h : room < 0 ∨ 16777216 < room
    · exact .inl h
    · exact .inr ⟨room.toNat, by omega, by omega⟩
  rcases hrc with hbad | ⟨m, rfl, hm⟩
  · go_enter Try.func12, Try.ntmps12
    go_wp2_with fail
    refine (new_no room hbad w).mono ?_
    rintro e w1 ⟨rfl, rfl⟩
    go_wp2_with fail
    refine (rnew_no room hbad _).mono ?_
    rintro e w1 ⟨rfl, rfl⟩
    go_wp2
    refine wp_loop_rounds 1 ?_
    rw [rounds_succ]
    go_wp2_with fail
    refine (diskFixed_any _).mono ?_
    rintro e w7 ⟨rfl, hb7⟩
    have H4 := Lib.hid hb7; clear hb7
    go_wp2
    go_ret
    exact ⟨rfl, H4.out⟩
  · go_enter Try.func12, Try.ntmps12
    go_wp2_with fail
    refine (dk_new m hm w).mono ?_
    rintro e w1 ⟨rfl, h1⟩
    go_wp2_with fail
    refine (rnew_yes m hm w1).mono ?_
    rintro e w2 ⟨rfl, h2, o2⟩
    have hb2 : Below w1.heap.size w1 w2 := o2.below (by simp)
    have hB : Both w w2 w.heap.size w1.heap.size (DS.empty m) 0 := by
      have h1' := h1.below hb2
      exact ⟨h1', _, ⟨⟨_, ⟨h2.blk, h1.2.1.size, World.ownsRow_nil _ _ _ _⟩⟩, h1'.2.1, h1'.2.2.2.2⟩, Rel.start m⟩
    clear h1 h2 o2 hb2
    generalize w1.heap.size = gr at *
    go_wp2
    go_loopw [5, 9] (fun p i wr => ∃ (k g : Nat) (d : DS), k ≤ len ∧ k ≤ 50 ∧ p = .pointer (some ⟨g, 0, none⟩) ∧ i = .int .i64 k ∧ Both w wr g gr d k) (fun _ i _ => 50 - (intOf i).toNat)
    case atStart => exact ⟨0, _, _, Nat.zero_le _, Nat.zero_le _, rfl, rfl, hB⟩
    case round =>
      clear hB
      obtain ⟨k, g, d, hk1, hk2, rfl, rfl, hd⟩ := hrel
      have hcase : (k < len ∧ k < 50) ∨ (¬ k < len) ∨ (k < len ∧ ¬ k < 50) := by omega
      rcases hcase with ⟨hlt, hlt2⟩ | hlt | ⟨hlt, hlt2⟩
      · obtain ⟨b, q, o⟩ := ho.2 k hlt
        generalize ops k = op at o
        obtain ⟨K, F, N, S⟩ := op
        obtain ⟨rfl, hbl, c0, c1, c2, c3, hK, hF, hN, hS⟩ := o
        simp only at c0 c1 c2 c3 hK hF hN hS
        have d0 := cell_belowB hd.dk.2.1 rfl c0
        have d1 := cell_belowB hd.dk.2.1 rfl c1
        have d2 := cell_belowB hd.dk.2.1 rfl c2
        have d3 := cell_belowB hd.dk.2.1 rfl c3
        have hd0 := hd.below (alloc_below wr (.cells #[.int .i64 K, .int .i64 F, .int .i64 N, .string S] 41))
        have hblk0 : Blk (wr.alloc (.cells #[.int .i64 K, .int .i64 F, .int .i64 N, .string S] 41)) wr.heap.size 41 #[.int .i64 K, .int .i64 F, .int .i64 N, .string S] := Blk.new _ _ _
        clear ho c0 c1 c2 c3 hd
        by_cases hK5 : K = 5
        · subst hK5
          obtain ⟨hdk0, r0, hr0, rel0⟩ := hd0
          go_wp2_with fail
          generalize wr.alloc (.cells #[.int .i64 5, .int .i64 F, .int .i64 N, .string S] 41) = W0 at *
          have hdk := hdk0.2.2.1
          have hlen0 := hdk0.2.2.2.1
          have hle0 := hdk0.2.2.2.2
          obtain ⟨v0, hv0⟩ := hdk0.1
          have hg0 := hv0.blk.lt
          refine (copy_any hv0 hdk).mono ?_
          rintro e w3 ⟨g2, v3, rfl, hv3, hb3⟩
          clear hv0
          go_wp2_with fail
          refine (old_put hdk0 (by omega) hb3 0 _).mono ?_
          rintro e w4 ⟨rfl, hd4, sp4, l, ho4, hl4⟩
          clear hdk0
          go_wp2_with fail
          refine (ds_crash hd4 2 (by omega) (by omega)).mono ?_
          rintro e W ⟨rfl, hd5, sp5, ho5⟩
          clear hd4
          have hB : Both w W g2 gr d (k + 1) := by
            have hv4 : IsDisk w4 W0.heap.size g2 v3 d := hv3.only ho4 ⟨hv3.blk.lt, fun hm => by have := hl4 _ hm; have := hv3.hb; omega⟩ (fun q hq => ⟨(hv3.own.lt q hq).2, fun hm => by have := hl4 _ hm; have := (hv3.own.lt q hq).1; omega⟩)
            have hv5 : IsDisk W W0.heap.size g2 v3 d := hv4.only ho5 ⟨hv4.blk.lt, by simp; have := hv4.hb; omega⟩ (fun q hq => ⟨(hv4.own.lt q hq).2, by simp; have := (hv4.own.lt q hq).1; omega⟩)
            have hr4 : RK w W gr r0 := (hr0.below hb3).spare hd5.2.1 (sp4.trans sp5)
            exact ⟨⟨⟨v3, hv5.base hle0⟩, hd5.2.1, hdk, by omega, hd5.2.2.2.2⟩, r0, hr4, rel0⟩
          have hblkW := sp5.blk (sp4.blk ((Spare.ofBelow (T := []) hb3).blk hblk0 (by decide)) (by decide)) (by decide)
          clear hr0 rel0 hdk hlen0 hle0 hg0 hv3 hb3 sp4 ho4 hl4 hd5 sp5 ho5 hblk0 d0 d1 d2 d3 hN hK hF hS
          go_wp2_with fail
          have hbf := hB.dk
          obtain ⟨r, hr, rel⟩ := hB.rk
          have hdk := hbf.2.2.1
          have hrk := rel.ok hdk
          obtain ⟨⟨v, hv⟩, hb0, -, -, hle⟩ := hbf
          obtain ⟨⟨v2, hv2⟩, -, -⟩ := hr
          obtain ⟨A2, cp2, rfl, -⟩ := own_form hv2.own
          have hL := rel.len
          obtain ⟨L, hLe⟩ : ∃ L, r.loose.length = L := ⟨_, rfl⟩
          rw [hLe] at hv2 hL
          have hheld : Held w W g2 v d gr A2 cp2 L r wr.heap.size #[.int .i64 5, .int .i64 F, .int .i64 N, .string S] := ⟨hv, hv2, hb0, hle, hblkW⟩
          have hfull := hheld.full
          obtain ⟨fr, hfr⟩ : ∃ fr : Int, (d.free : Int) = fr := ⟨_, rfl⟩
          have hrf := (rel.free hdk).trans hfr
          obtain ⟨kk, hkk, hand⟩ := low7 F
          have hw2 : IntKind.i64.wrap ((kk : Int) + 2) = (kk : Int) + 2 := by rw [IntKind.wrap_i64]; omega
          have hre : readR d ((kk : Int) + 2) = ⟨#[]⟩ := by rw [readR, if_neg]; unfold valid; omega
          have Hfr := Lib.hid hfr; have Hrf := Lib.hid hrf; have HL := Lib.hid hL.symm
          have Hdk := Lib.hid hdk; have Hrk := Lib.hid hrk; have Rl := Lib.hid rel; have Hb0 := Lib.hid hb0
          have Hn := Lib.hid (show d.loose.length ≤ k + 1 from hB.dk.2.2.2.1)
          clear hfr hrf hL hdk hrk rel hb0 hkk hv hv2 hheld hblkW hB hLe hle
          go_region_held3 (fun wx => Held w wx g2 v d gr A2 cp2 L r wr.heap.size #[.int .i64 5, .int .i64 F, .int .i64 N, .string S] ∧ wx.cell? ⟨gr, 2, none⟩ = some (.slice A2 L cp2) ∧ wx.cell? ⟨wr.heap.size, 1, none⟩ = some (.int .i64 F)) (first | exact heldKeep hfull ((Below.refl _ _).drew) | exact heldKeep (by assumption) hbq | (go_keep; done))
            (first
              | (go_at_call 33; refine (q_read (by assumption) _ _ rfl).mono ?_; rintro e w' ⟨rfl, hbq⟩)
              | (go_at_call 43; refine (q_rread (by assumption) Hrk.out Rl.out _ (by simp)).mono ?_; rintro e w' ⟨rfl, hbq⟩)
              | (go_at_call 34; refine (q_loose (by assumption) Hdk.out HL.out).mono ?_; rintro e w' ⟨rfl, hbq⟩)
              | (go_at_call 37; refine (q_free (by assumption) Hdk.out fr Hfr.out).mono ?_; rintro e w' ⟨rfl, hbq⟩)
              | (go_at_call 44; refine (q_rfree (by assumption) Hrk.out fr Hrf.out).mono ?_; rintro e w' ⟨rfl, hbq⟩))
          rename_i hHeld
          have hB2 : Both w _ g2 gr d (k + 1) := ⟨⟨⟨v, hHeld.1.1⟩, hHeld.1.2.2.1, Hdk.out, Hn.out, hHeld.1.2.2.2.1⟩, r, ⟨⟨_, hHeld.1.2.1⟩, hHeld.1.2.2.1, hHeld.1.2.2.2.1⟩, Rl.out⟩
          have HB := Lib.hid hB2
          clear hB2 hHeld hfull
          go_wp2
          refine ⟨⟨k + 1, g2, d, by omega, by omega, rfl, by simp, HB.out⟩, ?_⟩
          simp [intOf]; omega
        · go_wp2_with fail
          refine (play_any hd0 (by omega) K F N S hN.1 hN.2 hS).mono ?_
          rintro e W ⟨rfl, hsp, d', hB⟩
          have hblkW := hsp.blk hblk0 (by decide)
          clear hd0 hblk0 hsp d0 d1 d2 d3 hN hK hF hS
          go_wp2_with fail

          have hbf := hB.dk
          obtain ⟨r, hr, rel⟩ := hB.rk
          have hdk := hbf.2.2.1
          have hrk := rel.ok hdk
          obtain ⟨⟨v, hv⟩, hb0, -, -, hle⟩ := hbf
          obtain ⟨⟨v2, hv2⟩, -, -⟩ := hr
          obtain ⟨A2, cp2, rfl, -⟩ := own_form hv2.own
          have hL := rel.len
          obtain ⟨L, hLe⟩ : ∃ L, r.loose.length = L := ⟨_, rfl⟩
          rw [hLe] at hv2 hL
          have hheld : Held w W g v d' gr A2 cp2 L r wr.heap.size #[.int .i64 K, .int .i64 F, .int .i64 N, .string S] := ⟨hv, hv2, hb0, hle, hblkW⟩
          have hfull := hheld.full
          obtain ⟨fr, hfr⟩ : ∃ fr : Int, (d'.free : Int) = fr := ⟨_, rfl⟩
          have hrf := (rel.free hdk).trans hfr
          obtain ⟨kk, hkk, hand⟩ := low7 F
          have hw2 : IntKind.i64.wrap ((kk : Int) + 2) = (kk : Int) + 2 := by rw [IntKind.wrap_i64]; omega
          have hre : readR d' ((kk : Int) + 2) = ⟨#[]⟩ := by rw [readR, if_neg]; unfold valid; omega
          have Hfr := Lib.hid hfr; have Hrf := Lib.hid hrf; have HL := Lib.hid hL.symm
          have Hdk := Lib.hid hdk; have Hrk := Lib.hid hrk; have Rl := Lib.hid rel; have Hb0 := Lib.hid hb0
          have Hn := Lib.hid (show d'.loose.length ≤ k + 1 from hB.dk.2.2.2.1)
          clear hfr hrf hL hdk hrk rel hb0 hkk hv hv2 hheld hblkW hB hLe hle
          go_region_held3 (fun wx => Held w wx g v d' gr A2 cp2 L r wr.heap.size #[.int .i64 K, .int .i64 F, .int .i64 N, .string S] ∧ wx.cell? ⟨gr, 2, none⟩ = some (.slice A2 L cp2) ∧ wx.cell? ⟨wr.heap.size, 1, none⟩ = some (.int .i64 F)) (first | exact heldKeep hfull ((Below.refl _ _).drew) | exact heldKeep (by assumption) hbq | (go_keep; done))
            (first
              | (go_at_call 33; refine (q_read (by assumption) _ _ rfl).mono ?_; rintro e w' ⟨rfl, hbq⟩)
              | (go_at_call 43; refine (q_rread (by assumption) Hrk.out Rl.out _ (by simp)).mono ?_; rintro e w' ⟨rfl, hbq⟩)
              | (go_at_call 34; refine (q_loose (by assumption) Hdk.out HL.out).mono ?_; rintro e w' ⟨rfl, hbq⟩)
              | (go_at_call 37; refine (q_free (by assumption) Hdk.out fr Hfr.out).mono ?_; rintro e w' ⟨rfl, hbq⟩)
              | (go_at_call 44; refine (q_rfree (by assumption) Hrk.out fr Hrf.out).mono ?_; rintro e w' ⟨rfl, hbq⟩))
          rename_i hHeld
          have hB2 : Both w _ g gr d' (k + 1) := ⟨⟨⟨v, hHeld.1.1⟩, hHeld.1.2.2.1, Hdk.out, Hn.out, hHeld.1.2.2.2.1⟩, r, ⟨⟨_, hHeld.1.2.1⟩, hHeld.1.2.2.1, hHeld.1.2.2.2.1⟩, Rl.out⟩
          have HB := Lib.hid hB2
          clear hB2 hHeld hfull
          go_wp2
          refine ⟨⟨k + 1, g, d', by omega, by omega, rfl, by simp, HB.out⟩, ?_⟩
          simp [intOf]; omega
      all_goals
        clear ho hlen
        go_wp2_with fail
        refine (diskFixed_any _).mono ?_
        rintro e w7 ⟨rfl, hb7⟩
        have H4 := Lib.hid (below_step hb7 rfl hd.dk.2.1)
        clear hb7 hd
        go_wp2
        go_ret
        exact ⟨rfl, H4.out⟩
theorem diskDoes_go (room : Int) (hr : (Lit.int .i64 room).wf = true) (A : Option Addr) (len cap : Nat) (ops : Nat → OpV) {w' : World} (ho : IsOps w' w'.heap.size A len ops) :
    Calls Try.prog 12 #[.int .i64 room, .slice A len cap] w' fun e w'' => e = .returned (.bool true) ∧ Below w'.heap.size w' w'' :=
  diskDoes_walk room A len cap ops w' ho
end Go.Proofs.Ytjmdiobnappgkaa
