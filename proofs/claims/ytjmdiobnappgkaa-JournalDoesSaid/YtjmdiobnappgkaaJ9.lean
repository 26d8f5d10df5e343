/-
  Layer 15 (journal): the walk of Renew.
-/
import Derived.Test.YtjmdiobnappgkaaJ8
namespace Go.Proofs.Ytjmdiobnappgkaa
open Go.RowKit
set_option linter.unusedVariables false
set_option linter.unusedSimpArgs false

section
variable {w0 w w' : World} {gj gd : Nat} {v : Value} {j : JS} {n : Nat}
/-- The records are laid instead. -/
theorem JK.swap {jx : JS} {m : Nat} {vx u' : Value} {w6 : World} {L : List ByteArray} (h : JK w0 w gj gd vx jx m) (ho : SOwn w.heap.size w6 u' L) (hb : Below w.heap.size w w6) :
    JK w0 ((w6.setCell ⟨gj, 1, none⟩ u').setCell ⟨gj, 2, none⟩ (.int .i64 (L.length : Int))) gj gd u' ⟨jx.d, L, L.length, jx.cut⟩ m ∧ Spare [129] w ((w6.setCell ⟨gj, 1, none⟩ u').setCell ⟨gj, 2, none⟩ (.int .i64 (L.length : Int))) ∧ (∀ k, u'.ownBlock = some k → w.heap.size ≤ k) ∧
    w6.cell? ⟨gj, 1, none⟩ = some vx ∧ w6.frozen? ⟨gj, 1, none⟩ = false ∧ w6.cell? ⟨gj, 2, none⟩ = some (.int .i64 (jx.sure : Int)) ∧ w6.frozen? ⟨gj, 2, none⟩ = false := by
  have h6 := h.below hb
  have ho6 : SOwn w0.heap.size w6 u' L := ho.mono h.sz
  have hfar : u'.ownBlock ≠ some gj := own_blk_ne ho6 h6.blk (by decide)
  obtain ⟨p1, p2, p3⟩ := h6.set 1 u' u' ⟨jx.d, L, jx.sure, jx.cut⟩ rfl rfl ho6 hfar
  obtain ⟨q1, q2, q3⟩ := p1.set 2 (.int .i64 (L.length : Int)) u' ⟨jx.d, L, L.length, jx.cut⟩ rfl rfl p1.own p1.far
  exact ⟨q1, ((Spare.ofBelow (T := [129]) hb).trans p2).trans q2, fun k hk => (ho.lt hk).1, h6.c1, h6.fr 1, h6.c2, h6.fr 2⟩
/-- What holds in the loop over the steps. -/
structure InSteps (w0 w wr : World) (gj gd : Nat) (v : Value) (j : JS) (u : Value) (L : List ByteArray) (k m : Nat) : Prop where
  jk : JK w0 wr gj gd v { j with d := stD j.d (framesS L) k } m
  sp : Spare [117, 120] w wr
  sz : w.heap.size ≤ wr.heap.size
  rd : SReadT wr u L
  ok : 0 < k → putR j.d 1 (framesS L) = 0
theorem InSteps.step {wr : World} {u : Value} {L : List ByteArray} {k m m' : Nat} (h : InSteps w0 w wr gj gd v j u L k m) (p : SPost w0 wr w' gj gd v { j with d := stD j.d (framesS L) k } (stD j.d (framesS L) (k + 1)) m') (ok : putR j.d 1 (framesS L) = 0) : InSteps w0 w w' gj gd v j u L (k + 1) m' :=
  ⟨p.1, h.sp.trans p.2.1, Nat.le_trans h.sz p.2.2, h.rd.spare p.2.1 (by decide), fun _ => ok⟩
theorem JPost.drewN {j' : JS} {m : Nat} (h : JPost w0 w w' gj gd v j' m) (q : Nat) : JPost w0 w (w'.drewN q) gj gd v j' m := by
  obtain ⟨v', h1, h2, h3, h4⟩ := h
  have hb : Below w'.heap.size w' (w'.drewN q) := below_drewN' (Below.refl _ _) q
  exact ⟨v', h1.below hb, h2, h3.trans (Spare.ofBelow hb), h4.trans (RowsL.ofBelow hb v.ownBlock.toList) (fun i hi => .inl hi)⟩
theorem InSteps.drewN {wr : World} {u : Value} {L : List ByteArray} {k m : Nat} (h : InSteps w0 w wr gj gd v j u L k m) (q : Nat) : InSteps w0 w (wr.drewN q) gj gd v j u L k m := by
  have hb : Below wr.heap.size wr (wr.drewN q) := below_drewN' (Below.refl _ _) q
  exact ⟨h.jk.below hb, h.sp.trans (Spare.ofBelow hb), h.sz, h.rd.below hb, h.ok⟩
theorem InSteps.post {wr : World} {u : Value} {L : List ByteArray} {k m : Nat} (h : InSteps w0 w wr gj gd v j u L k m) {j' : JS} (hj : { j with d := stD j.d (framesS L) k } = j') : JPost w0 w wr gj gd v j' m := by
  subst hj
  exact ⟨v, h.jk, Fresh.refl _ _, h.sp.mono (by simp), RowsL.ofSpare h.sp (by decide) _⟩
set_option maxRecDepth 100000 in
set_option maxHeartbeats 2000000 in
theorem j_renew (h : JK w0 w gj gd v j n) (hn : n < 1000000) (hjl : j.l.length ≤ 20000000) (u : Value) (L : List ByteArray) (hu : SReadT w u L) (hl : L.length ≤ 1000) (hz : ∀ s ∈ L, s.size ≤ 100000) (N : Int) :
    Calls Try.prog 72 #[.pointer (some ⟨gj, 0, none⟩), u, .int .i64 N] w fun e w' => e = .returned (.int .i64 (renewR j L N)) ∧ JPost w0 w w' gj gd v (renewJ j L N) (n + 1) := by
  have hfr := frames_any hu.read hl hz
  obtain ⟨A, cap, rfl, -, -⟩ := id hu
  obtain ⟨Aj, cj, hve⟩ := h.own.len
  subst hve
  by_cases hA : j.cut = true ∨ j.sure < j.l.length
  · obtain ⟨r1, r2⟩ := rn_state (L := L) (n := N) hA
    rw [r1, r2]
    obtain ⟨T, hT⟩ : ∃ T, allOf L = T := ⟨_, rfl⟩
    obtain ⟨R, hR⟩ : ∃ R, decide (fine L) = R := ⟨_, rfl⟩
    rw [hT, hR] at hfr
    have Hfr := Lib.hid hfr
    clear hfr r1 r2 hz hl hu hT hR
    by_cases hct : j.cut = true
    · have Hct := Lib.hid hct
      clear hct hA
      go_enter Try.func72, Try.ntmps72
      go_wp2_with fail
      refine (Hfr.out).mono ?_
      rintro e w1 ⟨rfl, hb1⟩
      have h1 := h.below hb1
      have Hst := Lib.hid (JPost.stay (m := n + 1) h hb1 (by omega))
      have c3 := h1.c3
      rw [Hct.out] at c3
      clear hb1 h h1
      go_wp2
      go_quiet (fail)
      go_wp2
      go_ret
      exact ⟨rfl, Hst.out.drewN _⟩
    · have hcf : j.cut = false := by simpa using hct
      have hlt : j.sure < j.l.length := by rcases hA with h | h; exact absurd h hct; exact h
      have hlt2 : (j.sure : Int) < (j.l.length : Int) := by omega
      have Hcf := Lib.hid hcf
      clear hct hA hcf hlt
      go_enter Try.func72, Try.ntmps72
      go_wp2_with fail
      refine (Hfr.out).mono ?_
      rintro e w1 ⟨rfl, hb1⟩
      have h1 := h.below hb1
      have Hst := Lib.hid (JPost.stay (m := n + 1) h hb1 (by omega))
      have c3 := h1.c3
      have c2 := h1.c2
      have c1 := h1.c1
      rw [Hcf.out] at c3
      clear hb1 h h1
      go_wp2
      go_quiet (fail)
      go_wp2
      go_ret
      exact ⟨rfl, Hst.out.drewN _⟩
  · have hcf : j.cut = false := by
      cases hc : j.cut with
      | false => rfl
      | true => exact absurd (.inl hc) hA
    have hge : ¬ j.sure < j.l.length := fun h => hA (.inr h)
    have hgeb : decide (j.sure < j.l.length) = false := by simpa using hge
    by_cases hB : ¬ fine L ∨ N < 0
    · obtain ⟨r1, r2⟩ := rn_arg (L := L) (n := N) hA hB
      rw [r1, r2]
      have Hcf := Lib.hid hcf
      obtain ⟨T, hT⟩ : ∃ T, allOf L = T := ⟨_, rfl⟩
      rw [hT] at hfr
      by_cases hF : fine L
      · have hN : N < 0 := by rcases hB with h | h; exact absurd hF h; exact h
        have e : decide (fine L) = true := by simpa using hF
        rw [e] at hfr
        have Hfr := Lib.hid hfr
        clear hfr r1 r2 hz hl hu hT e hA hB hF hcf hge
        go_enter Try.func72, Try.ntmps72
        go_wp2_with fail
        refine (Hfr.out).mono ?_
        rintro e w1 ⟨rfl, hb1⟩
        have h1 := h.below hb1
        have Hst := Lib.hid (JPost.stay (m := n + 1) h hb1 (by omega))
        have c3 := h1.c3
        have c2 := h1.c2
        have c1 := h1.c1
        rw [Hcf.out] at c3
        clear hb1 h h1
        go_wp2
        go_quiet (fail)
        go_wp2
        go_ret
        exact ⟨rfl, Hst.out.drewN _⟩
      · have e : decide (fine L) = false := by simpa using hF
        rw [e] at hfr
        have Hfr := Lib.hid hfr
        clear hfr r1 r2 hz hl hu hT e hA hB hF hcf hge
        go_enter Try.func72, Try.ntmps72
        go_wp2_with fail
        refine (Hfr.out).mono ?_
        rintro e w1 ⟨rfl, hb1⟩
        have h1 := h.below hb1
        have Hst := Lib.hid (JPost.stay (m := n + 1) h hb1 (by omega))
        have c3 := h1.c3
        have c2 := h1.c2
        have c1 := h1.c1
        rw [Hcf.out] at c3
        clear hb1 h h1
        go_wp2
        go_quiet (fail)
        go_wp2
        go_ret
        exact ⟨rfl, Hst.out.drewN _⟩
    · have hF : fine L := by
        by_cases hF : fine L
        · exact hF
        · exact absurd (.inl hF) hB
      have hN : 0 ≤ N := by
        by_cases hN : N < 0
        · exact absurd (.inr hN) hB
        · omega
      have e : decide (fine L) = true := by simpa using hF
      have eT : allOf L = framesS L := by rw [allOf, if_pos hF]
      rw [e, eT] at hfr
      obtain ⟨mm, hmm, hmm4⟩ : ∃ mm : Nat, min N 4 = (mm : Int) ∧ mm ≤ 4 := ⟨(min N 4).toNat, by omega, by omega⟩
      have hmin : ∀ wx, (Builtin.min_ #[3, 3] 3 #[.int .i64 N, .int .i64 4]).run Try.prog wx = .ok (.int .i64 mm) wx := fun wx => run_min_int2 wx _ _ _ _ _ _ _ hmm
      have hfull := fun h2 h3 => rn_full (n := N) hA hF h2 h3
      have hcut := fun h4 h3 => rn_cut (n := N) hA hF hN h4 h3
      have hall := fun h4 h3 => rn_all (n := N) hA hF h4 h3
      have Hcf := Lib.hid hcf; have Hfr := Lib.hid hfr; have Hfull := Lib.hid hfull; have Hcut := Lib.hid hcut; have Hall := Lib.hid hall; have Hmm := Lib.hid hmm
      have Hu := Lib.hid hu
      obtain ⟨RR, hRR⟩ : ∃ RR, renewR j L N = RR := ⟨_, rfl⟩
      obtain ⟨RJ, hRJ⟩ : ∃ RJ, renewJ j L N = RJ := ⟨_, rfl⟩
      rw [hRR, hRJ] at Hfull Hcut Hall ⊢
      have hNn : ¬ N < 0 := by omega
      clear hfr hz hu e eT hA hB hF hcf hge hmm hfull hcut hall hRR hRJ
      go_enter Try.func72, Try.ntmps72
      go_wp2_with fail
      refine (Hfr.out).mono ?_
      rintro e w1 ⟨rfl, hb1⟩
      have h1 := h.below hb1
      have c3 := h1.c3
      have c2 := h1.c2
      have c1 := h1.c1
      rw [Hcf.out] at c3
      have Hin := Lib.hid (show InSteps w0 w w1 gj gd _ j _ L 0 n from ⟨h1, Spare.ofBelow hb1, hb1.size, Hu.out.below hb1, fun h => absurd h (Nat.lt_irrefl 0)⟩)
      clear hb1 h h1
      go_wp2
      go_quiet (fail)
      go_wp2
      have HinN := Lib.hid (Hin.out.drewN nq)
      clear Hin c1 c2 c3
      go_loopw [42] (fun iv wr => ∃ k m : Nat, k ≤ mm ∧ iv = .int .i64 (k : Int) ∧ m ≤ n + 1 ∧ (k = 0 → m = n) ∧ InSteps w0 w wr gj gd (.slice Aj j.l.length cj) j (.slice A L.length cap) L k m) (fun iv _ => mm - (intOf iv).toNat)
      case atStart => exact ⟨0, n, Nat.zero_le _, rfl, by omega, fun _ => rfl, HinN.out⟩
      case round =>
        clear HinN
        obtain ⟨k, m, hk, rfl, hm, hm0, hin⟩ := hrel
        by_cases hlt : k < mm
        · have hlt2 : (k : Int) < (mm : Int) := by omega
          have hN0 : 0 < N := by have := Hmm.out; omega
          have hk4 : k = 0 ∨ k = 1 ∨ k = 2 ∨ k = 3 := by omega
          rcases hk4 with rfl | rfl | rfl | rfl
          · have hmn := hm0 rfl
            have hjk := hin.jk
            have Hi := Lib.hid hin
            clear hin hm0
            by_cases hp : putR j.d 1 (framesS L) = 0
            · have Hp := Lib.hid hp
              go_wp2_with fail
              refine (j_step0 hjk (by omega) (framesS L)).mono ?_
              rintro e w2 ⟨rfl, hs⟩
              have hpe : putR ({ j with d := stD j.d (framesS L) 0 } : JS).d 1 (framesS L) = 0 := Hp.out
              rw [hpe]
              have Hs := Lib.hid (Hi.out.step hs Hp.out)
              clear hs hjk hp hpe
              go_wp2
              go_roundw
              case rel => exact ⟨1, m + 1, by omega, rfl, by omega, fun h => absurd h (by decide), Hs.out⟩
              case measure => simp [intOf]; omega
            · obtain ⟨r1, r2⟩ := Hfull.out hN0 hp
              have Hr1 := Lib.hid r1; have Hr2 := Lib.hid r2; have Hpd := Lib.hid (putD_same hp)
              have hne0 : ((putR j.d 1 (framesS L) : Int) == 0) = false := by rw [beq_eq_false_iff_ne]; exact hp
              clear r1 r2 hp
              go_wp2_with fail
              refine (j_step0 hjk (by omega) (framesS L)).mono ?_
              rintro e w2 ⟨rfl, hs⟩
              have hpe : putR ({ j with d := stD j.d (framesS L) 0 } : JS).d 1 (framesS L) = putR j.d 1 (framesS L) := rfl
              rw [hpe]
              obtain ⟨s1, s2, s3⟩ := hs
              have hde : ({ ({ j with d := stD j.d (framesS L) 0 } : JS) with d := putD ({ j with d := stD j.d (framesS L) 0 } : JS).d 1 (framesS L) } : JS) = j := by
                show JS.mk (putD j.d 1 (framesS L)) j.l j.sure j.cut = j
                rw [Hpd.out]
              rw [hde] at s1
              have S1 := Lib.hid s1; have S2 := Lib.hid s2
              clear s1 s2 s3 hjk hpe hde
              generalize putR j.d 1 (framesS L) = pr at *
              go_wp2
              go_ret
              refine ⟨by rw [Hr1.out]; rfl, ?_⟩
              rw [Hr2.out]
              exact ⟨_, S1.out.mono (by omega), Fresh.refl _ _, (Hi.out.sp.trans S2.out).mono (by simp), (RowsL.ofSpare Hi.out.sp (by decide) _).trans (RowsL.ofSpare S2.out (by decide) _) (fun i hi => .inl hi)⟩
          · have hjk := hin.jk
            have Hi := Lib.hid hin
            clear hin hm0
            go_wp2_with fail
            refine (j_step1 hjk (framesS L)).mono ?_
            rintro e w2 ⟨rfl, hs⟩
            have Hs := Lib.hid (Hi.out.step (k := 1) hs (Hi.out.ok (by decide)))
            clear hs hjk
            go_wp2
            go_roundw
            case rel => exact ⟨2, m, by omega, rfl, hm, fun h => absurd h (by decide), Hs.out⟩
            case measure => simp [intOf]; omega
          · have hjk := hin.jk
            have Hi := Lib.hid hin
            clear hin hm0
            go_wp2_with fail
            refine (j_step2 hjk (framesS L)).mono ?_
            rintro e w2 ⟨rfl, hs⟩
            have hpe : turnR ({ j with d := stD j.d (framesS L) 2 } : JS).d = 0 := (turn_after_sync _).1
            rw [hpe]
            have Hs := Lib.hid (Hi.out.step (k := 2) hs (Hi.out.ok (by decide)))
            clear hs hjk hpe
            go_wp2
            go_roundw
            case rel => exact ⟨3, m, by omega, rfl, hm, fun h => absurd h (by decide), Hs.out⟩
            case measure => simp [intOf]; omega
          · have hjk := hin.jk
            have Hi := Lib.hid hin
            clear hin hm0
            go_wp2_with fail
            refine (j_step3 hjk (framesS L)).mono ?_
            rintro e w2 ⟨rfl, hs⟩
            have hpe : trimR ({ j with d := stD j.d (framesS L) 3 } : JS).d 1 0 = 0 := (turn_after_sync _).2
            rw [hpe]
            have Hs := Lib.hid (Hi.out.step (k := 3) hs (Hi.out.ok (by decide)))
            clear hs hjk hpe
            go_wp2
            go_roundw
            case rel => exact ⟨4, m, by omega, rfl, hm, fun h => absurd h (by decide), Hs.out⟩
            case measure => simp [intOf]; omega
        · obtain rfl : k = mm := by omega
          by_cases h4 : N < 4
          · have hNk : N.toNat = k := by have := Hmm.out; omega
            obtain ⟨r1, r2⟩ := Hcut.out h4 (fun h0 => hin.ok (by omega))
            rw [hNk] at r2
            have Hr1 := Lib.hid r1; have Hr2 := Lib.hid r2
            have c3 := hin.jk.c3
            have f3 := hin.jk.fr 3
            obtain ⟨p1, p2, p3⟩ := hin.jk.set 3 (.bool true) _ ⟨stD j.d (framesS L) k, j.l, j.sure, true⟩ rfl rfl hin.jk.own hin.jk.far
            have P1 := Lib.hid p1; have P2 := Lib.hid p2; have P3 := Lib.hid p3; have Hi := Lib.hid hin
            clear r1 r2 p1 p2 p3 hin hNk
            go_wp2
            go_ret
            refine ⟨by rw [Hr1.out]; rfl, ?_⟩
            rw [Hr2.out]
            exact ⟨_, P1.out.mono hm, Fresh.refl _ _, (Hi.out.sp.mono (by simp)).trans (P2.out.mono (by simp)), (RowsL.ofSpare Hi.out.sp (by decide) _).trans (P3.out _) (fun i hi => .inl hi)⟩
          · have hk4 : k = 4 := by have := Hmm.out; omega
            subst hk4
            obtain ⟨r1, r2⟩ := Hall.out (by omega) (hin.ok (by decide))
            have Hr1 := Lib.hid r1; have Hr2 := Lib.hid r2
            clear r1 r2
            have hrd := hin.rd
            have hjk := hin.jk
            have Hi := Lib.hid hin
            clear hin hm0 hNn
            have h4i : ¬ N < 4 := h4
            by_cases hL : L.length = 0
            · have hL0 : L = [] := List.eq_nil_of_length_eq_zero hL
              subst hL0
              have c1 := hjk.c1
              have f1 := hjk.fr 1
              obtain ⟨p1, p2, p3⟩ := hjk.set 1 (.slice none 0 0) (.slice none 0 0) ⟨stD j.d (framesS []) 4, [], j.sure, j.cut⟩ rfl rfl (SOwn.nil _ _) (by simp [Value.ownBlock])
              have hrd2 := hrd.spare p2 (by decide)
              have hcl := clone_any hrd2.read (by simp)
              have Hcl := Lib.hid hcl; have P1 := Lib.hid p1; have P2 := Lib.hid p2
              have Z1 : Hid (wr.heap.size ≤ (wr.setCell ⟨gj, 1, none⟩ (.slice none 0 0)).heap.size) := Lib.hid (by simp [World.setCell])
              clear hjk hrd p1 p2 p3 hrd2 hcl hL
              go_wp2_with fail
              refine (Hcl.out).mono ?_
              rintro e w6 ⟨⟨u', rfl, ho⟩, hb⟩
              obtain ⟨A', c', hu'⟩ := ho.len
              subst hu'
              obtain ⟨q1, q2, q3, q4, q5, q6, q7⟩ := P1.out.swap ho hb
              have Q1 := Lib.hid q1; have Q2 := Lib.hid q2; have Q3 := Lib.hid q3
              clear ho hb q1 q2 q3 Hcl
              go_wp2
              go_ret
              refine ⟨by rw [Hr1.out]; rfl, ?_⟩
              rw [Hr2.out]
              have s1 : Spare [129] wr _ := P2.out.trans Q2.out
              exact ⟨_, Q1.out.mono hm, fun k hk => .inr (Nat.le_trans Hi.out.sz (Nat.le_trans Z1.out (Q3.out k hk))), (Hi.out.sp.mono (by simp)).trans (s1.mono (by simp)), (RowsL.ofSpare Hi.out.sp (by decide) _).trans (RowsL.ofSpare s1 (by decide) _) (fun i hi => .inl hi)⟩
            · have hL0 : ((L.length : Int) == 0) = false := by rw [beq_eq_false_iff_ne]; omega
              have hcl := clone_any hrd.read (by omega)
              have Hcl := Lib.hid hcl; have P1 := Lib.hid hjk
              clear hrd hcl hL hjk
              go_wp2_with fail
              refine (Hcl.out).mono ?_
              rintro e w6 ⟨⟨u', rfl, ho⟩, hb⟩
              obtain ⟨A', c', hu'⟩ := ho.len
              subst hu'
              obtain ⟨q1, q2, q3, q4, q5, q6, q7⟩ := P1.out.swap ho hb
              have Q1 := Lib.hid q1; have Q2 := Lib.hid q2; have Q3 := Lib.hid q3
              clear ho hb q1 q2 q3 Hcl
              go_wp2
              go_ret
              refine ⟨by rw [Hr1.out]; rfl, ?_⟩
              rw [Hr2.out]
              have s1 : Spare [129] wr _ := Q2.out
              exact ⟨_, Q1.out.mono hm, fun k hk => .inr (Nat.le_trans Hi.out.sz (Q3.out k hk)), (Hi.out.sp.mono (by simp)).trans (s1.mono (by simp)), (RowsL.ofSpare Hi.out.sp (by decide) _).trans (RowsL.ofSpare s1 (by decide) _) (fun i hi => .inl hi)⟩
end
end Go.Proofs.Ytjmdiobnappgkaa
