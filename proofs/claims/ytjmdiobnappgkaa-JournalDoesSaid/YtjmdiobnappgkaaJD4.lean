/-
  Layer 15 (journal): the walk of the document's Renew.
-/
import Derived.Test.YtjmdiobnappgkaaJD3
namespace Go.Proofs.Ytjmdiobnappgkaa
open Go.RowKit
set_option linter.unusedVariables false
set_option linter.unusedSimpArgs false
section
variable {w0 w w' : World} {gj gd : Nat} {v : Value} {j : JS} {n : Nat}
theorem RPost.drewN {j' : JS} {m : Nat} (h : RPost w0 w w' gj gd v j' m) (q : Nat) : RPost w0 w (w'.drewN q) gj gd v j' m := by
  obtain ⟨v', h1, h2, h3, h4⟩ := h
  have hb : Below w'.heap.size w' (w'.drewN q) := below_drewN' (Below.refl _ _) q
  exact ⟨v', h1.below hb, h2, h3.trans (Spare.ofBelow hb), h4.trans (RowsL.ofBelow hb v.ownBlock.toList) (fun i hi => .inl hi)⟩
/-- The records are laid instead. -/
theorem RJ.swap {jx : JS} {m : Nat} {vx u' : Value} {w6 : World} {L : List ByteArray} (h : RJ w0 w gj gd vx jx m) (ho : SOwn w.heap.size w6 u' L) (hb : Below w.heap.size w w6) :
    RJ w0 ((w6.setCell ⟨gj, 1, none⟩ u').setCell ⟨gj, 2, none⟩ (.int .i64 (L.length : Int))) gj gd u' ⟨jx.d, L, L.length, jx.cut⟩ m ∧ Spare [102] w ((w6.setCell ⟨gj, 1, none⟩ u').setCell ⟨gj, 2, none⟩ (.int .i64 (L.length : Int))) ∧ (∀ k, u'.ownBlock = some k → w.heap.size ≤ k) ∧
    w6.cell? ⟨gj, 1, none⟩ = some vx ∧ w6.frozen? ⟨gj, 1, none⟩ = false ∧ w6.cell? ⟨gj, 2, none⟩ = some (.int .i64 (jx.sure : Int)) ∧ w6.frozen? ⟨gj, 2, none⟩ = false := by
  have h6 := h.below hb
  have ho6 : SOwn w0.heap.size w6 u' L := ho.mono h.sz
  have hfar : u'.ownBlock ≠ some gj := own_blk_ne ho6 h6.blk (by decide)
  obtain ⟨p1, p2, p3⟩ := h6.set 1 u' u' ⟨jx.d, L, jx.sure, jx.cut⟩ rfl rfl ho6 hfar
  obtain ⟨q1, q2, q3⟩ := p1.set 2 (.int .i64 (L.length : Int)) u' ⟨jx.d, L, L.length, jx.cut⟩ rfl rfl p1.own p1.far
  exact ⟨q1, ((Spare.ofBelow (T := [102]) hb).trans p2).trans q2, fun k hk => (ho.lt hk).1, h6.c1, h6.fr 1, h6.c2, h6.fr 2⟩
/-- In the midst of Renew: the disk alone has turned. -/
structure RIn (w0 w wr : World) (gj gd : Nat) (v : Value) (j : JS) (d' : DS) (m : Nat) : Prop where
  rj : RJ w0 wr gj gd v { j with d := d' } m
  sp : Spare [57, 123] w wr
  sz : w.heap.size ≤ wr.heap.size
theorem RIn.disk {wr wz : World} {d' d'' : DS} {m m' : Nat} (h : RIn w0 w wr gj gd v j d' m) (k : FK w0 wz gd d'') (hm : d''.loose.length ≤ m') (hs : Spare [57, 123] wr wz) (hz : wr.heap.size ≤ wz.heap.size) : RIn w0 w wz gj gd v j d'' m' :=
  ⟨(h.rj.disk k hm hs), h.sp.trans hs, Nat.le_trans h.sz hz⟩
theorem RIn.below {wr wz : World} {d' : DS} {m : Nat} (h : RIn w0 w wr gj gd v j d' m) (hb : Below wr.heap.size wr wz) : RIn w0 w wz gj gd v j d' m :=
  ⟨h.rj.below hb, h.sp.trans (Spare.ofBelow hb), Nat.le_trans h.sz hb.size⟩
theorem RIn.post {wr : World} {d' : DS} {m : Nat} {j' : JS} (h : RIn w0 w wr gj gd v j d' m) (hj : { j with d := d' } = j') : RPost w0 w wr gj gd v j' m := by
  subst hj
  exact ⟨v, h.rj, Fresh.refl _ _, h.sp.mono (by simp), RowsL.ofSpare h.sp (by decide) _⟩
theorem RIn.cut {wr : World} {d' : DS} {m : Nat} (h : RIn w0 w wr gj gd v j d' m) : RPost w0 w (wr.setCell ⟨gj, 3, none⟩ (.bool true)) gj gd v ⟨d', j.l, j.sure, true⟩ m := by
  obtain ⟨p1, p2, p3⟩ := h.rj.set 3 (.bool true) _ ⟨d', j.l, j.sure, true⟩ rfl rfl h.rj.own h.rj.far
  exact ⟨v, p1, Fresh.refl _ _, (h.sp.mono (by simp)).trans (p2.mono (by simp)), (RowsL.ofSpare h.sp (by decide) _).trans (p3 _) (fun i hi => .inl hi)⟩
theorem turnD_few {d : DS} {n : Nat} (h : d.loose.length ≤ n) : (turnD d).loose.length ≤ n := by
  unfold turnD; split
  · exact h
  · exact h
theorem trimD_few' (d : DS) (f m : Int) {n : Nat} (h : d.loose.length ≤ n) : (trimD d f m).loose.length ≤ n := by
  unfold trimD
  split
  next => exact h
  next hc =>
    have hv : valid f := by
      rcases Classical.em (valid f) with h1 | h1
      · exact h1
      · exact absurd (.inl (.inl h1)) hc
    rw [trim_loose d f.toNat (by unfold valid at hv; omega)]; exact h
set_option maxRecDepth 100000 in
set_option maxHeartbeats 4000000 in
theorem r_renew (h : RJ w0 w gj gd v j n) (hn : n < 1000000) (hjl : j.l.length ≤ 20000000) (u : Value) (L : List ByteArray) (hu : SReadT w u L) (hl : L.length ≤ 1000) (hz : ∀ s ∈ L, s.size ≤ 100000) (N : Int) :
    Calls Try.prog 73 #[.pointer (some ⟨gj, 0, none⟩), u, .int .i64 N] w fun e w' => e = .returned (.int .i64 (renewR j L N)) ∧ RPost w0 w w' gj gd v (renewJ j L N) (n + 1) := by
  obtain ⟨i0, hi, hz0, hz1, hz2⟩ := info_parts winfo9
  obtain ⟨A, cap, rfl, -, -⟩ := id hu
  obtain ⟨Aj, cj, hve⟩ := h.own.len
  subst hve
  by_cases hA : j.cut = true ∨ j.sure < j.l.length
  · obtain ⟨r1, r2⟩ := rn_state (L := L) (n := N) hA
    rw [r1, r2]
    clear r1 r2 hz hl hu
    by_cases hct : j.cut = true
    · have c3 := h.c3
      rw [hct] at c3
      have Hst := Lib.hid (RPost.stay (m := n + 1) h (Below.refl _ _) (by omega))
      clear hct hA h
      go_enter Try.func73, Try.ntmps73
      go_wp2
      go_quiet (fail)
      go_wp2
      go_ret
      exact ⟨rfl, Hst.out.drewN _⟩
    · have hcf : j.cut = false := by simpa using hct
      have hlt : j.sure < j.l.length := by rcases hA with h | h; exact absurd h hct; exact h
      have hlt2 : (j.sure : Int) < (j.l.length : Int) := by omega
      have Hst := Lib.hid (RPost.stay (m := n + 1) h (Below.refl _ _) (by omega))
      have c3 := h.c3
      have c2 := h.c2
      have c1 := h.c1
      rw [hcf] at c3
      clear hct hA hcf hlt h
      go_enter Try.func73, Try.ntmps73
      go_wp2
      go_quiet (fail)
      go_wp2
      go_ret
      exact ⟨rfl, Hst.out.drewN _⟩
  · have hcf : j.cut = false := by
      cases hc : j.cut with
      | false => rfl
      | true => exact absurd (.inl hc) hA
    have hge : ¬ j.sure < j.l.length := fun h => hA (.inr h)
    have hgeb : decide (j.sure < j.l.length) = false := by simpa using hge
    have harg := fun hB => rn_arg (L := L) (n := N) hA hB
    have hfull := fun h1 h2 h3 => rn_full (L := L) (n := N) hA h1 h2 h3
    have hcut := fun h1 hN h4 h3 => rn_cut (L := L) (n := N) hA h1 hN h4 h3
    have hall := fun h1 h4 h3 => rn_all (L := L) (n := N) hA h1 h4 h3
    obtain ⟨RR, hRR⟩ : ∃ RR, renewR j L N = RR := ⟨_, rfl⟩
    obtain ⟨RJn, hRJ⟩ : ∃ RJ, renewJ j L N = RJ := ⟨_, rfl⟩
    rw [hRR, hRJ] at harg hfull hcut hall ⊢
    have Harg := Lib.hid harg; have Hfull := Lib.hid hfull; have Hcut := Lib.hid hcut; have Hall := Lib.hid hall
    have Hu := Lib.hid hu
    have Hc := Lib.hid hu.read
    have Hz := Lib.hid hz
    have H0 := Lib.hid h
    have c3 := h.c3
    have c2 := h.c2
    have c1 := h.c1
    rw [hcf] at c3
    have hlm : L.length ≤ 9223372036854775807 := by omega
    clear harg hfull hcut hall hu hz h hge hA hcf hRR hRJ
    go_enter Try.func73, Try.ntmps73
    go_wp2
    go_quiet (fail)
    have hbN : Below w.heap.size w (w.drewN nq) := below_drewN' (Below.refl _ _) nq
    go_wp2
    clear c1 c2 c3
    go_loopw [7, 8] (fun a i wr => ∃ k : Nat, k ≤ L.length ∧ i = .int .i64 k ∧ a = .string (framesS (L.take k)) ∧ FineTo L k ∧ Below w.heap.size w wr) (fun _ i _ => L.length - (intOf i).toNat)
    case atStart => exact ⟨0, Nat.zero_le _, rfl, rfl, FineTo.zero _, hbN⟩
    case round =>
      clear hbN
      obtain ⟨k, hk, rfl, rfl, hf, hb⟩ := hrel
      have Hf := Lib.hid hf; clear hf
      by_cases hlt : k < L.length
      · obtain ⟨A', cap', hAe, -, hcells⟩ := Hc.out
        injection hAe with e1 e2 e3
        subst e1 e3
        obtain ⟨b, o, hAb, hbl, hx⟩ := hcells k hlt
        subst hAb
        have hx' := cell_belowB hb rfl hx
        have hk1 : (k : Int) < (L.length : Int) := by omega
        have hsz := Hz.out L[k] (List.getElem_mem hlt)
        have hsz2 := (frameS_size L[k]).1
        have hbound := Hf.out.2
        have hstep := fun hq => FineTo.succ Hf.out hlt hq
        have Hst := Lib.hid hstep
        have Hno : Hid ((frameS L[k]).size = 0 → RR = 1 ∧ RJn = j) := Lib.hid (fun hq => Harg.out (.inl (fun hf => hf _ (List.getElem_mem hlt) hq)))
        clear hx hstep hcells
        generalize L[k] = x at *
        have Hx := Lib.hid hx'
        go_wp2_with fail
        refine (rframe_any x (by omega) _).mono ?_
        rintro e w1 ⟨rfl, hb1⟩
        by_cases he : (frameS x).size = 0
        · have e1 := ba_empty he
          have Hr := Lib.hid (Hno.out he)
          rw [e1]
          have Hb := Lib.hid (below_step hb1 rfl hb)
          clear hb hb1 Hno Hst he e1 hsz2 hx'
          go_wp2
          go_ret
          rw [Hr.out.1, Hr.out.2]
          exact ⟨rfl, RPost.stay H0.out Hb.out (by omega)⟩
        · have hne := ne_toList he
          have Hst2 := Lib.hid (Hst.out he)
          have Hb := Lib.hid (below_step hb1 rfl hb)
          have hx1 := cell_belowB hb1 rfl Hx.out
          have hs1 : (framesS (L.take k)).size + (frameS x).size ≤ 9223372036854775807 := by omega
          have hs2 : ((framesS (L.take k)).size : Int) + ((frameS x).size : Int) ≤ 9223372036854775807 := by omega
          have hfr2 := rframe_any x (by omega) w1
          clear hb hb1 Hno Hst he hsz2 hsz hbound hx'
          generalize frameS x = f at *
          have Hfr2 := Lib.hid hfr2; clear hfr2
          go_wp2_with fail
          refine Hfr2.out.mono ?_
          rintro e w2 ⟨rfl, hb2⟩
          have Hb3 := Lib.hid (below_step hb2 rfl Hb.out)
          clear hb2 hx1 Hfr2
          go_wp2
          go_roundw
          case rel => exact ⟨k + 1, by omega, by go_num, by rw [Hst2.out.2], Hst2.out.1, Hb3.out⟩
          case measure => simp [intOf]; omega
      · obtain rfl : k = L.length := by omega
        have hF : fine L := by have := Hf.out.1; rw [List.take_length] at this; exact this
        rw [List.take_length]
        have hin : RIn w0 w wr gj gd (.slice Aj j.l.length cj) j j.d n := ⟨H0.out.below hb, Spare.ofBelow hb, hb.size⟩
        have hrT := Hu.out.below hb
        have hfu := Hfull.out hF
        have hcu := Hcut.out hF
        have hal := Hall.out hF
        obtain ⟨T, hT⟩ : ∃ T, framesS L = T := ⟨_, rfl⟩
        rw [hT] at hfu hcu hal ⊢
        have Hfu := Lib.hid hfu; have Hcu := Lib.hid hcu; have Hal := Lib.hid hal; have Hin := Lib.hid hin; have HrT := Lib.hid hrT
        clear hfu hcu hal hin hrT hT Hf hb hlt Hfull Hcut Hall Hc hF
        by_cases hNneg : N < 0
        · have Hr := Lib.hid (Harg.out (.inr hNneg))
          go_wp2
          go_ret
          rw [Hr.out.1, Hr.out.2]
          exact ⟨rfl, (Hin.out.post rfl).elim (fun v' hh => ⟨v', hh.1.mono (by omega), hh.2⟩)⟩
        · by_cases hN0 : N = 0
          · subst hN0
            have Hr := Lib.hid (Hcu.out (by decide) (by decide) (fun h => absurd h (by decide)))
            have c3 := Hin.out.rj.c3
            have f3 := Hin.out.rj.fr 3
            have Hq := Lib.hid Hin.out.cut
            go_wp2
            go_ret
            rw [Hr.out.1, Hr.out.2]
            exact ⟨rfl, Hq.out.elim (fun v' hh => ⟨v', hh.1.mono (by omega), hh.2⟩)⟩
          · have hN1 : 1 ≤ N := by omega
            have hin := Hin.out
            have c0 := hin.rj.c0
            have hput := fz_put hin.rj.dk (Nat.lt_of_le_of_lt hin.rj.few hn) 1 T
            have hlen := putD_len j.d 1 T n hin.rj.few
            have hpd := fun h : ¬ putR j.d 1 T = 0 => putD_same (d := j.d) (f := 1) (s := T) h
            simp only at hput
            obtain ⟨pr, hpr⟩ : ∃ pr, putR j.d 1 T = pr := ⟨_, rfl⟩
            rw [hpr] at hput hpd
            have hfu := Hfu.out; have hcu := Hcu.out; have hal := Hal.out
            rw [hpr] at hfu hcu hal
            have Hfu2 := Lib.hid hfu; have Hcu2 := Lib.hid hcu; have Hal2 := Lib.hid hal; have Hpd := Lib.hid hpd; have Hlen := Lib.hid hlen
            clear hfu hcu hal hpd hlen hpr hin Hfu Hcu Hal
            go_wp2_with fail
            refine hput.mono ?_
            rintro e w1 ⟨rfl, hd1, s1, z1⟩
            have h1 := Hin.out.disk hd1 Hlen.out s1 z1
            have H1 := Lib.hid h1
            clear hput hd1 s1 z1 Hin c0
            by_cases hp : pr = 0
            · subst hp
              clear Hfu2 Hpd
              have hcu := Hcu2.out; have hal := Hal2.out
              have hcu1 : N = 1 → RR = 7 ∧ RJn = ⟨putD j.d 1 T, j.l, j.sure, true⟩ := fun h => by subst h; exact hcu (by decide) (by decide) (fun _ => rfl)
              have hcu2 : N = 2 → RR = 7 ∧ RJn = ⟨(putD j.d 1 T).sync, j.l, j.sure, true⟩ := fun h => by subst h; exact hcu (by decide) (by decide) (fun _ => rfl)
              have hcu3 : N = 3 → RR = 7 ∧ RJn = ⟨turnD (putD j.d 1 T).sync, j.l, j.sure, true⟩ := fun h => by subst h; exact hcu (by decide) (by decide) (fun _ => rfl)
              have hcu4 : 4 ≤ N → RR = 0 ∧ RJn = ⟨trimD (turnD (putD j.d 1 T).sync) 1 0, L, L.length, j.cut⟩ := fun h => hal h rfl
              clear hcu hal Hcu2 Hal2
              generalize putD j.d 1 T = D at *
              have Hq1 := Lib.hid hcu1; have Hq2 := Lib.hid hcu2; have Hq3 := Lib.hid hcu3; have Hq4 := Lib.hid hcu4
              clear hcu1 hcu2 hcu3 hcu4 h1
              by_cases hN1' : N = 1
              · subst hN1'
                have Hr := Lib.hid (Hq1.out rfl)
                have c3 := H1.out.rj.c3
                have f3 := H1.out.rj.fr 3
                have Hq := Lib.hid H1.out.cut
                go_wp2
                go_ret
                rw [Hr.out.1, Hr.out.2]
                exact ⟨rfl, Hq.out⟩
              · have hN2 : 2 ≤ N := by omega
                have c0 := H1.out.rj.c0
                have hs := fz_sync H1.out.rj.dk
                simp only at hs
                go_wp2_with fail
                refine hs.mono ?_
                rintro e w2 ⟨rfl, hd2, s2, z2⟩
                have h2 := H1.out.disk (m' := 0) hd2 (by simp [DS.sync]) s2 z2
                have H2 := Lib.hid h2
                clear hs hd2 s2 z2 h2 H1 c0
                by_cases hN2' : N = 2
                · subst hN2'
                  have Hr := Lib.hid (Hq2.out rfl)
                  have c3 := H2.out.rj.c3
                  have f3 := H2.out.rj.fr 3
                  have Hq := Lib.hid H2.out.cut
                  go_wp2
                  go_ret
                  rw [Hr.out.1, Hr.out.2]
                  exact ⟨rfl, Hq.out.elim (fun v' hh => ⟨v', hh.1.mono (by omega), hh.2⟩)⟩
                · have hN3 : 3 ≤ N := by omega
                  have c0 := H2.out.rj.c0
                  have hs := fz_turn H2.out.rj.dk
                  simp only at hs
                  go_wp2_with fail
                  refine hs.mono ?_
                  rintro e w3 ⟨rfl, hd3, s3, z3⟩
                  have h3 := H2.out.disk (m' := 0) hd3 (turnD_few (by simp [DS.sync])) s3 z3
                  have H3 := Lib.hid h3
                  clear hs hd3 s3 z3 h3 H2 c0
                  by_cases hN3' : N = 3
                  · subst hN3'
                    have Hr := Lib.hid (Hq3.out rfl)
                    have c3 := H3.out.rj.c3
                    have f3 := H3.out.rj.fr 3
                    have Hq := Lib.hid H3.out.cut
                    go_wp2
                    go_ret
                    rw [Hr.out.1, Hr.out.2]
                    exact ⟨rfl, Hq.out.elim (fun v' hh => ⟨v', hh.1.mono (by omega), hh.2⟩)⟩
                  · have hN4 : ¬ N < 4 := by omega
                    have Hr := Lib.hid (Hq4.out (by omega))
                    have c0 := H3.out.rj.c0
                    have hs := fz_trim H3.out.rj.dk 1 0
                    simp only at hs
                    go_wp2_with fail
                    refine hs.mono ?_
                    rintro e w4 ⟨rfl, hd4, s4, z4⟩
                    have h4 := H3.out.disk (m' := 0) hd4 (trimD_few' _ 1 0 (turnD_few (by simp [DS.sync]))) s4 z4
                    have H4 := Lib.hid h4
                    have hru : SRead w4 (.slice A L.length cap) L := (Hu.out.spare h4.sp (by decide)).read
                    have hsrc : Src Try.prog 1 94 (.slice A L.length cap) L.length (svals L) (w4.alloc (.cells #[] 9)) := (hru.below (alloc_below' w4 _) rfl).src
                    have hown : (w4.alloc (.cells #[] 9)).ownsRow w4.heap.size 9 1 (.slice (some ⟨w4.heap.size, 0, none⟩) 0 0) 0 [] := SOwn.new (Nat.le_refl w4.heap.size)
                    clear hs hd4 s4 z4 h4 H3 c0 hru
                    go_wp2_with (at_builtin; refine wpList_append_o rfl _ _ 94 94 rfl w4.heap.size 9 i0 _ 1 16 Try.underlying94 hi hz0 hz1 hz2 rfl _ _ _ rfl hown _ L.length (svals L) rfl hsrc (by unfold maxLen; omega) (by omega) (by simp) ?_)
                    intro v' w6 hown6 hg6 hv6
                    have hb6 : Below w4.heap.size w4 w6 := (alloc_below' w4 (.cells #[] 9)).grown hg6 (by simp) (by intro k hk; simp [Value.ownBlock] at hk; omega)
                    have ho6 : SOwn w4.heap.size w6 v' L := hown6
                    obtain ⟨A', c', hu'⟩ := ho6.len
                    subst hu'
                    obtain ⟨q1, q2, q3, q4, q5, q6, q7⟩ := H4.out.rj.swap ho6 hb6
                    have Q1 := Lib.hid q1; have Q2 := Lib.hid q2; have Q3 := Lib.hid q3
                    clear hown6 hg6 hv6 hb6 ho6 q1 q2 q3 hsrc hown
                    go_wp2
                    go_ret
                    rw [Hr.out.1, Hr.out.2]
                    have s1 : Spare [102] w4 _ := Q2.out
                    exact ⟨rfl, _, Q1.out.mono (by omega), fun k hk => .inr (Nat.le_trans H4.out.sz (Q3.out k hk)), (H4.out.sp.mono (by simp)).trans (s1.mono (by simp)), (RowsL.ofSpare H4.out.sp (by decide) _).trans (RowsL.ofSpare s1 (by decide) _) (fun i hi => .inl hi)⟩
            · have Hr := Lib.hid (Hfu2.out (by omega) hp)
              have hpe := Hpd.out hp
              rw [hpe] at h1
              have H2 := Lib.hid h1
              have hne0 : ((pr : Int) == 0) = false := by rw [beq_eq_false_iff_ne]; exact hp
              clear hp h1 H1 Hfu2 Hcu2 Hal2
              go_wp2
              go_ret
              rw [Hr.out.1, Hr.out.2]
              exact ⟨rfl, H2.out.post rfl⟩
end
end Go.Proofs.Ytjmdiobnappgkaa
