/-
  Layer 2 (sha): eat walked.
-/
import Derived.Test.YtkdajlhmodmkoaaDoorShaV
import Derived.Deep.DeepCutAuto
import Derived.Deep.LoopGhost
namespace Go.Proofs.YtkdajlhmodmkoaaDoor
open Go.RowKit
set_option linter.unusedVariables false
set_option linter.unusedSimpArgs false

theorem size8 (v : ShaM.V8) : (ucells (vl v)).size = 8 := by rw [ucells_size]; rfl
theorem hold8 (u v : ShaM.V8) : (ucells (vl u)).size = (ucells (vl v)).size := by rw [size8, size8]
theorem s_sum2 (a b : UInt32) : IntKind.u32.wrap ((a.toNat : Int) + (b.toNat : Int)) = ((a + b).toNat : Int) := u_add a b
theorem s_sum5 (a b c d e : UInt32) : IntKind.u32.wrap (IntKind.u32.wrap (IntKind.u32.wrap (IntKind.u32.wrap ((a.toNat : Int) + (b.toNat : Int)) + (c.toNat : Int)) + (d.toNat : Int)) + (e.toNat : Int)) = ((a + b + c + d + e).toNat : Int) := by
  rw [u_add, u_add, u_add, u_add]
theorem built27 (n0 n1 n2 n3 n4 n5 n6 n7 : Int) : Tryd.prog.built 27 [(0, .int .u32 n0), (1, .int .u32 n1), (2, .int .u32 n2), (3, .int .u32 n3), (4, .int .u32 n4), (5, .int .u32 n5), (6, .int .u32 n6), (7, .int .u32 n7)] = some #[.int .u32 n0, .int .u32 n1, .int .u32 n2, .int .u32 n3, .int .u32 n4, .int .u32 n5, .int .u32 n6, .int .u32 n7] := by kernel_rfl
/-- The rounds' loop, in world wr. -/
structure EatW (w wr : World) (g b : Nat) (st : ShaM.V8) (left : List UInt8) (n : Nat) (V : ShaM.V8) : Prop where
  er : RB wr g true (vl st) left n
  ew : Blk wr b 109 (ucells (ShaM.wl left 64))
  es : Blk wr (b + 1) 27 (ucells (vl V))
  eo : Only w.heap.size [g] w wr
  et : Tab wr
theorem Tab.drew' {w : World} (h : Tab w) : Tab w.drew := ⟨h.b, h.k⟩
theorem EatW.drew {w wr : World} {g b : Nat} {st : ShaM.V8} {left : List UInt8} {n : Nat} {V : ShaM.V8} (h : EatW w wr g b st left n V) : EatW w wr.drew g b st left n V := ⟨h.er, h.ew, h.es, h.eo.drew, h.et.drew'⟩
theorem EatW.wk {w wr : World} {g b : Nat} {st : ShaM.V8} {left : List UInt8} {n : Nat} {V : ShaM.V8} (h : EatW w wr g b st left n V) (k : Nat) (hk : k < 64) : wr.cell? ⟨b, k, none⟩ = some (.int .u32 (((ShaM.wl left 64).getD k 0).toNat : Int)) := by
  rw [h.ew.cell]; exact ucells_get _ k (by rw [ShaM.wl_length]; omega)
theorem EatW.v {w wr : World} {g b : Nat} {st : ShaM.V8} {left : List UInt8} {n : Nat} {V : ShaM.V8} (h : EatW w wr g b st left n V) (i : Nat) : wr.cell? ⟨b + 1, i, none⟩ = (ucells (vl V))[i]? := h.es.cell i
theorem EatW.put {w wr : World} {g b : Nat} {st : ShaM.V8} {left : List UInt8} {n : Nat} {V V' : ShaM.V8} (h : EatW w wr g b st left n V) (hg : g < b) (h2 : 2 ≤ g) (hb : w.heap.size ≤ b) : EatW w (wr.setRow (b + 1) (ucells (vl V'))) g b st left n V' := by
  refine ⟨h.er.setRow (by omega) _, h.ew.setRow_far _ (by omega), h.es.setRow _, h.eo.setRow (.inr (by omega)) _, ?_⟩
  obtain ⟨⟨t, fr, h0⟩, t', fr', h1⟩ := h.et
  exact ⟨⟨t, fr, (setRow_other wr _ 0 _ (by omega)).trans h0⟩, t', fr', (setRow_other wr _ 1 _ (by omega)).trans h1⟩

set_option maxRecDepth 100000 in
set_option maxHeartbeats 8000000 in
theorem eat_any {w : World} (hT : Tab w) {g : Nat} {on : Bool} {st : ShaM.V8} {left : List UInt8} {n : Nat} (h : RB w g on (vl st) left n) (hg : 2 ≤ g) :
    Calls Tryd.prog 69 #[.pointer (some ⟨g, 0, none⟩)] w fun e w' => e = .returned (.tuple #[]) ∧ RB w' g true (vl (ShaM.compress (bif on then st else ShaM.begin8) left)) left n ∧ Only w.heap.size [g] w w' := by
  have hon := h.gON
  have hfr := h.fr 0
  have Hh := Lib.hid h; have HT := Lib.hid hT
  clear h hT
  go_enter Tryd.func69, Tryd.ntmps69
  go_upto_if 15 with fail
  go_cut [] (fun wx => RB wx g true (vl (bif on then st else ShaM.begin8)) left n ∧ Only w.heap.size [g] w wx ∧ Tab wx)
  case first =>
    cases on
    · obtain ⟨⟨t, fr, hb⟩, -⟩ := HT.out
      go_wp2_with (first | (refine wpList_load_row rfl 27 (Operand.global 0) rfl 0 rfl t _ fr _ hb Tryd.underlying27 rfl (inf27 _) ?_) | (refine wpList_store_mid rfl 27 (Operand.tmp 22) (Operand.tmp 18) rfl g 1 (ucells (vl ShaM.begin8)) (by rfl) (by rfl) (there8 (Hh.out.setOn true) _) (inf27 _) (vl_one _) ?_))
      go_meet
      have h1 := (Hh.out.setOn true).setV ShaM.begin8
      have h2 : Only w.heap.size [g] w ((w.setCell ⟨g, 0, none⟩ (.bool true)).setCells g 1 ((vl ShaM.begin8).map uval)) :=
        ((Only.refl _ _ _).setCell (p := ⟨g, 0, none⟩) (.inl (by simp)) _).trans (by have := only_setCells (w.setCell ⟨g, 0, none⟩ (.bool true)) g 1 ((vl ShaM.begin8).map uval); simpa [World.setCell] using this)
      exact ⟨h1, h2, HT.out.grow h2 hg⟩
    · go_wp2
      go_meet
      exact ⟨Hh.out, Only.refl _ _ _, HT.out⟩
  case rest =>
    obtain ⟨hR, hO, hTc⟩ := hcut
    generalize hs0 : (bif on then st else ShaM.begin8) = st0 at hR
    have Hs0 := Lib.hid hs0; have HR := Lib.hid hR; have HO := Lib.hid hO; have HTc := Lib.hid hTc
    have HTw := HT
    clear hs0 hR hO hTc hon hfr Hh HT
    go_wp2_with fail
    refine (spread_any g 9 left HR.out.2.2 wc (fun i hi => HR.out.gL i hi)).mono ?_
    rintro e wB ⟨rfl, hbB⟩
    have hRB := HR.out.below hbB
    have hTB := HTc.out.below hbB
    have hOB : Only w.heap.size [g] w wB := HO.out.trans ((Only.ofBelow hbB _).mono HO.out.size (fun _ _ h => h))
    have hst := run_storeCells_new (P := Tryd.prog) wB (ucells (List.replicate 64 0)) 109 (ucells (ShaM.wl left 64)).toList (by simp [ucells, ShaM.wl_length]) (ucells_one _)
    rw [show (ucells (ShaM.wl left 64)).toList.toArray = ucells (ShaM.wl left 64) from Array.toArray_toList, zeros64] at hst
    have hcz : (ucells (ShaM.wl left 64)).size = 64 := by rw [ucells_size, ShaM.wl_length]
    have hcw : Blk (wB.alloc (.cells (ucells (ShaM.wl left 64)) 109)) wB.heap.size 109 (ucells (ShaM.wl left 64)) := Blk.new _ _ _
    generalize hcwe : ucells (ShaM.wl left 64) = cw at *
    have Hcw := Lib.hid hcw; have Hcwe := Lib.hid hcwe; have HRB := Lib.hid hRB; have HTB := Lib.hid hTB; have HOB := Lib.hid hOB
    clear hcw hcwe hRB hTB hOB hbB HR HO HTc
    have h8 := blk_new2 wB (.cells cw 109) 27 zero8
    have HR8 : Hid (RB (((wB.alloc (.cells cw 109)).alloc (.cells zero8 27)).setRow (wB.heap.size + 1) (ucells (vl st0))) g true (vl st0) left n) := Lib.hid (((HRB.out.alloc _).alloc _).setRow (by have := HRB.out.lt; omega) _)
    have HW8 : Hid (Blk (((wB.alloc (.cells cw 109)).alloc (.cells zero8 27)).setRow (wB.heap.size + 1) (ucells (vl st0))) wB.heap.size 109 cw) := Lib.hid ((Hcw.out.alloc _).setRow_far _ (by omega))
    have HS8 : Hid (Blk (((wB.alloc (.cells cw 109)).alloc (.cells zero8 27)).setRow (wB.heap.size + 1) (ucells (vl st0))) (wB.heap.size + 1) 27 (ucells (vl st0))) := Lib.hid (h8.setRow _)
    have HO8 : Hid (Only w.heap.size [g] w (((wB.alloc (.cells cw 109)).alloc (.cells zero8 27)).setRow (wB.heap.size + 1) (ucells (vl st0)))) := Lib.hid (by
      have h1 := HOB.out.size
      exact (((HOB.out.alloc h1 _).alloc (by simp; omega) _).setRow (.inr (by omega)) _))
    unfold zero8 at h8 HR8 HW8 HS8 HO8
    go_wp2_with (first | (refine wpList_load_mid rfl 27 (Operand.tmp 29) rfl g 1 (by rfl) ((vl st0).map uval) _ (HRB.out.alloc _).range Tryd.underlying27 rfl (inf27l _) ?_) | (refine wpList_store_row rfl 27 (Operand.tmp 3) (Operand.tmp 30) rfl (wB.heap.size + 1) (ucells (vl st0)) (by rfl) (by rfl) 27 _ h8 (inf27 _) rfl (vl_one _) ?_))
    have hge : 2 ≤ wB.heap.size := HTB.out.lt
    have hgl : g < wB.heap.size := HRB.out.lt
    have hsB : w.heap.size ≤ wB.heap.size := HOB.out.size
    have H0 : Hid (EatW w (((wB.alloc (.cells cw 109)).alloc (.cells #[.int .u32 0, .int .u32 0, .int .u32 0, .int .u32 0, .int .u32 0, .int .u32 0, .int .u32 0, .int .u32 0] 27)).setRow (wB.heap.size + 1) (ucells (vl st0))) g wB.heap.size st0 left n st0) := Lib.hid ⟨HR8.out, by rw [Hcwe.out]; exact HW8.out, HS8.out, HO8.out, HTw.out.grow HO8.out hg⟩
    clear hst h8 HRB HTB HOB Hcw HR8 HW8 HS8 HO8
    generalize ((wB.alloc (.cells cw 109)).alloc (.cells #[.int .u32 0, .int .u32 0, .int .u32 0, .int .u32 0, .int .u32 0, .int .u32 0, .int .u32 0, .int .u32 0] 27)).setRow (wB.heap.size + 1) (ucells (vl st0)) = wC at *
    generalize wB.heap.size = bb at *
    go_loopg [31] 64 (fun q i wr => ∃ k : Nat, k + q = 64 ∧ i = .int .i64 k ∧ EatW w wr g bb st0 left n (ShaM.rounds (ShaM.wl left 64) st0 k))
    case atStart => exact ⟨0, Nat.zero_add _, rfl, H0.out⟩
    case round =>
      clear H0
      obtain ⟨k, hk, rfl, hE⟩ := hrel
      by_cases hlt : k < 64
      · have Hrn : Hid (ShaM.rounds (ShaM.wl left 64) st0 (k + 1) = ShaM.rnd (ShaM.rounds (ShaM.wl left 64) st0 k) (ShaM.K.getD k 0) ((ShaM.wl left 64).getD k 0)) := Lib.hid rfl
        have hkey := fun wx (h : EatW w wx g bb st0 left n (ShaM.rounds (ShaM.wl left 64) st0 k)) => h.et.key k hlt
        have hwk := fun wx (h : EatW w wx g bb st0 left n (ShaM.rounds (ShaM.wl left 64) st0 k)) => h.wk k hlt
        generalize ShaM.K.getD k 0 = kk at *
        generalize (ShaM.wl left 64).getD k 0 = ww at *
        generalize ShaM.rounds (ShaM.wl left 64) st0 k = v at *
        obtain ⟨a, b, c, d, e, f, g', h⟩ := v
        have Hkey := Lib.hid hkey; have Hwk := Lib.hid hwk; have HE := Lib.hid hE
        have va : wr.cell? ⟨bb + 1, 0, none⟩ = some (.int .u32 (a.toNat : Int)) := hE.v 0
        have ve : wr.cell? ⟨bb + 1, 4, none⟩ = some (.int .u32 (e.toNat : Int)) := hE.v 4
        clear hkey hwk hE
        have r0 : (0 : Int) ≤ (k : Int) := by omega
        have r1 : (k : Int) < 64 := by omega
        have H7 : Hid (ShaM.rx ⟨a, b, c, d, e, f, g', h⟩ kk ww = h + uxor (uxor (ShaM.rotr 6 e) (ShaM.rotr 11 e)) (ShaM.rotr 25 e) + uxor (uand e f) (uand (unot e) g') + kk + ww) := Lib.hid rfl
        have H8 : Hid (ShaM.ry ⟨a, b, c, d, e, f, g', h⟩ = uxor (uxor (ShaM.rotr 2 a) (ShaM.rotr 13 a)) (ShaM.rotr 22 a) + uxor (uxor (uand a b) (uand a c)) (uand b c)) := Lib.hid rfl
        have Hrn2 : Hid (ShaM.rounds (ShaM.wl left 64) st0 (k + 1) = ⟨uadd (ShaM.rx ⟨a, b, c, d, e, f, g', h⟩ kk ww) (ShaM.ry ⟨a, b, c, d, e, f, g', h⟩), a, b, c, uadd d (ShaM.rx ⟨a, b, c, d, e, f, g', h⟩ kk ww), e, f, g'⟩) := Lib.hid (by rw [Hrn.out]; rfl)
        generalize ShaM.rx ⟨a, b, c, d, e, f, g', h⟩ kk ww = X at *
        generalize ShaM.ry ⟨a, b, c, d, e, f, g', h⟩ = Y at *
        clear Hrn
        go_wp2
        go_still (by kernel_rfl)
        go_upto_region 8 with fail
        change Code.wp _ _ _ _ wr.drew
        have HE2 := Lib.hid HE.out.drew
        clear va ve HE
        generalize wr.drew = wq at *
        go_cut [7] (fun s7 wx => s7 = .int .u32 (X.toNat : Int) ∧ EatW w wx g bb st0 left n ⟨a, b, c, d, e, f, g', h⟩)
        case first =>
          have ck := Hkey.out _ HE2.out
          have cw := Hwk.out _ HE2.out
          have vf : wq.cell? ⟨bb + 1, 5, none⟩ = some (.int .u32 (f.toNat : Int)) := HE2.out.v 5
          have vg : wq.cell? ⟨bb + 1, 6, none⟩ = some (.int .u32 (g'.toNat : Int)) := HE2.out.v 6
          have vh : wq.cell? ⟨bb + 1, 7, none⟩ = some (.int .u32 (h.toNat : Int)) := HE2.out.v 7
          have U1 := c_xor; have U2 := c_and; have U3 := c_not; have U3' := c_not'
          clear Hrn2 H8 Hkey Hwk HTw Hs0 Hcwe
          refine wp_region_still_lit (by kernel_rfl) (by kernel_rfl) ?_
          repeat still_step
          still_call (turnS_6 e _)
          repeat still_step
          still_call (turnS_11 e _)
          repeat still_step
          still_call (turnS_25 e _)
          repeat still_step
          refine wpStill_nil ?_
          first | rw [s_sum5] | rw [c_sum5] | rw [c_sum41]
          go_wp2
          go_meet
          exact ⟨by rw [H7.out], HE2.out.drew⟩
        case rest =>
          obtain ⟨rfl, hE⟩ := hcut
          clear H7 HE2
          go_upto_region 9 with fail
          have HE3 := Lib.hid hE
          clear hE
          go_cut [8] (fun s8 wx => s8 = .int .u32 (Y.toNat : Int) ∧ EatW w wx g bb st0 left n ⟨a, b, c, d, e, f, g', h⟩)
          case first =>
            have vb : wc.cell? ⟨bb + 1, 1, none⟩ = some (.int .u32 (b.toNat : Int)) := HE3.out.v 1
            have vc : wc.cell? ⟨bb + 1, 2, none⟩ = some (.int .u32 (c.toNat : Int)) := HE3.out.v 2
            have U1 := c_xor; have U2 := c_and
            clear Hrn2 Hkey Hwk HTw Hs0 Hcwe
            refine wp_region_still_lit (by kernel_rfl) (by kernel_rfl) ?_
            repeat still_step
            still_call (turnS_2 a _)
            repeat still_step
            still_call (turnS_13 a _)
            repeat still_step
            still_call (turnS_22 a _)
            repeat still_step
            refine wpStill_nil ?_
            first | rw [s_sum2] | rw [c_sum2]
            go_wp2
            go_meet
            exact ⟨by rw [H8.out], HE3.out.drew⟩
          case rest =>
            obtain ⟨rfl, hE⟩ := hcut
            clear H8 HE3
            have va : wc.cell? ⟨bb + 1, 0, none⟩ = some (.int .u32 (a.toNat : Int)) := hE.v 0
            have vb : wc.cell? ⟨bb + 1, 1, none⟩ = some (.int .u32 (b.toNat : Int)) := hE.v 1
            have vc : wc.cell? ⟨bb + 1, 2, none⟩ = some (.int .u32 (c.toNat : Int)) := hE.v 2
            have vd : wc.cell? ⟨bb + 1, 3, none⟩ = some (.int .u32 (d.toNat : Int)) := hE.v 3
            have ve : wc.cell? ⟨bb + 1, 4, none⟩ = some (.int .u32 (e.toNat : Int)) := hE.v 4
            have vf : wc.cell? ⟨bb + 1, 5, none⟩ = some (.int .u32 (f.toNat : Int)) := hE.v 5
            have vg : wc.cell? ⟨bb + 1, 6, none⟩ = some (.int .u32 (g'.toNat : Int)) := hE.v 6
            have hS := hE.es
            have HE4 := Lib.hid hE
            clear hE
            have U4 := c_add
            have hbl := built27 ((uadd X Y).toNat : Int) (a.toNat : Int) (b.toNat : Int) (c.toNat : Int) ((uadd d X).toNat : Int) (e.toNat : Int) (f.toNat : Int) (g'.toNat : Int)
            go_wp2_with (refine wpList_store_row rfl 27 (Operand.tmp 3) (Operand.tmp 111) rfl (bb + 1) (ucells (vl ⟨uadd X Y, a, b, c, uadd d X, e, f, g'⟩)) (by rfl) (by rfl) 27 _ hS (inf27 _) (hold8 _ _) (vl_one _) ?_)
            go_roundg (gk - 1)
            case rel => exact ⟨k + 1, by omega, by go_num, by rw [Hrn2.out]; exact HE4.out.put hgl hg hsB⟩
            case measure => omega
      · obtain rfl : k = 64 := by omega
        have Hf : Hid (ShaM.add8 st0 (ShaM.rounds (ShaM.wl left 64) st0 64) = ShaM.compress st0 left) := Lib.hid rfl
        generalize ShaM.rounds (ShaM.wl left 64) st0 64 = v at *
        have hR := hE.er; have hO := hE.eo; have hS := hE.es
        have HR := Lib.hid hR; have HO := Lib.hid hO
        clear hR hO hE
        go_wp2_with (refine wpList_load_row rfl 27 (Operand.tmp 3) rfl (bb + 1) rfl 27 _ (0, 0) _ hS Tryd.underlying27 rfl (inf27 _) ?_)
        go_loopw [114] (fun i wr => ∃ k : Nat, k ≤ 8 ∧ i = .int .i64 k ∧ RB wr g true (acc (vl st0) (vl v) k) left n ∧ Only w.heap.size [g] w wr) (fun i _ => 8 - (intOf i).toNat)
        case atStart => exact ⟨0, by omega, rfl, HR.out, HO.out⟩
        case round =>
          clear hk hlt
          obtain ⟨k, hk, rfl, hR, hO⟩ := hrel
          by_cases hlt : k < 8
          · have hix := fun wx => index27 v wx k hlt
            have hc := hR.gS k hlt
            rw [acc_get _ _ k rfl rfl hlt] at hc
            have hfr := hR.fr (1 + k)
            have hset := acc_set (vl st0) (vl v) k rfl rfl hlt
            generalize (vl st0).getD k 0 = x at *
            generalize (vl v).getD k 0 = y at *
            have Hset := Lib.hid hset; have HR2 := Lib.hid hR; have HO2 := Lib.hid hO
            clear hset hR hO hS HR HO
            have r0 : (0 : Int) ≤ (k : Int) := by omega
            have r1 : (k : Int) < 8 := by omega
            have U4 := c_add
            go_wp2
            go_still_tail 11, (by kernel_rfl)
            show wpList _ _ _ _ _ wr.drew
            go_wp2
            go_roundw
            case rel => exact ⟨k + 1, by omega, by go_num, by rw [← Hset.out]; exact (HR2.out.drewN 1).setS k hlt (uadd x y), (HO2.out.drewN 1).setCell (p := ⟨g, 1 + k, none⟩) (.inl (by simp)) _⟩
            case measure => simp [intOf]; omega
          · obtain rfl : k = 8 := by omega
            rw [acc_all, Hf.out, ← Hs0.out] at hR
            have HR2 := Lib.hid hR; have HO2 := Lib.hid hO
            clear hR hO hS HR HO
            go_wp2
            go_end0
            exact ⟨rfl, HR2.out, HO2.out⟩
end Go.Proofs.YtkdajlhmodmkoaaDoor
