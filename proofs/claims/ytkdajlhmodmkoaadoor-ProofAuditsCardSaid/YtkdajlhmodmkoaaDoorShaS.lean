/-
  Layer 2 (sha): spread walked.
-/
import Derived.Test.YtkdajlhmodmkoaaDoorShaT
import Derived.StillTailTactics
import Derived.Deep.QuietTactic
import Derived.BigQuiet
namespace Go.Proofs.YtkdajlhmodmkoaaDoor
open Go.RowKit
set_option linter.unusedVariables false
set_option linter.unusedSimpArgs false

/-- Words as cells. -/
def uval (x : UInt32) : Value := .int .u32 (x.toNat : Int)
def ucells (l : List UInt32) : Array Value := (l.map uval).toArray
def wrow (b : List UInt8) (k : Nat) : Array Value := ucells (ShaM.wl b k ++ List.replicate (64 - k) 0)
theorem wrow_size (b : List UInt8) (k : Nat) (h : k ≤ 64) : (wrow b k).size = 64 := by simp [wrow, ucells, ShaM.wl_length]; omega
theorem wrow_zero (b : List UInt8) : wrow b 0 = ucells (List.replicate 64 0) := rfl
theorem zeros64 : ucells (List.replicate 64 0) = #[.int .u32 0, .int .u32 0, .int .u32 0, .int .u32 0, .int .u32 0, .int .u32 0, .int .u32 0, .int .u32 0, .int .u32 0, .int .u32 0, .int .u32 0, .int .u32 0, .int .u32 0, .int .u32 0, .int .u32 0, .int .u32 0, .int .u32 0, .int .u32 0, .int .u32 0, .int .u32 0, .int .u32 0, .int .u32 0, .int .u32 0, .int .u32 0, .int .u32 0, .int .u32 0, .int .u32 0, .int .u32 0, .int .u32 0, .int .u32 0, .int .u32 0, .int .u32 0, .int .u32 0, .int .u32 0, .int .u32 0, .int .u32 0, .int .u32 0, .int .u32 0, .int .u32 0, .int .u32 0, .int .u32 0, .int .u32 0, .int .u32 0, .int .u32 0, .int .u32 0, .int .u32 0, .int .u32 0, .int .u32 0, .int .u32 0, .int .u32 0, .int .u32 0, .int .u32 0, .int .u32 0, .int .u32 0, .int .u32 0, .int .u32 0, .int .u32 0, .int .u32 0, .int .u32 0, .int .u32 0, .int .u32 0, .int .u32 0, .int .u32 0, .int .u32 0] := by kernel_rfl
theorem wrow_get (b : List UInt8) (k i : Nat) (h : i < k) (hk : k ≤ 64) : (wrow b k)[i]? = some (.int .u32 (((ShaM.wl b k).getD i 0).toNat : Int)) := by
  simp only [wrow, ucells, List.getElem?_toArray, List.getElem?_map]
  rw [List.getElem?_append_left (by rw [ShaM.wl_length]; exact h), List.getD_eq_getElem?_getD, List.getElem?_eq_getElem (by rw [ShaM.wl_length]; exact h)]
  rfl
theorem wrow_set (b : List UInt8) (k : Nat) (h : k < 64) : (wrow b k).setIfInBounds k (.int .u32 ((ShaM.nextW b (ShaM.wl b k)).toNat : Int)) = wrow b (k + 1) := by
  simp only [wrow, ucells, List.setIfInBounds_toArray]
  congr 1
  rw [show 64 - k = (64 - (k + 1)) + 1 by omega, List.replicate_succ]
  simp only [List.map_append, List.map_cons, ShaM.wl]
  rw [List.set_append_right _ _ (by simp [ShaM.wl_length])]
  simp [ShaM.wl_length, uval]

theorem uwrap (c : UInt8) : IntKind.u32.wrap (c.toNat : Int) = (c.toNat : Int) := by
  have := c.toNat_lt
  rw [IntKind.wrap_u32']; omega
theorem word_int (a b c d : UInt8) : bits .or .u32 (bits .or .u32 (bits .or .u32 (IntKind.u32.wrap (IntKind.u32.wrap (a.toNat : Int) * 16777216)) (IntKind.u32.wrap (IntKind.u32.wrap (b.toNat : Int) * 65536))) (IntKind.u32.wrap (IntKind.u32.wrap (c.toNat : Int) * 256))) (IntKind.u32.wrap (d.toNat : Int)) = ((ShaM.word a b c d).toNat : Int) := by
  have ha := a.toNat_lt; have hb := b.toNat_lt; have hc := c.toNat_lt; have hd := d.toNat_lt
  simp only [uwrap]
  rw [show IntKind.u32.wrap ((a.toNat : Int) * 16777216) = ((a.toNat * 16777216 : Nat) : Int) by rw [IntKind.wrap_u32']; omega,
    show IntKind.u32.wrap ((b.toNat : Int) * 65536) = ((b.toNat * 65536 : Nat) : Int) by rw [IntKind.wrap_u32']; omega,
    show IntKind.u32.wrap ((c.toNat : Int) * 256) = ((c.toNat * 256 : Nat) : Int) by rw [IntKind.wrap_u32']; omega]
  rw [u32_or_nat _ _ (by omega) (by omega), nat_join 24 _ _ (by omega) (by omega), u32_or_nat _ _ (by omega) (by omega), nat_join 16 _ _ (by omega) (by omega), u32_or_nat _ _ (by omega) (by omega), nat_join 8 _ _ (by omega) (by omega)]
  unfold ShaM.word
  rw [UInt32.toNat_ofNat', Nat.mod_eq_of_lt (by omega)]
theorem shr3_int (x : UInt32) : (x.toNat : Int) / 8 = ((ShaM.shr 3 x).toNat : Int) := by
  have := x.toNat_lt
  unfold ShaM.shr
  rw [UInt32.toNat_ofNat']; omega
theorem shr10_int (x : UInt32) : (x.toNat : Int) / 1024 = ((ShaM.shr 10 x).toNat : Int) := by
  have := x.toNat_lt
  unfold ShaM.shr
  rw [UInt32.toNat_ofNat']; omega
theorem nextW_lo (b : List UInt8) (k : Nat) (h : k < 16) : ShaM.nextW b (ShaM.wl b k) = ShaM.word (b.getD (4 * k) 0) (b.getD (4 * k + 1) 0) (b.getD (4 * k + 2) 0) (b.getD (4 * k + 3) 0) := by
  unfold ShaM.nextW
  rw [ShaM.wl_length, if_pos h]
theorem nextW_hi (b : List UInt8) (k : Nat) (h : ¬ k < 16) : ShaM.nextW b (ShaM.wl b k) = (ShaM.wl b k).getD (k - 16) 0 + (ShaM.wl b k).getD (k - 7) 0 + ShaM.sg0 ((ShaM.wl b k).getD (k - 15) 0) + ShaM.sg1 ((ShaM.wl b k).getD (k - 2) 0) := by
  unfold ShaM.nextW
  rw [ShaM.wl_length, if_neg h]
theorem wrow_at (b : List UInt8) (k : Nat) (h : k < 64) : (wrow b k)[k]? = some (.int .u32 0) := by
  simp only [wrow, ucells, List.getElem?_toArray, List.getElem?_map]
  rw [List.getElem?_append_right (by rw [ShaM.wl_length]; omega), ShaM.wl_length, Nat.sub_self, List.getElem?_replicate, if_pos (by omega)]
  rfl
theorem info109 : (Tryd.prog.info? 109).map (·.size) = some 64 := by kernel_rfl
theorem ucells_size (l : List UInt32) : (ucells l).size = l.length := by simp [ucells]
theorem wrow_all (b : List UInt8) : wrow b 64 = ucells (ShaM.wl b 64) := by simp [wrow]
theorem ucells_one (l : List UInt32) : ∀ v ∈ (ucells l).toList, v.oneCell' = true := by
  intro v hv
  simp only [ucells, List.mem_map] at hv
  obtain ⟨_, _, rfl⟩ := hv
  rfl
/-- Since the call began two blocks have been made; nothing else has changed. -/
structure SpW (w wr : World) (b : List UInt8) (k : Nat) : Prop where
  bel : Below w.heap.size w wr
  z : Blk wr w.heap.size 109 (ucells (List.replicate 64 0))
  r : Blk wr (w.heap.size + 1) 109 (wrow b k)
theorem SpW.draw {w wr : World} {b : List UInt8} {k : Nat} (h : SpW w wr b k) (n : Nat) : SpW w (wr.drewN n) b k := ⟨below_drewN' h.bel n, h.z, h.r⟩
theorem SpW.put {w wr : World} {b : List UInt8} {k : Nat} (h : SpW w wr b k) (hk : k < 64) (v : Int) (hv : v = ((ShaM.nextW b (ShaM.wl b k)).toNat : Int)) : SpW w (wr.setCell ⟨w.heap.size + 1, k, none⟩ (.int .u32 v)) b (k + 1) := by
  subst hv
  refine ⟨h.bel.setCell (by simp) _, h.z.far (by simp) _, ?_⟩
  rw [← wrow_set b k hk]
  exact h.r.set_ k _

set_option maxRecDepth 100000 in
set_option maxHeartbeats 1000000 in
theorem spread_any (g o : Nat) (b : List UInt8) (hb : b.length = 64) (w : World) (hc : ∀ i, i < 64 → w.cell? ⟨g, o + i, none⟩ = some (.int .u8 ((b.getD i 0).toNat : Int))) :
    Calls Tryd.prog 97 #[.pointer (some ⟨g, o, none⟩)] w fun e w' => e = .returned (.agg (ucells (ShaM.wl b 64))) ∧ Below w.heap.size w w' := by
  have hg : g < w.heap.size := World.block_lt_of_cell? w _ (hc 0 (by omega))
  have Hc := Lib.hid hc; clear hc
  go_enter Tryd.func97, Tryd.ntmps97
  go_wp2
  rw [← zeros64]
  go_loopw [8] (fun i wr => ∃ k : Nat, k ≤ 16 ∧ i = .int .i64 k ∧ SpW w wr b k) (fun i _ => 16 - (intOf i).toNat)
  case atStart => exact ⟨0, by omega, rfl, ⟨(((Below.refl _ _).alloc (Nat.le_refl _) _).alloc (by simp) _), (Blk.new w 109 _).alloc _, by rw [wrow_zero]; exact blk_new2 w _ 109 _⟩⟩
  case round =>
    obtain ⟨k, hk, rfl, hw⟩ := hrel
    by_cases hlt : k < 16
    · have c0 : wr.cell? ⟨g, o + 4 * k, none⟩ = some (.int .u8 ((b.getD (4 * k) 0).toNat : Int)) := by rw [hw.bel.cell (by exact hg)]; exact Hc.out (4 * k) (by omega)
      have c1 : wr.cell? ⟨g, o + (4 * k + 1), none⟩ = some (.int .u8 ((b.getD (4 * k + 1) 0).toNat : Int)) := by rw [hw.bel.cell (by exact hg)]; exact Hc.out (4 * k + 1) (by omega)
      have c2 : wr.cell? ⟨g, o + (4 * k + 2), none⟩ = some (.int .u8 ((b.getD (4 * k + 2) 0).toNat : Int)) := by rw [hw.bel.cell (by exact hg)]; exact Hc.out (4 * k + 2) (by omega)
      have c3 : wr.cell? ⟨g, o + (4 * k + 3), none⟩ = some (.int .u8 ((b.getD (4 * k + 3) 0).toNat : Int)) := by rw [hw.bel.cell (by exact hg)]; exact Hc.out (4 * k + 3) (by omega)
      have hfr := hw.r.frozen k
      have hst : wr.cell? ⟨w.heap.size + 1, k, none⟩ = some (.int .u32 0) := by rw [hw.r.cell]; exact wrow_at b k (by omega)
      have hnx := nextW_lo b k hlt
      generalize b.getD (4 * k) 0 = x0 at *
      generalize b.getD (4 * k + 1) 0 = x1 at *
      generalize b.getD (4 * k + 2) 0 = x2 at *
      generalize b.getD (4 * k + 3) 0 = x3 at *
      have Hnx := Lib.hid hnx; have Hw := Lib.hid hw
      clear hnx hw
      have a0 : IntKind.i64.wrap (4 * (k : Int)) = 4 * (k : Int) := IntWalk.i64_in _ (by omega)
      have a1 : IntKind.i64.wrap (4 * (k : Int) + 1) = 4 * (k : Int) + 1 := IntWalk.i64_in _ (by omega)
      have a2 : IntKind.i64.wrap (4 * (k : Int) + 2) = 4 * (k : Int) + 2 := IntWalk.i64_in _ (by omega)
      have a3 : IntKind.i64.wrap (4 * (k : Int) + 3) = 4 * (k : Int) + 3 := IntWalk.i64_in _ (by omega)
      have t0 : (4 * (k : Int)).toNat = 4 * k := by omega
      have t1 : (4 * (k : Int) + 1).toNat = 4 * k + 1 := by omega
      have t2 : (4 * (k : Int) + 2).toNat = 4 * k + 2 := by omega
      have t3 : (4 * (k : Int) + 3).toNat = 4 * k + 3 := by omega
      have p0 : (0 : Int) ≤ 4 * (k : Int) := by omega
      have p1 : (0 : Int) ≤ 4 * (k : Int) + 1 := by omega
      have p2 : (0 : Int) ≤ 4 * (k : Int) + 2 := by omega
      have p3 : (0 : Int) ≤ 4 * (k : Int) + 3 := by omega
      have r0 : (0 : Int) ≤ (k : Int) := by omega
      have r1 : (k : Int) < 64 := by omega
      have q0 : 4 * (k : Int) < 64 := by omega
      have q1 : 4 * (k : Int) + 1 < 64 := by omega
      have q2 : 4 * (k : Int) + 2 < 64 := by omega
      have q3 : 4 * (k : Int) + 3 < 64 := by omega
      go_wp2
      go_still_tail 39, (by kernel_rfl)
      show wpList _ _ _ _ _ wr.drew
      go_wp2
      go_roundw
      case rel => exact ⟨k + 1, by omega, by go_num, (Hw.out.draw 1).put (by omega) _ (by rw [Hnx.out]; exact word_int x0 x1 x2 x3)⟩
      case measure => simp [intOf]; omega
    · obtain rfl : k = 16 := by omega
      have Hw := Lib.hid hw; clear hw
      go_wp2
      rw [show ((16 : Nat) : Int) = 16 from rfl]
      go_loopw [5] (fun i wr => ∃ k : Nat, 16 ≤ k ∧ k ≤ 64 ∧ i = .int .i64 k ∧ SpW w wr b k) (fun i _ => 64 - (intOf i).toNat)
      case atStart => exact ⟨16, by omega, by omega, rfl, Hw.out⟩
      case round =>
        clear Hw hlt hk
        obtain ⟨k, hk0, hk, rfl, hw⟩ := hrel
        by_cases hlt : k < 64
        · have hcl := fun i (h : i < k) => (hw.r.cell i).trans (wrow_get b k i h (by omega))
          have c15 := hcl (k - 15) (by omega)
          have c2 := hcl (k - 2) (by omega)
          have c16 := hcl (k - 16) (by omega)
          have c7 := hcl (k - 7) (by omega)
          have hfr := hw.r.frozen k
          have hst : wr.cell? ⟨w.heap.size + 1, k, none⟩ = some (.int .u32 0) := by rw [hw.r.cell]; exact wrow_at b k (by omega)
          have hnx := nextW_hi b k (by omega)
          generalize (ShaM.wl b k).getD (k - 15) 0 = x at *
          generalize (ShaM.wl b k).getD (k - 2) 0 = y at *
          generalize (ShaM.wl b k).getD (k - 16) 0 = v at *
          generalize (ShaM.wl b k).getD (k - 7) 0 = z at *
          have Hnx := Lib.hid hnx; have Hw := Lib.hid hw
          clear hnx hw hcl
          have hx := x.toNat_lt; have hy := y.toNat_lt; have hv := v.toNat_lt; have hz := z.toNat_lt
          have a15 : IntKind.i64.wrap ((k : Int) - 15) = (k : Int) - 15 := IntWalk.i64_in _ (by omega)
          have a2 : IntKind.i64.wrap ((k : Int) - 2) = (k : Int) - 2 := IntWalk.i64_in _ (by omega)
          have a16 : IntKind.i64.wrap ((k : Int) - 16) = (k : Int) - 16 := IntWalk.i64_in _ (by omega)
          have a7 : IntKind.i64.wrap ((k : Int) - 7) = (k : Int) - 7 := IntWalk.i64_in _ (by omega)
          have t15 : ((k : Int) - 15).toNat = k - 15 := by omega
          have t2 : ((k : Int) - 2).toNat = k - 2 := by omega
          have t16 : ((k : Int) - 16).toNat = k - 16 := by omega
          have t7 : ((k : Int) - 7).toNat = k - 7 := by omega
          have p15 : (0 : Int) ≤ (k : Int) - 15 := by omega
          have p2 : (0 : Int) ≤ (k : Int) - 2 := by omega
          have p16 : (0 : Int) ≤ (k : Int) - 16 := by omega
          have p7 : (0 : Int) ≤ (k : Int) - 7 := by omega
          have q15 : (k : Int) - 15 < 64 := by omega
          have q2 : (k : Int) - 2 < 64 := by omega
          have q16 : (k : Int) - 16 < 64 := by omega
          have q7 : (k : Int) - 7 < 64 := by omega
          have m15 : (15 : Int) ≤ (k : Int) := by omega
          have m2 : (2 : Int) ≤ (k : Int) := by omega
          have m16 : (16 : Int) ≤ (k : Int) := by omega
          have m7 : (7 : Int) ≤ (k : Int) := by omega
          have r0 : (0 : Int) ≤ (k : Int) := by omega
          have r1 : (k : Int) < 64 := by omega
          have U2 := c_xor; have U3 := shr3_int; have U4 := shr10_int
          go_wp2
          go_quiet (fail)
          go_wp2
          obtain ⟨wq, hq⟩ : ∃ wq, wr.drewN nq = wq := ⟨_, rfl⟩
          rw [hq]
          have Hw2 : Hid (SpW w wq b k) := Lib.hid (by rw [← hq]; exact Hw.out.draw nq)
          have c16' : wq.cell? ⟨w.heap.size + 1, k - 16, none⟩ = some (.int .u32 v.toNat) := by rw [← hq]; exact c16
          have c7' : wq.cell? ⟨w.heap.size + 1, k - 7, none⟩ = some (.int .u32 z.toNat) := by rw [← hq]; exact c7
          have hst' : wq.cell? ⟨w.heap.size + 1, k, none⟩ = some (.int .u32 0) := by rw [← hq]; exact hst
          have hfr' : wq.frozen? ⟨w.heap.size + 1, k, none⟩ = false := by rw [← hq]; exact hfr
          clear hq Hw c15 c2 c16 c7 hst hfr
          go_still_tail 29, (by kernel_rfl)
          still_call (turnS_7 x _)
          repeat still_step
          still_call (turnS_18 x _)
          repeat still_step
          still_call (turnS_17 y _)
          repeat still_step
          still_call (turnS_19 y _)
          repeat still_step
          refine wpStill_nil ?_
          show wpList _ _ _ _ _ wq.drew
          go_wp2
          go_roundw
          case rel => exact ⟨k + 1, by omega, by omega, by go_num, (Hw2.out.draw 1).put (by omega) _ (by rw [Hnx.out]; exact c_sum4 v z _ _)⟩
          case measure => simp [intOf]; omega
        · obtain rfl : k = 64 := by omega
          obtain ⟨h1, h2, h3⟩ := hw
          rw [wrow_all] at h3
          have hsz : (ucells (ShaM.wl b 64)).size = 64 := by rw [ucells_size, ShaM.wl_length]
          have hinf : (Tryd.prog.info? 109).map (·.size) = some (ucells (ShaM.wl b 64)).size := by rw [hsz]; exact info109
          have hst := run_storeCells_blk (P := Tryd.prog) h2 (ucells (ShaM.wl b 64)) (by rw [hsz, ucells_size, List.length_replicate]) (ucells_one _)
          have h4 := h2.setRow (ucells (ShaM.wl b 64))
          have hb := below_setRow h1 (Nat.le_refl _) (ucells (ShaM.wl b 64))
          generalize hcs : ucells (ShaM.wl b 64) = cs at *
          have Hcs := Lib.hid hcs; clear hcs
          have H4 := Lib.hid h4; have Hb := Lib.hid hb
          clear h1 h4 hb
          go_wp2_with (refine wpList_load_row rfl 109 (Operand.tmp 3) rfl (w.heap.size + 1) rfl 109 cs (0, 0) _ h3 Tryd.underlying109 rfl hinf ?_)
          exact bodyPost_ret (v := .agg cs) (results_cell_row Tryd.results97 _ _ w.heap.size 109 cs (0, 0) _ rfl H4.out Tryd.underlying109 rfl hinf) rfl ⟨by rw [Hcs.out], Hb.out⟩
end Go.Proofs.YtkdajlhmodmkoaaDoor
