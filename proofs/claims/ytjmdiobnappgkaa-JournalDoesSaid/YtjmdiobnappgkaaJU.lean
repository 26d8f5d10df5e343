/-
  Layer 15 (journal): a script cut to size (function 65): walked.
-/
import Derived.Test.YtjmdiobnappgkaaJT
namespace Go.Proofs.Ytjmdiobnappgkaa
open Go.RowKit
set_option linter.unusedVariables false
set_option linter.unusedSimpArgs false

def opv (o : OpM) : List Value := [.int .i64 o.K, .string o.S, o.u, .int .i64 o.N]
def opvs (l : List OpM) : List Value := l.flatMap opv
theorem opvs_snoc (l : List OpM) (o : OpM) : opvs (l ++ [o]) = opvs l ++ opv o := by simp [opvs]
theorem opvs_length (l : List OpM) : (opvs l).length = l.length * 4 := by
  induction l with
  | nil => rfl
  | cons x l ih => simp only [opvs, List.flatMap_cons, List.length_append, List.length_cons] at ih ⊢; rw [ih]; simp [opv]; omega
/-- A call that is cut to size. -/
structure Small (o : OpM) : Prop where
  s : o.S.size ≤ 200
  l : o.L.length ≤ 6
  ls : ∀ s ∈ o.L, s.size ≤ 200
  n : -9223372036854775808 ≤ o.N ∧ o.N ≤ 9223372036854775807
def OpsOk (w : World) (l : List OpM) : Prop := ∀ o ∈ l, Small o ∧ SReadT w o.u o.L
theorem OpsOk.nil (w : World) : OpsOk w [] := fun o h => by simp at h
theorem OpsOk.spare {w w' : World} {l : List OpM} {T : List TypeId} (h : OpsOk w l) (hs : Spare T w w') (hT : 9 ∉ T) : OpsOk w' l := fun o ho => ⟨(h o ho).1, (h o ho).2.spare hs hT⟩
theorem OpsOk.below {w w' : World} {l : List OpM} (h : OpsOk w l) (hb : Below w.heap.size w w') : OpsOk w' l := h.spare (Spare.ofBelow (T := []) hb) (by simp)
theorem OpsOk.snoc {w : World} {l : List OpM} {o : OpM} (h : OpsOk w l) (hs : Small o) (hr : SReadT w o.u o.L) : OpsOk w (l ++ [o]) := fun x hx => by
  rw [List.mem_append] at hx
  rcases hx with hx | hx
  · exact h x hx
  · simp at hx; subst hx; exact ⟨hs, hr⟩
/-- The strings of a call, cut, so far. -/
def CutL (L : List ByteArray) (k : Nat) (M : List ByteArray) : Prop := M.length = k ∧ ∀ s ∈ M, s.size ≤ 200
theorem CutL.nil (L : List ByteArray) : CutL L 0 [] := ⟨rfl, by simp⟩
theorem CutL.snoc {L M : List ByteArray} {k : Nat} {s : ByteArray} (h : CutL L k M) (hs : s.size ≤ 200) : CutL L (k + 1) (M ++ [s]) := ⟨by rw [List.length_append, h.1]; rfl, fun x hx => by
  rw [List.mem_append] at hx
  rcases hx with hx | hx
  · exact h.2 x hx
  · simp at hx; subst hx; exact hs⟩

def CutPost (w : World) (m : Nat) (e : Ending) (w' : World) : Prop :=
  ∃ (v : Value) (ops : List OpM), e = .returned v ∧ w'.ownsRow w.heap.size 96 4 v ops.length (opvs ops) ∧ ops.length ≤ m ∧ OpsOk w' ops ∧ Below w.heap.size w w'
set_option maxRecDepth 100000 in
set_option maxHeartbeats 4000000 in
theorem cut_any (A : Option Addr) (len cap : Nat) (ops : Nat → OpM) (m : Nat) (hm : m ≤ 1000) (w : World) (ho : IsScript w A len ops) :
    Calls Try.prog 65 #[.slice A len cap, .int .i64 (m : Int)] w (CutPost w m) := by
  obtain ⟨i0, hi, hz0, hz1, hz2⟩ := info_parts winfo9
  obtain ⟨j0, hj, hy0, hy1, hy2⟩ := info_parts winfo96
  have hlen : len ≤ 9223372036854775807 := ho.1
  have hmi : (m : Int) ≤ 1000 := by omega
  have hown0 : (w.alloc (.cells #[] 96)).ownsRow w.heap.size 96 4 (.slice (some ⟨w.heap.size, 0, none⟩) 0 0) 0 (opvs []) := World.ownsRow_made w #[] 0 (Nat.le_refl _) (by decide) rfl
  have Hbel := alloc_below' w (.cells #[] 96)
  go_enter Try.func65, Try.ntmps65
  go_wp2
  generalize w.alloc (.cells #[] 96) = w1 at *
  go_loopw [5, 6] (fun ov iv wr => ∃ (k : Nat) (l : List OpM), k ≤ len ∧ k ≤ m ∧ iv = .int .i64 (k : Int) ∧ l.length = k ∧ wr.ownsRow w.heap.size 96 4 ov k (opvs l) ∧ OpsOk wr l ∧ Below w.heap.size w wr) (fun _ iv _ => m - (intOf iv).toNat)
  case atStart => exact ⟨0, [], Nat.zero_le _, Nat.zero_le _, rfl, rfl, hown0, OpsOk.nil _, Hbel⟩
  case round =>
    clear hown0 Hbel
    obtain ⟨k, l, hk1, hk2, rfl, hll, hown, hok, hb⟩ := hrel
    have hz := hb.size
    have hcase : (k < len ∧ k < m) ∨ (¬ k < len) ∨ (k < len ∧ ¬ k < m) := by omega
    rcases hcase with ⟨hlt, hlt2⟩ | hlt | ⟨hlt, hlt2⟩
    · obtain ⟨b, q, o⟩ := ho.2 k hlt
      generalize ops k = op at o
      obtain ⟨K, S, u, L, N⟩ := op
      obtain ⟨rfl, hbl, c0, c1, c2, c3, hrd, hwf⟩ := o
      simp only at c0 c1 c2 c3 hrd
      obtain ⟨⟨-, -⟩, hN, hSz, hLz⟩ := hwf
      simp only at hN hSz hLz
      have d0 := cell_belowB hb rfl c0
      have d1 := cell_belowB hb rfl c1
      have d2 := cell_belowB hb rfl c2
      have d3 := cell_belowB hb rfl c3
      obtain ⟨ms, hms⟩ : ∃ m : Nat, min S.size 200 = m := ⟨_, rfl⟩
      have hmin : ∀ wx, (Builtin.min_ #[3, 3] 3 #[.int .i64 (S.size : Int), .int .i64 200]).run Try.prog wx = .ok (.int .i64 ms) wx := fun wx => run_min_int2 wx _ _ _ _ _ _ _ (by omega)
      have hm0 : (0 : Int) ≤ (ms : Int) := by omega
      have hm1 : (ms : Int) ≤ (S.size : Int) := by omega
      have hm2 : ms ≤ S.size := by omega
      have hss : (S.extract 0 ms).size ≤ 200 := by rw [ByteArray.size_extract]; omega
      have hki : (k : Int) < (m : Int) := by omega
      have hkl : (k : Int) < (len : Int) := by omega
      obtain ⟨Au, cu, rfl, hLm, hLc⟩ := hrd
      have HLc := Lib.hid hLc; have HLz := Lib.hid hLz; have Hok := Lib.hid hok; have Hown := Lib.hid hown; have Hb := Lib.hid hb; have Hho := Lib.hid ho; have HN := Lib.hid hN; have HSz := Lib.hid hSz
      have Hc2 := Lib.hid c2; have Hll := Lib.hid hll
      clear hLc hLz hok hown hb ho hN hSz c0 c1 c2 c3 hms hll
      go_wp2_with fail
      clear hmin hm0 hm1 hm2 d0 d1 d2 d3
      generalize S.extract 0 ms = S' at hss ⊢
      obtain ⟨wo, rfl⟩ : ∃ wo : World, wo = wr := ⟨_, rfl⟩
      have hrec0 : SOwn wo.heap.size ((wo.alloc (.cells #[] 9)).alloc (.cells #[.int .i64 K, .string S', .slice Au L.length cu, .int .i64 N] 96)) (.slice (some ⟨wo.heap.size, 0, none⟩) 0 0) [] := (SOwn.new (Nat.le_refl _)).below (alloc_below' _ _)
      have hblk0 : Blk ((wo.alloc (.cells #[] 9)).alloc (.cells #[.int .i64 K, .string S', .slice Au L.length cu, .int .i64 N] 96)) (wo.heap.size + 1) 96 #[.int .i64 K, .string S', .slice Au L.length cu, .int .i64 N] := by
        have := Blk.new (wo.alloc (.cells #[] 9)) 96 #[.int .i64 K, .string S', .slice Au L.length cu, .int .i64 N]
        rw [show (wo.alloc (.cells #[] 9)).heap.size = wo.heap.size + 1 by simp] at this
        exact this
      have hb2 : Below wo.heap.size wo ((wo.alloc (.cells #[] 9)).alloc (.cells #[.int .i64 K, .string S', .slice Au L.length cu, .int .i64 N] 96)) := bthen (alloc_below' _ _) (alloc_below' _ _)
      generalize (wo.alloc (.cells #[] 9)).alloc (.cells #[.int .i64 K, .string S', .slice Au L.length cu, .int .i64 N] 96) = w2 at *
      have hL63 : L.length ≤ 9223372036854775807 := hLm
      clear hLm
      go_loopw [8, 9] (fun rv kv wx => ∃ (k2 : Nat) (M : List ByteArray), k2 ≤ L.length ∧ k2 ≤ 6 ∧ kv = .int .i64 (k2 : Int) ∧ CutL L k2 M ∧ SOwn wo.heap.size wx rv M ∧ Blk wx (wo.heap.size + 1) 96 #[.int .i64 K, .string S', .slice Au L.length cu, .int .i64 N] ∧ Below wo.heap.size wo wx) (fun _ kv _ => 6 - (intOf kv).toNat)
      case atStart => exact ⟨0, [], Nat.zero_le _, Nat.zero_le _, rfl, CutL.nil _, hrec0, hblk0, hb2⟩
      case round =>
        clear hrec0 hblk0 hb2
        obtain ⟨k2, M, hk21, hk22, rfl, hcl, hro, hblk, hbx⟩ := hrel
        have hzx := hbx.size
        have hbw := below_stepB Hb.out hbx hz
        have e2 := cell_belowB hbw rfl Hc2.out
        have hcase2 : (k2 < L.length ∧ k2 < 6) ∨ (¬ k2 < L.length) ∨ (k2 < L.length ∧ ¬ k2 < 6) := by omega
        rcases hcase2 with ⟨hlt3, hlt4⟩ | hlt3 | ⟨hlt3, hlt4⟩
        · obtain ⟨b2, o2, rfl, hbl2, hx⟩ := HLc.out k2 hlt3
          have hxz := HLz.out L[k2] (List.getElem_mem hlt3)
          generalize L[k2] = x at hx hxz
          have ex := cell_belowB hbw rfl hx
          obtain ⟨mx, hmx⟩ : ∃ m : Nat, min x.size 200 = m := ⟨_, rfl⟩
          have hminx : ∀ wx, (Builtin.min_ #[3, 3] 3 #[.int .i64 (x.size : Int), .int .i64 200]).run Try.prog wx = .ok (.int .i64 mx) wx := fun wx => run_min_int2 wx _ _ _ _ _ _ _ (by omega)
          have hx0 : (0 : Int) ≤ (mx : Int) := by omega
          have hx1 : (mx : Int) ≤ (x.size : Int) := by omega
          have hx2 : mx ≤ x.size := by omega
          have hxs : (x.extract 0 mx).size ≤ 200 := by rw [ByteArray.size_extract]; omega
          have hki2 : (k2 : Int) < (L.length : Int) := by omega
          have hMl := hcl.1
          have hbz := hbw.size
          have Hcl := Lib.hid hcl; have Hblk := Lib.hid hblk; have Hbx := Lib.hid hbx; have Hbw := Lib.hid hbw; have Hxc := Lib.hid hx; have Hxs := Lib.hid hxs; have HMl := Lib.hid hMl
          unfold SOwn at hro
          clear hmx hxz hx hcl hblk hbx hbw hxs hMl
          go_wp2_with fail
          go_region_held3 (fun wy => wy.cell? ⟨b, q + k * 4 + 2, none⟩ = some (.slice (some ⟨b2, o2, none⟩) L.length cu) ∧ wy.cell? ⟨b2, o2 + k2, none⟩ = some (.string x)) (first | exact ⟨e2, ex⟩ | exact ⟨cell_belowB hbq rfl Hc2.out, cell_belowB hbq rfl Hxc.out⟩ | (go_keep; done))
            (first | (refine step_append1 rfl _ _ 94 rfl wo.heap.size 9 i0 (.string ⟨#[]⟩) 16 Try.underlying94 hi hz0 hz1 hz2 rfl u8 _ _ rfl (hro.alloc _).drew wr.heap.size rfl (.string (x.extract 0 mx)) (by simp [go_sem]) rfl (by unfold maxLen; have := HMl.out; omega) (by have := HMl.out; omega) (by simp; omega) ?_; intro v' w3 hown3 hg3 hv3; have hbq : Below w.heap.size w w3 := ((Hbw.out.alloc hbz _).drew).grown hg3 (by simp; omega) (fun g hg => by have := (World.ownsRow.lt hro g hg).1; omega)))
          have hbx3 : Below wo.heap.size wo w3 := ((Hbx.out.alloc hzx _).drew).grown hg3 (by simp; omega) (fun g hg => (World.ownsRow.lt hro g hg).1)
          have hblk3 : Blk w3 (wo.heap.size + 1) 96 #[.int .i64 K, .string S', .slice (some ⟨b2, o2, none⟩) L.length cu, .int .i64 N] := Blk.grown (((Hblk.out).alloc _).drew) hg3 (fun h => own_blk_ne hro Hblk.out (by decide) h.symm)
          have hro3 : SOwn wo.heap.size w3 v' (M ++ [x.extract 0 mx]) := by
            show World.ownsRow _ _ _ _ _ (M ++ [x.extract 0 mx]).length (svals (M ++ [x.extract 0 mx]))
            rw [svals_append, List.length_append]; exact hown3
          have Hro3 := Lib.hid hro3; have Hblk3 := Lib.hid hblk3; have Hbx3 := Lib.hid hbx3; have Hcl3 := Lib.hid (Hcl.out.snoc Hxs.out)
          clear hown3 hg3 hv3 hbq hbx3 hblk3 hro3 hro Hblk Hcl
          go_wp2
          go_roundw
          case rel => exact ⟨k2 + 1, _, by omega, by omega, by go_num, Hcl3.out, Hro3.out, Hblk3.out, Hbx3.out⟩
          case measure => simp [intOf]; omega
        all_goals
          obtain ⟨A1, c1, hre⟩ := hro.len
          have hMl := hcl.1
          have hM6 : M.length ≤ 6 := by omega
          subst hre
          have hrt := hro.readT (by unfold maxLen; omega)
          have g2 : wr.cell? ⟨wo.heap.size + 1, 2, none⟩ = some (.slice Au L.length cu) := hblk.cell 2
          have gf := hblk.frozen 2
          have hown := own_belowB hbx rfl Hown.out
          have hltu : ∀ i, u5.ownBlock = some i → i < wo.heap.size := fun i hi => (World.ownsRow.lt Hown.out i hi).2
          have hfar : u5.ownBlock ≠ some (wo.heap.size + 1) := fun h => by have := hltu _ h; omega
          have hown2 := own_set_far (p := ⟨wo.heap.size + 1, 2, none⟩) hown hfar (.slice A1 M.length c1)
          have hblk2 : Blk (wr.setCell ⟨wo.heap.size + 1, 2, none⟩ (.slice A1 M.length c1)) (wo.heap.size + 1) 96 #[.int .i64 K, .string S', .slice A1 M.length c1, .int .i64 N] := hblk.set_ 2 (.slice A1 M.length c1)
          have hsp := spare_set (i := 2) hblk (.slice A1 M.length c1)
          have hbs : Below wo.heap.size wo (wr.setCell ⟨wo.heap.size + 1, 2, none⟩ (.slice A1 M.length c1)) := hbx.setCell (p := ⟨wo.heap.size + 1, 2, none⟩) (by show wo.heap.size ≤ wo.heap.size + 1; omega) _
          have hzs : (wr.setCell ⟨wo.heap.size + 1, 2, none⟩ (.slice A1 M.length c1)).heap.size = wr.heap.size := by simp [World.setCell]
          have hokx := (Hok.out.below hbx).spare hsp (by decide)
          have hrtx := hrt.spare hsp (by decide)
          have hsmall : Small ⟨K, S', .slice A1 M.length c1, M, N⟩ := ⟨hss, hM6, hcl.2, HN.out⟩
          have Hokx := Lib.hid hokx; have Hrtx := Lib.hid hrtx; have Hsm := Lib.hid hsmall; have Hbs := Lib.hid hbs; have Hown2 := Lib.hid hown2; have Hzs := Lib.hid hzs
          have k0 : wr.cell? ⟨wo.heap.size + 1, 0, none⟩ = some (.int .i64 K) := hblk.cell 0
          have k1 : wr.cell? ⟨wo.heap.size + 1, 1, none⟩ = some (.string S') := hblk.cell 1
          have k3 : wr.cell? ⟨wo.heap.size + 1, 3, none⟩ = some (.int .i64 N) := hblk.cell 3
          clear hokx hrtx hsmall hbs hown2 hown hrt hro hsp hcl hbx hbw hMl hfar hltu hblk
          have hnew : ((wr.setCell ⟨wo.heap.size + 1, 2, none⟩ (.slice A1 M.length c1)).alloc (.cells #[.int .i64 K, .string S', .slice A1 M.length c1, .int .i64 N] 96)).heap[wr.heap.size]? = some (.cells #[.int .i64 K, .string S', .slice A1 M.length c1, .int .i64 N] 96 (0, 0)) := by
            have := heap_alloc_new (wr.setCell ⟨wo.heap.size + 1, 2, none⟩ (.slice A1 M.length c1)) (.cells #[.int .i64 K, .string S', .slice A1 M.length c1, .int .i64 N] 96)
            rw [hzs] at this; exact this
          have hone : ∀ v ∈ (#[.int .i64 K, .string S', .slice A1 M.length c1, .int .i64 N] : Array Value).toList, v.oneCell' = true := by
            intro v hv; simp at hv; rcases hv with rfl | rfl | rfl | rfl <;> rfl
          have hbase : w.heap.size ≤ ((wr.setCell ⟨wo.heap.size + 1, 2, none⟩ (.slice A1 M.length c1)).alloc (.cells #[.int .i64 K, .string S', .slice A1 M.length c1, .int .i64 N] 96)).heap.size := by simp [World.setCell]; omega
          have Hnew := Lib.hid hnew; have Hone := Lib.hid hone; have Hbase := Lib.hid hbase
          clear hnew hone hbase hzs
          go_wp2_with (at_builtin; refine wpList_append_el rfl _ _ 88 rfl w.heap.size 96 j0 _ 4 56 Try.underlying88 hj hy0 hy1 hy2 rfl (by decide) u5 k (opvs l) rfl (Hown2.out.alloc _) wr.heap.size rfl _ 96 (0, 0) Hnew.out rfl Hone.out (by unfold maxLen; omega) (by omega) Hbase.out ?_)
          intro g' cap' w4 hown4 hg4 hat4
          have hl4 : Spare [96] (wr.setCell ⟨wo.heap.size + 1, 2, none⟩ (.slice A1 M.length c1)) w4 := by
            refine (Spare.ofBelow (T := [96]) (alloc_below' _ (.cells #[.int .i64 K, .string S', .slice A1 M.length c1, .int .i64 N] 96))).trans (fun i cs t fr hh ht => ?_)
            rw [hg4.block i (heap_lt hh) (fun he => ?_)]
            · exact hh
            · obtain ⟨cs', hc⟩ := own_typed (Hown2.out.alloc _) he.symm
              rw [hh] at hc; injection hc with hc; injection hc with _ e; exact ht (by simp [e])
          have hb4 : Below w.heap.size w w4 := by
            have h1 : Below w.heap.size w (wr.setCell ⟨wo.heap.size + 1, 2, none⟩ (.slice A1 M.length c1)) := below_stepB Hb.out Hbs.out hz
            exact (h1.alloc h1.size _).grown hg4 Hbase.out (fun i hi => (World.ownsRow.lt Hown.out i hi).1)
          have Hok4 : Hid (OpsOk w4 (l ++ [⟨K, S', .slice A1 M.length c1, M, N⟩])) := Lib.hid ((Hokx.out.spare hl4 (by decide)).snoc Hsm.out (Hrtx.out.spare hl4 (by decide)))
          have Hown4 : Hid (w4.ownsRow w.heap.size 96 4 (.slice (some ⟨g', 0, none⟩) (k + 1) cap') (k + 1) (opvs (l ++ [⟨K, S', .slice A1 M.length c1, M, N⟩]))) := Lib.hid (by rw [opvs_snoc]; exact hown4)
          have Hb4 := Lib.hid hb4
          have Hll4 : Hid ((l ++ [(⟨K, S', .slice A1 M.length c1, M, N⟩ : OpM)]).length = k + 1) := Lib.hid (by rw [List.length_append, Hll.out]; rfl)
          clear hown4 hg4 hat4 hl4 hb4 Hnew Hone
          go_wp2
          go_roundw
          case rel => exact ⟨k + 1, _, by omega, by omega, by go_num, Hll4.out, Hown4.out, Hok4.out, Hb4.out⟩
          case measure => simp [intOf]; omega
    all_goals
      have hk : l.length ≤ m := by omega
      subst hll
      have H := Lib.hid (show CutPost w m (.returned u5) wr from ⟨u5, l, rfl, hown, hk, hok, hb⟩)
      clear hown hok hb
      go_wp2
      go_ret
      exact H.out
end Go.Proofs.Ytjmdiobnappgkaa
