/-
  Layer 15 (journal): the calls whose answers the document fixes: walked.
-/
import Derived.Test.YtjmdiobnappgkaaJX
namespace Go.Proofs.Ytjmdiobnappgkaa
open Go.RowKit
set_option linter.unusedVariables false
set_option linter.unusedSimpArgs false

/-- Two rows lie apart. -/
def Ap (u v : Value) : Prop := ∀ i, u.ownBlock = some i → i ∉ v.ownBlock.toList
theorem Ap.fresh {w : World} {u v v' : Value} (h : Ap u v) (hf : Fresh w v v') (hu : ∀ i, u.ownBlock = some i → i < w.heap.size) : Ap u v' := fun i hi hm => by
  rcases hf.mem i hm with h1 | h1
  · exact h i hi h1
  · have := hu i hi; omega
theorem Ap.of {u v : Value} {B : Nat} (hu : ∀ i, u.ownBlock = some i → B ≤ i) (hv : ∀ i, v.ownBlock = some i → i < B) : Ap u v := fun i hi hm => by
  simp only [Option.mem_toList] at hm
  have h1 := hu i hi; have h2 := hv i hm; omega
theorem Ap.symm {u v : Value} (h : Ap u v) : Ap v u := fun i hi hm => by
  simp only [Option.mem_toList] at hm
  exact h i hm (by simp only [Option.mem_toList]; exact hi)
theorem lit_read (w : World) (L : List ByteArray) (hm : L.length ≤ maxLen) : SReadT (w.alloc (.cells (svals L).toArray 9)) (.slice (some ⟨w.heap.size, 0, none⟩) L.length L.length) L :=
  ⟨_, _, rfl, hm, fun i hi => ⟨w.heap.size, 0, _, _, rfl, heap_alloc_new w _, by simp [svals, hi]⟩⟩
section
variable {w0 w w' : World} {gj gd : Nat} {v : Value} {j : JS} {n : Nat}
theorem aj_add (h : JK w0 w gj gd v j n) (hn : n < 1000000) (hl : j.l.length < 20000000) (s : ByteArray) (hs : s.size ≤ 140737488351232) (R : Int) (J : JS) (hq : looseR j s = R ∧ addJ j s = J) :
    Calls Try.prog 68 #[.pointer (some ⟨gj, 0, none⟩), .string s] w fun e w' => e = .returned (.int .i64 R) ∧ JPost w0 w w' gj gd v J (n + 1) := by
  obtain ⟨rfl, rfl⟩ := hq; exact j_add h hn hl s hs
theorem aj_loose (h : JK w0 w gj gd v j n) (hn : n < 1000000) (hl : j.l.length < 20000000) (s : ByteArray) (hs : s.size ≤ 140737488351232) (R : Int) (J : JS) (hq : looseR j s = R ∧ looseJ j s = J) :
    Calls Try.prog 70 #[.pointer (some ⟨gj, 0, none⟩), .string s] w fun e w' => e = .returned (.int .i64 R) ∧ JPost w0 w w' gj gd v J (n + 1) := by
  obtain ⟨rfl, rfl⟩ := hq; exact j_loose h hn hl s hs
theorem aj_renew (h : JK w0 w gj gd v j n) (hn : n < 1000000) (hjl : j.l.length ≤ 20000000) (u : Value) (L : List ByteArray) (hu : SReadT w u L) (hl : L.length ≤ 1000) (hz : ∀ s ∈ L, s.size ≤ 100000) (N : Int) (R : Int) (J : JS) (hq : renewR j L N = R ∧ renewJ j L N = J) :
    Calls Try.prog 72 #[.pointer (some ⟨gj, 0, none⟩), u, .int .i64 N] w fun e w' => e = .returned (.int .i64 R) ∧ JPost w0 w w' gj gd v J (n + 1) := by
  obtain ⟨rfl, rfl⟩ := hq; exact j_renew h hn hjl u L hu hl hz N
theorem aj_open {d : DS} (h : DK w0 w gd d n) (J : JS) (hq : openJ d = J) : Calls Try.prog 66 #[.pointer (some ⟨gd, 0, none⟩)] w fun e w' =>
    ∃ gj v, e = .returned (.pointer (some ⟨gj, 0, none⟩)) ∧ JK w0 w' gj gd v J 0 ∧ w.heap.size ≤ gj ∧ (∀ k, v.ownBlock = some k → w.heap.size ≤ k) ∧ Spare [117, 120] w w' ∧ w.heap.size ≤ w'.heap.size ∧ J.l.length ≤ d.f0.size := by
  subst hq; exact j_open h
theorem aj_sure (h : JK w0 w gj gd v j n) (R : Int) (hq : (j.sure : Int) = R) : Calls Try.prog 77 #[.pointer (some ⟨gj, 0, none⟩)] w fun e w' => e = .returned (.int .i64 R) ∧ w = w' := by
  subst hq; exact j_sure h
theorem j_cutB (h : Blk w gj 129 (jcells gd v j)) (b : Bool) (hb : j.cut = b) : Calls Try.prog 78 #[.pointer (some ⟨gj, 0, none⟩)] w fun e w' => e = .returned (.bool b) ∧ w = w' := by
  subst hb
  have c3 : w.cell? ⟨gj, 3, none⟩ = some (.bool j.cut) := h.cell 3
  clear h
  go_enter Try.func78, Try.ntmps78
  go_wp2
  go_ret
  exact ⟨rfl, rfl⟩
theorem same_at {u : Value} {L M : List ByteArray} (h : SRead w v L) (k : SRead w u M) (b : Bool) (hb : decide (L = M) = b) : Calls Try.prog 75 #[v, u] w fun e w' => e = .returned (.bool b) ∧ Below w.heap.size w w' := by
  subst hb; exact (same_any h k).mono fun _ _ ⟨a, n, e⟩ => ⟨a, by rw [e]; exact below_drewN' (Below.refl _ _) n⟩
theorem frame_at (s f : ByteArray) (hs : s.size ≤ 140737488351232) (hf : frameS s = f) (w : World) : Calls Try.prog 81 #[.string s] w fun e w' => e = .returned (.string f) ∧ Below w.heap.size w w' := by
  subst hf; exact frame_any s hs w
theorem dz_crash_at {d d' : DS} (h : DK w0 w gd d n) (keep : Int) (h1 : -9223372036854775808 ≤ keep) (h2 : keep ≤ 9223372036854775807) (hd : crashD d keep = d') : Calls Try.prog 35 #[.pointer (some ⟨gd, 0, none⟩), .int .i64 keep] w fun e w' => e = .returned (.tuple #[]) ∧ DK w0 w' gd d' 0 ∧ Spare [117, 120] w w' ∧ w.heap.size ≤ w'.heap.size := by
  subst hd; exact dz_crash h keep h1 h2
end
set_option maxRecDepth 100000 in
set_option maxHeartbeats 4000000 in
theorem journalFixed_any (w : World) : Calls Try.prog 79 #[] w fun e w' => e = .returned (.bool true) ∧ Below w.heap.size w w' := by
  go_enter Try.func79, Try.ntmps79
  go_wp2_with fail
  refine (dk_new 1000 (by decide) w).mono ?_
  rintro e w1 ⟨rfl, h1⟩
  go_wp2_with fail
  refine (aj_open h1 j0 o1).mono ?_
  rintro e w2 ⟨gj, v2, rfl, h2, -, -, -, -, -⟩
  clear h1
  go_wp2_with fail
  refine (aj_add h2 (by decide) (by decide) sA (by decide) 0 j1 a1).mono ?_
  rintro e w3 ⟨rfl, v3, h3, -, -, -⟩
  clear h2
  go_wp2_with fail
  refine (aj_loose h3 (by decide) (by decide) sB (by decide) 0 j2 a2).mono ?_
  rintro e w4 ⟨rfl, v4, h4, -, -, -⟩
  clear h3
  go_wp2_with fail
  refine (aj_loose h4 (by decide) (by decide) sE (by decide) 1 j2 a3).mono ?_
  rintro e w5 ⟨rfl, v5, h5, -, -, -⟩
  clear h4
  go_wp2_with fail
  refine (aj_renew (h5.below (alloc_below' w5 (.cells (svals [sZ]).toArray 9))) (by decide) (by decide) _ [sZ] (lit_read w5 [sZ] (by decide)) (by decide) (by decide) 4 7 j2 (a4 _ _)).mono ?_
  rintro e w6 ⟨rfl, v6, h6, -, -, -⟩
  clear h5
  go_wp2_with fail
  refine (aj_sure h6 1 rfl).mono ?_
  rintro e wx ⟨rfl, rfl⟩
  go_wp2_with fail
  refine (dz_crash_at h6.dk 3 (by decide) (by decide) a5).mono ?_
  rintro e w7 ⟨rfl, d7, -, -⟩
  clear h6
  go_wp2_with fail
  refine (aj_open d7 k0 o2).mono ?_
  rintro e w8 ⟨gk, v8, rfl, h8, -, -, -, -, -⟩
  clear d7
  go_wp2_with fail
  refine (j_records h8 (by decide)).mono ?_
  rintro e w9 ⟨⟨uw, rfl, ow⟩, b9⟩
  have h9 := h8.below b9
  have apw : Ap uw v8 := Ap.of (B := w8.heap.size) (fun i hi => (ow.lt hi).1) (fun i hi => (h8.own.lt hi).2)
  clear h8 b9
  go_wp2_with fail
  have hal := alloc_below' w9 (.cells (svals [sX, sY]).toArray 9)
  have ow' := ow.below hal
  refine (aj_renew (h9.below hal) (by decide) (by decide) _ [sX, sY] (lit_read w9 [sX, sY] (by decide)) (by decide) (by decide) 4 0 k1 a6).mono ?_
  rintro e w10 ⟨rfl, v10, h10, f10, -, r10⟩
  have ow10 := ow'.rows r10 apw
  have apw10 := apw.fresh f10 (fun i hi => (ow'.lt hi).2)
  clear h9 hal ow ow' r10 f10 apw
  go_wp2_with fail
  refine (j_records h10 (by decide)).mono ?_
  rintro e w11 ⟨⟨un, rfl, on⟩, b11⟩
  have h11 := h10.below b11
  have apn : Ap un v10 := Ap.of (B := w10.heap.size) (fun i hi => (on.lt hi).1) (fun i hi => (h10.own.lt hi).2)
  have ow11 := ow10.below b11
  clear h10 b11 ow10
  go_wp2_with fail
  have hal := alloc_below' w11 (.cells (svals [sQ]).toArray 9)
  have ow' := ow11.below hal
  have on' := on.below hal
  refine (aj_renew (h11.below hal) (by decide) (by decide) _ [sQ] (lit_read w11 [sQ] (by decide)) (by decide) (by decide) 3 7 k2 a7).mono ?_
  rintro e w12 ⟨rfl, v12, h12, f12, -, r12⟩
  have ow12 := ow'.rows r12 apw10
  have on12 := on'.rows r12 apn
  have apw12 := apw10.fresh f12 (fun i hi => (ow'.lt hi).2)
  have apn12 := apn.fresh f12 (fun i hi => (on'.lt hi).2)
  clear h11 hal ow' on' r12 f12 apw10 apn ow11 on
  go_wp2_with fail
  refine (aj_add h12 (by decide) (by decide) sC (by decide) 7 k2 a8).mono ?_
  rintro e w13 ⟨rfl, v13, h13, f13, -, r13⟩
  have ow13 := ow12.rows r13 apw12
  have on13 := on12.rows r13 apn12
  clear h12 r13 f13 apw12 apn12 ow12 on12
  go_wp2_with fail
  refine (dz_crash_at h13.dk 0 (by decide) (by decide) a9).mono ?_
  rintro e w14 ⟨rfl, d14, s14, -⟩
  have ow14 := ow13.rows (RowsL.ofSpare s14 (by decide) []) (by simp)
  have on14 := on13.rows (RowsL.ofSpare s14 (by decide) []) (by simp)
  have bk14 := s14.blk h13.blk (by decide)
  clear h13 s14 ow13 on13
  go_wp2_with fail
  refine (aj_open d14 m0 o3).mono ?_
  rintro e w15 ⟨gm, v15, rfl, h15, -, -, s15, -, -⟩
  have ow15 := ow14.rows (RowsL.ofSpare s15 (by decide) []) (by simp)
  have on15 := on14.rows (RowsL.ofSpare s15 (by decide) []) (by simp)
  have bk15 := s15.blk bk14 (by decide)
  clear d14 s15 ow14 on14 bk14
  go_wp2_with fail
  have hal := alloc_below' w15 (.cells (svals [sA]).toArray 9)
  refine (same_at ((ow15.below hal).read (by decide)) (lit_read w15 [sA] (by decide)).read true (by decide)).mono ?_
  rintro e y1 ⟨rfl, bq⟩
  have hb1 := bthen hal bq
  have h16 := h15.below hb1
  have on16 := on15.below hb1
  have bk16 := (Spare.ofBelow (T := []) hb1).blk bk15 (by simp)
  clear hal hb1 bq h15 on15 bk15 ow15
  go_wp2_with fail
  have hal := alloc_below' y1 (.cells (svals [sX, sY]).toArray 9)
  refine (same_at ((on16.below hal).read (by decide)) (lit_read _ [sX, sY] (by decide)).read true (by decide)).mono ?_
  rintro e y2 ⟨rfl, bq⟩
  have hb1 := bthen hal bq
  have h17 := h16.below hb1
  have bk17 := (Spare.ofBelow (T := []) hb1).blk bk16 (by simp)
  clear hal hb1 bq h16 on16 bk16
  go_wp2_with fail
  refine (j_cutB bk17 true rfl).mono ?_
  rintro e wx ⟨rfl, rfl⟩
  clear bk17
  go_wp2_with fail
  refine (j_records h17 (by decide)).mono ?_
  rintro e w18 ⟨⟨um, rfl, om⟩, b18⟩
  have h18 := h17.below b18
  clear h17 b18
  go_wp2_with fail
  have hal := alloc_below' w18 (.cells (svals [sQ]).toArray 9)
  refine (same_at ((om.below hal).read (by decide)) (lit_read w18 [sQ] (by decide)).read true (by decide)).mono ?_
  rintro e y3 ⟨rfl, bq⟩
  have h19 := h18.below (bthen hal bq)
  clear hal h18 om bq
  go_wp2_with fail
  refine (aj_sure h19 1 rfl).mono ?_
  rintro e wx ⟨rfl, rfl⟩
  go_wp2_with fail
  refine (j_cutB h19.blk false rfl).mono ?_
  rintro e wx ⟨rfl, rfl⟩
  go_wp2_with fail
  refine (frame_at sA (⟨#[1, 97, 232, 183, 190, 67]⟩ : ByteArray) (by decide) frA _).mono ?_
  rintro e w20 ⟨rfl, b20⟩
  have h20 := h19.below b20
  clear h19 b20
  go_wp2_with fail
  refine (frame_at sE (⟨#[]⟩ : ByteArray) (by decide) frE _).mono ?_
  rintro e w21 ⟨rfl, b21⟩
  have h21 := h20.below b21
  clear h20 b21
  go_wp2_with fail
  refine (at_read h21.dk 1 (⟨#[]⟩ : ByteArray) rd1).mono ?_
  rintro e wx ⟨rfl, rfl⟩
  have H := Lib.hid h21.b0; clear h21
  go_wp2
  go_ret
  exact ⟨rfl, H.out⟩
end Go.Proofs.Ytjmdiobnappgkaa
