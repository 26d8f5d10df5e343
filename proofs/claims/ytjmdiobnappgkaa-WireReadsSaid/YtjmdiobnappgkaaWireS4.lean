/-
  Layer 11 (wire): a part read by both readers (function 61), and WireReads walked.
-/
import Derived.Test.YtjmdiobnappgkaaWireS3
namespace Go.Proofs.Ytjmdiobnappgkaa
open Go.RowKit
set_option linter.unusedVariables false
set_option linter.unusedSimpArgs false

/-- Both readers in one memory, the same. -/
structure Twin2 (w0 w : World) (gr gv : Nat) (v : RV) : Prop where
  rk : RDK w0 w gr v.rd
  vk : RVK w0 w gv v
theorem Twin2.below {w0 w w' : World} {gr gv : Nat} {v : RV} (h : Twin2 w0 w gr gv v) (hb : Below w.heap.size w w') : Twin2 w0 w' gr gv v := ⟨h.rk.below hb, h.vk.below hb⟩
theorem Twin2.dwN {w0 w : World} {gr gv : Nat} {v : RV} (h : Twin2 w0 w gr gv v) (n : Nat) : Twin2 w0 (w.drewN n) gr gv v := h.below (below_drewN' (Below.refl _ _) n)
/-- The first has read. -/
structure Half2 (w0 w : World) (gr gv : Nat) (x : RD) (v : RV) : Prop where
  rk : RDK w0 w gr x
  vk : RVK w0 w gv v
theorem Twin2.half {w0 w w' : World} {gr gv : Nat} {v : RV} {x : RD} (h : Twin2 w0 w gr gv v) (k : RDK w0 w' gr x) (m : Frm gr w w') : Half2 w0 w' gr gv x v := ⟨k, h.vk.spare k.2.2.1 (m.spare h.rk.1) (by decide)⟩
theorem Half2.twin {w0 w w' : World} {gr gv : Nat} {v v' : RV} {x : RD} (h : Half2 w0 w gr gv x v) (k : RVK w0 w' gv v') (m : Frm gv w w') (e : x = v'.rd) : Twin2 w0 w' gr gv v' := ⟨by rw [← e]; exact h.rk.spare k.2.2.1 (m.spareV h.vk.1) (by decide), k⟩

set_option maxRecDepth 100000 in
set_option maxHeartbeats 1600000 in
theorem read_any {w0 w : World} {gr gv : Nat} {v : RV} (h : Twin2 w0 w gr gv v) (K : Int) (N : Nat) (S : ByteArray) (hN : N < 18446744073709551616) :
    Calls Try.prog 61 #[.pointer (some ⟨gr, 0, none⟩), .pointer (some ⟨gv, 0, none⟩), .agg #[.int .i64 K, .int .u64 (N : Int), .string S]] w fun e w' => e = .returned (.bool true) ∧ ∃ v', Twin2 w0 w' gr gv v' := by
  have h0 := h.below (alloc_below' w (.cells #[.int .i64 K, .int .u64 (N : Int), .string S] 69))
  have hblk0 : Blk (w.alloc (.cells #[.int .i64 K, .int .u64 (N : Int), .string S] 69)) w.heap.size 69 #[.int .i64 K, .int .u64 (N : Int), .string S] := Blk.new _ _ _
  clear h
  obtain ⟨nb, hnb, hand, -⟩ := and_low N 8191 hN (by decide)
  have hand' : bits BinOp.and IntKind.u64 (N : Int) 8191 = (nb : Int) := hand
  obtain ⟨ne, hne, hnd, -⟩ := and_low N 15 hN (by decide)
  have hnd' : bits BinOp.and IntKind.u64 (N : Int) 15 = (ne : Int) := hnd
  have hnw : wrap64 (nb : Int) = (nb : Int) := IntWalk.wrap64_in _ ⟨by omega, by omega⟩
  have hnw2 : wrap64 (ne : Int) = (ne : Int) := IntWalk.wrap64_in _ ⟨by omega, by omega⟩
  have hnb2 : (nb : Int) ≤ 8191 := by omega
  clear hand hnd hN hnb hne
  have hKc : K = 0 ∨ K = 1 ∨ K = 2 ∨ K = 4 ∨ (¬ K = 0 ∧ ¬ K = 1 ∧ ¬ K = 2 ∧ ¬ K = 4) := by omega
  rcases hKc with rfl | rfl | rfl | rfl | ⟨hK0, hK1, hK2, hK4⟩
  · go_enter Try.func61, Try.ntmps61
    go_wp2_with fail
    refine (rd_byte h0.rk).mono ?_
    rintro e w1 ⟨rfl, k1, m1⟩
    have h1 := h0.half k1 m1
    clear h0 k1 m1 hblk0
    go_wp2_with fail
    refine (v_byted h1.vk).mono ?_
    rintro e w2 ⟨rfl, k2, m2⟩
    have H := Lib.hid (h1.twin k2 m2 (RV.takeX_rd v 1).symm)
    clear h1 k2 m2
    go_wp2
    go_ret
    exact ⟨rfl, _, H.out⟩
  · go_enter Try.func61, Try.ntmps61
    go_wp2_with fail
    refine (rd_num h0.rk).mono ?_
    rintro e w1 ⟨rfl, k1, m1⟩
    have h1 := h0.half k1 m1
    clear h0 k1 m1 hblk0
    go_wp2_with fail
    refine (v_numd h1.vk).mono ?_
    rintro e w2 ⟨rfl, k2, m2⟩
    have H := Lib.hid (h1.twin k2 m2 (RV.numX_rd v).symm)
    clear h1 k2 m2
    go_wp2
    go_ret
    exact ⟨rfl, _, H.out⟩
  · go_enter Try.func61, Try.ntmps61
    go_wp2_with fail
    refine (rd_raw h0.rk _).mono ?_
    rintro e w1 ⟨rfl, k1, m1⟩
    have h1 := h0.half k1 m1
    clear h0 k1 m1 hblk0
    go_wp2_with fail
    refine (v_rawd h1.vk _).mono ?_
    rintro e w2 ⟨rfl, k2, m2⟩
    have H := Lib.hid (h1.twin k2 m2 (RV.takeX_rd v _).symm)
    clear h1 k2 m2
    go_wp2
    go_ret
    exact ⟨rfl, _, H.out⟩
  · go_enter Try.func61, Try.ntmps61
    go_wp2_with fail
    refine (rd_fail h0.rk ne (ne : Int) rfl).mono ?_
    rintro e w1 ⟨rfl, k1, m1⟩
    have h1 := h0.half k1 m1
    clear h0 k1 m1 hblk0
    go_wp2_with fail
    refine (v_fail h1.vk ne (ne : Int) rfl).mono ?_
    rintro e w2 ⟨rfl, k2, m2⟩
    have H := Lib.hid (h1.twin k2 m2 (RV.fail_rd v ne).symm)
    clear h1 k2 m2
    go_wp2
    go_ret
    exact ⟨rfl, _, H.out⟩
  · go_enter Try.func61, Try.ntmps61
    go_wp2_with fail
    refine (rd_blob h0.rk _).mono ?_
    rintro e w1 ⟨rfl, k1, m1⟩
    have h1 := h0.half k1 m1
    clear h0 k1 m1 hblk0
    go_wp2_with fail
    refine (v_blobd h1.vk _).mono ?_
    rintro e w2 ⟨rfl, k2, m2⟩
    have H := Lib.hid (h1.twin k2 m2 (RV.blobX_rd v _).symm)
    clear h1 k2 m2
    go_wp2
    go_ret
    exact ⟨rfl, _, H.out⟩

set_option maxRecDepth 100000 in
set_option maxHeartbeats 2000000 in
theorem wireReads_walk (s : ByteArray) (hs : s.size ≤ maxLen) (A : Option Addr) (len cap : Nat) (ops : Nat → PartV) (w : World) (ho : IsParts w w.heap.size A len ops) :
    Calls Try.prog 16 #[.string s, .slice A len cap] w fun e w' => e = .returned (.bool true) ∧ Below w.heap.size w w' := by
  have hlen : len ≤ 9223372036854775807 := ho.1
  obtain ⟨m, hm⟩ : ∃ m : Nat, min s.size 6000 = m := ⟨_, rfl⟩
  have hmin : ∀ wx, (Builtin.min_ #[3, 3] 3 #[.int .i64 (s.size : Int), .int .i64 6000]).run Try.prog wx = .ok (.int .i64 m) wx := fun wx => run_min_int2 wx _ _ _ _ _ _ _ (by omega)
  have hm0 : (0 : Int) ≤ (m : Int) := by omega
  have hm1 : (m : Int) ≤ (s.size : Int) := by omega
  have hm2 : m ≤ s.size := by omega
  have hss : (s.extract 0 m).size ≤ 1000000 := by rw [ByteArray.size_extract]; omega
  obtain ⟨t, ht⟩ : ∃ t, s.extract 0 m = t := ⟨_, rfl⟩
  rw [ht] at hss
  clear hm hs
  go_enter Try.func16, Try.ntmps16
  go_wp2_with fail
  refine (rd_new (Below.refl _ _) (Nat.le_refl _) t).mono ?_
  rintro e w1 ⟨rfl, r1, b1⟩
  have hrd : (⟨t, 0⟩ : RD) = (⟨t, 0, 0⟩ : RV).rd := by
    show RD.mk t 0 = RD.mk (t.extract 0 t.size) 0
    rw [show t.extract 0 t.size = t by apply ba_list; rw [extract_list, List.drop_zero, List.take_of_length_le (by rw [list_size]; omega)]]
  have hlt := r1.1.lt
  have hz1 := b1.size
  have hT : Twin2 w (w1.alloc (.cells #[.string t, .int .i64 0, .int .i64 0] 83)) w.heap.size w1.heap.size ⟨t, 0, 0⟩ := by
    have hb := alloc_below' w1 (.cells #[.string t, .int .i64 0, .int .i64 0] 83)
    refine ⟨by rw [← hrd]; exact r1.below hb, ?_⟩
    exact ⟨Blk.new _ _ _, hz1, b1.trans (hb.mono hz1), by simp; omega, Nat.zero_le _, hss⟩
  clear r1 b1 hrd hss hm0 hm1 hm2 hmin ht hlt
  go_wp2
  generalize w1.alloc (.cells #[.string t, .int .i64 0, .int .i64 0] 83) = w2 at *
  generalize w1.heap.size = gv at *
  generalize (⟨t, 0, 0⟩ : RV) = v0 at hT
  go_loopw [7] (fun i wr => ∃ (k : Nat) (v : RV), k ≤ len ∧ k ≤ 24 ∧ i = .int .i64 k ∧ Twin2 w wr w.heap.size gv v) (fun i _ => 24 - (intOf i).toNat)
  case atStart => exact ⟨0, _, Nat.zero_le _, Nat.zero_le _, rfl, hT⟩
  case round =>
    clear hT hz1
    obtain ⟨k, v, hk1, hk2, rfl, hp⟩ := hrel
    have hcase : (k < len ∧ k < 24) ∨ (¬ k < len) ∨ (k < len ∧ ¬ k < 24) := by omega
    rcases hcase with ⟨hlt, hlt2⟩ | hlt | ⟨hlt, hlt2⟩
    · obtain ⟨b, q, o⟩ := ho.2 k hlt
      generalize ops k = op at o
      obtain ⟨K, N, S⟩ := op
      obtain ⟨rfl, hbl, c0, c1, c2, hK, hN, hS⟩ := o
      simp only at c0 c1 c2 hK hN hS
      have d0 := cell_belowB hp.rk.2.2.1 rfl c0
      have d1 := cell_belowB hp.rk.2.2.1 rfl c1
      have d2 := cell_belowB hp.rk.2.2.1 rfl c2
      clear ho c0 c1 c2 hK hS
      have HN := Lib.hid hN; clear hN
      go_wp2_with fail
      refine (read_any hp K N S HN.out).mono ?_
      rintro e w2 ⟨rfl, v', hp2⟩
      clear hp d0 d1 d2
      go_wp2_with fail
      refine (rd_left hp2.rk).mono ?_
      rintro e wx ⟨rfl, rfl⟩
      go_wp2_with fail
      refine (v_left hp2.vk).mono ?_
      rintro e wx ⟨rfl, nq, rfl⟩
      have hp3 := hp2.dwN nq
      have Hp2 := Lib.hid hp2
      clear hp2
      go_wp2_with fail
      refine (rd_end hp3.rk).mono ?_
      rintro e wx ⟨rfl, rfl⟩
      go_wp2_with fail
      refine (v_end hp3.vk).mono ?_
      rintro e wx ⟨rfl, nr, rfl⟩
      have Hp := Lib.hid (Hp2.out.dwN (nq + nr)); clear hp3 Hp2
      go_wp2
      refine ⟨⟨k + 1, v', by omega, by omega, by simp, Hp.out⟩, ?_⟩
      simp [intOf]; omega
    all_goals
      clear ho hlen
      go_wp2_with fail
      refine (wireFixed_any _).mono ?_
      rintro e w7 ⟨rfl, hb7⟩
      have H4 := Lib.hid (below_step hb7 rfl hp.rk.2.2.1)
      clear hb7 hp
      go_wp2
      go_ret
      exact ⟨rfl, H4.out⟩
theorem wireReads_go (s : ByteArray) (hs : s.size ≤ maxLen) (A : Option Addr) (len cap : Nat) (ops : Nat → PartV) {w' : World} (ho : IsParts w' w'.heap.size A len ops) :
    Calls Try.prog 16 #[.string s, .slice A len cap] w' fun e w'' => e = .returned (.bool true) ∧ Below w'.heap.size w' w'' := wireReads_walk s hs A len cap ops w' ho
end Go.Proofs.Ytjmdiobnappgkaa
