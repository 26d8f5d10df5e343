/-
  Layer 11 (wire): a part written by both writers (function 45), and WireWrites walked.
-/
import Derived.Test.YtjmdiobnappgkaaWireV
namespace Go.Proofs.Ytjmdiobnappgkaa
open Go.RowKit
set_option linter.unusedVariables false
set_option linter.unusedSimpArgs false

/-- Both writers in one memory, the same. -/
structure Twin (w0 w : World) (g gv : Nat) (x : WS) : Prop where
  wk : WK w0 w g x
  vk : VK w0 w gv x
theorem Twin.below {w0 w w' : World} {g gv : Nat} {x : WS} (h : Twin w0 w g gv x) (hb : Below w.heap.size w w') : Twin w0 w' g gv x := ⟨h.wk.below hb, h.vk.below hb⟩
section
variable {w0 w : World} {g gv : Nat} {x : WS} {X : Prop}
theorem t_text (h : Twin w0 w g gv x ∧ X) : Calls Try.prog 46 #[.pointer (some ⟨g, 0, none⟩)] w fun r w' => r = .returned (.string x.text) ∧ w = w' := wk_text h.1.wk
theorem t_vtext (h : Twin w0 w g gv x ∧ X) : Calls Try.prog 47 #[.pointer (some ⟨gv, 0, none⟩)] w fun r w' => r = .returned (.string x.text) ∧ w = w' := v_text h.1.vk
theorem t_err (h : Twin w0 w g gv x ∧ X) : Calls Try.prog 48 #[.pointer (some ⟨g, 0, none⟩)] w fun r w' => r = .returned (.int .i64 (x.e : Int)) ∧ w = w' := wk_err h.1.wk
end
theorem put_len (x : WS) (so : Bool) (e : Nat) (s : ByteArray) : (x.put so e s).b.length ≤ x.b.length + s.size := by
  have e1 : s.data.toList.length = s.size := by rw [Array.length_toList]; rfl
  unfold WS.put
  split
  · split
    · simp only [List.length_append]; omega
    · exact Nat.le_add_right _ _
  · exact Nat.le_add_right _ _

set_option maxRecDepth 100000 in
set_option maxHeartbeats 1600000 in
theorem write_any {w0 w : World} {g gv : Nat} {x : WS} (h : Twin w0 w g gv x) (hx : x.b.length ≤ 1000000) (K : Int) (N : Nat) (S : ByteArray) (hN : N < 18446744073709551616) (hS : S.size ≤ maxLen) :
    Calls Try.prog 45 #[.pointer (some ⟨g, 0, none⟩), .pointer (some ⟨gv, 0, none⟩), .agg #[.int .i64 K, .int .u64 (N : Int), .string S]] w fun e w' => e = .returned (.tuple #[]) ∧ ∃ x', Twin w0 w' g gv x' ∧ x'.b.length ≤ x.b.length + 5010 := by
  have h0 := h.below (alloc_below' w (.cells #[.int .i64 K, .int .u64 (N : Int), .string S] 69))
  have hblk0 : Blk (w.alloc (.cells #[.int .i64 K, .int .u64 (N : Int), .string S] 69)) w.heap.size 69 #[.int .i64 K, .int .u64 (N : Int), .string S] := Blk.new _ _ _
  clear h
  obtain ⟨m, hm⟩ : ∃ m : Nat, min (S.size : Int) 5000 = (m : Int) := ⟨(min (S.size : Int) 5000).toNat, by omega⟩
  have hmin : ∀ wx, (Builtin.min_ #[3, 3] 3 #[.int .i64 (S.size : Int), .int .i64 5000]).run Try.prog wx = .ok (.int .i64 m) wx := fun wx => run_min_int2 wx _ _ _ _ _ _ _ hm
  have hm0 : (0 : Int) ≤ (m : Int) := by omega
  have hm1 : (m : Int) ≤ (S.size : Int) := by omega
  have hm2 : m ≤ S.size := by omega
  have hss : (S.extract 0 m).size ≤ 5000 := by rw [ByteArray.size_extract]; omega
  clear hm
  have hKc : K = 0 ∨ K = 1 ∨ K = 2 ∨ (¬ K = 0 ∧ ¬ K = 1 ∧ ¬ K = 2) := by omega
  rcases hKc with rfl | rfl | rfl | ⟨hK0, hK1, hK2⟩
  · obtain ⟨nb, hnb, hand, -⟩ := and_low N 1023 hN (by decide)
    have hand' : bits BinOp.and IntKind.u64 (N : Int) 1023 = (nb : Int) := hand
    have hnw : IntKind.i64.wrap (nb : Int) = (nb : Int) := by rw [IntKind.wrap_i64]; omega
    clear hand
    go_enter Try.func45, Try.ntmps45
    go_wp2_with fail
    refine (wk_byte h0.wk (nb : Int) (by rw [byteStr_size]; omega)).mono ?_
    rintro e w1 ⟨rfl, h1, s1⟩
    have hb1 := s1.blk hblk0 (by decide)
    have c1 : w1.cell? ⟨w.heap.size, 1, none⟩ = some (.int .u64 (N : Int)) := hb1.cell 1
    have v1 := h0.vk.spare h1.2.1 s1 (by decide)
    clear h0 hblk0 s1 hb1 hmin
    go_wp2_with fail
    refine (v_byte v1 (nb : Int) (by rw [byteStr_size]; omega)).mono ?_
    rintro e w2 ⟨rfl, h2, s2⟩
    have H := Lib.hid (show Twin w0 w2 g gv _ from ⟨h1.spare h2.2.2.1 s2 (by decide) (by decide), h2⟩)
    have hl := put_len x (decide (0 ≤ (nb : Int) ∧ (nb : Int) ≤ 255)) 1 (byteStr nb)
    rw [byteStr_size] at hl
    have Hl := Lib.hid hl
    clear h1 v1 h2 s2 hl
    go_wp2
    go_end0
    exact ⟨rfl, _, H.out, by have := Hl.out; omega⟩
  · go_enter Try.func45, Try.ntmps45
    go_wp2_with fail
    have hlen := numL_len10 N hN
    refine (wk_num h0.wk N hN (by omega)).mono ?_
    rintro e w1 ⟨rfl, h1, s1⟩
    have hb1 := s1.blk hblk0 (by decide)
    have c1 : w1.cell? ⟨w.heap.size, 1, none⟩ = some (.int .u64 (N : Int)) := hb1.cell 1
    have v1 := h0.vk.spare h1.2.1 s1 (by decide)
    clear h0 hblk0 s1 hb1 hmin
    go_wp2_with fail
    refine (v_num v1 N hN (by omega)).mono ?_
    rintro e w2 ⟨rfl, h2, s2⟩
    have H := Lib.hid (show Twin w0 w2 g gv _ from ⟨h1.spare h2.2.2.1 s2 (by decide) (by decide), h2⟩)
    have hl := put_len x true 0 ⟨(numL N).toArray⟩
    rw [str_size] at hl
    have Hl := Lib.hid hl
    clear h1 v1 h2 s2 hl
    go_wp2
    go_end0
    exact ⟨rfl, _, H.out, by have := Hl.out; omega⟩
  · obtain ⟨nb, hnb, hand, -⟩ := and_low N 15 hN (by decide)
    have hand' : bits BinOp.and IntKind.u64 (N : Int) 15 = (nb : Int) := hand
    have hnw : IntKind.i64.wrap (nb : Int) = (nb : Int) := by rw [IntKind.wrap_i64]; omega
    clear hand
    go_enter Try.func45, Try.ntmps45
    go_wp2_with fail
    generalize S.extract 0 m = s at hss ⊢
    refine (wk_raw h0.wk s (nb : Int) (by omega)).mono ?_
    rintro e w1 ⟨rfl, h1, s1⟩
    have v1 := h0.vk.spare h1.2.1 s1 (by decide)
    clear h0 hblk0 s1 hmin
    go_wp2_with fail
    refine (v_raw v1 s (nb : Int) (by omega)).mono ?_
    rintro e w2 ⟨rfl, h2, s2⟩
    have H := Lib.hid (show Twin w0 w2 g gv _ from ⟨h1.spare h2.2.2.1 s2 (by decide) (by decide), h2⟩)
    have Hl := Lib.hid (put_len x (decide ((s.size : Int) = (nb : Int))) 1 s)
    clear h1 v1 h2 s2
    go_wp2
    go_end0
    exact ⟨rfl, _, H.out, by have := Hl.out; omega⟩
  · go_enter Try.func45, Try.ntmps45
    go_wp2_with fail
    generalize S.extract 0 m = s at hss ⊢
    have hbl := blobStr_size s (by omega)
    refine (wk_blob h0.wk s (by omega) (by omega)).mono ?_
    rintro e w1 ⟨rfl, h1, s1⟩
    have v1 := h0.vk.spare h1.2.1 s1 (by decide)
    clear h0 hblk0 s1 hmin
    go_wp2_with fail
    refine (v_blob v1 s (by omega) (by omega)).mono ?_
    rintro e w2 ⟨rfl, h2, s2⟩
    have H := Lib.hid (show Twin w0 w2 g gv _ from ⟨h1.spare h2.2.2.1 s2 (by decide) (by decide), h2⟩)
    have Hl := Lib.hid (put_len x (decide (s.size ≤ 4096)) 4 (blobStr s))
    clear h1 v1 h2 s2
    go_wp2
    go_end0
    exact ⟨rfl, _, H.out, by have := Hl.out; omega⟩

set_option maxRecDepth 100000 in
set_option maxHeartbeats 2000000 in
theorem wireWrites_walk (A : Option Addr) (len cap : Nat) (ops : Nat → PartV) (w : World) (ho : IsParts w w.heap.size A len ops) :
    Calls Try.prog 13 #[.slice A len cap] w fun e w' => e = .returned (.bool true) ∧ Below w.heap.size w w' := by
  have hlen : len ≤ 9223372036854775807 := ho.1
  have hT : Twin w ((w.alloc (.cells #[.slice none 0 0, .int .i64 0] 62)).alloc (.cells #[.string ⟨#[]⟩, .int .i64 0] 65)) w.heap.size (w.heap.size + 1) ⟨[], 0⟩ := by
    have hb := alloc_below' (w.alloc (.cells #[.slice none 0 0, .int .i64 0] 62)) (.cells #[.string ⟨#[]⟩, .int .i64 0] 65)
    have h1 := (wnew w).below hb
    have e1 : (w.alloc (.cells #[.slice none 0 0, .int .i64 0] 62)).heap.size = w.heap.size + 1 := by simp
    have hv := Blk.new (w.alloc (.cells #[.slice none 0 0, .int .i64 0] 62)) 65 #[.string ⟨#[]⟩, .int .i64 0]
    rw [e1] at hv
    exact ⟨h1, hv, by omega, h1.2.1, h1.2.2⟩
  go_enter Try.func13, Try.ntmps13
  go_wp2
  generalize (w.alloc (.cells #[.slice none 0 0, .int .i64 0] 62)).alloc (.cells #[.string ⟨#[]⟩, .int .i64 0] 65) = w1 at *
  generalize w.heap.size + 1 = gv at *
  go_loopw [5] (fun i wr => ∃ (k : Nat) (x : WS), k ≤ len ∧ k ≤ 16 ∧ i = .int .i64 k ∧ x.b.length ≤ 5010 * k ∧ Twin w wr w.heap.size gv x) (fun i _ => 16 - (intOf i).toNat)
  case atStart => exact ⟨0, _, Nat.zero_le _, Nat.zero_le _, rfl, Nat.zero_le _, hT⟩
  case round =>
    clear hT
    obtain ⟨k, x, hk1, hk2, rfl, hxl, hp⟩ := hrel
    have hcase : (k < len ∧ k < 16) ∨ (¬ k < len) ∨ (k < len ∧ ¬ k < 16) := by omega
    rcases hcase with ⟨hlt, hlt2⟩ | hlt | ⟨hlt, hlt2⟩
    · obtain ⟨b, q, o⟩ := ho.2 k hlt
      generalize ops k = op at o
      obtain ⟨K, N, S⟩ := op
      obtain ⟨rfl, hbl, c0, c1, c2, hK, hN, hS⟩ := o
      simp only at c0 c1 c2 hK hN hS
      have d0 := cell_belowB hp.wk.2.1 rfl c0
      have d1 := cell_belowB hp.wk.2.1 rfl c1
      have d2 := cell_belowB hp.wk.2.1 rfl c2
      clear ho c0 c1 c2
      go_wp2_with fail
      refine (write_any hp (by omega) K N S hN hS).mono ?_
      rintro e w2 ⟨rfl, x', hp2, hx'⟩
      clear hp d0 d1 d2
      have e1 : w2.cell? ⟨gv, 1, none⟩ = some (.int .i64 (x'.e : Int)) := hp2.vk.1.cell 1
      have hxl' : x'.b.length ≤ 5010 * (k + 1) := by omega
      go_wp2_with fail
      go_region_held3 (fun wx => Twin w wx w.heap.size gv x' ∧ wx.cell? ⟨gv, 1, none⟩ = some (.int .i64 (x'.e : Int))) (first | exact ⟨hp2.below ((Below.refl _ _).drew), e1⟩ | assumption | (go_keep; done))
        (first
          | (go_at_call 46; refine (t_text (by assumption)).mono ?_; rintro e wx ⟨rfl, rfl⟩)
          | (go_at_call 47; refine (t_vtext (by assumption)).mono ?_; rintro e wx ⟨rfl, rfl⟩)
          | (go_at_call 48; refine (t_err (by assumption)).mono ?_; rintro e wx ⟨rfl, rfl⟩))
      rename_i hHeld
      have Hp := Lib.hid hHeld.1; clear hHeld hp2
      go_wp2
      refine ⟨⟨k + 1, x', by omega, by omega, by simp, hxl', Hp.out⟩, ?_⟩
      simp [intOf]; omega
    all_goals
      clear ho hlen
      go_wp2_with fail
      refine (wireFixed_any _).mono ?_
      rintro e w7 ⟨rfl, hb7⟩
      have H4 := Lib.hid (below_step hb7 rfl hp.wk.2.1)
      clear hb7 hp
      go_wp2
      go_ret
      exact ⟨rfl, H4.out⟩
theorem wireWrites_go (A : Option Addr) (len cap : Nat) (ops : Nat → PartV) {w' : World} (ho : IsParts w' w'.heap.size A len ops) :
    Calls Try.prog 13 #[.slice A len cap] w' fun e w'' => e = .returned (.bool true) ∧ Below w'.heap.size w' w'' := wireWrites_walk A len cap ops w' ho
end Go.Proofs.Ytjmdiobnappgkaa
