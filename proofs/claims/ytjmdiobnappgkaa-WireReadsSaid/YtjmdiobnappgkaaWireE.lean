/-
  Layer 11 (wire): WireErrs walked.
-/
import Derived.Test.YtjmdiobnappgkaaWireO
import Derived.Test.YtjmdiobnappgkaaDiskL
namespace Go.Proofs.Ytjmdiobnappgkaa
open Go.RowKit
set_option linter.unusedVariables false
set_option linter.unusedSimpArgs false

theorem and_nat (a b : Nat) (ha : a < 18446744073709551616) (hb : b < 18446744073709551616) : bits BinOp.and IntKind.u64 (a : Int) (b : Int) = ((a &&& b : Nat) : Int) := by
  simp only [bits, BitVec.toNat_and, BitVec.toNat_ofInt]
  have e1 : ((a : Int) % ((2 ^ IntKind.u64.bits : Nat) : Int)).toNat = a := by
    show ((a : Int) % 18446744073709551616).toNat = a
    omega
  have e2 : ((b : Int) % ((2 ^ IntKind.u64.bits : Nat) : Int)).toNat = b := by
    show ((b : Int) % 18446744073709551616).toNat = b
    omega
  rw [e1, e2]
  have : a &&& b ≤ a := Nat.and_le_left
  generalize a &&& b = q at this ⊢
  rw [IntKind.wrap_u64]; omega
theorem and_low (N m : Nat) (hN : N < 18446744073709551616) (hm : m < 18446744073709551616) : ∃ k : Nat, k ≤ m ∧ bits BinOp.and IntKind.u64 (N : Int) (m : Int) = (k : Int) ∧ k = N &&& m :=
  ⟨N &&& m, Nat.and_le_right, and_nat N m hN hm, rfl⟩
theorem numL_len : ∀ (k n : Nat), n < 128 ^ (k + 1) → (numL n).length ≤ k + 1
  | 0, n, h => by rw [numL_small (by simpa using h)]; simp
  | k + 1, n, h => by
    by_cases hs : n < 128
    · rw [numL_small hs]; simp
    · rw [numL_big hs, List.length_cons]
      have := numL_len k (n / 128) (by rw [Nat.div_lt_iff_lt_mul (by decide)]; rw [Nat.pow_succ] at h; exact h)
      omega
theorem numL_len10 (n : Nat) (h : n < 18446744073709551616) : (numL n).length ≤ 10 := numL_len 9 n (Nat.lt_of_lt_of_le h (by decide))
theorem byteStr_size (n : Int) : (byteStr n).size = 1 := rfl
theorem blobStr_size (s : ByteArray) (h : s.size < 18446744073709551616) : (blobStr s).size ≤ 10 + s.size := by
  rw [blobStr, ByteArray.size_append]
  have := numL_len10 s.size h
  have e : (⟨(numL s.size).toArray⟩ : ByteArray).size = (numL s.size).length := List.size_toArray ..
  omega
theorem put_stays {x : WS} (h : ¬ x.e = 0) (so : Bool) (e : Nat) (s : ByteArray) : x.put so e s = x := by rw [WS.put, if_neg h]
section
variable {y : RD} (h : ¬ y.e = 0)
include h
theorem err_byte : (y.byteV : Int) = 0 ∧ y.takeX 1 = y := ⟨by rw [RD.byteV, if_neg h]; rfl, by rw [RD.takeX, if_neg h]⟩
theorem err_raw (n : Int) : y.takeS n = ⟨#[]⟩ ∧ y.takeX n = y := ⟨by rw [RD.takeS, if_neg (fun c => h c.1)], by rw [RD.takeX, if_neg h]⟩
theorem err_num : (y.numV : Int) = 0 ∧ y.numX = y := ⟨by rw [RD.numV, if_neg h]; rfl, by rw [RD.numX, if_neg h]⟩
theorem err_blob (n : Int) : y.blobS n = ⟨#[]⟩ ∧ y.blobX n = y := by
  have e := (err_num h).2
  exact ⟨by rw [RD.blobS, e, if_neg (fun c => h c.1)], by rw [RD.blobX, e, if_neg h]⟩
theorem err_fail (e : Nat) : y.fail e = y := by rw [RD.fail, if_neg h]
theorem err_end : y.endV = y.e := by rw [RD.endV, if_neg h]
end
def someB : ByteArray := ⟨#[115, 111, 109, 101, 32, 98, 121, 116, 101, 115, 32, 116, 104, 97, 116, 32, 97, 114, 101, 32, 108, 101, 102, 116]⟩
theorem numL5 : numL 5 = [5] := by rw [numL_small (by decide)]; rfl
def we1 : WS := ⟨[5], 0⟩
def we2 : WS := ⟨[5], 1⟩
theorem we_1 : (⟨[], 0⟩ : WS).put true 0 ⟨(numL 5).toArray⟩ = we1 := by rw [numL5]; kernel_rfl
theorem we_2 : we1.put (decide (((⟨#[97, 98, 99]⟩ : ByteArray).size : Int) = 2)) 1 ⟨#[97, 98, 99]⟩ = we2 := by kernel_rfl
theorem we_ne : ¬ we2.e = 0 := by decide
theorem we_len : we2.b.length = 1 := rfl
/-- The writer and the reader, side by side. -/
structure Pair (w0 w : World) (g gr : Nat) (x : WS) (y : RD) : Prop where
  wk : WK w0 w g x
  rk : RDK w0 w gr y
theorem Pair.below {w0 w w' : World} {g gr : Nat} {x : WS} {y : RD} (h : Pair w0 w g gr x y) (hb : Below w.heap.size w w') : Pair w0 w' g gr x y := ⟨h.wk.below hb, h.rk.below hb⟩
theorem Pair.w {w0 w w' : World} {g gr : Nat} {x x' : WS} {y : RD} (h : Pair w0 w g gr x y) (hx : WK w0 w' g x') (hs : Spare [62, 5] w w') : Pair w0 w' g gr x' y := ⟨hx, h.rk.spare hx.2.1 hs (by decide)⟩
theorem Pair.r {w0 w w' : World} {g gr : Nat} {x : WS} {y y' : RD} (h : Pair w0 w g gr x y) (hy : RDK w0 w' gr y') (hf : Frm gr w w') : Pair w0 w' g gr x y' := ⟨h.wk.spare hy.2.2.1 (hf.spare h.rk.1) (by decide) (by decide), hy⟩

set_option maxRecDepth 100000 in
set_option maxHeartbeats 2000000 in
theorem wireErrs_walk (A : Option Addr) (len cap : Nat) (ops : Nat → PartV) (w : World) (ho : IsParts w w.heap.size A len ops) (f : Nat) (hf : f < 256) :
    Calls Try.prog 17 #[.slice A len cap, .int .u8 (f : Int)] w fun e w' => e = .returned (.bool true) ∧ Below w.heap.size w w' := by
  have hlen : len ≤ 9223372036854775807 := ho.1
  obtain ⟨why, hwhy, hw1, hwpos⟩ : ∃ why : Nat, (1 : Int) + (f : Int) % 14 = (why : Int) ∧ why ≤ 14 ∧ ¬ why = 0 := ⟨1 + f % 14, by omega, by omega, by omega⟩
  have hwr : IntKind.u8.wrap (why : Int) = (why : Int) := by rw [IntKind.wrap_u8]; omega
  go_enter Try.func17, Try.ntmps17
  go_wp2_with fail
  have hw0 := wnew w
  refine (rd_new hw0.2.1 hw0.2.2 someB).mono ?_
  rintro e w1 ⟨rfl, r1, b1⟩
  have p1 : Pair w w1 w.heap.size (w.alloc (.cells #[.slice none 0 0, .int .i64 0] 62)).heap.size ⟨[], 0⟩ ⟨someB, 0⟩ := ⟨hw0.below b1, r1⟩
  clear hw0 r1 b1
  generalize (w.alloc (.cells #[.slice none 0 0, .int .i64 0] 62)).heap.size = gr at *
  go_wp2_with fail
  refine (aw_num p1.wk 5 5 rfl (by decide) (by rw [numL5]; decide) we_1).mono ?_
  rintro e w2 ⟨rfl, h2, s2⟩
  have p2 := p1.w h2 s2
  clear p1 h2 s2
  go_wp2_with fail
  refine (aw_raw p2.wk _ 2 (by decide) we_2).mono ?_
  rintro e w3 ⟨rfl, h3, s3⟩
  have p3 := p2.w h3 s3
  clear p2 h3 s3
  go_wp2_with fail
  refine (rd_fail p3.rk why (why : Int) rfl).mono ?_
  rintro e w4 ⟨rfl, h4, s4⟩
  have h4' : RDK w w4 gr ⟨someB, why⟩ := h4
  have p4 := p3.r h4' s4
  clear p3 h4 h4' s4
  have hye : ¬ (⟨someB, why⟩ : RD).e = 0 := hwpos
  have hyl : (((⟨someB, why⟩ : RD).s.size : Nat) : Int) = 24 := rfl
  have hyend : (((⟨someB, why⟩ : RD).endV : Nat) : Int) = (why : Int) := by rw [err_end hye]
  generalize (⟨someB, why⟩ : RD) = y at p4 hye hyl hyend
  have Hye := Lib.hid hye; have Hyl := Lib.hid hyl; have Hyend := Lib.hid hyend
  clear hye hyl hyend
  go_wp2
  go_loopw [8] (fun i wr => ∃ k : Nat, k ≤ len ∧ k ≤ 12 ∧ i = .int .i64 k ∧ Pair w wr w.heap.size gr we2 y) (fun i _ => 12 - (intOf i).toNat)
  case atStart => exact ⟨0, Nat.zero_le _, Nat.zero_le _, rfl, p4⟩
  case round =>
    clear p4
    obtain ⟨k, hk1, hk2, rfl, hp⟩ := hrel
    have hcase : (k < len ∧ k < 12) ∨ (¬ k < len) ∨ (k < len ∧ ¬ k < 12) := by omega
    rcases hcase with ⟨hlt, hlt2⟩ | hlt | ⟨hlt, hlt2⟩
    · obtain ⟨b, q, o⟩ := ho.2 k hlt
      generalize ops k = op at o
      obtain ⟨K, N, S⟩ := op
      obtain ⟨rfl, hbl, c0, c1, c2, hK, hN, hS⟩ := o
      simp only at c0 c1 c2 hK hN hS
      have d2 := cell_belowB hp.wk.2.1 rfl c2
      obtain ⟨m, hm⟩ : ∃ m : Nat, min (S.size : Int) 100 = (m : Int) := ⟨(min (S.size : Int) 100).toNat, by omega⟩
      have hmin : ∀ wx, (Builtin.min_ #[3, 3] 3 #[.int .i64 (S.size : Int), .int .i64 100]).run Try.prog wx = .ok (.int .i64 m) wx := fun wx => run_min_int2 wx _ _ _ _ _ _ _ hm
      have hm0 : (0 : Int) ≤ (m : Int) := by omega
      have hm1 : (m : Int) ≤ (S.size : Int) := by omega
      have hm2 : m ≤ S.size := by omega
      have hm6 : m ≤ 100 := by omega
      obtain ⟨nb, hnb, hand, -⟩ := and_low N 511 hN (by decide)
      have hand' : bits BinOp.and IntKind.u64 (N : Int) 511 = (nb : Int) := hand
      have hnw : IntKind.i64.wrap (nb : Int) = (nb : Int) := by rw [IntKind.wrap_i64]; omega
      clear hm hand ho c0 hK hS
      go_wp2_with fail
      go_region_held3 (fun wx => Pair w wx w.heap.size gr we2 y ∧ wx.cell? ⟨b, q + k * 3 + 2, none⟩ = some (.string S)) (first | exact ⟨hp.below ((Below.refl _ _).drew), d2⟩ | (go_keep; done)) (fail)
      rename_i hHeld
      have hp2 := hHeld.1
      clear hHeld hp d2 hmin
      have hss : (S.extract 0 m).size ≤ 100 := by rw [ByteArray.size_extract]; omega
      clear hm0 hm1 hm2 hm6
      generalize S.extract 0 m = s at hss ⊢
      have e1 := cell_belowB hp2.wk.2.1 rfl c1
      go_wp2_with fail
      refine (aw_byte hp2.wk (nb : Int) (by rw [byteStr_size, we_len]; decide) (put_stays we_ne _ _ _)).mono ?_
      rintro e v1 ⟨rfl, h1, s1⟩
      have hp3 := hp2.w h1 s1
      clear hp2 h1 s1 e1
      have e1 := cell_belowB hp3.wk.2.1 rfl c1
      go_wp2_with fail
      refine (aw_num hp3.wk N (N : Int) rfl hN (by rw [we_len]; have := numL_len10 N hN; omega) (put_stays we_ne _ _ _)).mono ?_
      rintro e v2 ⟨rfl, h1, s1⟩
      have hp4 := hp3.w h1 s1
      clear hp3 h1 s1 e1
      go_wp2_with fail
      refine (aw_raw hp4.wk s (s.size : Int) (by rw [we_len]; omega) (put_stays we_ne _ _ _)).mono ?_
      rintro e v3 ⟨rfl, h1, s1⟩
      have hp5 := hp4.w h1 s1
      clear hp4 h1 s1
      go_wp2_with fail
      refine (aw_blob hp5.wk s (by omega) (by rw [we_len]; have := blobStr_size s (by omega); omega) (put_stays we_ne _ _ _)).mono ?_
      rintro e v4 ⟨rfl, h1, s1⟩
      have hp6 := hp5.w h1 s1
      clear hp5 h1 s1
      go_wp2_with fail
      refine (rd_fail hp6.rk 12 12 rfl).mono ?_
      rintro e v5 ⟨rfl, h1, s1⟩
      rw [err_fail Hye.out] at h1
      have hp7 := hp6.r h1 s1
      clear hp6 h1 s1
      go_wp2_with fail
      refine (ar_byte hp7.rk 0 (err_byte Hye.out).1 (err_byte Hye.out).2).mono ?_
      rintro e v6 ⟨rfl, h1, s1⟩
      have hp8 := hp7.r h1 s1
      clear hp7 h1 s1
      go_wp2_with fail
      refine (ar_num hp8.rk 0 (err_num Hye.out).1 (err_num Hye.out).2).mono ?_
      rintro e v7 ⟨rfl, h1, s1⟩
      have hp9 := hp8.r h1 s1
      clear hp8 h1 s1
      go_wp2_with fail
      refine (ar_raw hp9.rk (s.size : Int) _ (err_raw Hye.out _).1 (err_raw Hye.out _).2).mono ?_
      rintro e v8 ⟨rfl, h1, s1⟩
      have hp10 := hp9.r h1 s1
      clear hp9 h1 s1
      go_wp2_with fail
      refine (ar_blob hp10.rk 9 _ (err_blob Hye.out _).1 (err_blob Hye.out _).2).mono ?_
      rintro e v9 ⟨rfl, h1, s1⟩
      have hp11 := hp10.r h1 s1
      clear hp10 h1 s1
      go_wp2_with fail
      refine (ar_left hp11.rk 24 Hyl.out).mono ?_
      rintro e wx ⟨rfl, rfl⟩
      go_wp2_with fail
      refine (ar_end hp11.rk (why : Int) Hyend.out).mono ?_
      rintro e wx ⟨rfl, rfl⟩
      go_wp2_with fail
      refine (aw_err hp11.wk 1 rfl).mono ?_
      rintro e wx ⟨rfl, rfl⟩
      go_wp2_with fail
      refine (aw_text hp11.wk ⟨#[]⟩ (by kernel_rfl)).mono ?_
      rintro e wx ⟨rfl, rfl⟩
      have Hp := Lib.hid hp11; clear hp11
      go_wp2
      refine ⟨⟨k + 1, by omega, by omega, by simp, Hp.out⟩, ?_⟩
      simp [intOf]; omega
    all_goals
      clear ho hlen
      go_wp2_with fail
      refine (aw_err hp.wk 1 rfl).mono ?_
      rintro e wx ⟨rfl, rfl⟩
      go_wp2_with fail
      refine (ar_end hp.rk (why : Int) Hyend.out).mono ?_
      rintro e wx ⟨rfl, rfl⟩
      go_wp2_with fail
      refine (wireFixed_any _).mono ?_
      rintro e w7 ⟨rfl, hb7⟩
      have H4 := Lib.hid (below_step hb7 rfl hp.wk.2.1)
      clear hb7 hp
      go_wp2
      go_ret
      exact ⟨rfl, H4.out⟩
theorem wireErrs_go (A : Option Addr) (len cap : Nat) (ops : Nat → PartV) {w' : World} (ho : IsParts w' w'.heap.size A len ops) (f : Int) (hf : (Lit.int .u8 f).wf = true) :
    Calls Try.prog 17 #[.slice A len cap, .int .u8 f] w' fun e w'' => e = .returned (.bool true) ∧ Below w'.heap.size w' w'' := by
  obtain ⟨m, hm, rfl⟩ := u8_of_wf hf
  exact wireErrs_walk A len cap ops w' ho m hm
end Go.Proofs.Ytjmdiobnappgkaa
