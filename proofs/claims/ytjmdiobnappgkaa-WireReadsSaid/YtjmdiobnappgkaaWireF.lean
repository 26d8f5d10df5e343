/-
  Layer 11 (wire): the calls whose answers the document fixes.
-/
import Derived.Test.YtjmdiobnappgkaaWireR4
namespace Go.Proofs.Ytjmdiobnappgkaa
open Go.RowKit
set_option linter.unusedVariables false
set_option linter.unusedSimpArgs false
section
variable {w0 w w' : World} {g : Nat} {x x' : WS} {y y' : RD}
theorem aw_byte (h : WK w0 w g x) (n : Int) (hs : x.b.length + (byteStr n).size ≤ 16777216) (hx : x.put (decide (0 ≤ n ∧ n ≤ 255)) 1 (byteStr n) = x') : Calls Try.prog 50 #[.pointer (some ⟨g, 0, none⟩), .int .i64 n] w fun r w' => r = .returned (.tuple #[]) ∧ WK w0 w' g x' ∧ Spare [62, 5] w w' := by
  subst hx; exact wk_byte h n hs
theorem aw_num (h : WK w0 w g x) (n : Nat) (ni : Int) (hni : (n : Int) = ni) (hn : n < 18446744073709551616) (hs : x.b.length + (numL n).length ≤ 16777216) (hx : x.put true 0 ⟨(numL n).toArray⟩ = x') : Calls Try.prog 51 #[.pointer (some ⟨g, 0, none⟩), .int .u64 ni] w fun r w' => r = .returned (.tuple #[]) ∧ WK w0 w' g x' ∧ Spare [62, 5] w w' := by
  subst hx hni; exact wk_num h n hn hs
theorem aw_raw (h : WK w0 w g x) (s : ByteArray) (n : Int) (hs : x.b.length + s.size ≤ 16777216) (hx : x.put (decide ((s.size : Int) = n)) 1 s = x') : Calls Try.prog 52 #[.pointer (some ⟨g, 0, none⟩), .string s, .int .i64 n] w fun r w' => r = .returned (.tuple #[]) ∧ WK w0 w' g x' ∧ Spare [62, 5] w w' := by
  subst hx; exact wk_raw h s n hs
theorem aw_blob (h : WK w0 w g x) (s : ByteArray) (hs0 : s.size ≤ 1000000) (hs : x.b.length + (blobStr s).size ≤ 16777216) (hx : x.put (decide (s.size ≤ 4096)) 4 (blobStr s) = x') : Calls Try.prog 53 #[.pointer (some ⟨g, 0, none⟩), .string s] w fun r w' => r = .returned (.tuple #[]) ∧ WK w0 w' g x' ∧ Spare [62, 5] w w' := by
  subst hx; exact wk_blob h s hs0 hs
theorem aw_text (h : WK w0 w g x) (t : ByteArray) (ht : x.text = t) : Calls Try.prog 46 #[.pointer (some ⟨g, 0, none⟩)] w fun r w' => r = .returned (.string t) ∧ w = w' := by
  subst ht; exact wk_text h
theorem aw_err (h : WK w0 w g x) (e : Int) (he : (x.e : Int) = e) : Calls Try.prog 48 #[.pointer (some ⟨g, 0, none⟩)] w fun r w' => r = .returned (.int .i64 e) ∧ w = w' := by
  subst he; exact wk_err h
theorem ar_byte (h : RDK w0 w g y) (v : Int) (hv : (y.byteV : Int) = v) (hy : y.takeX 1 = y') : Calls Try.prog 55 #[.pointer (some ⟨g, 0, none⟩)] w fun r w' => r = .returned (.int .i64 v) ∧ RDK w0 w' g y' ∧ Frm g w w' := by
  subst hv hy; exact rd_byte h
theorem ar_num (h : RDK w0 w g y) (v : Int) (hv : (y.numV : Int) = v) (hy : y.numX = y') : Calls Try.prog 56 #[.pointer (some ⟨g, 0, none⟩)] w fun r w' => r = .returned (.int .u64 v) ∧ RDK w0 w' g y' ∧ Frm g w w' := by
  subst hv hy; exact rd_num h
theorem ar_raw (h : RDK w0 w g y) (n : Int) (t : ByteArray) (ht : y.takeS n = t) (hy : y.takeX n = y') : Calls Try.prog 57 #[.pointer (some ⟨g, 0, none⟩), .int .i64 n] w fun r w' => r = .returned (.string t) ∧ RDK w0 w' g y' ∧ Frm g w w' := by
  subst ht hy; exact rd_raw h n
theorem ar_blob (h : RDK w0 w g y) (n : Int) (t : ByteArray) (ht : y.blobS n = t) (hy : y.blobX n = y') : Calls Try.prog 58 #[.pointer (some ⟨g, 0, none⟩), .int .i64 n] w fun r w' => r = .returned (.string t) ∧ RDK w0 w' g y' ∧ Frm g w w' := by
  subst ht hy; exact rd_blob h n
theorem ar_left (h : RDK w0 w g y) (v : Int) (hv : (y.s.size : Int) = v) : Calls Try.prog 60 #[.pointer (some ⟨g, 0, none⟩)] w fun r w' => r = .returned (.int .i64 v) ∧ w = w' := by
  subst hv; exact rd_left h
theorem ar_end (h : RDK w0 w g y) (v : Int) (hv : (y.endV : Int) = v) : Calls Try.prog 59 #[.pointer (some ⟨g, 0, none⟩)] w fun r w' => r = .returned (.int .i64 v) ∧ w = w' := by
  subst hv; exact rd_end h
end
theorem numL300 : numL 300 = [172, 2] := by rw [numL_big (by decide), numL_small (by decide)]; rfl
theorem numL2 : numL 2 = [2] := by rw [numL_small (by decide)]; rfl
theorem numL1 : numL 1 = [1] := by rw [numL_small (by decide)]; rfl
theorem wnew (w : World) : WK w (w.alloc (.cells #[.slice none 0 0, .int .i64 0] 62)) w.heap.size ⟨[], 0⟩ :=
  ⟨⟨_, ⟨Blk.new _ _ _, Nat.le_refl _, World.ownsRow_nil _ _ _ _⟩⟩, alloc_below' w _, by simp⟩
def fx1 : WS := ⟨[7], 0⟩
def fx2 : WS := ⟨[7, 172, 2], 0⟩
def fx3 : WS := ⟨[7, 172, 2, 120, 121], 0⟩
def fx4 : WS := ⟨[7, 172, 2, 120, 121, 2, 97, 98], 0⟩
def fx5 : WS := ⟨[7, 172, 2, 120, 121, 2, 97, 98], 1⟩
theorem f1 : (⟨[], 0⟩ : WS).put (decide ((0 : Int) ≤ 7 ∧ (7 : Int) ≤ 255)) 1 (byteStr 7) = fx1 := by kernel_rfl
theorem f2 : fx1.put true 0 ⟨(numL 300).toArray⟩ = fx2 := by rw [numL300]; kernel_rfl
theorem f3 : fx2.put (decide (((⟨#[120, 121]⟩ : ByteArray).size : Int) = 2)) 1 ⟨#[120, 121]⟩ = fx3 := by kernel_rfl
theorem f4 : fx3.put (decide ((⟨#[97, 98]⟩ : ByteArray).size ≤ 4096)) 4 (blobStr ⟨#[97, 98]⟩) = fx4 := by
  have : blobStr ⟨#[97, 98]⟩ = ⟨#[2, 97, 98]⟩ := by
    unfold blobStr
    have e : (⟨#[97, 98]⟩ : ByteArray).size = 2 := rfl
    rw [e, numL2]; rfl
  exact (congrArg (fun q => fx3.put (decide ((⟨#[97, 98]⟩ : ByteArray).size ≤ 4096)) 4 q) this).trans (by kernel_rfl)
theorem f4s : (blobStr ⟨#[97, 98]⟩).size = 3 := by
  unfold blobStr
  have e : (⟨#[97, 98]⟩ : ByteArray).size = 2 := rfl
  rw [e, numL2]; rfl
theorem f5 : fx4.put (decide ((0 : Int) ≤ 256 ∧ (256 : Int) ≤ 255)) 1 (byteStr 256) = fx5 := by kernel_rfl
theorem f6 : fx5.put true 0 ⟨(numL 1).toArray⟩ = fx5 := by rw [numL1]; kernel_rfl
def fy1 : RD := ⟨⟨#[172, 2, 120, 121, 2, 97, 98]⟩, 0⟩
def fy2 : RD := ⟨⟨#[120, 121, 2, 97, 98]⟩, 0⟩
def fy3 : RD := ⟨⟨#[2, 97, 98]⟩, 0⟩
def fy4 : RD := ⟨⟨#[]⟩, 0⟩
theorem y1 : (((⟨(⟨#[7, 172, 2, 120, 121, 2, 97, 98]⟩ : ByteArray), 0⟩ : RD).byteV : Nat) : Int) = 7 ∧ (⟨(⟨#[7, 172, 2, 120, 121, 2, 97, 98]⟩ : ByteArray), 0⟩ : RD).takeX 1 = fy1 := ⟨by kernel_rfl, by kernel_rfl⟩
theorem y2 : ((fy1.numV : Nat) : Int) = 300 ∧ fy1.numX = fy2 := ⟨by kernel_rfl, by kernel_rfl⟩
theorem y3 : fy2.takeS 2 = ⟨#[120, 121]⟩ ∧ fy2.takeX 2 = fy3 := ⟨by kernel_rfl, by kernel_rfl⟩
theorem y4 : ((fy3.s.size : Nat) : Int) = 3 := by kernel_rfl
theorem y5 : fy3.blobS 9 = ⟨#[97, 98]⟩ ∧ fy3.blobX 9 = fy4 := ⟨by kernel_rfl, by kernel_rfl⟩
theorem y6 : ((fy4.endV : Nat) : Int) = 0 := by kernel_rfl
theorem y7 : (((⟨⟨#[128, 0]⟩, 0⟩ : RD).numV : Nat) : Int) = 0 ∧ (⟨⟨#[128, 0]⟩, 0⟩ : RD).numX = ⟨⟨#[128, 0]⟩, 3⟩ := ⟨by kernel_rfl, by kernel_rfl⟩
theorem y8 : (((⟨⟨#[128]⟩, 0⟩ : RD).numV : Nat) : Int) = 0 ∧ (⟨⟨#[128]⟩, 0⟩ : RD).numX = ⟨⟨#[128]⟩, 2⟩ := ⟨by kernel_rfl, by kernel_rfl⟩
theorem y9 : (⟨⟨#[2, 97, 98]⟩, 0⟩ : RD).blobS 1 = ⟨#[]⟩ ∧ (⟨⟨#[2, 97, 98]⟩, 0⟩ : RD).blobX 1 = ⟨⟨#[2, 97, 98]⟩, 4⟩ := ⟨by kernel_rfl, by kernel_rfl⟩

set_option maxRecDepth 100000 in
set_option maxHeartbeats 1600000 in
theorem wireFixed_any (w : World) : Calls Try.prog 49 #[] w fun e w' => e = .returned (.bool true) ∧ Below w.heap.size w w' := by
  go_enter Try.func49, Try.ntmps49
  go_wp2_with fail
  refine (aw_byte (wnew w) 7 (by decide) f1).mono ?_
  rintro e w1 ⟨rfl, h1, -⟩
  go_wp2_with fail
  refine (aw_num h1 300 300 rfl (by decide) (by rw [numL300]; decide) f2).mono ?_
  rintro e w2 ⟨rfl, h2, -⟩
  clear h1
  go_wp2_with fail
  refine (aw_raw h2 _ 2 (by decide) f3).mono ?_
  rintro e w3 ⟨rfl, h3, -⟩
  clear h2
  go_wp2_with fail
  refine (aw_blob h3 _ (by decide) (by rw [f4s]; decide) f4).mono ?_
  rintro e w4 ⟨rfl, h4, -⟩
  clear h3
  go_wp2_with fail
  refine (aw_text h4 (⟨#[7, 172, 2, 120, 121, 2, 97, 98]⟩ : ByteArray) (by kernel_rfl)).mono ?_
  rintro e wx ⟨rfl, rfl⟩
  go_wp2_with fail
  refine (aw_err h4 0 (by kernel_rfl)).mono ?_
  rintro e wx ⟨rfl, rfl⟩
  go_wp2_with fail
  refine (aw_byte h4 256 (by decide) f5).mono ?_
  rintro e w5 ⟨rfl, h5, -⟩
  clear h4
  go_wp2_with fail
  refine (aw_num h5 1 1 rfl (by decide) (by rw [numL1]; decide) f6).mono ?_
  rintro e w6 ⟨rfl, h6, -⟩
  clear h5
  go_wp2_with fail
  refine (rd_new h6.2.1 h6.2.2 (⟨#[7, 172, 2, 120, 121, 2, 97, 98]⟩ : ByteArray)).mono ?_
  rintro e w7 ⟨rfl, r7, b7⟩
  have h7 := h6.below b7
  clear h6 b7
  generalize w6.heap.size = gr at *
  go_wp2_with fail
  refine (ar_byte r7 7 y1.1 y1.2).mono ?_
  rintro e w8 ⟨rfl, r8, m8⟩
  have h8 := h7.spare r8.2.2.1 (m8.spare r7.1) (by decide) (by decide)
  clear h7 r7 m8
  go_wp2_with fail
  refine (ar_num r8 300 y2.1 y2.2).mono ?_
  rintro e w9 ⟨rfl, r9, m9⟩
  have h9 := h8.spare r9.2.2.1 (m9.spare r8.1) (by decide) (by decide)
  clear h8 r8 m9
  go_wp2_with fail
  refine (ar_raw r9 2 _ y3.1 y3.2).mono ?_
  rintro e w10 ⟨rfl, r10, m10⟩
  have h10 := h9.spare r10.2.2.1 (m10.spare r9.1) (by decide) (by decide)
  clear h9 r9 m10
  go_wp2_with fail
  refine (ar_left r10 3 y4).mono ?_
  rintro e wx ⟨rfl, rfl⟩
  go_wp2_with fail
  refine (ar_blob r10 9 _ y5.1 y5.2).mono ?_
  rintro e w11 ⟨rfl, r11, m11⟩
  have h11 := h10.spare r11.2.2.1 (m11.spare r10.1) (by decide) (by decide)
  clear h10 r10 m11
  go_wp2_with fail
  refine (ar_end r11 0 y6).mono ?_
  rintro e wx ⟨rfl, rfl⟩
  clear r11
  go_wp2_with fail
  refine (rd_new h11.2.1 h11.2.2 _).mono ?_
  rintro e w12 ⟨rfl, p12, b12⟩
  have h12 := h11.below b12
  have p12s := p12.1.lt
  have z12 := b12.size
  clear h11 b12
  go_wp2_with fail
  refine (rd_new h12.2.1 h12.2.2 _).mono ?_
  rintro e w13 ⟨rfl, q13, b13⟩
  have h13 := h12.below b13
  have p13 := p12.below b13
  have z13 := q13.1.lt
  clear h12 b13 p12
  go_wp2_with fail
  refine (rd_new h13.2.1 h13.2.2 _).mono ?_
  rintro e w14 ⟨rfl, s14, b14⟩
  have h14 := h13.below b14
  have p14 := p13.below b14
  have q14 := q13.below b14
  clear h13 b14 p13 q13
  have n1 : w11.heap.size ≠ w12.heap.size := by omega
  have n2 : w11.heap.size ≠ w13.heap.size := by omega
  have n3 : w12.heap.size ≠ w13.heap.size := by omega
  generalize w11.heap.size = gf at *
  generalize w12.heap.size = gg at *
  generalize w13.heap.size = gh at *
  clear p12s z12 z13
  go_wp2_with fail
  refine (ar_num p14 0 y7.1 y7.2).mono ?_
  rintro e w15 ⟨rfl, p15, m15⟩
  have h15 := h14.spare p15.2.2.1 (m15.spare p14.1) (by decide) (by decide)
  have q15 := q14.frm p15.2.2.1 m15 n1.symm
  have s15 := s14.frm p15.2.2.1 m15 n2.symm
  clear h14 p14 q14 s14 m15
  go_wp2_with fail
  refine (ar_num q15 0 y8.1 y8.2).mono ?_
  rintro e w16 ⟨rfl, q16, m16⟩
  have h16 := h15.spare q16.2.2.1 (m16.spare q15.1) (by decide) (by decide)
  have p16 := p15.frm q16.2.2.1 m16 n1
  have s16 := s15.frm q16.2.2.1 m16 n3.symm
  clear h15 p15 q15 s15 m16
  go_wp2_with fail
  refine (ar_blob s16 1 _ y9.1 y9.2).mono ?_
  rintro e w17 ⟨rfl, s17, m17⟩
  have h17 := h16.spare s17.2.2.1 (m17.spare s16.1) (by decide) (by decide)
  have p17 := p16.frm s17.2.2.1 m17 n2
  have q17 := q16.frm s17.2.2.1 m17 n3
  clear h16 p16 q16 s16 m17
  go_wp2_with fail
  refine (aw_text h17 ⟨#[]⟩ (by kernel_rfl)).mono ?_
  rintro e wx ⟨rfl, rfl⟩
  go_wp2_with fail
  refine (aw_err h17 1 (by kernel_rfl)).mono ?_
  rintro e wx ⟨rfl, rfl⟩
  go_wp2_with fail
  refine (ar_end p17 3 (by kernel_rfl)).mono ?_
  rintro e wx ⟨rfl, rfl⟩
  go_wp2_with fail
  refine (ar_end q17 2 (by kernel_rfl)).mono ?_
  rintro e wx ⟨rfl, rfl⟩
  go_wp2_with fail
  refine (ar_end s17 4 (by kernel_rfl)).mono ?_
  rintro e wx ⟨rfl, rfl⟩
  go_wp2_with fail
  refine (ar_left s17 3 (by kernel_rfl)).mono ?_
  rintro e wx ⟨rfl, rfl⟩
  have H := Lib.hid s17.2.2.1
  clear h17 p17 q17 s17
  go_wp2
  go_ret
  exact ⟨rfl, H.out⟩
end Go.Proofs.Ytjmdiobnappgkaa
