/-
  Layer 14 (disk): the calls whose answers the document fixes.
-/
import Derived.Test.YtjmdiobnappgkaaDiskK
namespace Go.Proofs.Ytjmdiobnappgkaa
open Go.RowKit
set_option linter.unusedVariables false
set_option linter.unusedSimpArgs false

section
variable {w0 w : World} {g : Nat} {d : DS} {n : Nat}
theorem at_put (h : DK w0 w g d n) (hn : n < 1000000) (f : Int) (s : ByteArray) (r : Int) (d' : DS) (hr : putR d f s = r) (hd : putD d f s = d') : Calls Try.prog 31 #[.pointer (some ⟨g, 0, none⟩), .int .i64 f, .string s] w fun e w' => e = .returned (.int .i64 r) ∧ DK w0 w' g d' (n + 1) := by
  rw [← hr, ← hd]; exact dk_put h hn f s
theorem at_trim (h : DK w0 w g d n) (f m : Int) (r : Int) (d' : DS) (hr : trimR d f m = r) (hd : trimD d f m = d') : Calls Try.prog 39 #[.pointer (some ⟨g, 0, none⟩), .int .i64 f, .int .i64 m] w fun e w' => e = .returned (.int .i64 r) ∧ DK w0 w' g d' n := by
  rw [← hr, ← hd]; exact dk_trim h f m
theorem at_turn (h : DK w0 w g d n) (r : Int) (d' : DS) (hr : turnR d = r) (hd : turnD d = d') : Calls Try.prog 38 #[.pointer (some ⟨g, 0, none⟩)] w fun e w' => e = .returned (.int .i64 r) ∧ DK w0 w' g d' n := by
  rw [← hr, ← hd]; exact dk_turn h
theorem at_crash (h : DK w0 w g d n) (keep : Int) (h1 : -9223372036854775808 ≤ keep) (h2 : keep ≤ 9223372036854775807) (d' : DS) (hd : crashD d keep = d') : Calls Try.prog 35 #[.pointer (some ⟨g, 0, none⟩), .int .i64 keep] w fun e w' => e = .returned (.tuple #[]) ∧ DK w0 w' g d' 0 := by
  rw [← hd]; exact dk_crash h keep h1 h2
theorem at_loose (h : DK w0 w g d n) (r : Int) (hr : (looseAll d.loose : Int) = r) : Calls Try.prog 34 #[.pointer (some ⟨g, 0, none⟩)] w fun e w' => e = .returned (.int .i64 r) ∧ DK w0 w' g d n := by
  rw [← hr]; exact dk_loose h
theorem at_free (h : DK w0 w g d n) (r : Int) (hr : (d.free : Int) = r) : Calls Try.prog 37 #[.pointer (some ⟨g, 0, none⟩)] w fun e w' => e = .returned (.int .i64 r) ∧ DK w0 w' g d n := by
  rw [← hr]; exact dk_free h
theorem at_read (h : DK w0 w g d n) (f : Int) (r : ByteArray) (hr : readR d f = r) : Calls Try.prog 33 #[.pointer (some ⟨g, 0, none⟩), .int .i64 f] w fun e w' => e = .returned (.string r) ∧ w = w' := by
  rw [← hr]; exact dk_read h f
end

def D0 : DS := DS.empty 10
def D1 : DS := ⟨⟨#[97, 98]⟩, ⟨#[]⟩, [(0, 2)], 10⟩
def D2 : DS := ⟨⟨#[97, 98]⟩, ⟨#[99, 100]⟩, [(0, 2), (1, 2)], 10⟩
def D3 : DS := ⟨⟨#[97, 98]⟩, ⟨#[99]⟩, [], 10⟩
def D4 : DS := ⟨⟨#[99]⟩, ⟨#[97, 98]⟩, [], 10⟩
def D5 : DS := ⟨⟨#[99]⟩, ⟨#[97]⟩, [], 10⟩
theorem s1 : putR D0 0 ⟨#[97, 98]⟩ = 0 ∧ putD D0 0 ⟨#[97, 98]⟩ = D1 := ⟨by kernel_rfl, by kernel_rfl⟩
theorem s2 : putR D1 1 ⟨#[99, 100]⟩ = 0 ∧ putD D1 1 ⟨#[99, 100]⟩ = D2 := ⟨by kernel_rfl, by kernel_rfl⟩
theorem s3 : putR D2 2 ⟨#[120]⟩ = 1 ∧ putD D2 2 ⟨#[120]⟩ = D2 := ⟨by kernel_rfl, by kernel_rfl⟩
theorem s4 : putR D2 0 ⟨#[49, 50, 51, 52, 53, 54, 55]⟩ = 8 ∧ putD D2 0 ⟨#[49, 50, 51, 52, 53, 54, 55]⟩ = D2 := ⟨by kernel_rfl, by kernel_rfl⟩
theorem s5 : trimR D2 0 1 = 7 ∧ trimD D2 0 1 = D2 := ⟨by kernel_rfl, by kernel_rfl⟩
theorem s6 : turnR D2 = 7 ∧ turnD D2 = D2 := ⟨by kernel_rfl, by kernel_rfl⟩
theorem s7 : (looseAll D2.loose : Int) = 4 := by kernel_rfl
theorem s8 : crashD D2 3 = D3 := by kernel_rfl
theorem s9 : readR D3 0 = ⟨#[97, 98]⟩ ∧ readR D3 1 = ⟨#[99]⟩ ∧ (D3.free : Int) = 7 := ⟨by kernel_rfl, by kernel_rfl, by kernel_rfl⟩
theorem s10 : turnR D3 = 0 ∧ turnD D3 = D4 := ⟨by kernel_rfl, by kernel_rfl⟩
theorem s11 : trimR D4 1 1 = 0 ∧ trimD D4 1 1 = D5 := ⟨by kernel_rfl, by kernel_rfl⟩
theorem s12 : trimR D5 1 2 = 1 ∧ trimD D5 1 2 = D5 := ⟨by kernel_rfl, by kernel_rfl⟩
theorem s13 : readR D5 0 = ⟨#[99]⟩ ∧ readR D5 1 = ⟨#[97]⟩ ∧ readR D5 5 = ⟨#[]⟩ ∧ (looseAll D5.loose : Int) = 0 := ⟨by kernel_rfl, by kernel_rfl, by kernel_rfl, by kernel_rfl⟩

set_option maxRecDepth 100000 in
set_option maxHeartbeats 1600000 in
theorem diskFixed_any (w : World) : Calls Try.prog 36 #[] w fun e w' => e = .returned (.bool true) ∧ Below w.heap.size w w' := by
  go_enter Try.func36, Try.ntmps36
  go_wp2_with fail
  refine (dk_new 10 (by decide) w).mono ?_
  rintro e w1 ⟨rfl, h1⟩
  go_wp2_with fail
  refine (new_no (-1) (by omega) _).mono ?_
  rintro e w2 ⟨rfl, rfl⟩
  go_wp2_with fail
  refine (at_put h1 (by decide) 0 _ 0 D1 s1.1 s1.2).mono ?_
  rintro e w2 ⟨rfl, h2⟩
  clear h1
  go_wp2_with fail
  refine (at_put h2 (by decide) 1 _ 0 D2 s2.1 s2.2).mono ?_
  rintro e w3 ⟨rfl, h3⟩
  clear h2
  go_wp2_with fail
  refine (at_put h3 (by decide) 2 _ 1 D2 s3.1 s3.2).mono ?_
  rintro e w4 ⟨rfl, h4⟩
  clear h3
  go_wp2_with fail
  refine (at_put h4 (by decide) 0 _ 8 D2 s4.1 s4.2).mono ?_
  rintro e w5 ⟨rfl, h5⟩
  clear h4
  go_wp2_with fail
  refine (at_trim h5 0 1 7 D2 s5.1 s5.2).mono ?_
  rintro e w6 ⟨rfl, h6⟩
  clear h5
  go_wp2_with fail
  refine (at_turn h6 7 D2 s6.1 s6.2).mono ?_
  rintro e w7 ⟨rfl, h7⟩
  clear h6
  go_wp2_with fail
  refine (at_loose h7 4 s7).mono ?_
  rintro e w8 ⟨rfl, h8⟩
  clear h7
  go_wp2_with fail
  refine (at_crash h8 3 (by omega) (by omega) D3 s8).mono ?_
  rintro e w9 ⟨rfl, h9⟩
  clear h8
  go_wp2_with fail
  refine (at_read h9 0 _ s9.1).mono ?_
  rintro e wx ⟨rfl, rfl⟩
  go_wp2_with fail
  refine (at_read h9 1 _ s9.2.1).mono ?_
  rintro e wx ⟨rfl, rfl⟩
  go_wp2_with fail
  refine (at_free h9 7 s9.2.2).mono ?_
  rintro e w10 ⟨rfl, h10⟩
  clear h9
  go_wp2_with fail
  refine (at_turn h10 0 D4 s10.1 s10.2).mono ?_
  rintro e w11 ⟨rfl, h11⟩
  clear h10
  go_wp2_with fail
  refine (at_trim h11 1 1 0 D5 s11.1 s11.2).mono ?_
  rintro e w12 ⟨rfl, h12⟩
  clear h11
  go_wp2_with fail
  refine (at_trim h12 1 2 1 D5 s12.1 s12.2).mono ?_
  rintro e w13 ⟨rfl, h13⟩
  clear h12
  go_wp2_with fail
  refine (at_read h13 0 _ s13.1).mono ?_
  rintro e wx ⟨rfl, rfl⟩
  go_wp2_with fail
  refine (at_read h13 1 _ s13.2.1).mono ?_
  rintro e wx ⟨rfl, rfl⟩
  go_wp2_with fail
  refine (at_read h13 5 _ s13.2.2.1).mono ?_
  rintro e wx ⟨rfl, rfl⟩
  go_wp2_with fail
  refine (at_loose h13 0 s13.2.2.2).mono ?_
  rintro e w14 ⟨rfl, h14⟩
  clear h13
  have H14 := Lib.hid h14.2.1; clear h14
  go_wp2
  go_ret
  exact ⟨rfl, H14.out⟩
end Go.Proofs.Ytjmdiobnappgkaa
