/-
  Layer 11 (wire): the reader: the walk of Blob.
-/
import Derived.Test.YtjmdiobnappgkaaWireR3
namespace Go.Proofs.Ytjmdiobnappgkaa
open Go.RowKit
set_option linter.unusedVariables false
set_option linter.unusedSimpArgs false

def RD.back (z : RD) (s : ByteArray) : RD := if z.e = 0 then z else { z with s := s }
def RD.blobS (x : RD) (limit : Int) : ByteArray := if x.numX.e = 0 ∧ x.numV ≤ 4096 ∧ (x.numV : Int) ≤ limit then x.numX.takeS x.numV else ⟨#[]⟩
def RD.blobX (x : RD) (limit : Int) : RD := if x.numX.e = 0 then (if x.numV ≤ 4096 ∧ (x.numV : Int) ≤ limit then (x.numX.takeX x.numV).back x.s else { s := x.s, e := 4 }) else x.numX
section
variable {w0 w w' : World} {g : Nat} {x : RD}
set_option maxRecDepth 100000 in
set_option maxHeartbeats 800000 in
theorem rd_blob (h : RDK w0 w g x) (limit : Int) : Calls Try.prog 58 #[.pointer (some ⟨g, 0, none⟩), .int .i64 limit] w fun r w' => r = .returned (.string (x.blobS limit)) ∧ RDK w0 w' g (x.blobX limit) ∧ Frm g w w' := by
  have c0 := h.1.c0
  obtain ⟨y, hy⟩ : ∃ y, x.numX = y := ⟨_, rfl⟩
  obtain ⟨n, hn⟩ : ∃ n, x.numV = n := ⟨_, rfl⟩
  obtain ⟨bs, hbs⟩ : ∃ bs, x.blobS limit = bs := ⟨_, rfl⟩
  obtain ⟨bx, hbx⟩ : ∃ bx, x.blobX limit = bx := ⟨_, rfl⟩
  have hnum := rd_num h
  rw [hy, hn] at hnum
  have hs := hbs; have hx := hbx
  rw [RD.blobS, hy, hn] at hs
  rw [RD.blobX, hy, hn] at hx
  rw [hbs, hbx]
  have Hs := Lib.hid hs; have Hx := Lib.hid hx
  clear hs hx hbs hbx hy hn
  have hcase : (¬ y.e = 0) ∨ (y.e = 0 ∧ 4096 < n) ∨ (y.e = 0 ∧ n ≤ 4096 ∧ limit < (n : Int)) ∨ (y.e = 0 ∧ n ≤ 4096 ∧ (n : Int) ≤ limit) := by omega
  rcases hcase with he | ⟨he, h1⟩ | ⟨he, h1, h2⟩ | ⟨he, h1, h2⟩
  · have r1 : bs = ⟨#[]⟩ := by rw [← Hs.out, if_neg (fun c => he c.1)]
    have r2 : bx = y := by rw [← Hx.out, if_neg he]
    rw [r1, r2]
    have hne : ¬ (y.e : Int) = 0 := by omega
    go_enter Try.func58, Try.ntmps58
    go_wp2_with fail
    refine hnum.mono ?_
    rintro e w1 ⟨rfl, k1, k2⟩
    have d1 := k1.1.c1
    have K1 := Lib.hid k1; have K2 := Lib.hid k2; clear k1 k2 hnum h
    go_wp2
    go_ret
    exact ⟨rfl, K1.out, K2.out⟩
  · have r1 : bs = ⟨#[]⟩ := by rw [← Hs.out, if_neg (by omega)]
    have r2 : bx = { s := x.s, e := 4 } := by rw [← Hx.out, if_pos he, if_neg (by omega)]
    rw [r1, r2]
    have g1 : (4096 : Int) < (n : Int) := by omega
    go_enter Try.func58, Try.ntmps58
    go_wp2_with fail
    refine hnum.mono ?_
    rintro e w1 ⟨rfl, k1, k2⟩
    have d0 := k1.1.c0
    have d1 := k1.1.c1
    have f0 := k1.1.fr 0
    have f1 := k1.1.fr 1
    rw [he] at d1
    have K1 := Lib.hid k1; have K2 := Lib.hid k2; clear k1 k2 hnum h
    go_wp2
    go_ret
    have q := rdk_err K1.out 4
    have q2 := rdk_rest q.1 x.s
    exact ⟨rfl, q2.1, K2.out.trans (q.2.trans q2.2)⟩
  · have r1 : bs = ⟨#[]⟩ := by rw [← Hs.out, if_neg (by omega)]
    have r2 : bx = { s := x.s, e := 4 } := by rw [← Hx.out, if_pos he, if_neg (by omega)]
    rw [r1, r2]
    have g1 : ¬ (4096 : Int) < (n : Int) := by omega
    have g2 : IntKind.i64.wrap (n : Int) = (n : Int) := by rw [IntKind.wrap_i64]; omega
    go_enter Try.func58, Try.ntmps58
    go_wp2_with fail
    refine hnum.mono ?_
    rintro e w1 ⟨rfl, k1, k2⟩
    have d0 := k1.1.c0
    have d1 := k1.1.c1
    have f0 := k1.1.fr 0
    have f1 := k1.1.fr 1
    rw [he] at d1
    have K1 := Lib.hid k1; have K2 := Lib.hid k2; clear k1 k2 hnum h
    go_wp2
    go_ret
    have q := rdk_err K1.out 4
    have q2 := rdk_rest q.1 x.s
    exact ⟨rfl, q2.1, K2.out.trans (q.2.trans q2.2)⟩
  · have g1 : ¬ (4096 : Int) < (n : Int) := by omega
    have g2 : IntKind.i64.wrap (n : Int) = (n : Int) := by rw [IntKind.wrap_i64]; omega
    have g3 : ¬ limit < (n : Int) := by omega
    have r1 : bs = y.takeS n := by rw [← Hs.out, if_pos ⟨he, h1, h2⟩]
    have r2 : bx = (y.takeX n).back x.s := by rw [← Hx.out, if_pos he, if_pos ⟨h1, h2⟩]
    obtain ⟨z, hz⟩ : ∃ z, y.takeX (n : Int) = z := ⟨_, rfl⟩
    obtain ⟨t, ht⟩ : ∃ t, y.takeS (n : Int) = t := ⟨_, rfl⟩
    rw [hz] at r2
    rw [ht] at r1
    rw [r1]
    clear r1
    have htake := fun (wx : World) (hx : RDK w0 wx g y) => rd_take hx (n : Int)
    rw [hz, ht] at htake
    have Htake := Lib.hid htake; have R2 := Lib.hid r2
    clear htake r2 hz ht h2
    go_enter Try.func58, Try.ntmps58
    go_wp2_with fail
    refine hnum.mono ?_
    rintro e w1 ⟨rfl, k1, k2⟩
    have d0 := k1.1.c0
    have d1 := k1.1.c1
    rw [he] at d1
    have K2 := Lib.hid k2; clear k2 hnum h
    go_wp2_with fail
    refine (Htake.out _ k1).mono ?_
    rintro e w2 ⟨rfl, k3, k4⟩
    clear d0 d1 k1
    have d0 := k3.1.c0
    have d1 := k3.1.c1
    have f0 := k3.1.fr 0
    have f1 := k3.1.fr 1
    have K3 := Lib.hid k3; have K4 := Lib.hid k4; clear k3 k4
    by_cases hze : z.e = 0
    · have r3 : bx = z := by rw [R2.out, RD.back, if_pos hze]
      rw [hze] at d1
      have R3 := Lib.hid r3; clear r3
      go_wp2
      go_ret
      exact ⟨rfl, by rw [R3.out]; exact K3.out, K2.out.trans K4.out⟩
    · have r3 : bx = { z with s := x.s } := by rw [R2.out, RD.back, if_neg hze]
      have hne : ¬ (z.e : Int) = 0 := by omega
      have R3 := Lib.hid r3; clear r3
      go_wp2
      go_ret
      have q := rdk_rest K3.out x.s
      exact ⟨rfl, by rw [R3.out]; exact q.1, K2.out.trans (K4.out.trans q.2)⟩
end
end Go.Proofs.Ytjmdiobnappgkaa
