/-
  Layer 14 (disk): the document's disk: the walks of Turn, Trim, Crash.
-/
import Derived.Test.YtjmdiobnappgkaaDiskG3
import Derived.Test.YtjmdiobnappgkaaRowY
namespace Go.Proofs.Ytjmdiobnappgkaa
open Go.RowKit
set_option linter.unusedVariables false
set_option linter.unusedSimpArgs false

def RS.turn (r : RS) : RS := { r with a := r.b, b := r.a }
def RS.trim (r : RS) (f n : Nat) : RS := if f = 0 then { r with a := r.a.extract 0 n } else { r with b := r.b.extract 0 n }

set_option maxRecDepth 100000 in
set_option maxHeartbeats 400000 in
theorem rturn_no {base g : Nat} {v : Value} {r : RS} {w : World} (h : IsRef w base g v r) (hk : r.ok) (hl : 0 < r.loose.length) : Calls Try.prog 89 #[.pointer (some ⟨g, 0, none⟩)] w fun e w' => e = .returned (.int .i64 7) ∧ w = w' := by
  obtain ⟨A, cp, rfl, hvl⟩ := own_form h.own
  have c2 := h.c2
  have hl' : (0 : Int) < (r.loose.length : Int) := by omega
  clear h hvl
  go_enter Try.func89, Try.ntmps89
  go_wp2
  go_ret
  exact ⟨rfl, rfl⟩
set_option maxRecDepth 100000 in
set_option maxHeartbeats 400000 in
theorem rturn_yes {base g : Nat} {v : Value} {r : RS} {w : World} (h : IsRef w base g v r) (hl : r.loose.length = 0) : Calls Try.prog 89 #[.pointer (some ⟨g, 0, none⟩)] w fun e w' => e = .returned (.int .i64 0) ∧ IsRef w' base g v r.turn ∧ Only w.heap.size [g] w w' := by
  obtain ⟨A, cp, rfl, hvl⟩ := own_form h.own
  have c0 := h.c0
  have c1 := h.c1
  have c2 := h.c2
  rw [hl] at c2
  have f0 := h.fr 0
  have f1 := h.fr 1
  have hfar := own_blk_ne h.own h.blk (by decide)
  have H := Lib.hid h; have Hfar := Lib.hid hfar
  clear h hvl hfar
  go_enter Try.func89, Try.ntmps89
  go_wp2
  go_ret
  refine ⟨rfl, ⟨(H.out.blk.set_ 0 _).set_ 1 _, H.out.hb, ?_⟩, (((Only.refl _ _ _).setCell (p := ⟨g, 0, none⟩) (.inl (by simp)) _).setCell (p := ⟨g, 1, none⟩) (.inl (by simp)) _)⟩
  exact own_set_far (p := ⟨g, 1, none⟩) (own_set_far (p := ⟨g, 0, none⟩) H.out.own Hfar.out _) Hfar.out _

set_option maxRecDepth 100000 in
set_option maxHeartbeats 400000 in
theorem rtrim_arg0 (g : Nat) (f : Int) (h : f < 0 ∨ 2 ≤ f) (n : Int) (w : World) : Calls Try.prog 88 #[.pointer (some ⟨g, 0, none⟩), .int .i64 f, .int .i64 n] w fun e w' => e = .returned (.int .i64 1) ∧ w = w' := by
  rcases h with h | h
  · go_enter Try.func88, Try.ntmps88
    go_wp2
    go_ret
    exact ⟨rfl, rfl⟩
  · have h' : decide (f < 0) = false := by simp; omega
    have h2 : (1 : Int) < f := by omega
    go_enter Try.func88, Try.ntmps88
    go_wp2
    go_ret
    exact ⟨rfl, rfl⟩
set_option maxRecDepth 100000 in
set_option maxHeartbeats 400000 in
theorem rtrim_arg {base g : Nat} {v : Value} {r : RS} {w : World} (h : IsRef w base g v r) (hk : r.ok) (f : Nat) (hf2 : f < 2) (n : Int) (hn : n < 0 ∨ ((r.file f).size : Int) < n) : Calls Try.prog 88 #[.pointer (some ⟨g, 0, none⟩), .int .i64 (f : Int), .int .i64 n] w fun e w' => e = .returned (.int .i64 1) ∧ Below w.heap.size w w' := by
  have hf0 : ¬ (f : Int) < 0 := by omega
  have hf1 : ¬ (1 : Int) < (f : Int) := by omega
  have hcase : n < 0 ∨ (¬ n < 0 ∧ ((r.file f).size : Int) < n) := by omega
  rcases hcase with hn0 | ⟨hn0, hn1⟩
  · go_enter Try.func88, Try.ntmps88
    go_wp2
    go_ret
    exact ⟨rfl, Below.refl _ _⟩
  · go_enter Try.func88, Try.ntmps88
    go_wp2_with fail
    refine (rread_yes h hk f hf2).mono ?_
    rintro e w1 ⟨rfl, h1⟩
    have H1 := Lib.hid h1; clear h1
    go_wp2
    go_ret
    exact ⟨rfl, H1.out⟩
set_option maxRecDepth 100000 in
set_option maxHeartbeats 400000 in
theorem rtrim_state {base g : Nat} {v : Value} {r : RS} {w : World} (h : IsRef w base g v r) (hk : r.ok) (f : Nat) (hf2 : f < 2) (n : Nat) (hn : n ≤ (r.file f).size) (hl : 0 < r.loose.length) : Calls Try.prog 88 #[.pointer (some ⟨g, 0, none⟩), .int .i64 (f : Int), .int .i64 (n : Int)] w fun e w' => e = .returned (.int .i64 7) ∧ Below w.heap.size w w' := by
  have hf0 : ¬ (f : Int) < 0 := by omega
  have hf1 : ¬ (1 : Int) < (f : Int) := by omega
  have hn0 : ¬ (n : Int) < 0 := by omega
  have hn1 : ¬ ((r.file f).size : Int) < (n : Int) := by omega
  have hl' : (0 : Int) < (r.loose.length : Int) := by omega
  obtain ⟨A, cp, rfl, hvl⟩ := own_form h.own
  go_enter Try.func88, Try.ntmps88
  go_wp2_with fail
  refine (rread_yes h hk f hf2).mono ?_
  rintro e w1 ⟨rfl, h1⟩
  have c2 := (h.below h1).c2
  have H1 := Lib.hid h1; clear h1 h
  go_wp2
  go_ret
  exact ⟨rfl, H1.out⟩
theorem rfile_loose0 {r : RS} (hl : r.loose.length = 0) (f : Nat) : r.file f = if f = 0 then r.a else r.b := by
  have : r.loose = [] := List.eq_nil_of_length_eq_zero hl
  unfold RS.file; rw [this]; simp [bytesOf]
set_option maxRecDepth 100000 in
set_option maxHeartbeats 400000 in
theorem rtrim_yes {base g : Nat} {v : Value} {r : RS} {w : World} (h : IsRef w base g v r) (hk : r.ok) (f : Nat) (hf2 : f < 2) (n : Nat) (hn : n ≤ (r.file f).size) (hl : r.loose.length = 0) : Calls Try.prog 88 #[.pointer (some ⟨g, 0, none⟩), .int .i64 (f : Int), .int .i64 (n : Int)] w fun e w' => e = .returned (.int .i64 0) ∧ IsRef w' base g v (r.trim f n) ∧ Only w.heap.size [g] w w' := by
  have hn0 : ¬ (n : Int) < 0 := by omega
  have hn1 : ¬ ((r.file f).size : Int) < (n : Int) := by omega
  have hfl := rfile_loose0 hl f
  have hcase : f = 0 ∨ f = 1 := by omega
  rcases hcase with rfl | rfl
  · simp only [if_pos] at hfl
    have hn2 : (n : Int) ≤ (r.a.size : Int) := by rw [hfl] at hn; omega
    have hn3 : n ≤ r.a.size := by omega
    obtain ⟨A, cp, rfl, hvl⟩ := own_form h.own
    clear hfl hvl
    go_enter Try.func88, Try.ntmps88
    go_wp2_with fail
    refine (rread_yes h hk 0 hf2).mono ?_
    rintro e w1 ⟨rfl, h1⟩
    have hr := h.below h1
    have c0 := hr.c0
    have f0 := hr.fr 0
    have c2 := hr.c2
    rw [hl] at c2
    have hfar := own_blk_ne hr.own hr.blk (by decide)
    have H1 := Lib.hid h1; have H := Lib.hid hr; have Hfar := Lib.hid hfar; clear h1 h hr hfar
    go_wp2
    go_ret
    refine ⟨rfl, ⟨H.out.blk.set_ 0 _, H.out.hb, own_set_far (p := ⟨g, 0, none⟩) H.out.own Hfar.out _⟩, (Only.ofBelow H1.out [g]).setCell (p := ⟨g, 0, none⟩) (.inl (by simp)) _⟩
  · simp only [if_neg (show ¬ (1 : Nat) = 0 by decide)] at hfl
    have hn2 : (n : Int) ≤ (r.b.size : Int) := by rw [hfl] at hn; omega
    have hn3 : n ≤ r.b.size := by omega
    obtain ⟨A, cp, rfl, hvl⟩ := own_form h.own
    clear hfl hvl
    show Calls Try.prog 88 #[.pointer (some ⟨g, 0, none⟩), .int .i64 1, .int .i64 (n : Int)] w _
    go_enter Try.func88, Try.ntmps88
    go_wp2_with fail
    refine (rread_yes h hk 1 hf2).mono ?_
    rintro e w1 ⟨rfl, h1⟩
    have hr := h.below h1
    have c1 := hr.c1
    have f1 := hr.fr 1
    have c2 := hr.c2
    rw [hl] at c2
    have hfar := own_blk_ne hr.own hr.blk (by decide)
    have H1 := Lib.hid h1; have H := Lib.hid hr; have Hfar := Lib.hid hfar; clear h1 h hr hfar
    go_wp2
    go_ret
    refine ⟨rfl, ⟨H.out.blk.set_ 1 _, H.out.hb, own_set_far (p := ⟨g, 1, none⟩) H.out.own Hfar.out _⟩, (Only.ofBelow H1.out [g]).setCell (p := ⟨g, 1, none⟩) (.inl (by simp)) _⟩
end Go.Proofs.Ytjmdiobnappgkaa
