/-
  Layer 15 (journal): both journals looked at.
-/
import Derived.Test.YtjmdiobnappgkaaJD5
namespace Go.Proofs.Ytjmdiobnappgkaa
open Go.RowKit
set_option linter.unusedVariables false
set_option linter.unusedSimpArgs false
/-- Both journals with their rows named, and what of them is loaded. -/
abbrev Look (w0 : World) (gj gd gk gr : Nat) (v : Value) (Au : Option Addr) (cu : Nat) (J : JS) (n : Nat) (Ar : Option Addr) (Lr cr : Nat) (w : World) : Prop :=
  (JK w0 w gj gd v J n ∧ RJ w0 w gk gr (.slice Au J.l.length cu) J n ∧ gr < w.heap.size) ∧ w.cell? ⟨gk, 1, none⟩ = some (.slice Au J.l.length cu) ∧ w.cell? ⟨gk, 2, none⟩ = some (.int .i64 (J.sure : Int)) ∧ w.cell? ⟨gk, 3, none⟩ = some (.bool J.cut) ∧ w.cell? ⟨gr, 2, none⟩ = some (.slice Ar Lr cr)
section
variable {w0 w w' : World} {gj gd gk gr : Nat} {v : Value} {Au : Option Addr} {cu : Nat} {J : JS} {n : Nat} {Ar : Option Addr} {Lr cr : Nat}
theorem Look.below (h : Look w0 gj gd gk gr v Au cu J n Ar Lr cr w) (hb : Below w.heap.size w w') : Look w0 gj gd gk gr v Au cu J n Ar Lr cr w' := by
  obtain ⟨⟨h1, h2, h3⟩, h4, h5, h6, h7⟩ := h
  exact ⟨⟨h1.below hb, h2.below hb, Nat.lt_of_lt_of_le h3 hb.size⟩, cell_belowB hb rfl h4, cell_belowB hb rfl h5, cell_belowB hb rfl h6, cell_belowB hb rfl h7⟩
theorem Duo.look (h : Duo w0 w gj gd gk gr J n J n) : ∃ v Au cu Ar cr, Look w0 gj gd gk gr v Au cu J n Ar (looseAll J.d.loose) cr w ∧ Ap (.slice Au J.l.length cu) v := by
  obtain ⟨v, u, a, b, c⟩ := h
  obtain ⟨Au, cu, rfl⟩ := b.own.len
  obtain ⟨⟨r, hr, rel⟩, hk⟩ := b.dk
  obtain ⟨⟨vr, hv⟩, _⟩ := hr
  have hlen := rel.len
  obtain ⟨Ar, cr, hve, _⟩ := own_form hv.own
  subst hve
  rw [hlen] at hv
  exact ⟨v, Au, cu, Ar, cr, ⟨⟨a, b, hv.blk.lt⟩, b.c1, b.c2, b.c3, hv.blk.cell 2⟩, c⟩
theorem Look.duo (h : Look w0 gj gd gk gr v Au cu J n Ar Lr cr w) (c : Ap (.slice Au J.l.length cu) v) : Duo w0 w gj gd gk gr J n J n := ⟨v, _, h.1.1, h.1.2.1, c⟩
theorem k_records (h : Look w0 gj gd gk gr v Au cu J n Ar Lr cr w) (hl : J.l.length ≤ 20000000) : Calls Try.prog 76 #[.pointer (some ⟨gj, 0, none⟩)] w fun e w' => ∃ A c, e = .returned (.slice A J.l.length c) ∧ SRead w' (.slice A J.l.length c) J.l ∧ Below w.heap.size w w' := by
  refine (j_records h.1.1 hl).mono ?_
  rintro e w' ⟨⟨u, rfl, ho⟩, hb⟩
  obtain ⟨A, c, hu⟩ := ho.len
  subst hu
  exact ⟨A, c, rfl, ho.read (by unfold maxLen; omega), hb⟩
theorem k_same (h : Look w0 gj gd gk gr v Au cu J n Ar Lr cr w) (hl : J.l.length ≤ 20000000) {x : Value} (hx : SRead w x J.l) : Calls Try.prog 75 #[x, .slice Au J.l.length cu] w fun e w' => e = .returned (.bool true) ∧ Below w.heap.size w w' :=
  same_at hx (h.1.2.1.own.read (by unfold maxLen; omega)) true (by simp)
theorem k_sure (h : Look w0 gj gd gk gr v Au cu J n Ar Lr cr w) : Calls Try.prog 77 #[.pointer (some ⟨gj, 0, none⟩)] w fun e w' => e = .returned (.int .i64 (J.sure : Int)) ∧ Below w.heap.size w w' := by
  refine (j_sure h.1.1).mono ?_
  rintro e w' ⟨rfl, rfl⟩
  exact ⟨rfl, Below.refl _ _⟩
theorem k_cut (h : Look w0 gj gd gk gr v Au cu J n Ar Lr cr w) : Calls Try.prog 78 #[.pointer (some ⟨gj, 0, none⟩)] w fun e w' => e = .returned (.bool J.cut) ∧ Below w.heap.size w w' := by
  refine (j_cut h.1.1).mono ?_
  rintro e w' ⟨rfl, rfl⟩
  exact ⟨rfl, Below.refl _ _⟩
theorem k_read (h : Look w0 gj gd gk gr v Au cu J n Ar Lr cr w) (f : Int) : Calls Try.prog 33 #[.pointer (some ⟨gd, 0, none⟩), .int .i64 f] w fun e w' => e = .returned (.string (readR J.d f)) ∧ Below w.heap.size w w' := by
  refine (dk_read h.1.1.dk f).mono ?_
  rintro e w' ⟨rfl, rfl⟩
  exact ⟨rfl, Below.refl _ _⟩
theorem k_rread (h : Look w0 gj gd gk gr v Au cu J n Ar Lr cr w) (f : Int) (hf : f = 0 ∨ f = 1) : Calls Try.prog 43 #[.pointer (some ⟨gr, 0, none⟩), .int .i64 f] w fun e w' => e = .returned (.string (readR J.d f)) ∧ Below w.heap.size w w' := by
  rcases hf with rfl | rfl
  · exact fz_read h.1.2.1.dk 0 (by decide) _ (by simp [readR, valid, DS.file])
  · exact fz_read h.1.2.1.dk 1 (by decide) _ (by simp [readR, valid, DS.file])
theorem k_loose (h : Look w0 gj gd gk gr v Au cu J n Ar Lr cr w) (hq : looseAll J.d.loose = Lr) : Calls Try.prog 34 #[.pointer (some ⟨gd, 0, none⟩)] w fun e w' => e = .returned (.int .i64 (Lr : Int)) ∧ Below w.heap.size w w' := by
  subst hq
  obtain ⟨⟨v', hv⟩, _, hk, _⟩ := h.1.1.dk
  exact loose_any hv hk
end
end Go.Proofs.Ytjmdiobnappgkaa
