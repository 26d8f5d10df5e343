/-
  Layer 15 (journal): both journals in one memory.
-/
import Derived.Test.YtjmdiobnappgkaaJD4
namespace Go.Proofs.Ytjmdiobnappgkaa
open Go.RowKit
set_option linter.unusedVariables false
set_option linter.unusedSimpArgs false
/-- Both journals, their rows apart. -/
def Duo (w0 w : World) (gj gd gk gr : Nat) (J : JS) (n : Nat) (J' : JS) (m : Nat) : Prop :=
  ∃ v u, JK w0 w gj gd v J n ∧ RJ w0 w gk gr u J' m ∧ Ap u v
/-- The block types that they turn. -/
def DT : List TypeId := [117, 120, 129, 9, 57, 123, 102]
section
variable {w0 w w' : World} {gj gd gk gr : Nat} {J J' : JS} {n m : Nat}
theorem Duo.below (h : Duo w0 w gj gd gk gr J n J' m) (hb : Below w.heap.size w w') : Duo w0 w' gj gd gk gr J n J' m := by
  obtain ⟨v, u, a, b, c⟩ := h
  exact ⟨v, u, a.below hb, b.below hb, c⟩
theorem Duo.mono {n' m' : Nat} (h : Duo w0 w gj gd gk gr J n J' m) (h1 : n ≤ n') (h2 : m ≤ m') : Duo w0 w gj gd gk gr J n' J' m' := by
  obtain ⟨v, u, a, b, c⟩ := h
  exact ⟨v, u, a.mono h1, b.mono h2, c⟩
theorem Duo.b0 (h : Duo w0 w gj gd gk gr J n J' m) : Below w0.heap.size w0 w := by
  obtain ⟨v, u, a, b, c⟩ := h; exact a.b0
theorem Duo.left {JX : JS} {nx : Nat} {v u : Value} (a : JK w0 w gj gd v J n) (b : RJ w0 w gk gr u J' m) (c : Ap u v) (p : JPost w0 w w' gj gd v JX nx) : Duo w0 w' gj gd gk gr JX nx J' m ∧ Spare DT w w' := by
  obtain ⟨v', k1, k2, k3, k4⟩ := p
  exact ⟨⟨v', u, k1, b.spare k1.b0 k3 k4 (by decide) (by decide) (by decide) c, c.fresh k2 (fun i hi => (b.own.lt hi).2)⟩, k3.mono (by unfold DT; simp)⟩
theorem Duo.right {JX : JS} {nx : Nat} {v u : Value} (a : JK w0 w gj gd v J n) (b : RJ w0 w gk gr u J' m) (c : Ap u v) (p : RPost w0 w w' gk gr u JX nx) : Duo w0 w' gj gd gk gr J n JX nx ∧ Spare DT w w' := by
  obtain ⟨u', k1, k2, k3, k4⟩ := p
  exact ⟨⟨v, u', a.spare k1.b0 k3 k4 (by decide) (by decide) (by decide) c.symm, k1, (c.symm.fresh k2 (fun i hi => (a.own.lt hi).2)).symm⟩, k3.mono (by unfold DT; simp)⟩
theorem duo_add (h : Duo w0 w gj gd gk gr J n J' m) (hn : n < 1000000) (hl : J.l.length < 20000000) (s : ByteArray) (hs : s.size ≤ 140737488351232) (R : Int) (JX : JS) (hq : looseR J s = R ∧ addJ J s = JX) :
    Calls Try.prog 68 #[.pointer (some ⟨gj, 0, none⟩), .string s] w fun e w' => e = .returned (.int .i64 R) ∧ Duo w0 w' gj gd gk gr JX (n + 1) J' m ∧ Spare DT w w' := by
  obtain ⟨v, u, a, b, c⟩ := h
  refine (aj_add a hn hl s hs R JX hq).mono ?_
  rintro e w' ⟨h1, p⟩
  exact ⟨h1, Duo.left a b c p⟩
theorem duo_loose (h : Duo w0 w gj gd gk gr J n J' m) (hn : n < 1000000) (hl : J.l.length < 20000000) (s : ByteArray) (hs : s.size ≤ 140737488351232) (R : Int) (JX : JS) (hq : looseR J s = R ∧ looseJ J s = JX) :
    Calls Try.prog 70 #[.pointer (some ⟨gj, 0, none⟩), .string s] w fun e w' => e = .returned (.int .i64 R) ∧ Duo w0 w' gj gd gk gr JX (n + 1) J' m ∧ Spare DT w w' := by
  obtain ⟨v, u, a, b, c⟩ := h
  refine (aj_loose a hn hl s hs R JX hq).mono ?_
  rintro e w' ⟨h1, p⟩
  exact ⟨h1, Duo.left a b c p⟩
theorem duo_renew (h : Duo w0 w gj gd gk gr J n J' m) (hn : n < 1000000) (hl : J.l.length ≤ 20000000) (y : Value) (L : List ByteArray) (hu : SReadT w y L) (hL : L.length ≤ 1000) (hz : ∀ s ∈ L, s.size ≤ 100000) (N : Int) (R : Int) (JX : JS) (hq : renewR J L N = R ∧ renewJ J L N = JX) :
    Calls Try.prog 72 #[.pointer (some ⟨gj, 0, none⟩), y, .int .i64 N] w fun e w' => e = .returned (.int .i64 R) ∧ Duo w0 w' gj gd gk gr JX (n + 1) J' m ∧ Spare DT w w' := by
  obtain ⟨v, u, a, b, c⟩ := h
  refine (aj_renew a hn hl y L hu hL hz N R JX hq).mono ?_
  rintro e w' ⟨h1, p⟩
  exact ⟨h1, Duo.left a b c p⟩
theorem duo_radd (h : Duo w0 w gj gd gk gr J n J' m) (hn : m < 1000000) (hl : J'.l.length < 20000000) (s : ByteArray) (hs : s.size ≤ 140737488351232) (R : Int) (JX : JS) (hq : looseR J' s = R ∧ addJ J' s = JX) :
    Calls Try.prog 69 #[.pointer (some ⟨gk, 0, none⟩), .string s] w fun e w' => e = .returned (.int .i64 R) ∧ Duo w0 w' gj gd gk gr J n JX (m + 1) ∧ Spare DT w w' := by
  obtain ⟨rfl, rfl⟩ := hq
  obtain ⟨v, u, a, b, c⟩ := h
  refine (r_add b hn hl s hs).mono ?_
  rintro e w' ⟨h1, p⟩
  exact ⟨h1, Duo.right a b c p⟩
theorem duo_rloose (h : Duo w0 w gj gd gk gr J n J' m) (hn : m < 1000000) (hl : J'.l.length < 20000000) (s : ByteArray) (hs : s.size ≤ 140737488351232) (R : Int) (JX : JS) (hq : looseR J' s = R ∧ looseJ J' s = JX) :
    Calls Try.prog 71 #[.pointer (some ⟨gk, 0, none⟩), .string s] w fun e w' => e = .returned (.int .i64 R) ∧ Duo w0 w' gj gd gk gr J n JX (m + 1) ∧ Spare DT w w' := by
  obtain ⟨rfl, rfl⟩ := hq
  obtain ⟨v, u, a, b, c⟩ := h
  refine (r_loose b hn hl s hs).mono ?_
  rintro e w' ⟨h1, p⟩
  exact ⟨h1, Duo.right a b c p⟩
theorem duo_rrenew (h : Duo w0 w gj gd gk gr J n J' m) (hn : m < 1000000) (hl : J'.l.length ≤ 20000000) (y : Value) (L : List ByteArray) (hu : SReadT w y L) (hL : L.length ≤ 1000) (hz : ∀ s ∈ L, s.size ≤ 100000) (N : Int) (R : Int) (JX : JS) (hq : renewR J' L N = R ∧ renewJ J' L N = JX) :
    Calls Try.prog 73 #[.pointer (some ⟨gk, 0, none⟩), y, .int .i64 N] w fun e w' => e = .returned (.int .i64 R) ∧ Duo w0 w' gj gd gk gr J n JX (m + 1) ∧ Spare DT w w' := by
  obtain ⟨rfl, rfl⟩ := hq
  obtain ⟨v, u, a, b, c⟩ := h
  refine (r_renew b hn hl y L hu hL hz N).mono ?_
  rintro e w' ⟨h1, p⟩
  exact ⟨h1, Duo.right a b c p⟩
/-- Both disks, no journal. -/
def Disks (w0 w : World) (gd gr : Nat) (d d' : DS) (n : Nat) : Prop := DK w0 w gd d n ∧ FK w0 w gr d'
theorem Duo.disks (h : Duo w0 w gj gd gk gr J n J' m) : Disks w0 w gd gr J.d J'.d n := by
  obtain ⟨v, u, a, b, c⟩ := h; exact ⟨a.dk, b.dk⟩
theorem disks_crash {d d' dx : DS} (h : Disks w0 w gd gr d d' n) (keep : Int) (h1 : -9223372036854775808 ≤ keep) (h2 : keep ≤ 9223372036854775807) (hd : crashD d keep = dx) : Calls Try.prog 35 #[.pointer (some ⟨gd, 0, none⟩), .int .i64 keep] w fun e w' => e = .returned (.tuple #[]) ∧ Disks w0 w' gd gr dx d' 0 ∧ Spare DT w w' := by
  obtain ⟨a, b⟩ := h
  refine (dz_crash_at a keep h1 h2 hd).mono ?_
  rintro e w' ⟨r1, r2, r3, r4⟩
  exact ⟨r1, ⟨r2, b.spareT r2.2.1 r3 (by decide) (by decide)⟩, r3.mono (by unfold DT; simp)⟩
theorem disks_rcrash {d d' dx : DS} (h : Disks w0 w gd gr d d' n) (keep : Int) (h1 : -9223372036854775808 ≤ keep) (h2 : keep ≤ 9223372036854775807) (hd : crashD d' keep = dx) : Calls Try.prog 74 #[.pointer (some ⟨gr, 0, none⟩), .int .i64 keep] w fun e w' => e = .returned (.tuple #[]) ∧ Disks w0 w' gd gr d dx n ∧ Spare DT w w' := by
  subst hd
  obtain ⟨a, b⟩ := h
  refine (fz_crash b keep h1 h2).mono ?_
  rintro e w' ⟨r1, r2, r3, r4⟩
  exact ⟨r1, ⟨a.spareT r2.b0 r3 (by decide) (by decide), r2⟩, r3.mono (by unfold DT; simp)⟩
/-- The program's journal is opened, the document's disk stands by. -/
def Half (w0 w : World) (gj gd gr : Nat) (J : JS) (d' : DS) (n : Nat) : Prop := ∃ v, JK w0 w gj gd v J n ∧ FK w0 w gr d'
theorem disks_open {d d' : DS} (h : Disks w0 w gd gr d d' n) (JX : JS) (hq : openJ d = JX) : Calls Try.prog 66 #[.pointer (some ⟨gd, 0, none⟩)] w fun e w' =>
    ∃ gj, e = .returned (.pointer (some ⟨gj, 0, none⟩)) ∧ Half w0 w' gj gd gr JX d' 0 ∧ Spare DT w w' ∧ JX.l.length ≤ d.f0.size := by
  obtain ⟨a, b⟩ := h
  refine (aj_open a JX hq).mono ?_
  rintro e w' ⟨gj, v, r1, r2, r3, r4, r5, r6, r7⟩
  exact ⟨gj, r1, ⟨v, r2, b.spareT r2.b0 r5 (by decide) (by decide)⟩, r5.mono (by unfold DT; simp), r7⟩
theorem half_open {d' : DS} (h : Half w0 w gj gd gr J d' n) (hsz : d'.f0.size ≤ 1000000) (JX : JS) (hq : openJ d' = JX) : Calls Try.prog 67 #[.pointer (some ⟨gr, 0, none⟩)] w fun e w' =>
    ∃ gk, e = .returned (.pointer (some ⟨gk, 0, none⟩)) ∧ Duo w0 w' gj gd gk gr J n JX 0 ∧ Spare DT w w' := by
  subst hq
  obtain ⟨v, a, b⟩ := h
  refine (r_open b hsz).mono ?_
  rintro e w' ⟨gk, u, r1, r2, r3, r4, r5, r6, r7⟩
  have hj := a.spare (l := []) r2.b0 r5 (RowsL.ofSpare r5 (by decide) _) (by decide) (by decide) (by decide) (by simp)
  exact ⟨gk, r1, ⟨v, u, hj, r2, Ap.of (B := w.heap.size) r4 (fun i hi => (a.own.lt hi).2)⟩, r5.mono (by unfold DT; simp)⟩
/-- The room of the law. -/
theorem low4095 (F : Int) : ∃ k : Nat, k ≤ 4095 ∧ bits BinOp.and IntKind.i64 F 4095 = (k : Int) := by
  simp only [bits, BitVec.toNat_and, BitVec.toNat_ofInt]
  have e' : ((4095 : Int) % ((2 ^ IntKind.i64.bits : Nat) : Int)).toNat = 4095 := by decide
  rw [e']
  have hle : (F % ((2 ^ IntKind.i64.bits : Nat) : Int)).toNat &&& 4095 ≤ 4095 := Nat.and_le_right
  generalize (F % ((2 ^ IntKind.i64.bits : Nat) : Int)).toNat &&& 4095 = k at hle ⊢
  refine ⟨k, hle, ?_⟩
  rw [IntKind.wrap_i64]; omega
end
end Go.Proofs.Ytjmdiobnappgkaa
