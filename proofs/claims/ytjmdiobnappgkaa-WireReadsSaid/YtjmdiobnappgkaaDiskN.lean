/-
  Layer 14 (disk): small laws for the walks of DiskTurns, DiskRoom, DiskKeeps.
-/
import Derived.Test.YtjmdiobnappgkaaDiskL
namespace Go.Proofs.Ytjmdiobnappgkaa
open Go.RowKit
theorem low1 (F : Int) : bits BinOp.and IntKind.i64 F 1 = 0 ∨ bits BinOp.and IntKind.i64 F 1 = 1 := by
  have e : (1 : Nat) % 2 ^ IntKind.i64.bits = 1 := by decide
  simp only [bits, BitVec.toNat_and, BitVec.toNat_ofInt]
  have e' : ((1 : Int) % ((2 ^ IntKind.i64.bits : Nat) : Int)).toNat = 1 := by decide
  rw [e', Nat.and_one_is_mod]
  have : ∀ n : Nat, n % 2 = 0 ∨ n % 2 = 1 := fun n => by omega
  rcases this ((F % ((2 ^ IntKind.i64.bits : Nat) : Int)).toNat) with h | h
  · left; rw [h]; decide
  · right; rw [h]; decide
/-- What Put gives back, and what is read after it. -/
theorem put_laws (d : DS) (f : Int) (hf : f = 0 ∨ f = 1) (s : ByteArray) :
    (¬ (d.free < s.size) → putR d f s = 0 ∧ readR (putD d f s) f = readR d f ++ s ∧ (d.ok → ((putD d f s).free : Int) = (d.free : Int) - s.size)) ∧
    (d.free < s.size → putR d f s = 8 ∧ putD d f s = d) := by
  have hv : valid f := by unfold valid; omega
  constructor
  · intro h
    have e : putD d f s = d.put f.toNat s := by rw [putD, if_pos ⟨hv, h⟩]
    refine ⟨by rw [putR, if_pos hv, if_neg h], ?_, ?_⟩
    · rw [e]
      rcases hf with rfl | rfl <;> simp [readR, valid, DS.put, DS.file]
    · intro hk
      rw [e]
      have h1 := hk.fits
      rcases hf with rfl | rfl <;> (simp [DS.free, DS.put] at h ⊢; omega)
  · intro h
    exact ⟨by rw [putR, if_pos hv, if_pos h], by rw [putD, if_neg]; rintro ⟨_, c⟩; exact c h⟩
theorem turn_laws (d : DS) : (looseAll d.loose = 0 → turnR d = 0 ∧ turnD d = d.turn) ∧ (0 < looseAll d.loose → turnR d = 7 ∧ turnD d = d) :=
  ⟨fun h => ⟨by rw [turnR, if_neg (by omega)], by rw [turnD, if_neg (by omega)]⟩, fun h => ⟨by rw [turnR, if_pos h], by rw [turnD, if_pos h]⟩⟩
end Go.Proofs.Ytjmdiobnappgkaa
