/-
  Layer 14 (disk): what a crash leaves, as plain laws: for the walk of DiskKeeps.
-/
import Derived.Test.YtjmdiobnappgkaaDiskP
namespace Go.Proofs.Ytjmdiobnappgkaa
open Go.RowKit
set_option linter.unusedVariables false
set_option linter.unusedSimpArgs false

def stOf (f : Nat) : List (Nat × Nat) → List Nat → Nat
  | p :: l, s :: ss => (if p.1 = f then s else 0) + stOf f l ss
  | _, _ => 0
theorem looseOf_cons (f : Nat) (p : Nat × Nat) (l : List (Nat × Nat)) : looseOf f (p :: l) = (if p.1 = f then p.2 else 0) + looseOf f l := by simp [looseOf]
theorem looseAll_cons (p : Nat × Nat) (l : List (Nat × Nat)) : looseAll (p :: l) = p.2 + looseAll l := by simp [looseAll]
theorem stOf_le (f : Nat) : ∀ (l : List (Nat × Nat)) (keep : Int), stOf f l (stays l keep) ≤ looseOf f l
  | [], _ => by simp [stOf, stays]
  | p :: l, keep => by
    have := stOf_le f l (keep - stay keep p.2)
    have h2 := stay_le keep p.2
    rw [stays, stOf, looseOf_cons]
    split <;> omega
theorem stOf_sum : ∀ (l : List (Nat × Nat)) (keep : Int), (∀ p ∈ l, p.1 < 2) → ((stOf 0 l (stays l keep) : Int) + (stOf 1 l (stays l keep) : Int)) = max 0 (min keep (looseAll l : Int))
  | [], keep, _ => by simp [stOf, stays, looseAll]; omega
  | p :: l, keep, h => by
    have ih := stOf_sum l (keep - stay keep p.2) (fun q hq => h q (List.mem_cons_of_mem _ hq))
    have h1 := h p (List.mem_cons_self ..)
    rw [stays, stOf, stOf, looseAll_cons]
    have h2 : p.1 = 0 ∨ p.1 = 1 := by omega
    have hs : ((stay keep p.2 : Nat) : Int) = max 0 (min keep (p.2 : Int)) := by unfold stay; omega
    rcases h2 with h2 | h2 <;> simp only [h2] <;> simp <;> omega
theorem undo_file (d : DS) (f : Nat) (hf : f < 2) : ∀ (l : List (Nat × Nat)) (keep : Int), (∀ p ∈ l, p.1 < 2) → looseOf f l ≤ (d.file f).size →
    (undoL d l (stays l keep)).file f = (d.file f).extract 0 ((d.file f).size - looseOf f l + stOf f l (stays l keep))
  | [], keep, _, _ => by
    simp [undoL, stays, stOf, looseOf]
  | p :: l, keep, hp, h => by
    rw [looseOf_cons] at h
    have ih := undo_file d f hf l (keep - stay keep p.2) (fun q hq => hp q (List.mem_cons_of_mem _ hq)) (by omega)
    have h3 := stOf_le f l (keep - stay keep p.2)
    have h4 := stay_le keep p.2
    rw [stays, undoL, stOf, looseOf_cons, cutf_file _ _ _ _ (hp p (List.mem_cons_self ..)) hf, ih]
    split
    · rename_i hpf
      rw [if_pos hpf] at h
      rw [ByteArray.size_extract, ByteArray.extract_extract]
      congr 1
      omega
    · rw [show ((d.file f).size - (0 + looseOf f l) + (0 + stOf f l (stays l (keep - ↑(stay keep p.2))))) = ((d.file f).size - looseOf f l + stOf f l (stays l (keep - ↑(stay keep p.2)))) by omega]

/-- a and b are what is sure of the disk's files; all behind them is loose. -/
structure Sure (D : DS) (a b : ByteArray) : Prop where
  a0 : D.f0.extract 0 a.size = a
  a1 : a.size + looseOf 0 D.loose = D.f0.size
  b0 : D.f1.extract 0 b.size = b
  b1 : b.size + looseOf 1 D.loose = D.f1.size
theorem Sure.start (D : DS) : Sure D.sync (readR D.sync 0) (readR D.sync 1) := by
  refine ⟨?_, ?_, ?_, ?_⟩ <;> simp [readR, valid, DS.file, DS.sync, looseOf]
theorem Sure.put {D : DS} {a b : ByteArray} (h : Sure D a b) (f : Int) (hf : f = 0 ∨ f = 1) (s : ByteArray) (hs : s.size ≤ D.free) :
    Sure (putD D f s) a b ∧ putR D f s = 0 ∧ (putD D f s).room = D.room ∧ looseAll (putD D f s).loose = looseAll D.loose + s.size ∧ (putD D f s).f0.size + (putD D f s).f1.size = D.f0.size + D.f1.size + s.size := by
  have hv : valid f := by unfold valid; omega
  have hns : ¬ D.free < s.size := by omega
  have e : putD D f s = D.put f.toNat s := by rw [putD, if_pos ⟨hv, hns⟩]
  have r : putR D f s = 0 := by rw [putR, if_pos hv, if_neg hns]
  have ha : a.size ≤ D.f0.size := by have := h.a1; omega
  have hb : b.size ≤ D.f1.size := by have := h.b1; omega
  refine ⟨?_, r, put_room D f s, ?_, ?_⟩
  · rw [e]
    rcases hf with rfl | rfl
    · refine ⟨?_, ?_, ?_, ?_⟩
      · show (D.f0 ++ s).extract 0 a.size = a
        rw [ByteArray.extract_append, show a.size - D.f0.size = 0 by omega]
        simp [h.a0]
      · show a.size + looseOf 0 (D.put 0 s).loose = (D.f0 ++ s).size
        rw [put_loose _ 0 (by decide), looseOf_snoc, ByteArray.size_append]
        have := h.a1; simp; omega
      · exact h.b0
      · show b.size + looseOf 1 (D.put 0 s).loose = D.f1.size
        rw [put_loose _ 0 (by decide), looseOf_snoc]
        have := h.b1; simp; omega
    · refine ⟨?_, ?_, ?_, ?_⟩
      · exact h.a0
      · show a.size + looseOf 0 (D.put 1 s).loose = D.f0.size
        rw [put_loose _ 1 (by decide), looseOf_snoc]
        have := h.a1; simp; omega
      · show (D.f1 ++ s).extract 0 b.size = b
        rw [ByteArray.extract_append, show b.size - D.f1.size = 0 by omega]
        simp [h.b0]
      · show b.size + looseOf 1 (D.put 1 s).loose = (D.f1 ++ s).size
        rw [put_loose _ 1 (by decide), looseOf_snoc, ByteArray.size_append]
        have := h.b1; simp; omega
  · rw [e]
    rcases hf with rfl | rfl
    · show looseAll (D.put 0 s).loose = _
      rw [put_loose _ 0 (by decide), loose_snoc]
    · show looseAll (D.put 1 s).loose = _
      rw [put_loose _ 1 (by decide), loose_snoc]
  · rw [e]
    rcases hf with rfl | rfl
    · show (D.f0 ++ s).size + D.f1.size = _
      rw [ByteArray.size_append]; omega
    · show D.f0.size + (D.f1 ++ s).size = _
      rw [ByteArray.size_append]; omega
theorem extract_pre {x a : ByteArray} {n m : Nat} (h : x.extract 0 n = a) (hn : n ≤ m) : (x.extract 0 m).extract 0 n = a := by
  rw [ByteArray.extract_extract, ← h]; congr 1; omega
/-- What a crash leaves of a disk of which a and b are sure. -/
theorem Sure.crash {D : DS} {a b : ByteArray} (h : Sure D a b) (hk : D.ok) (keep : Int) : ∃ u v : ByteArray, readR (crashD D keep) 0 = u ∧ readR (crashD D keep) 1 = v ∧ looseAll (crashD D keep).loose = 0 ∧
    a.size ≤ u.size ∧ b.size ≤ v.size ∧ u.size ≤ (readR D 0).size ∧ v.size ≤ (readR D 1).size ∧ (readR D 0).extract 0 u.size = u ∧ (readR D 1).extract 0 v.size = v ∧ u.extract 0 a.size = a ∧ v.extract 0 b.size = b ∧
    (u.size : Int) + (v.size : Int) - (a.size : Int) - (b.size : Int) = max 0 (min keep (looseAll D.loose : Int)) := by
  have e0 := undo_file D 0 (by decide) D.loose keep hk.two hk.l0
  have e1 := undo_file D 1 (by decide) D.loose keep hk.two hk.l1
  have s0 := stOf_le 0 D.loose keep
  have s1 := stOf_le 1 D.loose keep
  have sm := stOf_sum D.loose keep hk.two
  generalize stOf 0 D.loose (stays D.loose keep) = k0 at e0 s0 sm
  generalize stOf 1 D.loose (stays D.loose keep) = k1 at e1 s1 sm
  have r0 : readR D 0 = D.f0 := by simp [readR, valid, DS.file]
  have r1 : readR D 1 = D.f1 := by simp [readR, valid, DS.file]
  have c0 : readR (crashD D keep) 0 = D.f0.extract 0 (a.size + k0) := by
    have : (D.file 0).size - looseOf 0 D.loose = a.size := by have := h.a1; show D.f0.size - _ = _; omega
    rw [this] at e0
    rw [← show D.file 0 = D.f0 from rfl, ← e0]
    simp [readR, valid, crashD, DS.sync, DS.file]
  have c1 : readR (crashD D keep) 1 = D.f1.extract 0 (b.size + k1) := by
    have : (D.file 1).size - looseOf 1 D.loose = b.size := by have := h.b1; show D.f1.size - _ = _; omega
    rw [this] at e1
    rw [← show D.file 1 = D.f1 from rfl, ← e1]
    simp [readR, valid, crashD, DS.sync, DS.file]
  have ha := h.a1; have hb := h.b1
  have z0 : (D.f0.extract 0 (a.size + k0)).size = a.size + k0 := by rw [ByteArray.size_extract]; omega
  have z1 : (D.f1.extract 0 (b.size + k1)).size = b.size + k1 := by rw [ByteArray.size_extract]; omega
  refine ⟨_, _, c0, c1, rfl, by omega, by omega, by rw [r0]; omega, by rw [r1]; omega, by rw [r0, z0], by rw [r1, z1], extract_pre h.a0 (by omega), extract_pre h.b0 (by omega), by rw [z0, z1]; omega⟩
theorem put_sizes (d : DS) (f : Int) (s : ByteArray) : (putD d f s).f0.size + (putD d f s).f1.size ≤ d.f0.size + d.f1.size + s.size := by
  unfold putD
  split
  · unfold DS.put
    split <;> simp [ByteArray.size_append] <;> omega
  · omega
end Go.Proofs.Ytjmdiobnappgkaa
