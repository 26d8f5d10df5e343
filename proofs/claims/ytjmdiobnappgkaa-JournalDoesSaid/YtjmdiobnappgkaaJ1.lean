/-
  Layer 15 (journal): the plain model: frames, the records that bytes begin with, the journal's calls.
-/
import Derived.Test.YtjmdiobnappgkaaJC
namespace Go.Proofs.Ytjmdiobnappgkaa
open Go.RowKit
set_option linter.unusedVariables false
set_option linter.unusedSimpArgs false

def crcStr (s : ByteArray) : ByteArray := strOfNums (putL (CrcM.on 0 s.data.toList))
theorem crcStr_size (s : ByteArray) : (crcStr s).size = 4 := rfl
/-- A record as it stands. -/
def frameS (s : ByteArray) : ByteArray := if s.size = 0 ∨ 4096 < s.size then ⟨#[]⟩ else blobStr s ++ crcStr s
theorem frameS_no {s : ByteArray} (h : s.size = 0 ∨ 4096 < s.size) : frameS s = ⟨#[]⟩ := by rw [frameS, if_pos h]
theorem frameS_yes {s : ByteArray} (h0 : ¬ s.size = 0) (h1 : ¬ 4096 < s.size) : frameS s = blobStr s ++ crcStr s := by rw [frameS, if_neg (by omega)]
theorem empty_size : (⟨#[]⟩ : ByteArray).size = 0 := rfl
theorem frameS_size (s : ByteArray) : (frameS s).size ≤ 4110 ∧ ((frameS s).size = 0 ↔ (s.size = 0 ∨ 4096 < s.size)) ∧ ((frameS s).size = 0 ∨ s.size + 5 ≤ (frameS s).size ∧ (frameS s).size ≤ s.size + 14) := by
  by_cases h : s.size = 0 ∨ 4096 < s.size
  · rw [frameS_no h, empty_size]
    exact ⟨by omega, ⟨fun _ => h, fun _ => rfl⟩, .inl rfl⟩
  · rw [frameS_yes (by omega) (by omega), ByteArray.size_append, crcStr_size]
    have h1 := blobStr_size s (by omega)
    have h2 : s.size + 1 ≤ (blobStr s).size := by
      rw [blobStr, ByteArray.size_append]
      have := numL_pos s.size
      have e : (⟨(numL s.size).toArray⟩ : ByteArray).size = (numL s.size).length := List.size_toArray ..
      omega
    exact ⟨by omega, ⟨fun h => by omega, fun h' => absurd h' h⟩, .inr ⟨by omega, by omega⟩⟩
/-- What Blob makes of bytes. -/
def blobOf (t : ByteArray) : ByteArray := (⟨t, 0⟩ : RD).blobS 4096
/-- Does the frame of what Blob makes stand there? -/
def stands (t : ByteArray) : Prop := ¬ (frameS (blobOf t)).size = 0 ∧ (frameS (blobOf t)).size ≤ t.size ∧ t.extract 0 (frameS (blobOf t)).size = frameS (blobOf t)
instance (t : ByteArray) : Decidable (stands t) := inferInstanceAs (Decidable (¬ (frameS (blobOf t)).size = 0 ∧ (frameS (blobOf t)).size ≤ t.size ∧ t.extract 0 (frameS (blobOf t)).size = frameS (blobOf t)))
/-- The record whose frame bytes begin with; empty: none. -/
def firstS (t : ByteArray) : ByteArray := if stands t then blobOf t else ⟨#[]⟩
theorem firstS_yes {t : ByteArray} (h : stands t) : firstS t = blobOf t := by rw [firstS, if_pos h]
theorem firstS_no {t : ByteArray} (h : ¬ stands t) : firstS t = ⟨#[]⟩ := by rw [firstS, if_neg h]
theorem frameS_pos {s : ByteArray} (h : ¬ (frameS s).size = 0) : ¬ s.size = 0 := fun h0 => h ((frameS_size s).2.1.2 (.inl h0))
theorem firstS_pos {t : ByteArray} (h : ¬ (firstS t).size = 0) : stands t ∧ 0 < (frameS (firstS t)).size ∧ (frameS (firstS t)).size ≤ t.size := by
  by_cases hs : stands t
  · rw [firstS_yes hs] at h ⊢
    exact ⟨hs, by have := hs.1; omega, hs.2.1⟩
  · rw [firstS_no hs] at h; exact absurd rfl h
theorem firstS_zero {t : ByteArray} : (firstS t).size = 0 ↔ ¬ stands t := by
  constructor
  · intro h hs
    rw [firstS_yes hs] at h
    exact frameS_pos hs.1 h
  · intro h; rw [firstS_no h]; rfl
def readN (s : ByteArray) : Nat → List ByteArray → Nat → List ByteArray × Nat
  | 0, l, a => (l, a)
  | n + 1, l, a => if (firstS (s.extract a s.size)).size = 0 then (l, a) else readN s n (l ++ [firstS (s.extract a s.size)]) (a + (frameS (firstS (s.extract a s.size))).size)
theorem readN_end {s : ByteArray} {l : List ByteArray} {a : Nat} (n : Nat) (h : (firstS (s.extract a s.size)).size = 0) : readN s (n + 1) l a = (l, a) := if_pos h
theorem readN_step {s : ByteArray} {l : List ByteArray} {a : Nat} (n : Nat) (h : ¬ (firstS (s.extract a s.size)).size = 0) :
    readN s (n + 1) l a = readN s n (l ++ [firstS (s.extract a s.size)]) (a + (frameS (firstS (s.extract a s.size))).size) := if_neg h
theorem first_room {s : ByteArray} {a : Nat} (h : ¬ (firstS (s.extract a s.size)).size = 0) : 0 < (frameS (firstS (s.extract a s.size))).size ∧ a + (frameS (firstS (s.extract a s.size))).size ≤ s.size ∧ a < s.size := by
  obtain ⟨_, h1, h2⟩ := firstS_pos h
  rw [ByteArray.size_extract] at h2
  omega
theorem readN_same (s : ByteArray) : ∀ (n m : Nat) (l : List ByteArray) (a : Nat), s.size - a < n → s.size - a < m → readN s n l a = readN s m l a
  | 0, m, l, a, h1, h2 => by omega
  | n + 1, 0, l, a, h1, h2 => by omega
  | n + 1, m + 1, l, a, h1, h2 => by
    by_cases h : (firstS (s.extract a s.size)).size = 0
    · rw [readN_end n h, readN_end m h]
    · rw [readN_step n h, readN_step m h]
      have := first_room h
      exact readN_same s n m _ _ (by omega) (by omega)
/-- The records that bytes begin with, from a place on. -/
def readFrom (s : ByteArray) (l : List ByteArray) (at_ : Nat) : List ByteArray × Nat := readN s (s.size - at_ + 1) l at_
theorem readFrom_end {s : ByteArray} {l : List ByteArray} {at_ : Nat} (h : (firstS (s.extract at_ s.size)).size = 0) : readFrom s l at_ = (l, at_) := readN_end _ h
theorem readFrom_step {s : ByteArray} {l : List ByteArray} {at_ : Nat} (h : ¬ (firstS (s.extract at_ s.size)).size = 0) :
    readFrom s l at_ = readFrom s (l ++ [firstS (s.extract at_ s.size)]) (at_ + (frameS (firstS (s.extract at_ s.size))).size) := by
  unfold readFrom
  rw [readN_step _ h]
  have := first_room h
  exact readN_same s _ _ _ _ (by omega) (by omega)
theorem readN_at (s : ByteArray) : ∀ (n : Nat) (l : List ByteArray) (a : Nat), a ≤ s.size → (readN s n l a).2 ≤ s.size
  | 0, l, a, h => h
  | n + 1, l, a, h => by
    by_cases h0 : (firstS (s.extract a s.size)).size = 0
    · rw [readN_end n h0]; exact h
    · rw [readN_step n h0]
      exact readN_at s n _ _ (first_room h0).2.1
theorem readFrom_at (s : ByteArray) (l : List ByteArray) (at_ : Nat) (h : at_ ≤ s.size) : (readFrom s l at_).2 ≤ s.size := readN_at s _ l at_ h

/-- A journal: its disk, its records, how many are sure, whether it was cut off. -/
structure JS where
  d : DS
  l : List ByteArray
  sure : Nat
  cut : Bool
def recsOf (d : DS) : List ByteArray × Nat := readFrom (readR d 0) [] 0
def openD (d : DS) : DS := trimD (trimD d.sync 0 ((recsOf d.sync).2 : Int)) 1 0
def openJ (d : DS) : JS := ⟨openD d, (recsOf d.sync).1, (recsOf d.sync).1.length, false⟩
def looseR (j : JS) (s : ByteArray) : Int := if j.cut = true then 7 else if (frameS s).size = 0 then 1 else putR j.d 0 (frameS s)
def looseJ (j : JS) (s : ByteArray) : JS := if looseR j s = 0 then ⟨putD j.d 0 (frameS s), j.l ++ [s], j.sure, j.cut⟩ else j
def addJ (j : JS) (s : ByteArray) : JS := if looseR j s = 0 then ⟨(putD j.d 0 (frameS s)).sync, j.l ++ [s], j.l.length + 1, j.cut⟩ else j
def framesS : List ByteArray → ByteArray
  | [] => ⟨#[]⟩
  | s :: l => frameS s ++ framesS l
/-- May all of them be records? -/
def fine (l : List ByteArray) : Prop := ∀ s ∈ l, ¬ (frameS s).size = 0
instance (l : List ByteArray) : Decidable (fine l) := inferInstanceAs (Decidable (∀ s ∈ l, ¬ (frameS s).size = 0))
def renewR (j : JS) (l : List ByteArray) (n : Int) : Int :=
  if j.cut = true ∨ j.sure < j.l.length then 7 else if ¬ fine l ∨ n < 0 then 1 else if n = 0 then 7 else
  if ¬ putR j.d 1 (framesS l) = 0 then putR j.d 1 (framesS l) else if n < 4 then 7 else 0
def renewJ (j : JS) (l : List ByteArray) (n : Int) : JS :=
  if j.cut = true ∨ j.sure < j.l.length then j else if ¬ fine l ∨ n < 0 then j else if n = 0 then ⟨j.d, j.l, j.sure, true⟩ else
  if ¬ putR j.d 1 (framesS l) = 0 then j else
  if n = 1 then ⟨putD j.d 1 (framesS l), j.l, j.sure, true⟩ else
  if n = 2 then ⟨(putD j.d 1 (framesS l)).sync, j.l, j.sure, true⟩ else
  if n = 3 then ⟨turnD (putD j.d 1 (framesS l)).sync, j.l, j.sure, true⟩ else
  ⟨trimD (turnD (putD j.d 1 (framesS l)).sync) 1 0, l, l.length, j.cut⟩
theorem framesS_append (a b : List ByteArray) : framesS (a ++ b) = framesS a ++ framesS b := by
  induction a with
  | nil =>
    show framesS b = (⟨#[]⟩ : ByteArray) ++ framesS b
    apply ba_list; rw [ByteArray.data_append]; simp
  | cons x l ih => rw [List.cons_append, framesS, ih, framesS, ByteArray.append_assoc]
theorem framesS_snoc (a : List ByteArray) (s : ByteArray) : framesS (a ++ [s]) = framesS a ++ frameS s := by
  rw [framesS_append]
  congr 1
  show frameS s ++ (⟨#[]⟩ : ByteArray) = frameS s
  apply ba_list; rw [ByteArray.data_append]; simp
theorem putR_zero (d : DS) (f : Int) (s : ByteArray) (hf : valid f) : putR d f s = 0 ↔ s.size ≤ d.free := by
  rw [putR, if_pos hf]; split <;> omega
theorem putD_same {d : DS} {f : Int} {s : ByteArray} (h : ¬ putR d f s = 0) : putD d f s = d := by
  rw [putD, if_neg]
  rintro ⟨h1, h2⟩
  exact h ((putR_zero d f s h1).2 (by omega))
end Go.Proofs.Ytjmdiobnappgkaa
