/-
  Small laws of memory and of the walk that the proofs of this seat share. No function of the program is named here.
-/
import Derived.WalkKit
import Derived.WalkSpells
import Derived.WalkLawsBesides
import Derived.Lib.Hide
import Derived.Laws.CopyRow
import Derived.Laws.Tables
import Derived.Laws.IdiomStrings
import Derived.Lib.Strings
import Derived.Lib.Bytes
import Derived.Laws.BitsAllLaws
namespace Go.Proofs.Ytjmdiobnappgkaa
open Go.RowKit
set_option linter.unusedVariables false
set_option linter.unusedSimpArgs false

theorem alloc_setRow (w : World) (cs cs' : Array Value) (t : TypeId) (fr : Nat × Nat) : (w.alloc (.cells cs t fr)).setRow w.heap.size cs' = w.alloc (.cells cs' t fr) := by
  simp only [World.setRow, World.alloc]
  congr 1
  apply Array.ext
  · simp
  · intro i h1 h2
    simp only [Array.getElem_modify]
    by_cases h : w.heap.size = i
    · subst h; simp
    · rw [if_neg h]
      simp only [Array.size_modify, Array.size_push] at h1
      rw [Array.getElem_push_lt (by omega), Array.getElem_push_lt (by omega)]

theorem run_storeCells_new {P : Program} (w : World) (cs : Array Value) (t : TypeId) (news : List Value) (h : news.length = cs.size) (h1 : ∀ v ∈ news, v.oneCell' = true) :
    (storeCells ⟨w.heap.size, 0, none⟩ news).run P (w.alloc (.cells cs t)) = .ok () (w.alloc (.cells news.toArray t)) := by
  have := run_storeCells_at P w.heap.size 0 t news 0 cs (w.alloc (.cells cs t)) (heap_alloc_new w _) (by omega) h1
  rw [this, alloc_setRow]
  congr 3
  have e : cs.toList.drop (0 + 0 + news.length) = [] := by
    apply List.drop_eq_nil_of_le; simp [h]
  rw [e]; simp

theorem below_drewN' {B : Nat} {a w : World} (h : Below B a w) (n : Nat) : Below B a (w.drewN n) := ⟨h.os, h.tape, h.output, h.size, h.block⟩

/-- '[]byte(s)': a new block with the bytes. -/
theorem conv_bytes {P : Program} (w : World) (src dst e : TypeId) (s : ByteArray) (hs : P.underlying src = some .string) (hd : P.underlying dst = some (.slice e)) (he : P.underlying e = some (.int .u8)) :
    ∃ cap w2, (convert src dst (.string s)).run P w = .ok (.slice (some ⟨w.heap.size, 0, none⟩) s.size cap) w2 ∧ Below w.heap.size w w2 ∧ w2.heap.size = w.heap.size + 1 ∧ s.size ≤ cap ∧
      ∀ i (h : i < s.size), w2.cell? ⟨w.heap.size, i, none⟩ = some (.int .u8 (s[i].toNat : Int)) := by
  refine ⟨_, _, run_bytes_of_string w src dst e s hs hd he, ?_, ?_, grownCap_ge _ _ _ _, ?_⟩
  · exact ((Below.refl _ _).drew).alloc (Nat.le_refl _) _
  · simp
  · intro i hi
    have h1 : w.drew.heap.size = w.heap.size := rfl
    have := World.cell?_alloc_mark w.drew (bytesRow s (grownCap w s.size 0 e)) e ((bytesRow s (grownCap w s.size 0 e)).size, (bytesRow s (grownCap w s.size 0 e)).size + 1) i
    rw [h1] at this
    rw [this]
    exact bytesRow_at s _ i hi
end Go.Proofs.Ytjmdiobnappgkaa
