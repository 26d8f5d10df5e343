/-
  Layer 14 (disk): the walks of Copy and Crash.
-/
import Derived.Test.YtjmdiobnappgkaaDiskW2
import Derived.Test.YtjmdiobnappgkaaMemCopy
namespace Go.Proofs.Ytjmdiobnappgkaa
open Go.RowKit
set_option linter.unusedVariables false
set_option linter.unusedSimpArgs false

set_option maxRecDepth 100000 in
set_option maxHeartbeats 400000 in
theorem copy_any {base g : Nat} {v : Value} {d : DS} {w : World} (h : IsDisk w base g v d) (hk : d.ok) : Calls Try.prog 41 #[.pointer (some ⟨g, 0, none⟩)] w fun e w' => ∃ g' v', e = .returned (.pointer (some ⟨g', 0, none⟩)) ∧ IsDisk w' w.heap.size g' v' d ∧ Below w.heap.size w w' := by
  obtain ⟨A, cp, rfl, hvl⟩ := own_form h.own
  have c0 := h.c0
  have c1 := h.c1
  have c2 := h.c2
  have c3 := h.c3
  obtain ⟨i0, hi, hz0, hz1, hz2⟩ := info_parts info120
  have hfew := hk.few
  have hgl := h.blk.lt
  have H := Lib.hid h; clear h
  have Hvl := Lib.hid hvl; clear hvl
  have hone : ∀ u ∈ lvals d.loose, u.oneCell' = true := by
    intro u hu; simp only [lvals, List.mem_flatMap] at hu; obtain ⟨p, _, hu⟩ := hu; simp at hu; rcases hu with rfl | rfl <;> rfl
  have Hone := Lib.hid hone; clear hone
  go_enter Try.func41, Try.ntmps41
  go_wp2_with (at_builtin; refine wpList_append_copy rfl _ _ 115 rfl base w.heap.size 120 i0 _ 2 16 Try.underlying115 hi hz0 hz1 hz2 rfl (by decide) rfl _ _ _ rfl (H.out.own.alloc _) Hone.out (by unfold maxLen; omega) (by omega) (by simp) ?_)
  intro A' c' w2 hown2 hg2 hl2
  have hb2 : Blk w2 w.heap.size 117 (dcells d (.slice A d.loose.length cp)) := (Blk.new w 117 _).grown hg2 (by simp)
  have k2 := hb2.cell 2
  have f2 := hb2.frozen 2
  have hk2 : w2.cell? ⟨w.heap.size, 2, none⟩ = some (.slice A d.loose.length cp) := k2
  have Hb2 := Lib.hid hb2; clear hb2 k2
  have Hg2 := Lib.hid hg2; clear hg2
  have Hl2 := Lib.hid hl2; clear hl2
  go_wp2
  go_ret
  refine ⟨w.heap.size, .slice A' d.loose.length c', rfl, ⟨?_, Nat.le_refl _, ?_⟩, ?_⟩
  · exact Hb2.out.set_ 2 _
  · refine own_set_far (p := ⟨w.heap.size, 2, none⟩) hown2 ?_ _
    intro hc
    have := Hl2.out _ hc
    simp at this
    omega
  · exact (((Below.refl _ _).alloc (Nat.le_refl _) _).grown Hg2.out (by simp) (by simp)).setCell (p := ⟨w.heap.size, 2, none⟩) (Nat.le_refl _) _
end Go.Proofs.Ytjmdiobnappgkaa
