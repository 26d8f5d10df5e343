/-
  Layer 15 (journal): the walk of the document's Open.
-/
import Derived.Test.YtjmdiobnappgkaaJD2
namespace Go.Proofs.Ytjmdiobnappgkaa
open Go.RowKit
set_option linter.unusedVariables false
set_option linter.unusedSimpArgs false
/-- The document's journal is opened. -/
def ROPost (w0 w : World) (gd : Nat) (d : DS) (e : Ending) (w' : World) : Prop :=
  ∃ gj v, e = .returned (.pointer (some ⟨gj, 0, none⟩)) ∧ RJ w0 w' gj gd v (openJ d) 0 ∧ w.heap.size ≤ gj ∧ (∀ k, v.ownBlock = some k → w.heap.size ≤ k) ∧ Spare [57, 123] w w' ∧ w.heap.size ≤ w'.heap.size ∧ (openJ d).l.length ≤ d.f0.size
theorem trimD_few (d : DS) (f m : Int) (h : d.loose.length ≤ 0) : (trimD d f m).loose.length ≤ 0 := by
  unfold trimD
  split
  next => exact h
  next hc =>
    have hv : valid f := by
      rcases Classical.em (valid f) with h1 | h1
      · exact h1
      · exact absurd (.inl (.inl h1)) hc
    rw [trim_loose d f.toNat (by unfold valid at hv; omega)]; exact h
section
variable {w0 w w' : World} {gj gd : Nat} {v : Value} {d : DS} {n : Nat}
set_option maxRecDepth 100000 in
set_option maxHeartbeats 1600000 in
theorem r_open (h : FK w0 w gd d) (hsz : d.f0.size ≤ 1000000) : Calls Try.prog 67 #[.pointer (some ⟨gd, 0, none⟩)] w (ROPost w0 w gd d) := by
  have hfin : d.sync.file 0 = d.f0 := rfl
  have hread := sync_read d
  obtain ⟨⟨L, a⟩, hLa⟩ : ∃ p : List ByteArray × Nat, readFrom d.f0 [] 0 = p := ⟨_, rfl⟩
  have hOpen : openJ d = ⟨trimD (trimD d.sync 0 (a : Int)) 1 0, L, L.length, false⟩ := by
    have e : recsOf d.sync = (L, a) := by rw [recsOf, hread]; exact hLa
    rw [openJ, openD, e]
  have hrd := fun wx => rread_any d.f0 hsz wx
  unfold ReadPost at hrd
  rw [hLa] at hrd
  obtain ⟨s, hs⟩ : ∃ s, d.f0 = s := ⟨_, rfl⟩
  rw [hs] at hfin hrd
  have hd0s : s.size ≤ d.f0.size := by rw [hs]; omega
  have Hw := Lib.hid h.sz
  have HOpen := Lib.hid hOpen; have Hfin := Lib.hid hfin; have Hd0 := Lib.hid hd0s; have Hrd := Lib.hid hrd
  clear hfin hread hLa hOpen hrd hd0s hs hsz
  go_enter Try.func67, Try.ntmps67
  go_wp2_with fail
  refine (fz_sync h).mono ?_
  rintro e w1 ⟨rfl, h1, s1, z1⟩
  clear h
  go_wp2_with fail
  refine (fz_read h1 0 (by decide) s Hfin.out).mono ?_
  rintro e w2 ⟨rfl, hb2⟩
  go_wp2_with fail
  refine (Hrd.out w2).mono ?_
  rintro e w3 ⟨v3, rfl, ho3, hb3, hL3, ha3⟩
  have h3 := (h1.below hb2).below hb3
  have S3 := Lib.hid ((s1.trans (Spare.ofBelow hb2)).trans (Spare.ofBelow hb3))
  have Z2 := Lib.hid (Nat.le_trans z1 hb2.size)
  have Z3 := Lib.hid (Nat.le_trans (Nat.le_trans z1 hb2.size) hb3.size)
  have HL := Lib.hid hL3
  have Ho3 := Lib.hid ho3
  clear h1 hb2 hb3 s1 z1 hL3 ha3 ho3
  go_wp2_with fail
  refine (fz_trim h3 0 (a : Int)).mono ?_
  rintro e w4 ⟨rfl, h4, s4, z4⟩
  have S4 := Lib.hid (S3.out.trans s4)
  have Z4 := Lib.hid (Nat.le_trans Z3.out z4)
  have Ho4 := Lib.hid (Ho3.out.rows (RowsL.ofSpare s4 (by decide) []) (by simp))
  clear h3 s4 z4 S3 Z3 Ho3
  go_wp2_with fail
  refine (fz_trim h4 1 0).mono ?_
  rintro e w5 ⟨rfl, h5, s5, z5⟩
  have S5 := Lib.hid (S4.out.trans s5)
  have Z5 := Lib.hid (Nat.le_trans Z4.out z5)
  have ho5 := Ho4.out.rows (RowsL.ofSpare s5 (by decide) []) (by simp)
  obtain ⟨A, cap, hve⟩ := ho5.len
  subst hve
  have Ho5 := Lib.hid ho5
  have hb6 := alloc_below' w5 (.cells (jcells gd (.slice A L.length cap) ⟨trimD (trimD d.sync 0 (a : Int)) 1 0, L, L.length, false⟩) 102)
  have hz0 := h5.sz
  have hRJ : RJ w0 (w5.alloc (.cells (jcells gd (.slice A L.length cap) ⟨trimD (trimD d.sync 0 (a : Int)) 1 0, L, L.length, false⟩) 102)) w5.heap.size gd (.slice A L.length cap) ⟨trimD (trimD d.sync 0 (a : Int)) 1 0, L, L.length, false⟩ 0 :=
    ⟨h5.below hb6, trimD_few _ 1 0 (trimD_few _ 0 _ (by simp [DS.sync])), Blk.new _ _ _, hz0, (Ho5.out.below hb6).mono (Nat.le_trans (show w0.heap.size ≤ w.heap.size from Hw.out) Z2.out)⟩
  have HRJ := Lib.hid hRJ
  have S6 := Lib.hid (S5.out.trans (Spare.ofBelow hb6))
  clear h4 h5 s5 z5 S4 Z4 Ho4 S5 hRJ hb6 ho5
  go_wp2
  go_ret
  refine ⟨w5.heap.size, _, rfl, by rw [HOpen.out]; exact HRJ.out, Z5.out, fun k hk => Nat.le_trans Z2.out (Ho5.out.lt hk).1, S6.out, ?_, by rw [HOpen.out]; exact Nat.le_trans HL.out Hd0.out⟩
  have := Z5.out
  simp; omega
end
end Go.Proofs.Ytjmdiobnappgkaa
