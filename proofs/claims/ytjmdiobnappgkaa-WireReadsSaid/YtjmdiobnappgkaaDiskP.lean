/-
  Layer 14 (disk): the room is kept; small laws for the walk of DiskRoom.
-/
import Derived.Test.YtjmdiobnappgkaaDiskN
namespace Go.Proofs.Ytjmdiobnappgkaa
open Go.RowKit
theorem put_room (d : DS) (f : Int) (s : ByteArray) : (putD d f s).room = d.room := by
  unfold putD; split
  · unfold DS.put; split <;> rfl
  · rfl
theorem trim_room (d : DS) (f n : Int) : (trimD d f n).room = d.room := by
  unfold trimD; split
  · rfl
  · unfold DS.trim; split <;> rfl
theorem turn_room (d : DS) : (turnD d).room = d.room := by
  unfold turnD; split <;> rfl
theorem crash_room (d : DS) (keep : Int) : (crashD d keep).room = d.room :=
  (undoL_loose d d.loose (stays d.loose keep)).2
theorem free_sum {d : DS} (h : d.ok) : (d.free : Int) + (((readR d 0).size : Int) + ((readR d 1).size : Int)) = (d.room : Int) := by
  have h1 := h.fits
  have e0 : readR d 0 = d.f0 := by simp [readR, valid, DS.file]
  have e1 : readR d 1 = d.f1 := by simp [readR, valid, DS.file]
  rw [e0, e1]; unfold DS.free; omega
theorem loose_sum {d : DS} (h : d.ok) : (looseAll d.loose : Int) ≤ ((readR d 0).size : Int) + ((readR d 1).size : Int) := by
  have e0 : readR d 0 = d.f0 := by simp [readR, valid, DS.file]
  have e1 : readR d 1 = d.f1 := by simp [readR, valid, DS.file]
  have h2 := h.l0; have h3 := h.l1
  have := looseAll_two d.loose h.two
  rw [e0, e1]; omega
end Go.Proofs.Ytjmdiobnappgkaa
