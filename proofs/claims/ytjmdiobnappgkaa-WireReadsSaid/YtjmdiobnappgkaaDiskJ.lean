/-
  Layer 14 (disk): the program's disk and the document's: when they are the same, and that each method keeps them so: plain laws.
-/
import Derived.Test.YtjmdiobnappgkaaDiskQ
import Derived.Test.YtjmdiobnappgkaaDiskG5
namespace Go.Proofs.Ytjmdiobnappgkaa
open Go.RowKit
set_option linter.unusedVariables false
set_option linter.unusedSimpArgs false

def expand (l : List (Nat × Nat)) : List Nat := l.flatMap fun p => List.replicate p.2 p.1
theorem expand_cons (p : Nat × Nat) (l : List (Nat × Nat)) : expand (p :: l) = List.replicate p.2 p.1 ++ expand l := rfl
theorem expand_append (a b : List (Nat × Nat)) : expand (a ++ b) = expand a ++ expand b := by simp [expand]
theorem expand_length (l : List (Nat × Nat)) : (expand l).length = looseAll l := by
  induction l with
  | nil => rfl
  | cons p l ih => rw [expand_cons, looseAll_cons, List.length_append, List.length_replicate, ih]
theorem expand_count (f : Nat) (l : List (Nat × Nat)) : (expand l).count f = looseOf f l := by
  induction l with
  | nil => rfl
  | cons p l ih => rw [expand_cons, looseOf_cons, List.count_append, List.count_replicate, ih]; simp
theorem bytesOf_count (f : Nat) (l : List (Nat × UInt8)) : (bytesOf f l).length = (l.map (·.1)).count f := by
  induction l with
  | nil => rfl
  | cons p l ih =>
    have : bytesOf f (p :: l) = (if p.1 = f then [p.2] else []) ++ bytesOf f l := by
      unfold bytesOf; by_cases h : p.1 = f <;> simp [h]
    rw [this, List.length_append, ih, List.map_cons, List.count_cons]
    by_cases h : p.1 = f <;> simp [h] <;> omega
theorem expand_take (f : Nat) : ∀ (l : List (Nat × Nat)) (keep : Int), ((expand l).take (stayN keep (looseAll l))).count f = stOf f l (stays l keep)
  | [], keep => by simp [expand, stays, stOf]
  | p :: l, keep => by
    have ih := expand_take f l (keep - stay keep p.2)
    rw [expand_cons, looseAll_cons, stays, stOf, List.take_append, List.count_append, List.length_replicate, List.take_replicate, List.count_replicate]
    have e1 : min (stayN keep (p.2 + looseAll l)) p.2 = stay keep p.2 := by unfold stayN stay; omega
    have e2 : stayN keep (p.2 + looseAll l) - p.2 = stayN (keep - stay keep p.2) (looseAll l) := by unfold stayN stay; omega
    rw [e1, e2, ih]; simp

structure Rel (d : DS) (r : RS) : Prop where
  room : d.room = r.room
  f0 : r.file 0 = d.f0
  f1 : r.file 1 = d.f1
  loose : r.loose.map (·.1) = expand d.loose

section
variable {d : DS} {r : RS}
theorem Rel.len (h : Rel d r) : r.loose.length = looseAll d.loose := by
  rw [← expand_length, ← h.loose, List.length_map]
theorem rfile_size (r : RS) (f : Nat) : (r.file f).size = (if f = 0 then r.a else r.b).size + (bytesOf f r.loose).length := by
  show (((if f = 0 then r.a else r.b).data.toList ++ bytesOf f r.loose).toArray).size = _
  rw [List.size_toArray, List.length_append, Array.length_toList]; rfl
theorem Rel.sizes (h : Rel d r) : d.f0.size = r.a.size + looseOf 0 d.loose ∧ d.f1.size = r.b.size + looseOf 1 d.loose := by
  have h0 := rfile_size r 0
  have h1 := rfile_size r 1
  rw [bytesOf_count, h.loose, expand_count] at h0 h1
  rw [h.f0] at h0; rw [h.f1] at h1
  exact ⟨h0, h1⟩
theorem Rel.ok (h : Rel d r) (hk : d.ok) : r.ok := by
  have hs := h.sizes
  have hl := h.len
  have h2 := looseAll_two d.loose hk.two
  have hf := hk.fits
  exact ⟨by rw [← h.room]; omega, by rw [← h.room]; exact hk.room⟩
theorem Rel.free (h : Rel d r) (hk : d.ok) : (r.room : Int) - (r.a.size : Int) - (r.b.size : Int) - (r.loose.length : Int) = (d.free : Int) := by
  have hs := h.sizes
  have hl := h.len
  have h2 := looseAll_two d.loose hk.two
  have hf := hk.fits
  have hr := h.room
  unfold DS.free; omega
theorem Rel.file (h : Rel d r) (f : Nat) (hf : f < 2) : r.file f = d.file f := by
  have : f = 0 ∨ f = 1 := by omega
  rcases this with rfl | rfl
  · exact h.f0
  · exact h.f1
theorem ba_ext {a b : ByteArray} (h : a.data = b.data) : a = b := by cases a; cases b; simp at h; rw [h]
theorem bytesOf_append (f : Nat) (a b : List (Nat × UInt8)) : bytesOf f (a ++ b) = bytesOf f a ++ bytesOf f b := by simp [bytesOf]
theorem bytesOf_map (f g : Nat) (l : List UInt8) : bytesOf f (l.map fun c => (g, c)) = if g = f then l else [] := by
  induction l with
  | nil => simp [bytesOf]
  | cons c l ih =>
    by_cases h : g = f
    · simp [bytesOf, h] at ih ⊢; exact ih
    · simp [bytesOf, h] at ih ⊢
theorem rput_file (r : RS) (g f : Nat) (s : ByteArray) : (r.put g s.data.toList).file f = if g = f then r.file f ++ s else r.file f := by
  apply ba_ext
  unfold RS.file RS.put
  rw [bytesOf_append, bytesOf_map]
  by_cases h : g = f
  · simp only [h, if_true, if_pos]
    rw [ByteArray.data_append, ← List.append_assoc]
    apply Array.ext'; simp
  · simp [h]
theorem Rel.put (h : Rel d r) (f : Nat) (hf : f < 2) (s : ByteArray) : Rel (d.put f s) (r.put f s.data.toList) := by
  have hl : (r.put f s.data.toList).loose.map (·.1) = expand (d.put f s).loose := by
    rw [put_loose d f hf, expand_append, ← h.loose]
    have : s.data.toList.length = s.size := by rw [Array.length_toList]; rfl
    have e : (s.data.toList.map fun c => (f, c)).map (·.1) = List.replicate s.size f := by
      rw [List.map_map, ← this]
      generalize s.data.toList = l
      induction l with
      | nil => rfl
      | cons c l ih => rw [List.map_cons, List.length_cons, List.replicate_succ, ih]; rfl
    simp [RS.put, expand, e] at e ⊢
  have : f = 0 ∨ f = 1 := by omega
  rcases this with rfl | rfl
  · refine ⟨h.room, ?_, ?_, hl⟩
    · rw [rput_file, if_pos rfl, h.f0]; rfl
    · rw [rput_file, if_neg (by decide), h.f1]; rfl
  · refine ⟨h.room, ?_, ?_, hl⟩
    · rw [rput_file, if_neg (by decide), h.f0]; rfl
    · rw [rput_file, if_pos rfl, h.f1]; rfl
theorem ba_self (a : ByteArray) : (⟨a.data.toList.toArray⟩ : ByteArray) = a := by apply ba_ext; simp
theorem rsync_file (r : RS) (f : Nat) (hf : f < 2) : r.sync.file f = r.file f := by
  have : f = 0 ∨ f = 1 := by omega
  rcases this with rfl | rfl
  · show (⟨((r.file 0).data.toList ++ []).toArray⟩ : ByteArray) = _
    rw [List.append_nil, ba_self]
  · show (⟨((r.file 1).data.toList ++ []).toArray⟩ : ByteArray) = _
    rw [List.append_nil, ba_self]
theorem Rel.sync (h : Rel d r) : Rel d.sync r.sync :=
  ⟨h.room, (rsync_file r 0 (by decide)).trans h.f0, (rsync_file r 1 (by decide)).trans h.f1, rfl⟩
theorem Rel.turn (h : Rel d r) (hl : looseAll d.loose = 0) : Rel d.turn r.turn := by
  have e : r.loose.length = 0 := h.len.trans hl
  have e2 : r.turn.loose.length = 0 := e
  have h0 := h.f0; have h1 := h.f1
  rw [rfile_loose0 e] at h0 h1
  refine ⟨h.room, ?_, ?_, h.loose⟩
  · rw [rfile_loose0 e2]; exact h1
  · rw [rfile_loose0 e2]; exact h0
theorem Rel.trim (h : Rel d r) (hl : looseAll d.loose = 0) (f n : Nat) (hf : f < 2) : Rel (d.trim f n) (r.trim f n) := by
  have e : r.loose.length = 0 := h.len.trans hl
  have h0 := h.f0; have h1 := h.f1
  rw [rfile_loose0 e] at h0 h1
  simp at h0 h1
  have : f = 0 ∨ f = 1 := by omega
  rcases this with rfl | rfl
  · have e2 : (r.trim 0 n).loose.length = 0 := e
    refine ⟨h.room, ?_, ?_, h.loose⟩
    · rw [rfile_loose0 e2]; show r.a.extract 0 n = d.f0.extract 0 n; rw [h0]
    · rw [rfile_loose0 e2]; exact h1
  · have e2 : (r.trim 1 n).loose.length = 0 := e
    refine ⟨h.room, ?_, ?_, h.loose⟩
    · rw [rfile_loose0 e2]; exact h0
    · rw [rfile_loose0 e2]; show r.b.extract 0 n = d.f1.extract 0 n; rw [h1]
theorem lose_file (r : RS) (m f : Nat) : (r.lose m).file f = (r.file f).extract 0 ((if f = 0 then r.a else r.b).size + (bytesOf f (r.loose.take m)).length) := by
  have hsp : bytesOf f r.loose = bytesOf f (r.loose.take m) ++ bytesOf f (r.loose.drop m) := by rw [← bytesOf_append, List.take_append_drop]
  have e : r.file f = (⟨((if f = 0 then r.a else r.b).data.toList ++ bytesOf f (r.loose.take m)).toArray⟩ : ByteArray) ++ ⟨(bytesOf f (r.loose.drop m)).toArray⟩ := by
    apply ba_ext; unfold RS.file; rw [hsp, ByteArray.data_append]; apply Array.ext'; simp
  have hsz : ((if f = 0 then r.a else r.b).size + (bytesOf f (r.loose.take m)).length) = (⟨((if f = 0 then r.a else r.b).data.toList ++ bytesOf f (r.loose.take m)).toArray⟩ : ByteArray).size := by
    show _ = (((if f = 0 then r.a else r.b).data.toList ++ bytesOf f (r.loose.take m)).toArray).size
    rw [List.size_toArray, List.length_append, Array.length_toList]; rfl
  rw [e, hsz, ByteArray.extract_append_eq_left rfl]
  rfl
theorem Rel.crash (h : Rel d r) (hk : d.ok) (keep : Int) : Rel (crashD d keep) (r.lose (stayN keep r.loose.length)).sync := by
  have hs := h.sizes
  have e0 := undo_file d 0 (by decide) d.loose keep hk.two hk.l0
  have e1 := undo_file d 1 (by decide) d.loose keep hk.two hk.l1
  have hc : ∀ f, (bytesOf f (r.loose.take (stayN keep r.loose.length))).length = stOf f d.loose (stays d.loose keep) := by
    intro f
    rw [bytesOf_count, List.map_take, h.loose, h.len, expand_take]
  refine ⟨?_, ?_, ?_, rfl⟩
  · rw [crash_room]; exact h.room
  · rw [rsync_file _ 0 (by decide), lose_file, hc, h.f0]
    show _ = (undoL d d.loose (stays d.loose keep)).file 0
    rw [e0]
    show d.f0.extract 0 _ = d.f0.extract 0 _
    congr 1
    show r.a.size + _ = d.f0.size - _ + _
    omega
  · rw [rsync_file _ 1 (by decide), lose_file, hc, h.f1]
    show _ = (undoL d d.loose (stays d.loose keep)).file 1
    rw [e1]
    show d.f1.extract 0 _ = d.f1.extract 0 _
    congr 1
    show r.b.size + _ = d.f1.size - _ + _
    omega
theorem Rel.start (n : Nat) : Rel (DS.empty n) ⟨⟨#[]⟩, ⟨#[]⟩, [], n⟩ := ⟨rfl, rfl, rfl, rfl⟩
end
end Go.Proofs.Ytjmdiobnappgkaa
