/-
  Layer 15 (journal): how the document's journal lies in memory; the walks of its Loose and Add.
-/
import Derived.Test.YtjmdiobnappgkaaJW
namespace Go.Proofs.Ytjmdiobnappgkaa
open Go.RowKit
set_option linter.unusedVariables false
set_option linter.unusedSimpArgs false

/-- In world w block g is the document's disk in state d, made since w0. -/
def FK (w0 w : World) (g : Nat) (d : DS) : Prop := (∃ r, RK w0 w g r ∧ Rel d r) ∧ d.ok
section
variable {w0 w w' : World} {g : Nat} {d : DS}
theorem RK.spareT {r : RS} {T : List TypeId} (h : RK w0 w g r) (hb : Below w0.heap.size w0 w') (hs : Spare T w w') (h1 : 57 ∉ T) (h2 : 123 ∉ T) : RK w0 w' g r := by
  obtain ⟨⟨v, hv⟩, hb0, h3⟩ := h
  exact ⟨⟨v, hv.spare hs h1 h2⟩, hb, hb.size⟩
theorem FK.spareT {T : List TypeId} (h : FK w0 w g d) (hb : Below w0.heap.size w0 w') (hs : Spare T w w') (h1 : 57 ∉ T) (h2 : 123 ∉ T) : FK w0 w' g d := by
  obtain ⟨⟨r, hr, hd⟩, hk⟩ := h
  exact ⟨⟨r, hr.spareT hb hs h1 h2, hd⟩, hk⟩
theorem FK.below (h : FK w0 w g d) (hb : Below w.heap.size w w') : FK w0 w' g d := by
  obtain ⟨⟨r, hr, hd⟩, hk⟩ := h
  exact ⟨⟨r, hr.below hb, hd⟩, hk⟩
theorem FK.b0 (h : FK w0 w g d) : Below w0.heap.size w0 w := by obtain ⟨⟨r, hr, hd⟩, hk⟩ := h; exact hr.2.1
theorem FK.sz (h : FK w0 w g d) : w0.heap.size ≤ w.heap.size := by obtain ⟨⟨r, hr, hd⟩, hk⟩ := h; exact hr.2.2
theorem putD_okd (hk : d.ok) (hn : d.loose.length < 1000000) (f : Int) (s : ByteArray) : (putD d f s).ok := by
  unfold putD
  split
  next h => exact put_okd hk f.toNat (by have := h.1; unfold valid at this; omega) s (by omega) hn
  next h => exact hk
theorem turnD_okd (hk : d.ok) : (turnD d).ok := by
  unfold turnD
  split
  next h => exact hk
  next h => exact turn_okd hk (by omega)
theorem trimD_okd (hk : d.ok) (f m : Int) : (trimD d f m).ok := by
  unfold trimD
  split
  next h => exact hk
  next h =>
    have hv : valid f := by
      rcases Classical.em (valid f) with h1 | h1
      · exact h1
      · exact absurd (.inl (.inl h1)) h
    exact trim_okd hk f.toNat m.toNat (by unfold valid at hv; omega) (by omega)
theorem fz_put (h : FK w0 w g d) (hn : d.loose.length < 1000000) (f : Int) (s : ByteArray) : Calls Try.prog 86 #[.pointer (some ⟨g, 0, none⟩), .int .i64 f, .string s] w fun e w' => e = .returned (.int .i64 (putR d f s)) ∧ FK w0 w' g (putD d f s) ∧ Spare [57, 123] w w' ∧ w.heap.size ≤ w'.heap.size := by
  obtain ⟨⟨r, hr, hd⟩, hk⟩ := h
  refine (rz_put hr hd hk f s).mono ?_
  rintro e w' ⟨h1, h2, h3⟩
  exact ⟨h1, ⟨h2, putD_okd hk hn f s⟩, h3⟩
theorem fz_sync (h : FK w0 w g d) : Calls Try.prog 87 #[.pointer (some ⟨g, 0, none⟩)] w fun e w' => e = .returned (.tuple #[]) ∧ FK w0 w' g d.sync ∧ Spare [57, 123] w w' ∧ w.heap.size ≤ w'.heap.size := by
  obtain ⟨⟨r, hr, hd⟩, hk⟩ := h
  refine (rz_sync hr hd hk).mono ?_
  rintro e w' ⟨h1, h2, h3⟩
  exact ⟨h1, ⟨h2, sync_okd hk⟩, h3⟩
theorem fz_crash (h : FK w0 w g d) (keep : Int) (h1 : -9223372036854775808 ≤ keep) (h2 : keep ≤ 9223372036854775807) : Calls Try.prog 74 #[.pointer (some ⟨g, 0, none⟩), .int .i64 keep] w fun e w' => e = .returned (.tuple #[]) ∧ FK w0 w' g (crashD d keep) ∧ Spare [57, 123] w w' ∧ w.heap.size ≤ w'.heap.size := by
  obtain ⟨⟨r, hr, hd⟩, hk⟩ := h
  refine (rz_crash hr hd hk keep h1 h2).mono ?_
  rintro e w' ⟨h1, h2, h3⟩
  exact ⟨h1, ⟨h2, crash_okd hk keep⟩, h3⟩
theorem fz_turn (h : FK w0 w g d) : Calls Try.prog 89 #[.pointer (some ⟨g, 0, none⟩)] w fun e w' => e = .returned (.int .i64 (turnR d)) ∧ FK w0 w' g (turnD d) ∧ Spare [57, 123] w w' ∧ w.heap.size ≤ w'.heap.size := by
  obtain ⟨⟨r, hr, hd⟩, hk⟩ := h
  refine (rz_turn hr hd hk).mono ?_
  rintro e w' ⟨h1, h2, h3⟩
  exact ⟨h1, ⟨h2, turnD_okd hk⟩, h3⟩
theorem fz_trim (h : FK w0 w g d) (f m : Int) : Calls Try.prog 88 #[.pointer (some ⟨g, 0, none⟩), .int .i64 f, .int .i64 m] w fun e w' => e = .returned (.int .i64 (trimR d f m)) ∧ FK w0 w' g (trimD d f m) ∧ Spare [57, 123] w w' ∧ w.heap.size ≤ w'.heap.size := by
  obtain ⟨⟨r, hr, hd⟩, hk⟩ := h
  refine (rz_trim hr hd hk f m).mono ?_
  rintro e w' ⟨h1, h2, h3⟩
  exact ⟨h1, ⟨h2, trimD_okd hk f m⟩, h3⟩
theorem fz_read (h : FK w0 w g d) (f : Nat) (hf : f < 2) (s : ByteArray) (hs : d.file f = s) : Calls Try.prog 43 #[.pointer (some ⟨g, 0, none⟩), .int .i64 (f : Int)] w fun e w' => e = .returned (.string s) ∧ Below w.heap.size w w' := by
  obtain ⟨⟨r, hr, hd⟩, hk⟩ := h
  obtain ⟨⟨v, hv⟩, _⟩ := hr
  have := rread_yes hv (hd.ok hk) f hf
  rw [hd.file f hf, hs] at this
  exact this
end

/-- In world w block gj is the document's journal j over its disk gd; its row is v; all made since w0. -/
structure RJ (w0 w : World) (gj gd : Nat) (v : Value) (j : JS) (n : Nat) : Prop where
  dk : FK w0 w gd j.d
  few : j.d.loose.length ≤ n
  blk : Blk w gj 102 (jcells gd v j)
  hb : w0.heap.size ≤ gj
  own : SOwn w0.heap.size w v j.l
section
variable {w0 w w' : World} {gj gd : Nat} {v : Value} {j : JS} {n : Nat}
theorem RJ.c0 (h : RJ w0 w gj gd v j n) : w.cell? ⟨gj, 0, none⟩ = some (.pointer (some ⟨gd, 0, none⟩)) := h.blk.cell 0
theorem RJ.c1 (h : RJ w0 w gj gd v j n) : w.cell? ⟨gj, 1, none⟩ = some v := h.blk.cell 1
theorem RJ.c2 (h : RJ w0 w gj gd v j n) : w.cell? ⟨gj, 2, none⟩ = some (.int .i64 (j.sure : Int)) := h.blk.cell 2
theorem RJ.c3 (h : RJ w0 w gj gd v j n) : w.cell? ⟨gj, 3, none⟩ = some (.bool j.cut) := h.blk.cell 3
theorem RJ.fr (h : RJ w0 w gj gd v j n) (i : Nat) : w.frozen? ⟨gj, i, none⟩ = false := h.blk.frozen i
theorem RJ.b0 (h : RJ w0 w gj gd v j n) : Below w0.heap.size w0 w := h.dk.b0
theorem RJ.sz (h : RJ w0 w gj gd v j n) : w0.heap.size ≤ w.heap.size := h.dk.sz
theorem RJ.ok (h : RJ w0 w gj gd v j n) : j.d.ok := h.dk.2
theorem RJ.far (h : RJ w0 w gj gd v j n) : v.ownBlock ≠ some gj := own_blk_ne h.own h.blk (by decide)
theorem RJ.below (h : RJ w0 w gj gd v j n) (hb : Below w.heap.size w w') : RJ w0 w' gj gd v j n :=
  ⟨h.dk.below hb, h.few, (Spare.ofBelow (T := []) hb).blk h.blk (by simp), h.hb, h.own.below hb⟩
theorem RJ.mono {m : Nat} (h : RJ w0 w gj gd v j n) (hm : n ≤ m) : RJ w0 w gj gd v j m := ⟨h.dk, Nat.le_trans h.few hm, h.blk, h.hb, h.own⟩
/-- What else may have happened without turning a journal. -/
theorem RJ.spare {T : List TypeId} {l : List Nat} (h : RJ w0 w gj gd v j n) (hb : Below w0.heap.size w0 w') (hs : Spare T w w') (hr : RowsL l w w') (h1 : 57 ∉ T) (h2 : 123 ∉ T) (h3 : 102 ∉ T) (hl : ∀ k, v.ownBlock = some k → k ∉ l) : RJ w0 w' gj gd v j n :=
  ⟨h.dk.spareT hb hs h1 h2, h.few, hs.blk h.blk h3, h.hb, h.own.rows hr hl⟩
/-- The disk has turned. -/
theorem RJ.disk {d' : DS} {m : Nat} (h : RJ w0 w gj gd v j n) (k : FK w0 w' gd d') (hm : d'.loose.length ≤ m) (hs : Spare [57, 123] w w') : RJ w0 w' gj gd v { j with d := d' } m :=
  ⟨k, hm, hs.blk h.blk (by decide), h.hb, h.own.rows (RowsL.ofSpare hs (by decide) []) (by simp)⟩
/-- A cell of the journal is set. -/
theorem RJ.set (h : RJ w0 w gj gd v j n) (i : Nat) (u : Value) (v' : Value) (j' : JS) (hc : (jcells gd v j).setIfInBounds i u = jcells gd v' j') (hd : j'.d = j.d) (ho : SOwn w0.heap.size w v' j'.l) (hf : v'.ownBlock ≠ some gj) :
    RJ w0 (w.setCell ⟨gj, i, none⟩ u) gj gd v' j' n ∧ Spare [102] w (w.setCell ⟨gj, i, none⟩ u) ∧ ∀ l, RowsL l w (w.setCell ⟨gj, i, none⟩ u) := by
  have hs := spare_set (i := i) h.blk u
  have hb : Below w0.heap.size w0 (w.setCell ⟨gj, i, none⟩ u) := h.b0.setCell (p := ⟨gj, i, none⟩) h.hb u
  refine ⟨⟨by rw [hd]; exact h.dk.spareT hb hs (by decide) (by decide), by rw [hd]; exact h.few, by rw [← hc]; exact h.blk.set_ i u, h.hb, ?_⟩, hs, fun l => rows_set h.blk (by decide) u l⟩
  exact own_set_far (p := ⟨gj, i, none⟩) ho hf u
/-- A record is laid behind. -/
theorem RJ.append {s : ByteArray} {v' : Value} {w3 : World} (h : RJ w0 w gj gd v j n) (o : Obj) (hg : (w.alloc o).grownBy w3 v.ownBlock) (ho : w3.ownsRow w0.heap.size 9 1 v' (j.l.length + 1) (svals j.l ++ [.string s])) (hv : v'.ownBlock = v.ownBlock ∨ v'.ownBlock = some (w.alloc o).heap.size) :
    RJ w0 (w3.setCell ⟨gj, 1, none⟩ v') gj gd v' { j with l := j.l ++ [s] } n ∧ Fresh w v v' ∧ Spare [102, 9] w (w3.setCell ⟨gj, 1, none⟩ v') ∧ RowsL v.ownBlock.toList w (w3.setCell ⟨gj, 1, none⟩ v') ∧ w3.cell? ⟨gj, 1, none⟩ = some v ∧ w3.frozen? ⟨gj, 1, none⟩ = false := by
  have ha := h.below (alloc_below' w o)
  obtain ⟨s1, r1⟩ := jspare_own (T := []) (v' := v') (l := []) hg ⟨_, _, _, ha.own⟩
  have hb3 : Below w0.heap.size w0 w3 := ha.b0.grown hg ha.sz (fun k hk => (ha.own.lt hk).1)
  have hblk3 : Blk w3 gj 102 (jcells gd v j) := s1.blk ha.blk (by decide)
  have hfr : Fresh w v v' := fun k hk => by
    rcases hv with e | e
    · exact .inl (by rw [← e]; exact hk)
    · rw [e] at hk; injection hk with hk; right; simp at hk; omega
  have ho' : SOwn w0.heap.size w3 v' (j.l ++ [s]) := by
    show World.ownsRow _ _ _ _ _ (j.l ++ [s]).length (svals (j.l ++ [s]))
    rw [svals_append, List.length_append]; exact ho
  have hfar : v'.ownBlock ≠ some gj := own_blk_ne ho hblk3 (by decide)
  have hs := spare_set (i := 1) hblk3 v'
  have hb4 : Below w0.heap.size w0 (w3.setCell ⟨gj, 1, none⟩ v') := hb3.setCell (p := ⟨gj, 1, none⟩) h.hb v'
  refine ⟨⟨(ha.dk.spareT hb3 s1 (by decide) (by decide)).spareT hb4 hs (by decide) (by decide), h.few, hblk3.set_ 1 v', h.hb, own_set_far (p := ⟨gj, 1, none⟩) ho' hfar v'⟩, hfr, ?_, ?_, hblk3.cell 1, hblk3.frozen 1⟩
  · exact (((Spare.ofBelow (T := [102, 9]) (alloc_below' w o))).trans (s1.mono (by simp))).trans (hs.mono (by simp))
  · exact ((RowsL.ofBelow (alloc_below' w o) _).trans r1 (fun i hi => .inl hi)).trans (rows_set hblk3 (by decide) v' []) (by simp)
end
/-- A call of the document's journal: the journal behind it, its row, and what else stays. -/
def RPost (w0 w w' : World) (gj gd : Nat) (v : Value) (j' : JS) (n' : Nat) : Prop :=
  ∃ v', RJ w0 w' gj gd v' j' n' ∧ Fresh w v v' ∧ Spare [57, 123, 102, 9] w w' ∧ RowsL v.ownBlock.toList w w'
theorem RPost.stay {w0 w w' : World} {gj gd : Nat} {v : Value} {j : JS} {n m : Nat} (h : RJ w0 w gj gd v j n) (hb : Below w.heap.size w w') (hm : n ≤ m) : RPost w0 w w' gj gd v j m :=
  ⟨v, (h.below hb).mono hm, Fresh.refl _ _, Spare.ofBelow hb, RowsL.ofBelow hb _⟩
theorem RPost.trans {w0 w w' w'' : World} {gj gd : Nat} {v v' : Value} {j'' : JS} {n'' : Nat} (hf : Fresh w v v') (hz : w.heap.size ≤ w'.heap.size) (hs : Spare [57, 123, 102, 9] w w') (hr : RowsL v.ownBlock.toList w w') (k : RPost w0 w' w'' gj gd v' j'' n'') : RPost w0 w w'' gj gd v j'' n'' := by
  obtain ⟨v'', k1, k2, k3, k4⟩ := k
  exact ⟨v'', k1, hf.trans k2 hz, hs.trans k3, hr.trans k4 hf.mem⟩
/-- Since w nothing but the document's disk has turned. -/
def Mid (w w' : World) : Prop := Spare [57, 123] w w' ∧ w.heap.size ≤ w'.heap.size
theorem Mid.refl (w : World) : Mid w w := ⟨Spare.refl _ _, Nat.le_refl _⟩
theorem Mid.below {w w' w'' : World} (h : Mid w w') (hb : Below w'.heap.size w' w'') : Mid w w'' := ⟨h.1.trans (Spare.ofBelow hb), Nat.le_trans h.2 hb.size⟩
theorem Mid.spare {w w' w'' : World} (h : Mid w w') (hs : Spare [57, 123] w' w'') (hz : w'.heap.size ≤ w''.heap.size) : Mid w w'' := ⟨h.1.trans hs, Nat.le_trans h.2 hz⟩
theorem putD_len (d : DS) (f : Int) (s : ByteArray) (n : Nat) (h : d.loose.length ≤ n) : (putD d f s).loose.length ≤ n + 1 := by
  unfold putD
  split
  next hc => rw [put_loose d f.toNat (by have := hc.1; unfold valid at this; omega)]; simp; omega
  next => omega
section
variable {w0 w w' : World} {gj gd : Nat} {v : Value} {j : JS} {n : Nat}
/-- The first cell in between. -/
def MidC (w : World) (gj gd : Nat) (w' : World) : Prop := Mid w w' ∧ w'.cell? ⟨gj, 0, none⟩ = some (.pointer (some ⟨gd, 0, none⟩))
theorem RJ.mid0 (h : RJ w0 w gj gd v j n) (hm : Mid w w') : w'.cell? ⟨gj, 0, none⟩ = some (.pointer (some ⟨gd, 0, none⟩)) := (hm.1.blk h.blk (by decide)).cell 0
end
end Go.Proofs.Ytjmdiobnappgkaa
