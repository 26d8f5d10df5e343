/-
  Layer 15 (journal): how a journal lies in memory; the walks of Records, Sure, Cut, Loose, Add.
-/
import Derived.Test.YtjmdiobnappgkaaJ4
namespace Go.Proofs.Ytjmdiobnappgkaa
open Go.RowKit
set_option linter.unusedVariables false
set_option linter.unusedSimpArgs false

/-- Of the rows of strings those in l alone may have turned. -/
def RowsL (l : List Nat) (w w' : World) : Prop := ∀ (k : Nat) (cs : Array Value) (fr : Nat × Nat), w.heap[k]? = some (.cells cs 9 fr) → k ∉ l → w'.heap[k]? = some (.cells cs 9 fr)
theorem RowsL.ofSpare {T : List TypeId} {w w' : World} (h : Spare T w w') (hT : 9 ∉ T) (l : List Nat) : RowsL l w w' := fun k cs fr hk _ => h k cs 9 fr hk hT
theorem RowsL.ofBelow {w w' : World} (h : Below w.heap.size w w') (l : List Nat) : RowsL l w w' := RowsL.ofSpare (T := []) (Spare.ofBelow h) (by simp) l
theorem RowsL.refl (l : List Nat) (w : World) : RowsL l w w := fun _ _ _ h _ => h
theorem heap_lt {w : World} {k : Nat} {o : Obj} (h : w.heap[k]? = some o) : k < w.heap.size := (Array.getElem?_eq_some_iff.1 h).1
theorem RowsL.trans {l l' : List Nat} {w w' w'' : World} (h : RowsL l w w') (k : RowsL l' w' w'') (hl : ∀ i ∈ l', i ∈ l ∨ w.heap.size ≤ i) : RowsL l w w'' := fun i cs fr hi hn =>
  k i cs fr (h i cs fr hi hn) (fun hm => by
    rcases hl i hm with h1 | h1
    · exact hn h1
    · have := heap_lt hi; omega)
/-- The block of a row was there before, or is new. -/
def Fresh (w : World) (v v' : Value) : Prop := ∀ k, v'.ownBlock = some k → v.ownBlock = some k ∨ w.heap.size ≤ k
theorem Fresh.refl (w : World) (v : Value) : Fresh w v v := fun _ h => .inl h
theorem Fresh.mem {w : World} {v v' : Value} (h : Fresh w v v') : ∀ i ∈ v'.ownBlock.toList, i ∈ v.ownBlock.toList ∨ w.heap.size ≤ i := by
  intro i hi; simp only [Option.mem_toList] at hi ⊢; exact h i hi
theorem Fresh.trans {w w' : World} {v v' v'' : Value} (h : Fresh w v v') (k : Fresh w' v' v'') (hs : w.heap.size ≤ w'.heap.size) : Fresh w v v'' := fun i hi => by
  rcases k i hi with h1 | h1
  · exact h i h1
  · exact .inr (Nat.le_trans hs h1)
theorem SOwn.rows {base : Nat} {w w' : World} {v : Value} {L : List ByteArray} {l : List Nat} (h : SOwn base w v L) (hr : RowsL l w w') (hl : ∀ k, v.ownBlock = some k → k ∉ l) : SOwn base w' v L := by
  refine ⟨h.1, ?_⟩
  rcases h.2 with h2 | ⟨g, cap, cur, hv, hg, hh, r⟩
  · exact .inl h2
  · exact .inr ⟨g, cap, cur, hv, hg, hr g cur (0, 0) hh (hl g (by rw [hv]; rfl)), r⟩
theorem SOwn.below {base : Nat} {w w' : World} {v : Value} {L : List ByteArray} (h : SOwn base w v L) (hb : Below w.heap.size w w') : SOwn base w' v L := own_belowB hb rfl h
theorem SOwn.lt {base : Nat} {w : World} {v : Value} {L : List ByteArray} (h : SOwn base w v L) {k : Nat} (hk : v.ownBlock = some k) : base ≤ k ∧ k < w.heap.size := World.ownsRow.lt h k hk
theorem SOwn.len {base : Nat} {w : World} {v : Value} {L : List ByteArray} (h : SOwn base w v L) : ∃ A cap, v = .slice A L.length cap := by
  rcases h.2 with ⟨hv, hn⟩ | ⟨g, cap, cur, hv, _⟩
  · exact ⟨none, 0, by rw [hv, hn]⟩
  · exact ⟨_, _, hv⟩
theorem DK.spareT {w0 w w' : World} {g : Nat} {d : DS} {n : Nat} {T : List TypeId} (h : DK w0 w g d n) (hb : Below w0.heap.size w0 w') (hs : Spare T w w') (h1 : 117 ∉ T) (h2 : 120 ∉ T) : DK w0 w' g d n := by
  obtain ⟨⟨v, hv⟩, hb0, k1, k2, h3⟩ := h
  exact ⟨⟨v, hv.spare hs h1 h2⟩, hb, k1, k2, hb.size⟩
theorem DK.mono {w0 w : World} {g : Nat} {d : DS} {n m : Nat} (h : DK w0 w g d n) (hm : n ≤ m) : DK w0 w g d m := by
  obtain ⟨a, b, c, e, f⟩ := h
  exact ⟨a, b, c, by omega, f⟩

def jcells (gd : Nat) (v : Value) (j : JS) : Array Value := #[.pointer (some ⟨gd, 0, none⟩), v, .int .i64 (j.sure : Int), .bool j.cut]
/-- In world w block gj is the journal j over the disk gd; its row is v; all made since w0. -/
structure JK (w0 w : World) (gj gd : Nat) (v : Value) (j : JS) (n : Nat) : Prop where
  dk : DK w0 w gd j.d n
  blk : Blk w gj 129 (jcells gd v j)
  hb : w0.heap.size ≤ gj
  own : SOwn w0.heap.size w v j.l
section
variable {w0 w w' : World} {gj gd : Nat} {v : Value} {j : JS} {n : Nat}
theorem JK.c0 (h : JK w0 w gj gd v j n) : w.cell? ⟨gj, 0, none⟩ = some (.pointer (some ⟨gd, 0, none⟩)) := h.blk.cell 0
theorem JK.c1 (h : JK w0 w gj gd v j n) : w.cell? ⟨gj, 1, none⟩ = some v := h.blk.cell 1
theorem JK.c2 (h : JK w0 w gj gd v j n) : w.cell? ⟨gj, 2, none⟩ = some (.int .i64 (j.sure : Int)) := h.blk.cell 2
theorem JK.c3 (h : JK w0 w gj gd v j n) : w.cell? ⟨gj, 3, none⟩ = some (.bool j.cut) := h.blk.cell 3
theorem JK.fr (h : JK w0 w gj gd v j n) (i : Nat) : w.frozen? ⟨gj, i, none⟩ = false := h.blk.frozen i
theorem JK.b0 (h : JK w0 w gj gd v j n) : Below w0.heap.size w0 w := h.dk.2.1
theorem JK.sz (h : JK w0 w gj gd v j n) : w0.heap.size ≤ w.heap.size := h.dk.2.2.2.2
theorem JK.ok (h : JK w0 w gj gd v j n) : j.d.ok := h.dk.2.2.1
theorem JK.far (h : JK w0 w gj gd v j n) : v.ownBlock ≠ some gj := own_blk_ne h.own h.blk (by decide)
theorem JK.below (h : JK w0 w gj gd v j n) (hb : Below w.heap.size w w') : JK w0 w' gj gd v j n :=
  ⟨h.dk.below hb, (Spare.ofBelow (T := []) hb).blk h.blk (by simp), h.hb, h.own.below hb⟩
theorem JK.mono {m : Nat} (h : JK w0 w gj gd v j n) (hm : n ≤ m) : JK w0 w gj gd v j m := ⟨h.dk.mono hm, h.blk, h.hb, h.own⟩
/-- What else may have happened without turning a journal. -/
theorem JK.spare {T : List TypeId} {l : List Nat} (h : JK w0 w gj gd v j n) (hb : Below w0.heap.size w0 w') (hs : Spare T w w') (hr : RowsL l w w') (h1 : 117 ∉ T) (h2 : 120 ∉ T) (h3 : 129 ∉ T) (hl : ∀ k, v.ownBlock = some k → k ∉ l) : JK w0 w' gj gd v j n :=
  ⟨h.dk.spareT hb hs h1 h2, hs.blk h.blk h3, h.hb, h.own.rows hr hl⟩
/-- The disk has turned. -/
theorem JK.disk {d' : DS} {m : Nat} (h : JK w0 w gj gd v j n) (k : DK w0 w' gd d' m) (hs : Spare [117, 120] w w') : JK w0 w' gj gd v { j with d := d' } m :=
  ⟨k, hs.blk h.blk (by decide), h.hb, h.own.rows (RowsL.ofSpare hs (by decide) []) (by simp)⟩
theorem jspare_own {T : List TypeId} {v' : Value} {w1 w3 : World} {l : List Nat} (hg : w1.grownBy w3 v.ownBlock) (hown : ∃ xs m b, w1.ownsRow b 9 1 v m xs) : Spare [9] w1 w3 ∧ RowsL v.ownBlock.toList w1 w3 := by
  obtain ⟨xs, m, b, hown⟩ := hown
  constructor
  · intro k cs t fr hk ht
    rw [hg.block k (heap_lt hk) (fun he => ?_)]
    · exact hk
    · obtain ⟨cs', hc⟩ := own_typed hown he.symm
      rw [hk] at hc; injection hc with hc; injection hc with _ e; exact ht (by simp [e])
  · intro k cs fr hk hn
    rw [hg.block k (heap_lt hk) (fun he => hn (by simp [← he]))]
    exact hk
theorem spare_set {w : World} {g i : Nat} {t : TypeId} {cs : Array Value} (hb : Blk w g t cs) (u : Value) : Spare [t] w (w.setCell ⟨g, i, none⟩ u) := by
  intro k cs' t' fr hk ht
  by_cases e : k = g
  · subst e; unfold Blk at hb; rw [hb] at hk; injection hk with hk; injection hk with _ e2; exact absurd (by simp [e2]) ht
  · exact (Below.heap_setCell w _ u k e).trans hk
theorem rows_set {w : World} {g i : Nat} {t : TypeId} {cs : Array Value} (hb : Blk w g t cs) (ht : t ≠ 9) (u : Value) (l : List Nat) : RowsL l w (w.setCell ⟨g, i, none⟩ u) :=
  RowsL.ofSpare (spare_set hb u) (by simp; exact fun e => ht e.symm) l
/-- A cell of the journal is set. -/
theorem JK.set (h : JK w0 w gj gd v j n) (i : Nat) (u : Value) (v' : Value) (j' : JS) (hc : (jcells gd v j).setIfInBounds i u = jcells gd v' j') (hd : j'.d = j.d) (ho : SOwn w0.heap.size w v' j'.l) (hf : v'.ownBlock ≠ some gj) :
    JK w0 (w.setCell ⟨gj, i, none⟩ u) gj gd v' j' n ∧ Spare [129] w (w.setCell ⟨gj, i, none⟩ u) ∧ ∀ l, RowsL l w (w.setCell ⟨gj, i, none⟩ u) := by
  have hs := spare_set (i := i) h.blk u
  have hb : Below w0.heap.size w0 (w.setCell ⟨gj, i, none⟩ u) := h.b0.setCell (p := ⟨gj, i, none⟩) h.hb u
  refine ⟨⟨by rw [hd]; exact h.dk.spareT hb hs (by decide) (by decide), by rw [← hc]; exact h.blk.set_ i u, h.hb, ?_⟩, hs, fun l => rows_set h.blk (by decide) u l⟩
  exact own_set_far (p := ⟨gj, i, none⟩) ho hf u
/-- A record is laid behind. -/
theorem JK.append {s : ByteArray} {v' : Value} {w3 : World} (h : JK w0 w gj gd v j n) (o : Obj) (hg : (w.alloc o).grownBy w3 v.ownBlock) (ho : w3.ownsRow w0.heap.size 9 1 v' (j.l.length + 1) (svals j.l ++ [.string s])) (hv : v'.ownBlock = v.ownBlock ∨ v'.ownBlock = some (w.alloc o).heap.size) :
    JK w0 (w3.setCell ⟨gj, 1, none⟩ v') gj gd v' { j with l := j.l ++ [s] } n ∧ Fresh w v v' ∧ Spare [129, 9] w (w3.setCell ⟨gj, 1, none⟩ v') ∧ RowsL v.ownBlock.toList w (w3.setCell ⟨gj, 1, none⟩ v') ∧ w3.cell? ⟨gj, 1, none⟩ = some v ∧ w3.frozen? ⟨gj, 1, none⟩ = false := by
  have ha := h.below (alloc_below' w o)
  obtain ⟨s1, r1⟩ := jspare_own (T := []) (v' := v') (l := []) hg ⟨_, _, _, ha.own⟩
  have hb3 : Below w0.heap.size w0 w3 := ha.b0.grown hg ha.sz (fun k hk => (ha.own.lt hk).1)
  have hblk3 : Blk w3 gj 129 (jcells gd v j) := s1.blk ha.blk (by decide)
  have hfr : Fresh w v v' := fun k hk => by
    rcases hv with e | e
    · exact .inl (by rw [← e]; exact hk)
    · rw [e] at hk; injection hk with hk; right; simp at hk; omega
  have ho' : SOwn w0.heap.size w3 v' (j.l ++ [s]) := by
    show World.ownsRow _ _ _ _ _ (j.l ++ [s]).length (svals (j.l ++ [s]))
    rw [svals_append, List.length_append]; exact ho
  have hfar : v'.ownBlock ≠ some gj := own_blk_ne ho hblk3 (by decide)
  have hs := spare_set (i := 1) hblk3 v'
  have hb4 : Below w0.heap.size w0 (w3.setCell ⟨gj, 1, none⟩ v') := hb3.setCell (p := ⟨gj, 1, none⟩) h.hb v'
  refine ⟨⟨(ha.dk.spareT hb3 s1 (by decide) (by decide)).spareT hb4 hs (by decide) (by decide), hblk3.set_ 1 v', h.hb, own_set_far (p := ⟨gj, 1, none⟩) ho' hfar v'⟩, hfr, ?_, ?_, hblk3.cell 1, hblk3.frozen 1⟩
  · exact (((Spare.ofBelow (T := [129, 9]) (alloc_below' w o))).trans (s1.mono (by simp))).trans (hs.mono (by simp))
  · exact ((RowsL.ofBelow (alloc_below' w o) _).trans r1 (fun i hi => .inl hi)).trans (rows_set hblk3 (by decide) v' []) (by simp)

set_option maxRecDepth 100000 in
theorem j_sure (h : JK w0 w gj gd v j n) : Calls Try.prog 77 #[.pointer (some ⟨gj, 0, none⟩)] w fun e w' => e = .returned (.int .i64 (j.sure : Int)) ∧ w = w' := by
  have c2 := h.c2
  clear h
  go_enter Try.func77, Try.ntmps77
  go_wp2
  go_ret
  exact ⟨rfl, rfl⟩
set_option maxRecDepth 100000 in
theorem j_cut (h : JK w0 w gj gd v j n) : Calls Try.prog 78 #[.pointer (some ⟨gj, 0, none⟩)] w fun e w' => e = .returned (.bool j.cut) ∧ w = w' := by
  have c3 := h.c3
  clear h
  go_enter Try.func78, Try.ntmps78
  go_wp2
  go_ret
  exact ⟨rfl, rfl⟩
set_option maxRecDepth 100000 in
theorem j_records (h : JK w0 w gj gd v j n) (hl : j.l.length ≤ 20000000) : Calls Try.prog 76 #[.pointer (some ⟨gj, 0, none⟩)] w fun e w' => (∃ u, e = .returned u ∧ SOwn w.heap.size w' u j.l) ∧ Below w.heap.size w w' := by
  have c1 := h.c1
  have hr := h.own.read (by unfold maxLen; omega)
  have Hcl := Lib.hid (clone_any hr hl)
  clear h hr
  go_enter Try.func76, Try.ntmps76
  go_wp2_with fail
  refine Hcl.out.mono ?_
  rintro e w1 ⟨⟨u, rfl, ho⟩, hb⟩
  have Ho := Lib.hid ho; have Hb := Lib.hid hb; clear ho hb
  go_wp2
  go_ret
  exact ⟨⟨u, rfl, Ho.out⟩, Hb.out⟩
end
end Go.Proofs.Ytjmdiobnappgkaa
