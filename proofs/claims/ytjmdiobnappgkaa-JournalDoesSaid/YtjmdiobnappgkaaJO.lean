/-
  Layer 15 (journal): a slice of strings, opened; a journal beside a row of strings of the call's own.
-/
import Derived.Test.YtjmdiobnappgkaaJP
import Derived.SliceStrings
namespace Go.Proofs.Ytjmdiobnappgkaa
open Go.ChangeShapes Go.WideShapes Go.ChangeAt Go.RowKit Go.Joins Go.Deep
set_option linter.unusedVariables false
set_option linter.unusedSimpArgs false

theorem open_list94 {H : Type} {enc : TypeId × Value → H} {w : World} {base : Nat} {spare : Nat → Bool} {held : Bool} {A : Option Addr} {len cap : Nat} {d : DataW H} {p : List MemPlace}
    (h : DataW.Trod enc Try.prog w base spare held 94 (.slice A len cap) d p) : ∃ L, SRead w (.slice A len cap) L ∧ ∀ s ∈ L, s.size ≤ maxLen := by
  obtain ⟨fuel, hf⟩ := h
  rcases open_strings Try.underlying94 Try.underlying9 cells9 hf with ⟨h0, _⟩ | ⟨a, l, c, ss, h0, hb, hl, hm, hss, _, hc, hz⟩
  · simp [Value.cells] at h0
    obtain ⟨rfl, rfl, rfl⟩ := h0
    exact ⟨[], ⟨none, 0, rfl, by decide, fun i hi => absurd hi (by simp)⟩, by simp⟩
  · simp [Value.cells] at h0
    obtain ⟨rfl, rfl, rfl⟩ := h0
    have hlm : len ≤ ss.length := by rw [hss]; split <;> omega
    have hlen : (ss.take len).length = len := by rw [List.length_take]; omega
    refine ⟨ss.take len, ⟨some a, cap, by rw [hlen], by rw [hlen]; omega, fun i hi => ?_⟩, fun s hs => hz s (List.mem_of_mem_take hs)⟩
    rw [hlen] at hi
    have hc0 := hc i (by omega)
    have hspot := World.cell?_spot (hc 0 (by omega))
    obtain ⟨b, o, spot⟩ := a
    have : spot = none := by simpa [Addr.add] using hspot
    subst this
    rw [Addr.add_lit] at hc0
    refine ⟨b, o, rfl, World.block_lt_of_cell? w _ hc0, ?_⟩
    rw [hc0, List.getElem_take, List.getD_eq_getElem?_getD, List.getElem?_eq_getElem (by omega)]; rfl
/-- A row of the call's own is appended to. -/
theorem SOwn.append {base : Nat} {w w3 : World} {u u' : Value} {L : List ByteArray} {s : ByteArray} (h : SOwn base w u L) (hbase : base ≤ w.heap.size) (o : Obj) (hg : (w.alloc o).grownBy w3 u.ownBlock) (ho : w3.ownsRow base 9 1 u' (L.length + 1) (svals L ++ [.string s])) (hv : u'.ownBlock = u.ownBlock ∨ u'.ownBlock = some (w.alloc o).heap.size) :
    SOwn base w3 u' (L ++ [s]) ∧ Fresh w u u' ∧ Spare [9] w w3 ∧ RowsL u.ownBlock.toList w w3 ∧ Below base w w3 ∧ w.heap.size ≤ w3.heap.size := by
  have ha := h.below (alloc_below' w o)
  obtain ⟨s1, r1⟩ := jspare_own (T := []) (v' := u') (l := []) hg ⟨_, _, _, ha⟩
  have hb : Below base w (w.alloc o) := (alloc_below' w o).mono hbase
  have hz : base ≤ (w.alloc o).heap.size := by simp; omega
  refine ⟨?_, fun k hk => ?_, (Spare.ofBelow (T := [9]) (alloc_below' w o)).trans s1, (RowsL.ofBelow (alloc_below' w o) _).trans r1 (fun i hi => .inl hi), hb.grown hg hz (fun k hk => (ha.lt hk).1), ?_⟩
  · show World.ownsRow _ _ _ _ _ (L ++ [s]).length (svals (L ++ [s]))
    rw [svals_append, List.length_append]; exact ho
  · rcases hv with e | e
    · exact .inl (by rw [← e]; exact hk)
    · rw [e] at hk; injection hk with hk; right; simp at hk; omega
  · have := hg.size; simp at this; omega
/-- A journal and a row beside it. -/
structure JI (w0 w : World) (gj gd : Nat) (v : Value) (j : JS) (n : Nat) (u : Value) (L : List ByteArray) : Prop where
  jk : JK w0 w gj gd v j n
  ow : SOwn w0.heap.size w u L
  ap : Ap u v
section
variable {w0 w w' : World} {gj gd : Nat} {v u : Value} {j : JS} {n : Nat} {L : List ByteArray}
theorem JI.below (h : JI w0 w gj gd v j n u L) (hb : Below w.heap.size w w') : JI w0 w' gj gd v j n u L := ⟨h.jk.below hb, h.ow.below hb, h.ap⟩
theorem JI.post {j' : JS} {n' : Nat} (h : JI w0 w gj gd v j n u L) (p : JPost w0 w w' gj gd v j' n') : ∃ v', JI w0 w' gj gd v' j' n' u L := by
  obtain ⟨v', k1, k2, k3, k4⟩ := p
  exact ⟨v', k1, h.ow.rows k4 h.ap, h.ap.fresh k2 (fun i hi => (h.ow.lt hi).2)⟩
theorem JI.append {s : ByteArray} {u' : Value} {w3 : World} (h : JI w0 w gj gd v j n u L) (o : Obj) (hg : (w.alloc o).grownBy w3 u.ownBlock) (ho : w3.ownsRow w0.heap.size 9 1 u' (L.length + 1) (svals L ++ [.string s])) (hv : u'.ownBlock = u.ownBlock ∨ u'.ownBlock = some (w.alloc o).heap.size) : JI w0 w3 gj gd v j n u' (L ++ [s]) := by
  obtain ⟨a1, a2, a3, a4, a5, a6⟩ := h.ow.append h.jk.sz o hg ho hv
  refine ⟨h.jk.spare (h.jk.b0.trans a5) a3 a4 (by decide) (by decide) (by decide) (h.ap.symm), a1, ?_⟩
  exact (h.ap.symm.fresh a2 (fun i hi => (h.jk.own.lt hi).2)).symm
theorem ji_add (h : JI w0 w gj gd v j n u L) (hn : n < 1000000) (hl : j.l.length < 20000000) (s : ByteArray) (hs : s.size ≤ 140737488351232) (R : Int) (J : JS) (hq : looseR j s = R ∧ addJ j s = J) :
    Calls Try.prog 68 #[.pointer (some ⟨gj, 0, none⟩), .string s] w fun e w' => e = .returned (.int .i64 R) ∧ ∃ v', JI w0 w' gj gd v' J (n + 1) u L :=
  (aj_add h.jk hn hl s hs R J hq).mono fun _ _ ⟨e, p⟩ => ⟨e, h.post p⟩
theorem ji_loose (h : JI w0 w gj gd v j n u L) (hn : n < 1000000) (hl : j.l.length < 20000000) (s : ByteArray) (hs : s.size ≤ 140737488351232) (R : Int) (J : JS) (hq : looseR j s = R ∧ looseJ j s = J) :
    Calls Try.prog 70 #[.pointer (some ⟨gj, 0, none⟩), .string s] w fun e w' => e = .returned (.int .i64 R) ∧ ∃ v', JI w0 w' gj gd v' J (n + 1) u L :=
  (aj_loose h.jk hn hl s hs R J hq).mono fun _ _ ⟨e, p⟩ => ⟨e, h.post p⟩
theorem ji_records (h : JI w0 w gj gd v j n u L) (hl : j.l.length ≤ 20000000) : Calls Try.prog 76 #[.pointer (some ⟨gj, 0, none⟩)] w fun e w' => (∃ x, e = .returned x ∧ SRead w' x j.l ∧ SOwn w.heap.size w' x j.l) ∧ JI w0 w' gj gd v j n u L :=
  (j_records h.jk hl).mono fun _ _ ⟨⟨x, e, ho⟩, hb⟩ => ⟨⟨x, e, ho.read (by unfold maxLen; omega), ho⟩, h.below hb⟩
end
end Go.Proofs.Ytjmdiobnappgkaa
