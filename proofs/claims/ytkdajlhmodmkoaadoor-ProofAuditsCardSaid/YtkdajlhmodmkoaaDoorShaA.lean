/-
  Small laws: several cells of a block that was just made are appended to a row of the call's own.
-/
import Derived.Test.YtkdajlhmodmkoaaDoorK
namespace Go.Proofs.YtkdajlhmodmkoaaDoor
open Go.RowKit
set_option linter.unusedVariables false
set_option linter.unusedSimpArgs false
section
variable {P : Program} {w : World}
theorem step_appendN {ops : Array Oper} {o : Oper} {a : Act} {K : Act → World → Prop} {Q : Exit → Act → World → Prop} {E : Prop} (hgd : o.guard = none) (s x : Operand) (t : TypeId)
    (ho : o.op = .call { callee := .builtin .append, args := #[s, x], argTypes := #[t, t] })
    (base : Nat) (e : TypeId) (i : TypeInfo) (z : Value) (bytes : Nat) (ht : P.underlying t = some (.slice e)) (hi : P.info? e = some i) (hz : i.zero = some z)
    (hsize : i.size = 1) (hby : i.bytes = bytes) (hzs : z.cells.size = 1)
    (v : Value) (n : Nat) (xs : List Value) (hs : a.eval s = v) (hown : w.ownsRow base e 1 v n xs)
    (g m : Nat) (hx : a.eval x = .slice (some ⟨g, 0, none⟩) m m) (us : Array Value) (te : TypeId) (fr : Nat × Nat) (hu : w.heap[g]? = some (.cells us te fr)) (hl : us.size = m) (hm : 0 < m) (h1 : ∀ u ∈ us.toList, u.oneCell' = true)
    (h63 : n + m ≤ maxLen) (hbytes : (n + m) * bytes ≤ 140737488355328) (hbase : base ≤ w.heap.size)
    (h : ∀ v' w', w'.ownsRow base e 1 v' (n + m) (xs ++ us.toList) → w.grownBy w' v.ownBlock → (v'.ownBlock = v.ownBlock ∨ v'.ownBlock = some w.heap.size) → K (a.put o.dst v') w') :
    if Region.wanted o (yielded ops a.tmps) = true then Oper.wp P o a w K Q else E := by
  refine step_append_lies w hgd s x t ho base e i z 1 bytes ht hi hz hsize hby hzs (by decide) v n xs hs hown ⟨g, 0, none⟩ m m us.toList hx (by simp [hl]) (World.news_of_block hu) h1 hm h63 hbytes hbase _ rfl ?_
  intro g' cap w' h2 h3 h4 h5
  refine h _ w' h2 h3 ?_
  rcases h4 with h4 | h4
  · exact .inl h4.symm
  · subst h4; exact .inr rfl
theorem wpList_appendN {ops : Array Oper} {rest : List Oper} {o : Oper} {a : Act} {Q : Exit → Act → World → Prop} (hgd : o.guard = none) (s x : Operand) (t : TypeId)
    (ho : o.op = .call { callee := .builtin .append, args := #[s, x], argTypes := #[t, t] })
    (base : Nat) (e : TypeId) (i : TypeInfo) (z : Value) (bytes : Nat) (ht : P.underlying t = some (.slice e)) (hi : P.info? e = some i) (hz : i.zero = some z)
    (hsize : i.size = 1) (hby : i.bytes = bytes) (hzs : z.cells.size = 1)
    (v : Value) (n : Nat) (xs : List Value) (hs : a.eval s = v) (hown : w.ownsRow base e 1 v n xs)
    (g m : Nat) (hx : a.eval x = .slice (some ⟨g, 0, none⟩) m m) (us : Array Value) (te : TypeId) (fr : Nat × Nat) (hu : w.heap[g]? = some (.cells us te fr)) (hl : us.size = m) (hm : 0 < m) (h1 : ∀ u ∈ us.toList, u.oneCell' = true)
    (h63 : n + m ≤ maxLen) (hbytes : (n + m) * bytes ≤ 140737488355328) (hbase : base ≤ w.heap.size)
    (h : ∀ v' w', w'.ownsRow base e 1 v' (n + m) (xs ++ us.toList) → w.grownBy w' v.ownBlock → (v'.ownBlock = v.ownBlock ∨ v'.ownBlock = some w.heap.size) → wpList P ops Q rest (a.put o.dst v') w') : wpList P ops Q (o :: rest) a w := by
  refine wpList_append_lies w hgd s x t ho base e i z 1 bytes ht hi hz hsize hby hzs (by decide) v n xs hs hown ⟨g, 0, none⟩ m m us.toList hx (by simp [hl]) (World.news_of_block hu) h1 hm h63 hbytes hbase _ rfl ?_
  intro g' cap w' h2 h3 h4 h5
  refine h _ w' h2 h3 ?_
  rcases h4 with h4 | h4
  · exact .inl h4.symm
  · subst h4; exact .inr rfl
end
theorem World.cell?_congr {w w' : World} {b i : Nat} (h : w'.heap[b]? = w.heap[b]?) : w'.cell? ⟨b, i, none⟩ = w.cell? ⟨b, i, none⟩ := by simp [World.cell?, h]
theorem Only.below_of {B A : Nat} {l : List Nat} {w w' : World} (h : Only B l w w') (hA : A ≤ B) (hl : ∀ k ∈ l, A ≤ k) : Below A w w' := ⟨h.os, h.tape, h.output, h.size, fun k hk => h.block k (by omega) (fun hm => by have := hl k hm; omega)⟩
theorem own_alloc' {w : World} {base : Nat} {e : TypeId} {size n : Nat} {v : Value} {xs : List Value} (h : w.ownsRow base e size v n xs) (o : Obj) : (w.alloc o).ownsRow base e size v n xs := own_below h ((Below.refl _ _).alloc (Nat.le_refl _) o)
/-- Since w began a row of bytes of the call's own has been made. -/
structure BdW (w wr : World) (v : Value) (l : List UInt8) : Prop where
  own : wr.ownsRow w.heap.size 5 1 v l.length (bvals l)
  bel : Below w.heap.size w wr
theorem BdW.below {w wr w2 : World} {v : Value} {l : List UInt8} (h : BdW w wr v l) (hb : Below wr.heap.size wr w2) : BdW w w2 v l := ⟨own_below h.own hb, h.bel.trans (hb.mono h.bel.size)⟩
theorem BdW.nil {w wr : World} (h : Below w.heap.size w wr) : BdW w wr (.slice none 0 0) [] := ⟨World.ownsRow_nil _ _ _ _, h⟩
theorem BdW.new {w wr : World} (h : Below w.heap.size w wr) : BdW w (wr.alloc (.cells #[] 5)) (.slice (some ⟨wr.heap.size, 0, none⟩) 0 0) [] := ⟨World.ownsRow_made wr #[] 0 h.size (by decide) rfl, h.alloc h.size _⟩
theorem BdW.append {w wr X w3 : World} {v v' : Value} {l m : List UInt8} (h : BdW w wr v l) (hX : Below wr.heap.size wr X) {us : List Value} {k j : Nat} (hk : l.length = k) (hj : m.length = j) (ho : w3.ownsRow w.heap.size 5 1 v' (k + j) (bvals l ++ us)) (hg : X.grownBy w3 v.ownBlock) (hm : us = bvals m) : BdW w w3 v' (l ++ m) := by
  subst hm hk hj
  refine ⟨?_, ?_⟩
  · rw [List.length_append, bvals_append]; exact ho
  · exact (h.bel.trans (hX.mono h.bel.size)).grown hg (Nat.le_trans h.bel.size hX.size) (fun k hk => (h.own.lt k hk).1)
end Go.Proofs.YtkdajlhmodmkoaaDoor
