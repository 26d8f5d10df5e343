/-
  Memory: a row of the call's own appended to, out of whatever source.
-/
import Derived.Test.YtjmdiobnappgkaaRowX
namespace Go.Proofs.Ytjmdiobnappgkaa
open Go.RowKit
set_option linter.unusedVariables false
set_option linter.unusedSimpArgs false

section
variable {w w' : World} {base : Nat} {e : TypeId} {size : Nat} {v : Value} {n : Nat} {xs : List Value} {P : Program}
/-- Appended to, out of whatever source. -/
theorem run_append_o (t tx ty e : TypeId) (i : TypeInfo) (z : Value) (bytes : Nat) (ht : P.underlying t = some (.slice e)) (hi : P.info? e = some i) (hz : i.zero = some z) (hsize : i.size = size) (hby : i.bytes = bytes) (hzs : z.cells.size = size)
    (h : w.ownsRow base e size v n xs) (x : Value) (m : Nat) (news : List Value) (hs : Src P size tx x m news w) (h63 : n + m ≤ maxLen) (hbytes : (n + m) * bytes ≤ 140737488355328) (hbase : base ≤ w.heap.size) :
    ∃ v' w', (Builtin.append_ #[t, tx] ty #[v, x]).run P w = .ok v' w' ∧ w'.ownsRow base e size v' (n + m) (xs ++ news) ∧ w.grownBy w' v.ownBlock ∧ (v'.ownBlock = v.ownBlock ∨ v'.ownBlock = some w.heap.size) := by
  subst hsize; subst hby
  have hnl := hs.newsLen
  have hxl := h.1
  have hsmall : ((n + m : Nat) : Int) ≤ 9223372036854775807 := by simp only [maxLen] at h63; omega
  have grow : ∀ (bs : Option Addr) (sc : Nat), v = .slice bs n sc → sc < n + m → (Builtin.firstCells i.size n (.slice bs n sc)).run P w.drew = .ok xs.toArray w.drew →
      ∃ v' w', (Builtin.append_ #[t, tx] ty #[v, x]).run P w = .ok v' w' ∧ w'.ownsRow base e i.size v' (n + m) (xs ++ news) ∧ w.grownBy w' v.ownBlock ∧ (v'.ownBlock = v.ownBlock ∨ v'.ownBlock = some w.heap.size) := by
    rintro bs sc rfl hg hold
    have hrun := run_append_grow_src (P := P) w t tx ty e i z ht hi hz bs n sc xs hold x m news hs hg hsmall (growslice_fits hg hbytes)
    have hge := grownCap_ge w (n + m) sc e
    refine ⟨_, _, hrun, ⟨by rw [List.length_append, hxl, hnl, Nat.add_mul], .inr ⟨w.heap.size, _, _, rfl, hbase, heap_alloc_new w.drew _, hge, grownCap_le_maxLen _ _ _ _ h63, ?_, ?_⟩⟩, ?_, .inr rfl⟩
    · rw [Array.size_append, size_zeroCells, hzs, List.size_toArray, List.length_append, hxl, hnl, ← Nat.add_mul, ← Nat.add_mul]
      congr 1; omega
    · rw [Array.toList_append]
      rw [List.take_append_of_le_length (by simp [hxl, hnl, Nat.add_mul]), List.take_of_length_le (by simp [hxl, hnl, Nat.add_mul])]
    · exact ⟨rfl, rfl, rfl, by simp, fun k hk _ => Below.heap_alloc w.drew _ k hk⟩
  rcases h.2 with ⟨hv, hn0⟩ | ⟨g, cap, cur, hv, hg, hh, hn, hm, hcs, htk⟩
  rotate_left
  have hf : ∀ j, j < cur.size → w.frozen? ⟨g, j, none⟩ = false := fun j _ => by simp [World.frozen?, hh]
  rotate_left
  · subst hn0
    have hx0 : xs = [] := List.eq_nil_of_length_eq_zero (by rw [hxl]; simp)
    subst hx0
    by_cases h0 : m = 0
    · subst h0
      have hn0 : news = [] := List.eq_nil_of_length_eq_zero (by rw [hnl]; simp)
      subst hn0
      rw [hv]
      exact ⟨_, _, run_append_nothing (P := P) w t tx ty e i ht hi none 0 0 (Nat.le_refl _) x hs, World.ownsRow_nil _ _ _ _, ⟨rfl, rfl, rfl, Nat.le_refl _, fun _ _ _ => rfl⟩, .inl rfl⟩
    · exact grow none 0 hv (by omega) (run_firstCells_none w.drew i.size 0 0 0)
  · by_cases hfit : n + m ≤ cap
    · have hcap : (n + m) * i.size ≤ cap * i.size := Nat.mul_le_mul_right _ hfit
      rw [Nat.add_mul] at hcap
      have hrun := run_append_room_src (P := P) w t tx ty e i ht hi g 0 n cap x m news hs hfit
        (fun j hj => by rw [Nat.zero_add, cell_of_row w g _ cur e (0, 0) hh, Array.getElem?_eq_getElem (by omega)]; rfl)
        (fun j hj => by rw [Nat.zero_add]; exact hf _ (by omega))
      obtain ⟨cur', a, b, c⟩ := setCells_row (e := e) g (0, 0) news (0 + n * i.size) cur w hh (by omega)
      have ht4 := setCells_tape g news (0 + n * i.size) w
      rw [hv]
      refine ⟨_, _, hrun, ⟨by rw [List.length_append, hxl, hnl, Nat.add_mul], .inr ⟨g, cap, cur', rfl, hg, a, hfit, hm, b.trans hcs, ?_⟩⟩, ⟨ht4.2.1, ht4.1, ht4.2.2.1, by rw [ht4.2.2.2]; exact Nat.le_refl _, ?_⟩, .inl rfl⟩
      · rw [Nat.zero_add, hnl] at c
        rw [Nat.add_mul, c, htk]
      · intro k hk hne
        exact World.heap_setCells_other w g _ news hk (fun e => hne (by rw [e]; rfl))
    · refine grow (some ⟨g, 0, none⟩) cap hv (by omega) ?_
      refine run_firstCells_some w.drew i.size n ⟨g, 0, none⟩ n cap xs hxl (fun j u hu => ?_)
      subst hv
      exact h.cells rfl j u hu
theorem wpList_append_o {ops : Array Oper} {rest : List Oper} {o : Oper} {a : Act} {Q : Exit → Act → World → Prop} (hgd : o.guard = none) (s x : Operand) (t tx : TypeId)
    (ho : o.op = .call { callee := .builtin .append, args := #[s, x], argTypes := #[t, tx] })
    (base : Nat) (e : TypeId) (i : TypeInfo) (z : Value) (size bytes : Nat) (ht : P.underlying t = some (.slice e)) (hi : P.info? e = some i) (hz : i.zero = some z)
    (hsize : i.size = size) (hby : i.bytes = bytes) (hzs : z.cells.size = size)
    (v : Value) (n : Nat) (xs : List Value) (hv : a.eval s = v) (h : w.ownsRow base e size v n xs)
    (xv : Value) (m : Nat) (news : List Value) (hx : a.eval x = xv) (hs : Src P size tx xv m news w)
    (h63 : n + m ≤ maxLen) (hbytes : (n + m) * bytes ≤ 140737488355328) (hbase : base ≤ w.heap.size)
    (hK : ∀ v' w', w'.ownsRow base e size v' (n + m) (xs ++ news) → w.grownBy w' v.ownBlock → (v'.ownBlock = v.ownBlock ∨ v'.ownBlock = some w.heap.size) → wpList P ops Q rest (a.put o.dst v') w') : wpList P ops Q (o :: rest) a w := by
  refine wpList_plain hgd fun K hK' => ?_
  obtain ⟨v', w', hrun, r1, r2, r3⟩ := run_append_o (P := P) t tx o.type e i z bytes ht hi hz hsize hby hzs h xv m news hs h63 hbytes hbase
  unfold Oper.wp
  simp [execOp, ho, resolve, invoke, builtin, hv, hx, hrun, Result.andThen]
  exact hK' _ _ (hK v' w' r1 r2 r3)
/-- The first m elements of a row of the call's own, as a source. -/
theorem src_own {tx e' : TypeId} (hk : P.underlying tx = some (.slice e')) {A : Option Addr} {len cap : Nat} (h : w.ownsRow base e size (.slice A len cap) len xs) (h1 : ∀ u ∈ xs, u.oneCell' = true) (m c : Nat) (hm : m ≤ len) : Src P size tx (.slice A m c) m (xs.take (m * size)) w := by
  have hl := h.1
  rcases h.2 with ⟨hv, h0⟩ | ⟨g, cap', cur, hv, hg, hh, hn, hmx, hcs, htk⟩
  · injection hv with e1 e2 e3
    subst e1 e2
    have : m = 0 := by omega
    subst this
    simpa using Src.ofNil (P := P) (w := w) (size := size) hk c
  · injection hv with e1 e2 e3
    subst e1
    refine Src.ofSlice w hk _ _ _ _ ?_ (fun j u hu => ?_) (fun u hu => h1 u (List.mem_of_mem_take hu))
    · rw [List.length_take, hl, Nat.min_eq_left (Nat.mul_le_mul_right _ hm)]
    · refine h.cells rfl j u ?_
      rw [List.getElem?_take] at hu
      split at hu
      · exact hu
      · cases hu
end
end Go.Proofs.Ytjmdiobnappgkaa
