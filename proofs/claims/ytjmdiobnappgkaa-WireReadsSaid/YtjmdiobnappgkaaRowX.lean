/-
  Memory: a row of the call's own of which no cell is frozen, whatever mark stands behind it (so '[]byte(s)' lays one): appended to, and read back as a string.
-/
import Derived.Test.YtjmdiobnappgkaaMem
import Derived.Deep.Upon
namespace Go.Proofs.Ytjmdiobnappgkaa
open Go.RowKit
set_option linter.unusedVariables false
set_option linter.unusedSimpArgs false

/-- As 'ownsRow', but that a mark may stand where no cell is. -/
def rowX (w : World) (base : Nat) (e : TypeId) (size : Nat) (v : Value) (n : Nat) (xs : List Value) : Prop :=
  xs.length = n * size ∧
  ((v = .slice none 0 0 ∧ n = 0) ∨
   ∃ g cap cur fz, v = .slice (some ⟨g, 0, none⟩) n cap ∧ base ≤ g ∧ w.heap[g]? = some (.cells cur e fz) ∧ (∀ j, j < cur.size → w.frozen? ⟨g, j, none⟩ = false) ∧ n ≤ cap ∧ cap ≤ maxLen ∧ cur.size = cap * size ∧ cur.toList.take (n * size) = xs)

section
variable {w w' : World} {base : Nat} {e : TypeId} {size : Nat} {v : Value} {n : Nat} {xs : List Value}
theorem rowX.nil (w : World) (base : Nat) (e : TypeId) (size : Nat) : rowX w base e size (.slice none 0 0) 0 [] := ⟨by simp, .inl ⟨rfl, rfl⟩⟩
theorem rowX.own (h : w.ownsRow base e size v n xs) : rowX w base e size v n xs := by
  refine ⟨h.1, h.2.imp id ?_⟩
  rintro ⟨g, cap, cur, hv, hg, hh, r⟩
  exact ⟨g, cap, cur, (0, 0), hv, hg, hh, fun j _ => by simp [World.frozen?, hh], r⟩
theorem rowX.lt (h : rowX w base e size v n xs) : ∀ k, v.ownBlock = some k → base ≤ k ∧ k < w.heap.size := by
  intro k hk
  rcases h.2 with ⟨rfl, _⟩ | ⟨g, cap, cur, fz, rfl, hb, hg, _⟩
  · simp [Value.ownBlock] at hk
  · simp [Value.ownBlock] at hk
    subst hk
    exact ⟨hb, (Array.getElem?_eq_some_iff.1 hg).1⟩
theorem rowX.form (h : rowX w base e size v n xs) : ∃ A c, v = .slice A n c := by
  rcases h.2 with ⟨rfl, rfl⟩ | ⟨g, cap, cur, fz, rfl, _⟩
  · exact ⟨_, _, rfl⟩
  · exact ⟨_, _, rfl⟩
theorem rowX.congr (h : rowX w base e size v n xs) (hk : ∀ k, v.ownBlock = some k → w'.heap[k]? = w.heap[k]?) : rowX w' base e size v n xs := by
  refine ⟨h.1, ?_⟩
  rcases h.2 with h2 | ⟨g, cap, cur, fz, rfl, hg, hh, hf, r⟩
  · exact .inl h2
  · have := hk g rfl
    exact .inr ⟨g, cap, cur, fz, rfl, hg, this.trans hh, fun j hj => by simp only [World.frozen?, this]; exact hf j hj, r⟩
theorem rowX.below (h : rowX w base e size v n xs) (hb : Below w.heap.size w w') : rowX w' base e size v n xs := h.congr fun k hk => hb.block k (h.lt k hk).2
theorem rowX.alloc (h : rowX w base e size v n xs) (o : Obj) : rowX (w.alloc o) base e size v n xs := h.congr fun k hk => Below.heap_alloc _ _ _ (h.lt k hk).2
theorem rowX.drew (h : rowX w base e size v n xs) : rowX w.drew base e size v n xs := h
theorem rowX.drewN (h : rowX w base e size v n xs) (q : Nat) : rowX (w.drewN q) base e size v n xs := h
theorem rowX.cells {A : Addr} {m c : Nat} (h : rowX w base e size (.slice (some A) m c) n xs) : ∀ j u, xs[j]? = some u → w.cell? (A.add j) = some u := by
  intro j u hu
  rcases h.2 with ⟨hc, _⟩ | ⟨g, cap, cur, fz, hv, hg, hh, hf, hn, hm, hs, ht⟩
  · cases hc
  · injection hv with h1 h2 h3
    injection h1 with h1
    subst h1
    rw [Addr.add_lit, Nat.zero_add, cell_of_row w g j cur e fz hh]
    rw [← ht, List.getElem?_take] at hu
    split at hu
    · simpa using hu
    · cases hu

theorem setCells_tape (b : Nat) : ∀ (vs : List Value) (o : Nat) (w : World), (w.setCells b o vs).tape = w.tape ∧ (w.setCells b o vs).os = w.os ∧ (w.setCells b o vs).output = w.output ∧ (w.setCells b o vs).heap.size = w.heap.size
  | [], _, _ => ⟨rfl, rfl, rfl, rfl⟩
  | v :: r, o, w => by
    have := setCells_tape b r (o + 1) (w.setCell ⟨b, o, none⟩ v)
    rw [World.setCells]
    exact ⟨this.1, this.2.1, this.2.2.1, this.2.2.2.trans (by simp [World.setCell])⟩
theorem setCells_row (g : Nat) (fz : Nat × Nat) : ∀ (vs : List Value) (o : Nat) (cur : Array Value) (w : World), w.heap[g]? = some (.cells cur e fz) → o + vs.length ≤ cur.size →
    ∃ cur', (w.setCells g o vs).heap[g]? = some (.cells cur' e fz) ∧ cur'.size = cur.size ∧ cur'.toList.take (o + vs.length) = cur.toList.take o ++ vs
  | [], o, cur, w, h, _ => ⟨cur, h, rfl, by simp⟩
  | v :: r, o, cur, w, h, hl => by
    simp only [List.length_cons] at hl
    have h1 : (w.setCell ⟨g, o, none⟩ v).heap[g]? = some (.cells (cur.setIfInBounds o v) e fz) := by
      simp [World.setCell, Array.getElem?_modify, h]
    obtain ⟨cur', a, b, c⟩ := setCells_row g fz r (o + 1) _ _ h1 (by simp; omega)
    refine ⟨cur', a, by simpa using b, ?_⟩
    rw [List.length_cons, show o + (r.length + 1) = o + 1 + r.length by omega, c]
    have : (cur.setIfInBounds o v).toList.take (o + 1) = cur.toList.take o ++ [v] := by
      rw [Array.toList_setIfInBounds, List.take_set, List.take_succ_eq_append_getElem (by simp; omega)]
      rw [List.set_append_right _ _ (by simp; omega)]
      simp [Nat.min_eq_left (show o ≤ cur.size by omega)]
    rw [this]; simp

variable {P : Program}
/-- '[]byte(s)'. -/
theorem rowX.ofString (w : World) (src dst e : TypeId) (s : ByteArray) (hs : P.underlying src = some .string) (hd : P.underlying dst = some (.slice e)) (he : P.underlying e = some (.int .u8)) (hmax : s.size ≤ maxLen) :
    ∃ v w2, (convert src dst (.string s)).run P w = .ok v w2 ∧ Below w.heap.size w w2 ∧ w2.heap.size = w.heap.size + 1 ∧ rowX w2 w.heap.size e 1 v s.size (bvals s.data.toList) ∧ v.ownBlock = some w.heap.size := by
  refine ⟨_, _, run_bytes_of_string w src dst e s hs hd he, ((Below.refl _ _).drew).alloc (Nat.le_refl _) _, by simp, ⟨by simp [bvals_length], .inr ⟨w.heap.size, _, _, _, rfl, Nat.le_refl _, heap_alloc_new w.drew _, ?_, grownCap_ge _ _ _ _, grownCap_le_maxLen _ _ _ _ hmax, ?_, ?_⟩⟩, rfl⟩
  · intro j hj
    have := heap_alloc_new w.drew (.cells (bytesRow s (grownCap w s.size 0 e)) e ((bytesRow s (grownCap w s.size 0 e)).size, (bytesRow s (grownCap w s.size 0 e)).size + 1))
    have h1 : w.drew.heap.size = w.heap.size := rfl
    rw [h1] at this
    simp only [World.frozen?, this]
    simp; omega
  · have := grownCap_ge w s.size 0 e
    simp only [bytesRow, Array.size_append, Array.size_map, Array.size_replicate, Nat.mul_one]
    have h2 : s.data.size = s.size := rfl
    omega
  · simp only [bytesRow, bvals, Nat.mul_one, Array.toList_append, Array.toList_map]
    rw [List.take_append_of_le_length (by simp), List.take_of_length_le (by simp)]
/-- 'string(b)'. -/
theorem rowX.toString {src dst : TypeId} {l : List UInt8} (hs : P.underlying src = some (.slice e)) (he : P.underlying e = some (.int .u8)) (hd : P.underlying dst = some .string)
    (h : rowX w base e 1 v n (bvals l)) : (convert src dst v).run P w = .ok (.string ⟨l.toArray⟩) w := by
  have hl := h.1
  simp only [bvals_length, Nat.mul_one] at hl
  rcases h.2 with ⟨rfl, rfl⟩ | ⟨g, cap, cur, fz, rfl, _⟩
  · have : l = [] := List.eq_nil_of_length_eq_zero hl
    subst this
    exact run_convert_bytes_nil w src e hs he 0 0 dst hd
  · subst hl
    refine run_convert_bytes_back w src dst e ⟨g, 0, none⟩ cap l hs he hd ?_
    intro j hj
    refine h.cells j _ ?_
    simp [bvals, hj]
/-- Appended to, out of whatever source. -/
theorem run_append_x (t tx ty e : TypeId) (i : TypeInfo) (z : Value) (bytes : Nat) (ht : P.underlying t = some (.slice e)) (hi : P.info? e = some i) (hz : i.zero = some z) (hsize : i.size = size) (hby : i.bytes = bytes) (hzs : z.cells.size = size)
    (h : rowX w base e size v n xs) (x : Value) (m : Nat) (news : List Value) (hs : Src P size tx x m news w) (h63 : n + m ≤ maxLen) (hbytes : (n + m) * bytes ≤ 140737488355328) (hbase : base ≤ w.heap.size) :
    ∃ v' w', (Builtin.append_ #[t, tx] ty #[v, x]).run P w = .ok v' w' ∧ rowX w' base e size v' (n + m) (xs ++ news) ∧ w.grownBy w' v.ownBlock ∧ (v'.ownBlock = v.ownBlock ∨ v'.ownBlock = some w.heap.size) := by
  subst hsize; subst hby
  have hnl := hs.newsLen
  have hxl := h.1
  have hsmall : ((n + m : Nat) : Int) ≤ 9223372036854775807 := by simp only [maxLen] at h63; omega
  have grow : ∀ (bs : Option Addr) (sc : Nat), v = .slice bs n sc → sc < n + m → (Builtin.firstCells i.size n (.slice bs n sc)).run P w.drew = .ok xs.toArray w.drew →
      ∃ v' w', (Builtin.append_ #[t, tx] ty #[v, x]).run P w = .ok v' w' ∧ rowX w' base e i.size v' (n + m) (xs ++ news) ∧ w.grownBy w' v.ownBlock ∧ (v'.ownBlock = v.ownBlock ∨ v'.ownBlock = some w.heap.size) := by
    rintro bs sc rfl hg hold
    have hrun := run_append_grow_src (P := P) w t tx ty e i z ht hi hz bs n sc xs hold x m news hs hg hsmall (growslice_fits hg hbytes)
    have hge := grownCap_ge w (n + m) sc e
    refine ⟨_, _, hrun, ⟨by rw [List.length_append, hxl, hnl, Nat.add_mul], .inr ⟨w.heap.size, _, _, (0, 0), rfl, hbase, heap_alloc_new w.drew _, ?_, hge, grownCap_le_maxLen _ _ _ _ h63, ?_, ?_⟩⟩, ?_, .inr rfl⟩
    · intro j _; exact World.frozen?_alloc_new w.drew _ _ j
    · rw [Array.size_append, size_zeroCells, hzs, List.size_toArray, List.length_append, hxl, hnl, ← Nat.add_mul, ← Nat.add_mul]
      congr 1; omega
    · rw [Array.toList_append]
      rw [List.take_append_of_le_length (by simp [hxl, hnl, Nat.add_mul]), List.take_of_length_le (by simp [hxl, hnl, Nat.add_mul])]
    · exact ⟨rfl, rfl, rfl, by simp, fun k hk _ => Below.heap_alloc w.drew _ k hk⟩
  rcases h.2 with ⟨hv, hn0⟩ | ⟨g, cap, cur, fz, hv, hg, hh, hf, hn, hm, hcs, htk⟩
  · subst hn0
    have hx0 : xs = [] := List.eq_nil_of_length_eq_zero (by rw [hxl]; simp)
    subst hx0
    by_cases h0 : m = 0
    · subst h0
      have hn0 : news = [] := List.eq_nil_of_length_eq_zero (by rw [hnl]; simp)
      subst hn0
      rw [hv]
      exact ⟨_, _, run_append_nothing (P := P) w t tx ty e i ht hi none 0 0 (Nat.le_refl _) x hs, rowX.nil _ _ _ _, ⟨rfl, rfl, rfl, Nat.le_refl _, fun _ _ _ => rfl⟩, .inl rfl⟩
    · exact grow none 0 hv (by omega) (run_firstCells_none w.drew i.size 0 0 0)
  · by_cases hfit : n + m ≤ cap
    · have hcap : (n + m) * i.size ≤ cap * i.size := Nat.mul_le_mul_right _ hfit
      rw [Nat.add_mul] at hcap
      have hrun := run_append_room_src (P := P) w t tx ty e i ht hi g 0 n cap x m news hs hfit
        (fun j hj => by rw [Nat.zero_add, cell_of_row w g _ cur e fz hh, Array.getElem?_eq_getElem (by omega)]; rfl)
        (fun j hj => by rw [Nat.zero_add]; exact hf _ (by omega))
      obtain ⟨cur', a, b, c⟩ := setCells_row (e := e) g fz news (0 + n * i.size) cur w hh (by omega)
      have ht4 := setCells_tape g news (0 + n * i.size) w
      rw [hv]
      refine ⟨_, _, hrun, ⟨by rw [List.length_append, hxl, hnl, Nat.add_mul], .inr ⟨g, cap, cur', fz, rfl, hg, a, ?_, hfit, hm, b.trans hcs, ?_⟩⟩, ⟨ht4.2.1, ht4.1, ht4.2.2.1, by rw [ht4.2.2.2]; exact Nat.le_refl _, ?_⟩, .inl rfl⟩
      · intro j hj
        rw [World.frozen?_setCells]
        exact hf j (by omega)
      · rw [Nat.zero_add, hnl] at c
        rw [Nat.add_mul, c, htk]
      · intro k hk hne
        exact World.heap_setCells_other w g _ news hk (fun e => hne (by rw [e]; rfl))
    · refine grow (some ⟨g, 0, none⟩) cap hv (by omega) ?_
      refine run_firstCells_some w.drew i.size n ⟨g, 0, none⟩ n cap xs hxl (fun j u hu => ?_)
      subst hv
      exact h.cells j u hu
theorem wpList_append_x {ops : Array Oper} {rest : List Oper} {o : Oper} {a : Act} {Q : Exit → Act → World → Prop} (hgd : o.guard = none) (s x : Operand) (t tx : TypeId)
    (ho : o.op = .call { callee := .builtin .append, args := #[s, x], argTypes := #[t, tx] })
    (base : Nat) (e : TypeId) (i : TypeInfo) (z : Value) (size bytes : Nat) (ht : P.underlying t = some (.slice e)) (hi : P.info? e = some i) (hz : i.zero = some z)
    (hsize : i.size = size) (hby : i.bytes = bytes) (hzs : z.cells.size = size)
    (v : Value) (n : Nat) (xs : List Value) (hv : a.eval s = v) (h : rowX w base e size v n xs)
    (xv : Value) (m : Nat) (news : List Value) (hx : a.eval x = xv) (hs : Src P size tx xv m news w)
    (h63 : n + m ≤ maxLen) (hbytes : (n + m) * bytes ≤ 140737488355328) (hbase : base ≤ w.heap.size)
    (hK : ∀ v' w', rowX w' base e size v' (n + m) (xs ++ news) → w.grownBy w' v.ownBlock → (v'.ownBlock = v.ownBlock ∨ v'.ownBlock = some w.heap.size) → wpList P ops Q rest (a.put o.dst v') w') : wpList P ops Q (o :: rest) a w := by
  refine wpList_plain hgd fun K hK' => ?_
  obtain ⟨v', w', hrun, r1, r2, r3⟩ := run_append_x (P := P) t tx o.type e i z bytes ht hi hz hsize hby hzs h xv m news hs h63 hbytes hbase
  unfold Oper.wp
  simp [execOp, ho, resolve, invoke, builtin, hv, hx, hrun, Result.andThen]
  exact hK' _ _ (hK v' w' r1 r2 r3)
end
theorem grown_below {w w1 w2 : World} {B : Nat} {row : Option Nat} (h : Below B w w1) (hg : w1.grownBy w2 row) (hB : B ≤ w1.heap.size) (hr : ∀ k, row = some k → B ≤ k) : Below B w w2 :=
  h.grown hg hB hr
end Go.Proofs.Ytjmdiobnappgkaa
