/-
  Several texts of this seat as one (for the limit of files): Kit, Kit2, Kit3, KitX, Mem, MemCopy, RowX, RowY.
-/
import Derived.WalkKit
import Derived.WalkSpells
import Derived.WalkLawsBesides
import Derived.Lib.Hide
import Derived.Laws.CopyRow
import Derived.Laws.Tables
import Derived.Laws.IdiomStrings
import Derived.Lib.Strings
import Derived.Lib.Bytes
import Derived.Laws.BitsAllLaws
import Derived.Deep.RegionHeld3
import Derived.Deep.RegionLaw
import Derived.Deep.AppendLies
import Derived.Maps.AppendAt
import Derived.Laws.AppendOwnNone
import Derived.Deep.Upon
/-
  Small laws of memory and of the walk that the proofs of this seat share. No function of the program is named here.
-/
namespace Go.Proofs.YtkdajlhmodmkoaaDoor
open Go.RowKit
set_option linter.unusedVariables false
set_option linter.unusedSimpArgs false

theorem alloc_setRow (w : World) (cs cs' : Array Value) (t : TypeId) (fr : Nat × Nat) : (w.alloc (.cells cs t fr)).setRow w.heap.size cs' = w.alloc (.cells cs' t fr) := by
  simp only [World.setRow, World.alloc]
  congr 1
  apply Array.ext
  · simp
  · intro i h1 h2
    simp only [Array.getElem_modify]
    by_cases h : w.heap.size = i
    · subst h; simp
    · rw [if_neg h]
      simp only [Array.size_modify, Array.size_push] at h1
      rw [Array.getElem_push_lt (by omega), Array.getElem_push_lt (by omega)]

theorem run_storeCells_new {P : Program} (w : World) (cs : Array Value) (t : TypeId) (news : List Value) (h : news.length = cs.size) (h1 : ∀ v ∈ news, v.oneCell' = true) :
    (storeCells ⟨w.heap.size, 0, none⟩ news).run P (w.alloc (.cells cs t)) = .ok () (w.alloc (.cells news.toArray t)) := by
  have := run_storeCells_at P w.heap.size 0 t news 0 cs (w.alloc (.cells cs t)) (heap_alloc_new w _) (by omega) h1
  rw [this, alloc_setRow]
  congr 3
  have e : cs.toList.drop (0 + 0 + news.length) = [] := by
    apply List.drop_eq_nil_of_le; simp [h]
  rw [e]; simp

theorem below_drewN' {B : Nat} {a w : World} (h : Below B a w) (n : Nat) : Below B a (w.drewN n) := ⟨h.os, h.tape, h.output, h.size, h.block⟩

/-- '[]byte(s)': a new block with the bytes. -/
theorem conv_bytes {P : Program} (w : World) (src dst e : TypeId) (s : ByteArray) (hs : P.underlying src = some .string) (hd : P.underlying dst = some (.slice e)) (he : P.underlying e = some (.int .u8)) :
    ∃ cap w2, (convert src dst (.string s)).run P w = .ok (.slice (some ⟨w.heap.size, 0, none⟩) s.size cap) w2 ∧ Below w.heap.size w w2 ∧ w2.heap.size = w.heap.size + 1 ∧ s.size ≤ cap ∧
      ∀ i (h : i < s.size), w2.cell? ⟨w.heap.size, i, none⟩ = some (.int .u8 (s[i].toNat : Int)) := by
  refine ⟨_, _, run_bytes_of_string w src dst e s hs hd he, ?_, ?_, grownCap_ge _ _ _ _, ?_⟩
  · exact ((Below.refl _ _).drew).alloc (Nat.le_refl _) _
  · simp
  · intro i hi
    have h1 : w.drew.heap.size = w.heap.size := rfl
    have := World.cell?_alloc_mark w.drew (bytesRow s (grownCap w s.size 0 e)) e ((bytesRow s (grownCap w s.size 0 e)).size, (bytesRow s (grownCap w s.size 0 e)).size + 1) i
    rw [h1] at this
    rw [this]
    exact bytesRow_at s _ i hi
end Go.Proofs.YtkdajlhmodmkoaaDoor

/-
  Small laws of memory and of the walk, more: bytes of a new block as a string.
-/
namespace Go.Proofs.YtkdajlhmodmkoaaDoor
open Go.RowKit
set_option linter.unusedVariables false
set_option linter.unusedSimpArgs false

/-- 'string([]byte{..})' of a block that was just made. -/
theorem conv_string_new {P : Program} (w : World) (src dst e : TypeId) (xs : List Int) (hs : P.underlying src = some (.slice e)) (he : P.underlying e = some (.int .u8)) (hd : P.underlying dst = some .string) (len cap : Nat) (hl : xs.length = len) (t : TypeId) :
    (convert src dst (.slice (some ⟨w.heap.size, 0, none⟩) len cap)).run P (w.alloc (.cells (xs.map (Value.int .u8)).toArray t)) = .ok (.string (strOfNums xs)) (w.alloc (.cells (xs.map (Value.int .u8)).toArray t)) := by
  refine run_convert_bytes_arg _ src e hs he w.heap.size 0 len cap xs hl (fun i hi => ?_) dst hd
  rw [cell_of_row _ _ _ _ _ _ (heap_alloc_new w _)]
  have : i < xs.length := by omega
  simp [this]
end Go.Proofs.YtkdajlhmodmkoaaDoor

/-
  Small laws of memory and of the walk, more: one cell appended to a row of the call's own, in a plain region and in one that draws its order; such a row of bytes as a string.
-/
namespace Go.Proofs.YtkdajlhmodmkoaaDoor
open Go.RowKit
set_option linter.unusedVariables false
set_option linter.unusedSimpArgs false

theorem bthen {w w1 w2 : World} (h : Below w.heap.size w w1) (k : Below w1.heap.size w1 w2) : Below w.heap.size w w2 := h.trans (k.mono h.size)
theorem ext_le (s : ByteArray) (k : Nat) : (s.extract 0 k).size ≤ k := by rw [ByteArray.size_extract]; omega

/-- Bytes as cells. -/
def bvals (l : List UInt8) : List Value := l.map fun c => Value.int .u8 (c.toNat : Int)
theorem bvals_length (l : List UInt8) : (bvals l).length = l.length := by simp [bvals]
theorem bvals_append (l m : List UInt8) : bvals (l ++ m) = bvals l ++ bvals m := by simp [bvals]
theorem bvals_one (l : List UInt8) : ∀ u ∈ bvals l, u.oneCell' = true := by
  intro u hu; simp only [bvals, List.mem_map] at hu; obtain ⟨_, _, rfl⟩ := hu; rfl

section
variable {P : Program} {w : World}

theorem step_append1 {ops : Array Oper} {o : Oper} {a : Act} {K : Act → World → Prop} {Q : Exit → Act → World → Prop} {E : Prop} (hgd : o.guard = none) (s x : Operand) (t : TypeId)
    (ho : o.op = .call { callee := .builtin .append, args := #[s, x], argTypes := #[t, t] })
    (base : Nat) (e : TypeId) (i : TypeInfo) (z : Value) (bytes : Nat) (ht : P.underlying t = some (.slice e)) (hi : P.info? e = some i) (hz : i.zero = some z)
    (hsize : i.size = 1) (hby : i.bytes = bytes) (hzs : z.cells.size = 1)
    (v : Value) (n : Nat) (xs : List Value) (hs : a.eval s = v) (hown : w.ownsRow base e 1 v n xs)
    (g : Nat) (hx : a.eval x = .slice (some ⟨g, 0, none⟩) 1 1) (u : Value) (hu : w.cell? ⟨g, 0, none⟩ = some u) (h1 : u.oneCell' = true)
    (h63 : n + 1 ≤ maxLen) (hbytes : (n + 1) * bytes ≤ 140737488355328) (hbase : base ≤ w.heap.size)
    (h : ∀ v' w', w'.ownsRow base e 1 v' (n + 1) (xs ++ [u]) → w.grownBy w' v.ownBlock → (v'.ownBlock = v.ownBlock ∨ v'.ownBlock = some w.heap.size) → K (a.put o.dst v') w') :
    if Region.wanted o (yielded ops a.tmps) = true then Oper.wp P o a w K Q else E := by
  refine step_append_lies w hgd s x t ho base e i z 1 bytes ht hi hz hsize hby hzs (by decide) v n xs hs hown ⟨g, 0, none⟩ 1 1 [u] hx rfl ?_ ?_ (by decide) h63 hbytes hbase _ rfl ?_
  · intro j y hj
    match j, hj with
    | 0, hj => simp at hj; subst hj; simpa [Addr.add] using hu
  · intro y hy; simp at hy; subst hy; exact h1
  · intro g' cap w' h2 h3 h4 h5
    refine h _ w' h2 h3 ?_
    rcases h4 with h4 | h4
    · exact .inl h4.symm
    · subst h4; exact .inr rfl

theorem wpList_append1 {ops : Array Oper} {rest : List Oper} {o : Oper} {a : Act} {Q : Exit → Act → World → Prop} (hgd : o.guard = none) (s x : Operand) (t : TypeId)
    (ho : o.op = .call { callee := .builtin .append, args := #[s, x], argTypes := #[t, t] })
    (base : Nat) (e : TypeId) (i : TypeInfo) (z : Value) (bytes : Nat) (ht : P.underlying t = some (.slice e)) (hi : P.info? e = some i) (hz : i.zero = some z)
    (hsize : i.size = 1) (hby : i.bytes = bytes) (hzs : z.cells.size = 1)
    (v : Value) (n : Nat) (xs : List Value) (hs : a.eval s = v) (hown : w.ownsRow base e 1 v n xs)
    (g : Nat) (hx : a.eval x = .slice (some ⟨g, 0, none⟩) 1 1) (u : Value) (hu : w.cell? ⟨g, 0, none⟩ = some u) (h1 : u.oneCell' = true)
    (h63 : n + 1 ≤ maxLen) (hbytes : (n + 1) * bytes ≤ 140737488355328) (hbase : base ≤ w.heap.size)
    (h : ∀ v' w', w'.ownsRow base e 1 v' (n + 1) (xs ++ [u]) → w.grownBy w' v.ownBlock → (v'.ownBlock = v.ownBlock ∨ v'.ownBlock = some w.heap.size) → wpList P ops Q rest (a.put o.dst v') w') : wpList P ops Q (o :: rest) a w := by
  refine wpList_append_lies w hgd s x t ho base e i z 1 bytes ht hi hz hsize hby hzs (by decide) v n xs hs hown ⟨g, 0, none⟩ 1 1 [u] hx rfl ?_ ?_ (by decide) h63 hbytes hbase _ rfl ?_
  · intro j y hj
    match j, hj with
    | 0, hj => simp at hj; subst hj; simpa [Addr.add] using hu
  · intro y hy; simp at hy; subst hy; exact h1
  · intro g' cap w' h2 h3 h4 h5
    refine h _ w' h2 h3 ?_
    rcases h4 with h4 | h4
    · exact .inl h4.symm
    · subst h4; exact .inr rfl

/-- 'string(b)' of a row of the call's own. -/
theorem conv_own {base e src dst t : TypeId} {v : Value} {n : Nat} {l : List UInt8} (hs : P.underlying src = some (.slice e)) (he : P.underlying e = some (.int .u8)) (hd : P.underlying dst = some .string)
    (hown : w.ownsRow base t 1 v n (bvals l)) : (convert src dst v).run P w = .ok (.string ⟨l.toArray⟩) w := by
  have hl := hown.1
  simp only [bvals_length, Nat.mul_one] at hl
  rcases hown.2 with ⟨rfl, rfl⟩ | ⟨g, cap, cur, rfl, _⟩
  · have : l = [] := List.eq_nil_of_length_eq_zero hl
    subst this
    exact run_convert_bytes_nil w src e hs he 0 0 dst hd
  · subst hl
    refine run_convert_bytes_back w src dst e ⟨g, 0, none⟩ cap l hs he hd ?_
    intro j hj
    refine hown.cells rfl j _ ?_
    simp [bvals, hj]
end
theorem own_below {w1 w2 : World} {base : Nat} {e : TypeId} {size : Nat} {v : Value} {n : Nat} {xs : List Value} (h : w1.ownsRow base e size v n xs) (hb : Below w1.heap.size w1 w2) : w2.ownsRow base e size v n xs := by
  refine ⟨h.1, ?_⟩
  rcases h.2 with h2 | ⟨g, cap, cur, hv, hg, hh, r⟩
  · exact .inl h2
  · exact .inr ⟨g, cap, cur, hv, hg, by rw [hb.block g (Array.getElem?_eq_some_iff.1 hh).1]; exact hh, r⟩
theorem own_belowB {w1 w2 : World} {B base : Nat} {e : TypeId} {size : Nat} {v : Value} {n : Nat} {xs : List Value} (hb : Below B w1 w2) (hB : w1.heap.size = B) (h : w1.ownsRow base e size v n xs) : w2.ownsRow base e size v n xs := by
  subst hB; exact own_below h hb
theorem below_step {w w1 w2 : World} {B : Nat} (h : Below B w1 w2) (hB : w1.heap.size = B) (h0 : Below w.heap.size w w1) : Below w.heap.size w w2 := by
  subst hB; exact bthen h0 h
end Go.Proofs.YtkdajlhmodmkoaaDoor

/-
  Small laws of memory (for the merged texts: they stand in CrcLaw4 too).
-/
namespace Go.Proofs.YtkdajlhmodmkoaaDoor
open Go.RowKit
theorem cell_belowB {w1 w2 : World} {B : Nat} {p : Addr} {v : Value} (hb : Below B w1 w2) (hB : w1.heap.size = B) (h : w1.cell? p = some v) : w2.cell? p = some v := by
  subst hB; exact (hb.cell (World.block_lt_of_cell? w1 p h)).trans h
end Go.Proofs.YtkdajlhmodmkoaaDoor

/-
  Memory, framed: 'Only B l w w2': of the blocks below B those alone may have turned that stand in the list l. Blocks that are known whole.
-/
namespace Go.Proofs.YtkdajlhmodmkoaaDoor
open Go.RowKit
set_option linter.unusedVariables false
set_option linter.unusedSimpArgs false

structure Only (B : Nat) (l : List Nat) (w w' : World) : Prop where
  os : w'.os = w.os
  tape : w'.tape = w.tape
  output : w'.output = w.output
  size : w.heap.size ≤ w'.heap.size
  block : ∀ k, k < B → k ∉ l → w'.heap[k]? = w.heap[k]?

theorem Only.refl (B : Nat) (l : List Nat) (w : World) : Only B l w w := ⟨rfl, rfl, rfl, Nat.le_refl _, fun _ _ _ => rfl⟩
theorem Only.trans {B : Nat} {l : List Nat} {a b c : World} (h : Only B l a b) (k : Only B l b c) : Only B l a c :=
  ⟨k.os.trans h.os, k.tape.trans h.tape, k.output.trans h.output, Nat.le_trans h.size k.size, fun i hi hn => (k.block i hi hn).trans (h.block i hi hn)⟩
theorem Only.mono {B B' : Nat} {l l' : List Nat} {w w' : World} (h : Only B l w w') (hB : B' ≤ B) (hl : ∀ k, k < B' → k ∈ l → k ∈ l') : Only B' l' w w' :=
  ⟨h.os, h.tape, h.output, h.size, fun k hk hn => h.block k (Nat.lt_of_lt_of_le hk hB) (fun hm => hn (hl k hk hm))⟩
theorem Only.then {B B' : Nat} {l l' : List Nat} {a b c : World} (h : Only B l a b) (k : Only B' l' b c) (hB : B ≤ B') (hl : ∀ k, k < B → k ∈ l' → k ∈ l) : Only B l a c := h.trans (k.mono hB hl)
theorem Only.drew {B : Nat} {l : List Nat} {a w : World} (h : Only B l a w) : Only B l a w.drew := ⟨h.os, h.tape, h.output, h.size, h.block⟩
theorem Only.drewN {B : Nat} {l : List Nat} {a w : World} (h : Only B l a w) (n : Nat) : Only B l a (w.drewN n) := ⟨h.os, h.tape, h.output, h.size, h.block⟩
theorem Only.alloc {B : Nat} {l : List Nat} {a w : World} (h : Only B l a w) (hB : B ≤ w.heap.size) (o : Obj) : Only B l a (w.alloc o) :=
  h.trans ⟨rfl, rfl, rfl, by simp, fun k hk _ => Below.heap_alloc _ _ _ (by omega)⟩
theorem Only.setCell {B : Nat} {l : List Nat} {a w : World} (h : Only B l a w) {p : Addr} (hp : p.block ∈ l ∨ B ≤ p.block) (u : Value) : Only B l a (w.setCell p u) :=
  h.trans ⟨rfl, rfl, rfl, by simp [World.setCell], fun k hk hn => Below.heap_setCell _ _ _ _ (by
    rintro rfl
    rcases hp with hp | hp
    · exact hn hp
    · omega)⟩
theorem Only.grown {B : Nat} {l : List Nat} {a w w' : World} {row : Option Nat} (h : Only B l a w) (hg : w.grownBy w' row) (hB : B ≤ w.heap.size) (hr : ∀ k, row = some k → k ∈ l ∨ B ≤ k) : Only B l a w' :=
  h.trans ⟨hg.os, hg.tape, hg.output, hg.size, fun k hk hn => hg.block k (by omega) (fun e => by
    rcases hr k e.symm with h1 | h1
    · exact hn h1
    · omega)⟩
theorem Only.below {B : Nat} {l : List Nat} {w w' : World} (h : Only B l w w') (hl : ∀ k ∈ l, B ≤ k) : Below B w w' :=
  ⟨h.os, h.tape, h.output, h.size, fun k hk => h.block k hk (fun hm => by have := hl k hm; omega)⟩
theorem Only.ofBelow {B : Nat} {w w' : World} (h : Below B w w') (l : List Nat) : Only B l w w' := ⟨h.os, h.tape, h.output, h.size, fun k hk _ => h.block k hk⟩

/-- Block g is just the cells cs, none of which is frozen. -/
def Blk (w : World) (g : Nat) (t : TypeId) (cs : Array Value) : Prop := w.heap[g]? = some (.cells cs t (0, 0))
section
variable {w w' : World} {g : Nat} {t : TypeId} {cs : Array Value}
theorem Blk.lt (h : Blk w g t cs) : g < w.heap.size := (Array.getElem?_eq_some_iff.1 h).1
theorem Blk.cell (h : Blk w g t cs) (i : Nat) : w.cell? ⟨g, i, none⟩ = cs[i]? := cell_of_row w g i cs t (0, 0) h
theorem Blk.frozen (h : Blk w g t cs) (i : Nat) : w.frozen? ⟨g, i, none⟩ = false := by
  unfold Blk at h; simp [World.frozen?, h]
theorem Blk.new (w : World) (t : TypeId) (cs : Array Value) : Blk (w.alloc (.cells cs t)) w.heap.size t cs := heap_alloc_new w _
theorem Blk.drew (h : Blk w g t cs) : Blk w.drew g t cs := h
theorem Blk.drewN (h : Blk w g t cs) (n : Nat) : Blk (w.drewN n) g t cs := h
theorem Blk.alloc (h : Blk w g t cs) (o : Obj) : Blk (w.alloc o) g t cs := (Below.heap_alloc w o g h.lt).trans h
theorem Blk.set_ (h : Blk w g t cs) (i : Nat) (u : Value) : Blk (w.setCell ⟨g, i, none⟩ u) g t (cs.setIfInBounds i u) := by
  unfold Blk at h ⊢; simp [World.setCell, Array.getElem?_modify, h]
theorem Blk.far (h : Blk w g t cs) {p : Addr} (hp : g ≠ p.block) (u : Value) : Blk (w.setCell p u) g t cs := (Below.heap_setCell w p u g hp).trans h
theorem Blk.only {B : Nat} {l : List Nat} (h : Blk w g t cs) (ho : Only B l w w') (hB : g < B) (hn : g ∉ l) : Blk w' g t cs := (ho.block g hB hn).trans h
theorem Blk.grown {row : Option Nat} (h : Blk w g t cs) (hb : w.grownBy w' row) (hg : some g ≠ row) : Blk w' g t cs := (hb.block g h.lt hg).trans h
theorem Blk.ne_ {g' : Nat} {t' : TypeId} {cs' : Array Value} (h : Blk w g t cs) (h' : Blk w g' t' cs') (hne : t ≠ t') : g ≠ g' := by
  rintro rfl
  unfold Blk at h h'
  rw [h] at h'
  injection h' with h'
  injection h' with _ ht
  exact hne ht
/-- Rows and blocks of different element types never share a block. -/
theorem own_blk_ne {base : Nat} {e : TypeId} {size n : Nat} {v : Value} {xs : List Value} (h : w.ownsRow base e size v n xs) (hg : Blk w g t cs) (hne : e ≠ t) : v.ownBlock ≠ some g := by
  rcases h.2 with ⟨rfl, _⟩ | ⟨g', cap, cur, rfl, _, hh, _⟩
  · simp [Value.ownBlock]
  · intro he
    have : g' = g := by simpa [Value.ownBlock] using he
    subst this
    exact Blk.ne_ (t := e) hh hg hne rfl
theorem own_only {B base : Nat} {l : List Nat} {e : TypeId} {size n : Nat} {v : Value} {xs : List Value} (h : w.ownsRow base e size v n xs) (ho : Only B l w w') (hB : ∀ k, v.ownBlock = some k → k < B ∧ k ∉ l) : w'.ownsRow base e size v n xs := by
  refine ⟨h.1, ?_⟩
  rcases h.2 with h2 | ⟨g, cap, cur, rfl, hg, hh, r⟩
  · exact .inl h2
  · obtain ⟨h1, h2⟩ := hB g rfl
    exact .inr ⟨g, cap, cur, rfl, hg, by rw [ho.block g h1 h2]; exact hh, r⟩
theorem own_set_far {base : Nat} {e : TypeId} {size n : Nat} {v : Value} {xs : List Value} (h : w.ownsRow base e size v n xs) {p : Addr} (hp : v.ownBlock ≠ some p.block) (u : Value) : (w.setCell p u).ownsRow base e size v n xs :=
  ownsRow_setCell_other h hp u
theorem own_lt {base : Nat} {e : TypeId} {size n : Nat} {v : Value} {xs : List Value} (h : w.ownsRow base e size v n xs) : ∀ k, v.ownBlock = some k → k < w.heap.size := fun k hk => (h.lt k hk).2
end

section
variable {P : Program} {w : World}
/-- One element of any number of cells, appended to a row of the call's own; the element lies in a block that was just made. -/
theorem wpList_append_el {ops : Array Oper} {rest : List Oper} {o : Oper} {a : Act} {Q : Exit → Act → World → Prop} (hgd : o.guard = none) (s x : Operand) (t : TypeId)
    (ho : o.op = .call { callee := .builtin .append, args := #[s, x], argTypes := #[t, t] })
    (base : Nat) (e : TypeId) (i : TypeInfo) (z : Value) (size bytes : Nat) (ht : P.underlying t = some (.slice e)) (hi : P.info? e = some i) (hz : i.zero = some z)
    (hsize : i.size = size) (hby : i.bytes = bytes) (hzs : z.cells.size = size) (hsz : 0 < size)
    (v : Value) (n : Nat) (xs : List Value) (hs : a.eval s = v) (hown : w.ownsRow base e size v n xs)
    (g : Nat) (hx : a.eval x = .slice (some ⟨g, 0, none⟩) 1 1) (us : Array Value) (te : TypeId) (fr : Nat × Nat) (hu : w.heap[g]? = some (.cells us te fr)) (hl : us.size = size) (h1 : ∀ u ∈ us.toList, u.oneCell' = true)
    (h63 : n + 1 ≤ maxLen) (hbytes : (n + 1) * bytes ≤ 140737488355328) (hbase : base ≤ w.heap.size)
    (h : ∀ g' cap w', w'.ownsRow base e size (.slice (some ⟨g', 0, none⟩) (n + 1) cap) (n + 1) (xs ++ us.toList) → w.grownBy w' v.ownBlock → (v.ownBlock = some g' ∨ g' = w.heap.size) → wpList P ops Q rest (a.put o.dst (.slice (some ⟨g', 0, none⟩) (n + 1) cap)) w') : wpList P ops Q (o :: rest) a w := by
  refine wpList_append_lies w hgd s x t ho base e i z size bytes ht hi hz hsize hby hzs hsz v n xs hs hown ⟨g, 0, none⟩ 1 1 us.toList hx (by simp [hl]) (World.news_of_block hu) h1 (by decide) h63 hbytes hbase _ rfl ?_
  intro g' cap w' h2 h3 h4 h5
  exact h g' cap w' h2 h3 h4
theorem step_append_el {ops : Array Oper} {o : Oper} {a : Act} {K : Act → World → Prop} {Q : Exit → Act → World → Prop} {E : Prop} (hgd : o.guard = none) (s x : Operand) (t : TypeId)
    (ho : o.op = .call { callee := .builtin .append, args := #[s, x], argTypes := #[t, t] })
    (base : Nat) (e : TypeId) (i : TypeInfo) (z : Value) (size bytes : Nat) (ht : P.underlying t = some (.slice e)) (hi : P.info? e = some i) (hz : i.zero = some z)
    (hsize : i.size = size) (hby : i.bytes = bytes) (hzs : z.cells.size = size) (hsz : 0 < size)
    (v : Value) (n : Nat) (xs : List Value) (hs : a.eval s = v) (hown : w.ownsRow base e size v n xs)
    (g : Nat) (hx : a.eval x = .slice (some ⟨g, 0, none⟩) 1 1) (us : Array Value) (te : TypeId) (fr : Nat × Nat) (hu : w.heap[g]? = some (.cells us te fr)) (hl : us.size = size) (h1 : ∀ u ∈ us.toList, u.oneCell' = true)
    (h63 : n + 1 ≤ maxLen) (hbytes : (n + 1) * bytes ≤ 140737488355328) (hbase : base ≤ w.heap.size)
    (h : ∀ g' cap w', w'.ownsRow base e size (.slice (some ⟨g', 0, none⟩) (n + 1) cap) (n + 1) (xs ++ us.toList) → w.grownBy w' v.ownBlock → (v.ownBlock = some g' ∨ g' = w.heap.size) → K (a.put o.dst (.slice (some ⟨g', 0, none⟩) (n + 1) cap)) w') :
    if Region.wanted o (yielded ops a.tmps) = true then Oper.wp P o a w K Q else E := by
  refine step_append_lies w hgd s x t ho base e i z size bytes ht hi hz hsize hby hzs hsz v n xs hs hown ⟨g, 0, none⟩ 1 1 us.toList hx (by simp [hl]) (World.news_of_block hu) h1 (by decide) h63 hbytes hbase _ rfl ?_
  intro g' cap w' h2 h3 h4 h5
  exact h g' cap w' h2 h3 h4
end
end Go.Proofs.YtkdajlhmodmkoaaDoor

/-
  A slice copied: 'append([]T(nil), xs...)' of a row that is known.
-/
namespace Go.Proofs.YtkdajlhmodmkoaaDoor
open Go.RowKit
set_option linter.unusedVariables false
set_option linter.unusedSimpArgs false

section
variable {P : Program} {w : World}
theorem own_form {base : Nat} {e : TypeId} {size n : Nat} {v : Value} {xs : List Value} (h : w.ownsRow base e size v n xs) : ∃ A c, v = .slice A n c ∧ (∀ k, v.ownBlock = some k → base ≤ k ∧ k < w.heap.size) := by
  have hl := h.lt
  rcases h.2 with ⟨rfl, rfl⟩ | ⟨g, cap, cur, rfl, _⟩
  · exact ⟨none, 0, rfl, hl⟩
  · exact ⟨_, _, rfl, hl⟩

theorem wpList_append_copy {ops : Array Oper} {rest : List Oper} {o : Oper} {a : Act} {Q : Exit → Act → World → Prop} (hgd : o.guard = none) (s x : Operand) (t : TypeId)
    (ho : o.op = .call { callee := .builtin .append, args := #[s, x], argTypes := #[t, t] })
    (base base' : Nat) (e : TypeId) (i : TypeInfo) (z : Value) (size bytes : Nat) (ht : P.underlying t = some (.slice e)) (hi : P.info? e = some i) (hz : i.zero = some z)
    (hsize : i.size = size) (hby : i.bytes = bytes) (hzs : z.cells.size = size) (hsz : 0 < size)
    (hs : a.eval s = .slice none 0 0) (v : Value) (n : Nat) (xs : List Value) (hx : a.eval x = v) (hown : w.ownsRow base e size v n xs) (h1 : ∀ u ∈ xs, u.oneCell' = true)
    (h63 : n ≤ maxLen) (hbytes : n * bytes ≤ 140737488355328) (hbase : base' ≤ w.heap.size)
    (h : ∀ A c w', w'.ownsRow base' e size (.slice A n c) n xs → w.grownBy w' none → (∀ k, (Value.slice A n c).ownBlock = some k → w.heap.size ≤ k) → wpList P ops Q rest (a.put o.dst (.slice A n c)) w') : wpList P ops Q (o :: rest) a w := by
  have hnil := World.ownsRow_nil w base' e size
  rcases hown.2 with ⟨rfl, rfl⟩ | ⟨g, cap, cur, rfl, hg, hh, hn, hm, hsz', htk⟩
  · have hx0 : xs = [] := List.eq_nil_of_length_eq_zero (by rw [hown.1]; simp)
    subst hx0
    exact wpList_append_own_none hgd s x t ho base' e i size ht hi _ 0 [] hs hnil hx (h none 0 w hnil (World.grownBy.refl w _) (by simp [Value.ownBlock]))
  · refine wpList_append_own_at w hgd s x t ho base' e i z size bytes ht hi hz hsize hby hzs hsz _ 0 [] hs hnil ⟨g, 0, none⟩ n cap xs hx hown.1 (hown.cells rfl) h1 (by omega) (by rw [Nat.zero_add]; exact hbytes) hbase ?_
    intro v' w' h2 h3 h4 h5
    rw [Nat.zero_add, List.nil_append] at h2
    have h3' : w.grownBy w' none := h3
    obtain ⟨A, c, rfl, hl⟩ := own_form h2
    refine h A c w' h2 h3' (fun k hk => ?_)
    rcases h5 with h5 | h5
    · rw [h5] at hk; simp [Value.ownBlock] at hk
    · rw [h5] at hk; injection hk with hk; omega
end
end Go.Proofs.YtkdajlhmodmkoaaDoor

/-
  Memory: a row of the call's own of which no cell is frozen, whatever mark stands behind it (so '[]byte(s)' lays one): appended to, and read back as a string.
-/
namespace Go.Proofs.YtkdajlhmodmkoaaDoor
open Go.RowKit
set_option linter.unusedVariables false
set_option linter.unusedSimpArgs false

/-- As 'ownsRow', but that a mark may stand where no cell is. -/
def rowX (w : World) (base : Nat) (e : TypeId) (size : Nat) (v : Value) (n : Nat) (xs : List Value) : Prop :=
  xs.length = n * size ∧
  ((v = .slice none 0 0 ∧ n = 0) ∨
   ∃ g cap cur fz, v = .slice (some ⟨g, 0, none⟩) n cap ∧ base ≤ g ∧ w.heap[g]? = some (.cells cur e fz) ∧ (∀ j, j < cur.size → w.frozen? ⟨g, j, none⟩ = false) ∧ n ≤ cap ∧ cap ≤ maxLen ∧ cur.size = cap * size ∧ cur.toList.take (n * size) = xs)

section
variable {w w' : World} {base : Nat} {e : TypeId} {size : Nat} {v : Value} {n : Nat} {xs : List Value}
theorem rowX.nil (w : World) (base : Nat) (e : TypeId) (size : Nat) : rowX w base e size (.slice none 0 0) 0 [] := ⟨by simp, .inl ⟨rfl, rfl⟩⟩
theorem rowX.own (h : w.ownsRow base e size v n xs) : rowX w base e size v n xs := by
  refine ⟨h.1, h.2.imp id ?_⟩
  rintro ⟨g, cap, cur, hv, hg, hh, r⟩
  exact ⟨g, cap, cur, (0, 0), hv, hg, hh, fun j _ => by simp [World.frozen?, hh], r⟩
theorem rowX.lt (h : rowX w base e size v n xs) : ∀ k, v.ownBlock = some k → base ≤ k ∧ k < w.heap.size := by
  intro k hk
  rcases h.2 with ⟨rfl, _⟩ | ⟨g, cap, cur, fz, rfl, hb, hg, _⟩
  · simp [Value.ownBlock] at hk
  · simp [Value.ownBlock] at hk
    subst hk
    exact ⟨hb, (Array.getElem?_eq_some_iff.1 hg).1⟩
theorem rowX.form (h : rowX w base e size v n xs) : ∃ A c, v = .slice A n c := by
  rcases h.2 with ⟨rfl, rfl⟩ | ⟨g, cap, cur, fz, rfl, _⟩
  · exact ⟨_, _, rfl⟩
  · exact ⟨_, _, rfl⟩
theorem rowX.congr (h : rowX w base e size v n xs) (hk : ∀ k, v.ownBlock = some k → w'.heap[k]? = w.heap[k]?) : rowX w' base e size v n xs := by
  refine ⟨h.1, ?_⟩
  rcases h.2 with h2 | ⟨g, cap, cur, fz, rfl, hg, hh, hf, r⟩
  · exact .inl h2
  · have := hk g rfl
    exact .inr ⟨g, cap, cur, fz, rfl, hg, this.trans hh, fun j hj => by simp only [World.frozen?, this]; exact hf j hj, r⟩
theorem rowX.below (h : rowX w base e size v n xs) (hb : Below w.heap.size w w') : rowX w' base e size v n xs := h.congr fun k hk => hb.block k (h.lt k hk).2
theorem rowX.alloc (h : rowX w base e size v n xs) (o : Obj) : rowX (w.alloc o) base e size v n xs := h.congr fun k hk => Below.heap_alloc _ _ _ (h.lt k hk).2
theorem rowX.drew (h : rowX w base e size v n xs) : rowX w.drew base e size v n xs := h
theorem rowX.drewN (h : rowX w base e size v n xs) (q : Nat) : rowX (w.drewN q) base e size v n xs := h
theorem rowX.cells {A : Addr} {m c : Nat} (h : rowX w base e size (.slice (some A) m c) n xs) : ∀ j u, xs[j]? = some u → w.cell? (A.add j) = some u := by
  intro j u hu
  rcases h.2 with ⟨hc, _⟩ | ⟨g, cap, cur, fz, hv, hg, hh, hf, hn, hm, hs, ht⟩
  · cases hc
  · injection hv with h1 h2 h3
    injection h1 with h1
    subst h1
    rw [Addr.add_lit, Nat.zero_add, cell_of_row w g j cur e fz hh]
    rw [← ht, List.getElem?_take] at hu
    split at hu
    · simpa using hu
    · cases hu

theorem setCells_tape (b : Nat) : ∀ (vs : List Value) (o : Nat) (w : World), (w.setCells b o vs).tape = w.tape ∧ (w.setCells b o vs).os = w.os ∧ (w.setCells b o vs).output = w.output ∧ (w.setCells b o vs).heap.size = w.heap.size
  | [], _, _ => ⟨rfl, rfl, rfl, rfl⟩
  | v :: r, o, w => by
    have := setCells_tape b r (o + 1) (w.setCell ⟨b, o, none⟩ v)
    rw [World.setCells]
    exact ⟨this.1, this.2.1, this.2.2.1, this.2.2.2.trans (by simp [World.setCell])⟩
theorem setCells_row (g : Nat) (fz : Nat × Nat) : ∀ (vs : List Value) (o : Nat) (cur : Array Value) (w : World), w.heap[g]? = some (.cells cur e fz) → o + vs.length ≤ cur.size →
    ∃ cur', (w.setCells g o vs).heap[g]? = some (.cells cur' e fz) ∧ cur'.size = cur.size ∧ cur'.toList.take (o + vs.length) = cur.toList.take o ++ vs
  | [], o, cur, w, h, _ => ⟨cur, h, rfl, by simp⟩
  | v :: r, o, cur, w, h, hl => by
    simp only [List.length_cons] at hl
    have h1 : (w.setCell ⟨g, o, none⟩ v).heap[g]? = some (.cells (cur.setIfInBounds o v) e fz) := by
      simp [World.setCell, Array.getElem?_modify, h]
    obtain ⟨cur', a, b, c⟩ := setCells_row g fz r (o + 1) _ _ h1 (by simp; omega)
    refine ⟨cur', a, by simpa using b, ?_⟩
    rw [List.length_cons, show o + (r.length + 1) = o + 1 + r.length by omega, c]
    have : (cur.setIfInBounds o v).toList.take (o + 1) = cur.toList.take o ++ [v] := by
      rw [Array.toList_setIfInBounds, List.take_set, List.take_succ_eq_append_getElem (by simp; omega)]
      rw [List.set_append_right _ _ (by simp; omega)]
      simp [Nat.min_eq_left (show o ≤ cur.size by omega)]
    rw [this]; simp

variable {P : Program}
/-- '[]byte(s)'. -/
theorem rowX.ofString (w : World) (src dst e : TypeId) (s : ByteArray) (hs : P.underlying src = some .string) (hd : P.underlying dst = some (.slice e)) (he : P.underlying e = some (.int .u8)) (hmax : s.size ≤ maxLen) :
    ∃ v w2, (convert src dst (.string s)).run P w = .ok v w2 ∧ Below w.heap.size w w2 ∧ w2.heap.size = w.heap.size + 1 ∧ rowX w2 w.heap.size e 1 v s.size (bvals s.data.toList) ∧ v.ownBlock = some w.heap.size := by
  refine ⟨_, _, run_bytes_of_string w src dst e s hs hd he, ((Below.refl _ _).drew).alloc (Nat.le_refl _) _, by simp, ⟨by simp [bvals_length], .inr ⟨w.heap.size, _, _, _, rfl, Nat.le_refl _, heap_alloc_new w.drew _, ?_, grownCap_ge _ _ _ _, grownCap_le_maxLen _ _ _ _ hmax, ?_, ?_⟩⟩, rfl⟩
  · intro j hj
    have := heap_alloc_new w.drew (.cells (bytesRow s (grownCap w s.size 0 e)) e ((bytesRow s (grownCap w s.size 0 e)).size, (bytesRow s (grownCap w s.size 0 e)).size + 1))
    have h1 : w.drew.heap.size = w.heap.size := rfl
    rw [h1] at this
    simp only [World.frozen?, this]
    simp; omega
  · have := grownCap_ge w s.size 0 e
    simp only [bytesRow, Array.size_append, Array.size_map, Array.size_replicate, Nat.mul_one]
    have h2 : s.data.size = s.size := rfl
    omega
  · simp only [bytesRow, bvals, Nat.mul_one, Array.toList_append, Array.toList_map]
    rw [List.take_append_of_le_length (by simp), List.take_of_length_le (by simp)]
/-- 'string(b)'. -/
theorem rowX.toString {src dst : TypeId} {l : List UInt8} (hs : P.underlying src = some (.slice e)) (he : P.underlying e = some (.int .u8)) (hd : P.underlying dst = some .string)
    (h : rowX w base e 1 v n (bvals l)) : (convert src dst v).run P w = .ok (.string ⟨l.toArray⟩) w := by
  have hl := h.1
  simp only [bvals_length, Nat.mul_one] at hl
  rcases h.2 with ⟨rfl, rfl⟩ | ⟨g, cap, cur, fz, rfl, _⟩
  · have : l = [] := List.eq_nil_of_length_eq_zero hl
    subst this
    exact run_convert_bytes_nil w src e hs he 0 0 dst hd
  · subst hl
    refine run_convert_bytes_back w src dst e ⟨g, 0, none⟩ cap l hs he hd ?_
    intro j hj
    refine h.cells j _ ?_
    simp [bvals, hj]
/-- Appended to, out of whatever source. -/
theorem run_append_x (t tx ty e : TypeId) (i : TypeInfo) (z : Value) (bytes : Nat) (ht : P.underlying t = some (.slice e)) (hi : P.info? e = some i) (hz : i.zero = some z) (hsize : i.size = size) (hby : i.bytes = bytes) (hzs : z.cells.size = size)
    (h : rowX w base e size v n xs) (x : Value) (m : Nat) (news : List Value) (hs : Src P size tx x m news w) (h63 : n + m ≤ maxLen) (hbytes : (n + m) * bytes ≤ 140737488355328) (hbase : base ≤ w.heap.size) :
    ∃ v' w', (Builtin.append_ #[t, tx] ty #[v, x]).run P w = .ok v' w' ∧ rowX w' base e size v' (n + m) (xs ++ news) ∧ w.grownBy w' v.ownBlock ∧ (v'.ownBlock = v.ownBlock ∨ v'.ownBlock = some w.heap.size) := by
  subst hsize; subst hby
  have hnl := hs.newsLen
  have hxl := h.1
  have hsmall : ((n + m : Nat) : Int) ≤ 9223372036854775807 := by simp only [maxLen] at h63; omega
  have grow : ∀ (bs : Option Addr) (sc : Nat), v = .slice bs n sc → sc < n + m → (Builtin.firstCells i.size n (.slice bs n sc)).run P w.drew = .ok xs.toArray w.drew →
      ∃ v' w', (Builtin.append_ #[t, tx] ty #[v, x]).run P w = .ok v' w' ∧ rowX w' base e i.size v' (n + m) (xs ++ news) ∧ w.grownBy w' v.ownBlock ∧ (v'.ownBlock = v.ownBlock ∨ v'.ownBlock = some w.heap.size) := by
    rintro bs sc rfl hg hold
    have hrun := run_append_grow_src (P := P) w t tx ty e i z ht hi hz bs n sc xs hold x m news hs hg hsmall (growslice_fits hg hbytes)
    have hge := grownCap_ge w (n + m) sc e
    refine ⟨_, _, hrun, ⟨by rw [List.length_append, hxl, hnl, Nat.add_mul], .inr ⟨w.heap.size, _, _, (0, 0), rfl, hbase, heap_alloc_new w.drew _, ?_, hge, grownCap_le_maxLen _ _ _ _ h63, ?_, ?_⟩⟩, ?_, .inr rfl⟩
    · intro j _; exact World.frozen?_alloc_new w.drew _ _ j
    · rw [Array.size_append, size_zeroCells, hzs, List.size_toArray, List.length_append, hxl, hnl, ← Nat.add_mul, ← Nat.add_mul]
      congr 1; omega
    · rw [Array.toList_append]
      rw [List.take_append_of_le_length (by simp [hxl, hnl, Nat.add_mul]), List.take_of_length_le (by simp [hxl, hnl, Nat.add_mul])]
    · exact ⟨rfl, rfl, rfl, by simp, fun k hk _ => Below.heap_alloc w.drew _ k hk⟩
  rcases h.2 with ⟨hv, hn0⟩ | ⟨g, cap, cur, fz, hv, hg, hh, hf, hn, hm, hcs, htk⟩
  · subst hn0
    have hx0 : xs = [] := List.eq_nil_of_length_eq_zero (by rw [hxl]; simp)
    subst hx0
    by_cases h0 : m = 0
    · subst h0
      have hn0 : news = [] := List.eq_nil_of_length_eq_zero (by rw [hnl]; simp)
      subst hn0
      rw [hv]
      exact ⟨_, _, run_append_nothing (P := P) w t tx ty e i ht hi none 0 0 (Nat.le_refl _) x hs, rowX.nil _ _ _ _, ⟨rfl, rfl, rfl, Nat.le_refl _, fun _ _ _ => rfl⟩, .inl rfl⟩
    · exact grow none 0 hv (by omega) (run_firstCells_none w.drew i.size 0 0 0)
  · by_cases hfit : n + m ≤ cap
    · have hcap : (n + m) * i.size ≤ cap * i.size := Nat.mul_le_mul_right _ hfit
      rw [Nat.add_mul] at hcap
      have hrun := run_append_room_src (P := P) w t tx ty e i ht hi g 0 n cap x m news hs hfit
        (fun j hj => by rw [Nat.zero_add, cell_of_row w g _ cur e fz hh, Array.getElem?_eq_getElem (by omega)]; rfl)
        (fun j hj => by rw [Nat.zero_add]; exact hf _ (by omega))
      obtain ⟨cur', a, b, c⟩ := setCells_row (e := e) g fz news (0 + n * i.size) cur w hh (by omega)
      have ht4 := setCells_tape g news (0 + n * i.size) w
      rw [hv]
      refine ⟨_, _, hrun, ⟨by rw [List.length_append, hxl, hnl, Nat.add_mul], .inr ⟨g, cap, cur', fz, rfl, hg, a, ?_, hfit, hm, b.trans hcs, ?_⟩⟩, ⟨ht4.2.1, ht4.1, ht4.2.2.1, by rw [ht4.2.2.2]; exact Nat.le_refl _, ?_⟩, .inl rfl⟩
      · intro j hj
        rw [World.frozen?_setCells]
        exact hf j (by omega)
      · rw [Nat.zero_add, hnl] at c
        rw [Nat.add_mul, c, htk]
      · intro k hk hne
        exact World.heap_setCells_other w g _ news hk (fun e => hne (by rw [e]; rfl))
    · refine grow (some ⟨g, 0, none⟩) cap hv (by omega) ?_
      refine run_firstCells_some w.drew i.size n ⟨g, 0, none⟩ n cap xs hxl (fun j u hu => ?_)
      subst hv
      exact h.cells j u hu
theorem wpList_append_x {ops : Array Oper} {rest : List Oper} {o : Oper} {a : Act} {Q : Exit → Act → World → Prop} (hgd : o.guard = none) (s x : Operand) (t tx : TypeId)
    (ho : o.op = .call { callee := .builtin .append, args := #[s, x], argTypes := #[t, tx] })
    (base : Nat) (e : TypeId) (i : TypeInfo) (z : Value) (size bytes : Nat) (ht : P.underlying t = some (.slice e)) (hi : P.info? e = some i) (hz : i.zero = some z)
    (hsize : i.size = size) (hby : i.bytes = bytes) (hzs : z.cells.size = size)
    (v : Value) (n : Nat) (xs : List Value) (hv : a.eval s = v) (h : rowX w base e size v n xs)
    (xv : Value) (m : Nat) (news : List Value) (hx : a.eval x = xv) (hs : Src P size tx xv m news w)
    (h63 : n + m ≤ maxLen) (hbytes : (n + m) * bytes ≤ 140737488355328) (hbase : base ≤ w.heap.size)
    (hK : ∀ v' w', rowX w' base e size v' (n + m) (xs ++ news) → w.grownBy w' v.ownBlock → (v'.ownBlock = v.ownBlock ∨ v'.ownBlock = some w.heap.size) → wpList P ops Q rest (a.put o.dst v') w') : wpList P ops Q (o :: rest) a w := by
  refine wpList_plain hgd fun K hK' => ?_
  obtain ⟨v', w', hrun, r1, r2, r3⟩ := run_append_x (P := P) t tx o.type e i z bytes ht hi hz hsize hby hzs h xv m news hs h63 hbytes hbase
  unfold Oper.wp
  simp [execOp, ho, resolve, invoke, builtin, hv, hx, hrun, Result.andThen]
  exact hK' _ _ (hK v' w' r1 r2 r3)
end
theorem grown_below {w w1 w2 : World} {B : Nat} {row : Option Nat} (h : Below B w w1) (hg : w1.grownBy w2 row) (hB : B ≤ w1.heap.size) (hr : ∀ k, row = some k → B ≤ k) : Below B w w2 :=
  h.grown hg hB hr
end Go.Proofs.YtkdajlhmodmkoaaDoor

/-
  Memory: a row of the call's own appended to, out of whatever source.
-/
namespace Go.Proofs.YtkdajlhmodmkoaaDoor
open Go.RowKit
set_option linter.unusedVariables false
set_option linter.unusedSimpArgs false

section
variable {w w' : World} {base : Nat} {e : TypeId} {size : Nat} {v : Value} {n : Nat} {xs : List Value} {P : Program}
/-- Appended to, out of whatever source. -/
theorem run_append_o (t tx ty e : TypeId) (i : TypeInfo) (z : Value) (bytes : Nat) (ht : P.underlying t = some (.slice e)) (hi : P.info? e = some i) (hz : i.zero = some z) (hsize : i.size = size) (hby : i.bytes = bytes) (hzs : z.cells.size = size)
    (h : w.ownsRow base e size v n xs) (x : Value) (m : Nat) (news : List Value) (hs : Src P size tx x m news w) (h63 : n + m ≤ maxLen) (hbytes : (n + m) * bytes ≤ 140737488355328) (hbase : base ≤ w.heap.size) :
    ∃ v' w', (Builtin.append_ #[t, tx] ty #[v, x]).run P w = .ok v' w' ∧ w'.ownsRow base e size v' (n + m) (xs ++ news) ∧ w.grownBy w' v.ownBlock ∧ (v'.ownBlock = v.ownBlock ∨ v'.ownBlock = some w.heap.size) := by
  subst hsize; subst hby
  have hnl := hs.newsLen
  have hxl := h.1
  have hsmall : ((n + m : Nat) : Int) ≤ 9223372036854775807 := by simp only [maxLen] at h63; omega
  have grow : ∀ (bs : Option Addr) (sc : Nat), v = .slice bs n sc → sc < n + m → (Builtin.firstCells i.size n (.slice bs n sc)).run P w.drew = .ok xs.toArray w.drew →
      ∃ v' w', (Builtin.append_ #[t, tx] ty #[v, x]).run P w = .ok v' w' ∧ w'.ownsRow base e i.size v' (n + m) (xs ++ news) ∧ w.grownBy w' v.ownBlock ∧ (v'.ownBlock = v.ownBlock ∨ v'.ownBlock = some w.heap.size) := by
    rintro bs sc rfl hg hold
    have hrun := run_append_grow_src (P := P) w t tx ty e i z ht hi hz bs n sc xs hold x m news hs hg hsmall (growslice_fits hg hbytes)
    have hge := grownCap_ge w (n + m) sc e
    refine ⟨_, _, hrun, ⟨by rw [List.length_append, hxl, hnl, Nat.add_mul], .inr ⟨w.heap.size, _, _, rfl, hbase, heap_alloc_new w.drew _, hge, grownCap_le_maxLen _ _ _ _ h63, ?_, ?_⟩⟩, ?_, .inr rfl⟩
    · rw [Array.size_append, size_zeroCells, hzs, List.size_toArray, List.length_append, hxl, hnl, ← Nat.add_mul, ← Nat.add_mul]
      congr 1; omega
    · rw [Array.toList_append]
      rw [List.take_append_of_le_length (by simp [hxl, hnl, Nat.add_mul]), List.take_of_length_le (by simp [hxl, hnl, Nat.add_mul])]
    · exact ⟨rfl, rfl, rfl, by simp, fun k hk _ => Below.heap_alloc w.drew _ k hk⟩
  rcases h.2 with ⟨hv, hn0⟩ | ⟨g, cap, cur, hv, hg, hh, hn, hm, hcs, htk⟩
  rotate_left
  have hf : ∀ j, j < cur.size → w.frozen? ⟨g, j, none⟩ = false := fun j _ => by simp [World.frozen?, hh]
  rotate_left
  · subst hn0
    have hx0 : xs = [] := List.eq_nil_of_length_eq_zero (by rw [hxl]; simp)
    subst hx0
    by_cases h0 : m = 0
    · subst h0
      have hn0 : news = [] := List.eq_nil_of_length_eq_zero (by rw [hnl]; simp)
      subst hn0
      rw [hv]
      exact ⟨_, _, run_append_nothing (P := P) w t tx ty e i ht hi none 0 0 (Nat.le_refl _) x hs, World.ownsRow_nil _ _ _ _, ⟨rfl, rfl, rfl, Nat.le_refl _, fun _ _ _ => rfl⟩, .inl rfl⟩
    · exact grow none 0 hv (by omega) (run_firstCells_none w.drew i.size 0 0 0)
  · by_cases hfit : n + m ≤ cap
    · have hcap : (n + m) * i.size ≤ cap * i.size := Nat.mul_le_mul_right _ hfit
      rw [Nat.add_mul] at hcap
      have hrun := run_append_room_src (P := P) w t tx ty e i ht hi g 0 n cap x m news hs hfit
        (fun j hj => by rw [Nat.zero_add, cell_of_row w g _ cur e (0, 0) hh, Array.getElem?_eq_getElem (by omega)]; rfl)
        (fun j hj => by rw [Nat.zero_add]; exact hf _ (by omega))
      obtain ⟨cur', a, b, c⟩ := setCells_row (e := e) g (0, 0) news (0 + n * i.size) cur w hh (by omega)
      have ht4 := setCells_tape g news (0 + n * i.size) w
      rw [hv]
      refine ⟨_, _, hrun, ⟨by rw [List.length_append, hxl, hnl, Nat.add_mul], .inr ⟨g, cap, cur', rfl, hg, a, hfit, hm, b.trans hcs, ?_⟩⟩, ⟨ht4.2.1, ht4.1, ht4.2.2.1, by rw [ht4.2.2.2]; exact Nat.le_refl _, ?_⟩, .inl rfl⟩
      · rw [Nat.zero_add, hnl] at c
        rw [Nat.add_mul, c, htk]
      · intro k hk hne
        exact World.heap_setCells_other w g _ news hk (fun e => hne (by rw [e]; rfl))
    · refine grow (some ⟨g, 0, none⟩) cap hv (by omega) ?_
      refine run_firstCells_some w.drew i.size n ⟨g, 0, none⟩ n cap xs hxl (fun j u hu => ?_)
      subst hv
      exact h.cells rfl j u hu
theorem wpList_append_o {ops : Array Oper} {rest : List Oper} {o : Oper} {a : Act} {Q : Exit → Act → World → Prop} (hgd : o.guard = none) (s x : Operand) (t tx : TypeId)
    (ho : o.op = .call { callee := .builtin .append, args := #[s, x], argTypes := #[t, tx] })
    (base : Nat) (e : TypeId) (i : TypeInfo) (z : Value) (size bytes : Nat) (ht : P.underlying t = some (.slice e)) (hi : P.info? e = some i) (hz : i.zero = some z)
    (hsize : i.size = size) (hby : i.bytes = bytes) (hzs : z.cells.size = size)
    (v : Value) (n : Nat) (xs : List Value) (hv : a.eval s = v) (h : w.ownsRow base e size v n xs)
    (xv : Value) (m : Nat) (news : List Value) (hx : a.eval x = xv) (hs : Src P size tx xv m news w)
    (h63 : n + m ≤ maxLen) (hbytes : (n + m) * bytes ≤ 140737488355328) (hbase : base ≤ w.heap.size)
    (hK : ∀ v' w', w'.ownsRow base e size v' (n + m) (xs ++ news) → w.grownBy w' v.ownBlock → (v'.ownBlock = v.ownBlock ∨ v'.ownBlock = some w.heap.size) → wpList P ops Q rest (a.put o.dst v') w') : wpList P ops Q (o :: rest) a w := by
  refine wpList_plain hgd fun K hK' => ?_
  obtain ⟨v', w', hrun, r1, r2, r3⟩ := run_append_o (P := P) t tx o.type e i z bytes ht hi hz hsize hby hzs h xv m news hs h63 hbytes hbase
  unfold Oper.wp
  simp [execOp, ho, resolve, invoke, builtin, hv, hx, hrun, Result.andThen]
  exact hK' _ _ (hK v' w' r1 r2 r3)
/-- The first m elements of a row of the call's own, as a source. -/
theorem src_own {tx e' : TypeId} (hk : P.underlying tx = some (.slice e')) {A : Option Addr} {len cap : Nat} (h : w.ownsRow base e size (.slice A len cap) len xs) (h1 : ∀ u ∈ xs, u.oneCell' = true) (m c : Nat) (hm : m ≤ len) : Src P size tx (.slice A m c) m (xs.take (m * size)) w := by
  have hl := h.1
  rcases h.2 with ⟨hv, h0⟩ | ⟨g, cap', cur, hv, hg, hh, hn, hmx, hcs, htk⟩
  · injection hv with e1 e2 e3
    subst e1 e2
    have : m = 0 := by omega
    subst this
    simpa using Src.ofNil (P := P) (w := w) (size := size) hk c
  · injection hv with e1 e2 e3
    subst e1
    refine Src.ofSlice w hk _ _ _ _ ?_ (fun j u hu => ?_) (fun u hu => h1 u (List.mem_of_mem_take hu))
    · rw [List.length_take, hl, Nat.min_eq_left (Nat.mul_le_mul_right _ hm)]
    · refine h.cells rfl j u ?_
      rw [List.getElem?_take] at hu
      split at hu
      · exact hu
      · cases hu
end
end Go.Proofs.YtkdajlhmodmkoaaDoor
