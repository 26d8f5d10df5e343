/-
  Several texts of this seat as one (for the limit of files): KitX, Mem, MemCopy, DiskM, DiskW, DiskW2, DiskW3, DiskC, DiskC2, DiskK, DiskF@def D0, DiskO, DiskL@theorem diskTrims_walk, DiskN, DiskP, DiskQ, RowX, RowY, DiskG, DiskG2, DiskG3, DiskG4, DiskG5, DiskJ, DiskJ2.
-/
import Derived.Test.YtjmdiobnappgkaaJA
import Derived.Maps.AppendAt
import Derived.Laws.AppendOwnNone
import Derived.Test.YtjmdiobnappgkaaRows
import Derived.Deep.QuietTactic
import Derived.BigQuiet
import Derived.BigRegion
import Derived.Laws.EntriesVeiled
import Derived.StillTailTactics
import Derived.OpenShut
import Derived.Lib.SmallJoins
import Derived.Deep.Slices
import Derived.ChangeSame
import Derived.Deep.RegionHeld3
import Derived.Deep.Upon
/-
  Small laws of memory (for the merged texts: they stand in CrcLaw4 too).
-/
namespace Go.Proofs.Ytjmdiobnappgkaa
open Go.RowKit
theorem cell_belowB {w1 w2 : World} {B : Nat} {p : Addr} {v : Value} (hb : Below B w1 w2) (hB : w1.heap.size = B) (h : w1.cell? p = some v) : w2.cell? p = some v := by
  subst hB; exact (hb.cell (World.block_lt_of_cell? w1 p h)).trans h
end Go.Proofs.Ytjmdiobnappgkaa

/-
  Memory, framed: 'Only B l w w2': of the blocks below B those alone may have turned that stand in the list l. Blocks that are known whole.
-/
namespace Go.Proofs.Ytjmdiobnappgkaa
open Go.RowKit
set_option linter.unusedVariables false
set_option linter.unusedSimpArgs false

structure Only (B : Nat) (l : List Nat) (w w' : World) : Prop where
  os : w'.os = w.os
  tape : w'.tape = w.tape
  output : w'.output = w.output
  size : w.heap.size ≤ w'.heap.size
  block : ∀ k, k < B → k ∉ l → w'.heap[k]? = w.heap[k]?

theorem Only.refl (B : Nat) (l : List Nat) (w : World) : Only B l w w := ⟨rfl, rfl, rfl, Nat.le_refl _, fun _ _ _ => rfl⟩
theorem Only.trans {B : Nat} {l : List Nat} {a b c : World} (h : Only B l a b) (k : Only B l b c) : Only B l a c :=
  ⟨k.os.trans h.os, k.tape.trans h.tape, k.output.trans h.output, Nat.le_trans h.size k.size, fun i hi hn => (k.block i hi hn).trans (h.block i hi hn)⟩
theorem Only.mono {B B' : Nat} {l l' : List Nat} {w w' : World} (h : Only B l w w') (hB : B' ≤ B) (hl : ∀ k, k < B' → k ∈ l → k ∈ l') : Only B' l' w w' :=
  ⟨h.os, h.tape, h.output, h.size, fun k hk hn => h.block k (Nat.lt_of_lt_of_le hk hB) (fun hm => hn (hl k hk hm))⟩
theorem Only.then {B B' : Nat} {l l' : List Nat} {a b c : World} (h : Only B l a b) (k : Only B' l' b c) (hB : B ≤ B') (hl : ∀ k, k < B → k ∈ l' → k ∈ l) : Only B l a c := h.trans (k.mono hB hl)
theorem Only.drew {B : Nat} {l : List Nat} {a w : World} (h : Only B l a w) : Only B l a w.drew := ⟨h.os, h.tape, h.output, h.size, h.block⟩
theorem Only.drewN {B : Nat} {l : List Nat} {a w : World} (h : Only B l a w) (n : Nat) : Only B l a (w.drewN n) := ⟨h.os, h.tape, h.output, h.size, h.block⟩
theorem Only.alloc {B : Nat} {l : List Nat} {a w : World} (h : Only B l a w) (hB : B ≤ w.heap.size) (o : Obj) : Only B l a (w.alloc o) :=
  h.trans ⟨rfl, rfl, rfl, by simp, fun k hk _ => Below.heap_alloc _ _ _ (by omega)⟩
theorem Only.setCell {B : Nat} {l : List Nat} {a w : World} (h : Only B l a w) {p : Addr} (hp : p.block ∈ l ∨ B ≤ p.block) (u : Value) : Only B l a (w.setCell p u) :=
  h.trans ⟨rfl, rfl, rfl, by simp [World.setCell], fun k hk hn => Below.heap_setCell _ _ _ _ (by
    rintro rfl
    rcases hp with hp | hp
    · exact hn hp
    · omega)⟩
theorem Only.grown {B : Nat} {l : List Nat} {a w w' : World} {row : Option Nat} (h : Only B l a w) (hg : w.grownBy w' row) (hB : B ≤ w.heap.size) (hr : ∀ k, row = some k → k ∈ l ∨ B ≤ k) : Only B l a w' :=
  h.trans ⟨hg.os, hg.tape, hg.output, hg.size, fun k hk hn => hg.block k (by omega) (fun e => by
    rcases hr k e.symm with h1 | h1
    · exact hn h1
    · omega)⟩
theorem Only.below {B : Nat} {l : List Nat} {w w' : World} (h : Only B l w w') (hl : ∀ k ∈ l, B ≤ k) : Below B w w' :=
  ⟨h.os, h.tape, h.output, h.size, fun k hk => h.block k hk (fun hm => by have := hl k hm; omega)⟩
theorem Only.ofBelow {B : Nat} {w w' : World} (h : Below B w w') (l : List Nat) : Only B l w w' := ⟨h.os, h.tape, h.output, h.size, fun k hk _ => h.block k hk⟩

/-- Block g is just the cells cs, none of which is frozen. -/
def Blk (w : World) (g : Nat) (t : TypeId) (cs : Array Value) : Prop := w.heap[g]? = some (.cells cs t (0, 0))
section
variable {w w' : World} {g : Nat} {t : TypeId} {cs : Array Value}
theorem Blk.lt (h : Blk w g t cs) : g < w.heap.size := (Array.getElem?_eq_some_iff.1 h).1
theorem Blk.cell (h : Blk w g t cs) (i : Nat) : w.cell? ⟨g, i, none⟩ = cs[i]? := cell_of_row w g i cs t (0, 0) h
theorem Blk.frozen (h : Blk w g t cs) (i : Nat) : w.frozen? ⟨g, i, none⟩ = false := by
  unfold Blk at h; simp [World.frozen?, h]
theorem Blk.new (w : World) (t : TypeId) (cs : Array Value) : Blk (w.alloc (.cells cs t)) w.heap.size t cs := heap_alloc_new w _
theorem Blk.drew (h : Blk w g t cs) : Blk w.drew g t cs := h
theorem Blk.drewN (h : Blk w g t cs) (n : Nat) : Blk (w.drewN n) g t cs := h
theorem Blk.alloc (h : Blk w g t cs) (o : Obj) : Blk (w.alloc o) g t cs := (Below.heap_alloc w o g h.lt).trans h
theorem Blk.set_ (h : Blk w g t cs) (i : Nat) (u : Value) : Blk (w.setCell ⟨g, i, none⟩ u) g t (cs.setIfInBounds i u) := by
  unfold Blk at h ⊢; simp [World.setCell, Array.getElem?_modify, h]
theorem Blk.far (h : Blk w g t cs) {p : Addr} (hp : g ≠ p.block) (u : Value) : Blk (w.setCell p u) g t cs := (Below.heap_setCell w p u g hp).trans h
theorem Blk.only {B : Nat} {l : List Nat} (h : Blk w g t cs) (ho : Only B l w w') (hB : g < B) (hn : g ∉ l) : Blk w' g t cs := (ho.block g hB hn).trans h
theorem Blk.grown {row : Option Nat} (h : Blk w g t cs) (hb : w.grownBy w' row) (hg : some g ≠ row) : Blk w' g t cs := (hb.block g h.lt hg).trans h
theorem Blk.ne_ {g' : Nat} {t' : TypeId} {cs' : Array Value} (h : Blk w g t cs) (h' : Blk w g' t' cs') (hne : t ≠ t') : g ≠ g' := by
  rintro rfl
  unfold Blk at h h'
  rw [h] at h'
  injection h' with h'
  injection h' with _ ht
  exact hne ht
/-- Rows and blocks of different element types never share a block. -/
theorem own_blk_ne {base : Nat} {e : TypeId} {size n : Nat} {v : Value} {xs : List Value} (h : w.ownsRow base e size v n xs) (hg : Blk w g t cs) (hne : e ≠ t) : v.ownBlock ≠ some g := by
  rcases h.2 with ⟨rfl, _⟩ | ⟨g', cap, cur, rfl, _, hh, _⟩
  · simp [Value.ownBlock]
  · intro he
    have : g' = g := by simpa [Value.ownBlock] using he
    subst this
    exact Blk.ne_ (t := e) hh hg hne rfl
theorem own_only {B base : Nat} {l : List Nat} {e : TypeId} {size n : Nat} {v : Value} {xs : List Value} (h : w.ownsRow base e size v n xs) (ho : Only B l w w') (hB : ∀ k, v.ownBlock = some k → k < B ∧ k ∉ l) : w'.ownsRow base e size v n xs := by
  refine ⟨h.1, ?_⟩
  rcases h.2 with h2 | ⟨g, cap, cur, rfl, hg, hh, r⟩
  · exact .inl h2
  · obtain ⟨h1, h2⟩ := hB g rfl
    exact .inr ⟨g, cap, cur, rfl, hg, by rw [ho.block g h1 h2]; exact hh, r⟩
theorem own_set_far {base : Nat} {e : TypeId} {size n : Nat} {v : Value} {xs : List Value} (h : w.ownsRow base e size v n xs) {p : Addr} (hp : v.ownBlock ≠ some p.block) (u : Value) : (w.setCell p u).ownsRow base e size v n xs :=
  ownsRow_setCell_other h hp u
theorem own_lt {base : Nat} {e : TypeId} {size n : Nat} {v : Value} {xs : List Value} (h : w.ownsRow base e size v n xs) : ∀ k, v.ownBlock = some k → k < w.heap.size := fun k hk => (h.lt k hk).2
end

section
variable {P : Program} {w : World}
/-- One element of any number of cells, appended to a row of the call's own; the element lies in a block that was just made. -/
theorem wpList_append_el {ops : Array Oper} {rest : List Oper} {o : Oper} {a : Act} {Q : Exit → Act → World → Prop} (hgd : o.guard = none) (s x : Operand) (t : TypeId)
    (ho : o.op = .call { callee := .builtin .append, args := #[s, x], argTypes := #[t, t] })
    (base : Nat) (e : TypeId) (i : TypeInfo) (z : Value) (size bytes : Nat) (ht : P.underlying t = some (.slice e)) (hi : P.info? e = some i) (hz : i.zero = some z)
    (hsize : i.size = size) (hby : i.bytes = bytes) (hzs : z.cells.size = size) (hsz : 0 < size)
    (v : Value) (n : Nat) (xs : List Value) (hs : a.eval s = v) (hown : w.ownsRow base e size v n xs)
    (g : Nat) (hx : a.eval x = .slice (some ⟨g, 0, none⟩) 1 1) (us : Array Value) (te : TypeId) (fr : Nat × Nat) (hu : w.heap[g]? = some (.cells us te fr)) (hl : us.size = size) (h1 : ∀ u ∈ us.toList, u.oneCell' = true)
    (h63 : n + 1 ≤ maxLen) (hbytes : (n + 1) * bytes ≤ 140737488355328) (hbase : base ≤ w.heap.size)
    (h : ∀ g' cap w', w'.ownsRow base e size (.slice (some ⟨g', 0, none⟩) (n + 1) cap) (n + 1) (xs ++ us.toList) → w.grownBy w' v.ownBlock → (v.ownBlock = some g' ∨ g' = w.heap.size) → wpList P ops Q rest (a.put o.dst (.slice (some ⟨g', 0, none⟩) (n + 1) cap)) w') : wpList P ops Q (o :: rest) a w := by
  refine wpList_append_lies w hgd s x t ho base e i z size bytes ht hi hz hsize hby hzs hsz v n xs hs hown ⟨g, 0, none⟩ 1 1 us.toList hx (by simp [hl]) (World.news_of_block hu) h1 (by decide) h63 hbytes hbase _ rfl ?_
  intro g' cap w' h2 h3 h4 h5
  exact h g' cap w' h2 h3 h4
theorem step_append_el {ops : Array Oper} {o : Oper} {a : Act} {K : Act → World → Prop} {Q : Exit → Act → World → Prop} {E : Prop} (hgd : o.guard = none) (s x : Operand) (t : TypeId)
    (ho : o.op = .call { callee := .builtin .append, args := #[s, x], argTypes := #[t, t] })
    (base : Nat) (e : TypeId) (i : TypeInfo) (z : Value) (size bytes : Nat) (ht : P.underlying t = some (.slice e)) (hi : P.info? e = some i) (hz : i.zero = some z)
    (hsize : i.size = size) (hby : i.bytes = bytes) (hzs : z.cells.size = size) (hsz : 0 < size)
    (v : Value) (n : Nat) (xs : List Value) (hs : a.eval s = v) (hown : w.ownsRow base e size v n xs)
    (g : Nat) (hx : a.eval x = .slice (some ⟨g, 0, none⟩) 1 1) (us : Array Value) (te : TypeId) (fr : Nat × Nat) (hu : w.heap[g]? = some (.cells us te fr)) (hl : us.size = size) (h1 : ∀ u ∈ us.toList, u.oneCell' = true)
    (h63 : n + 1 ≤ maxLen) (hbytes : (n + 1) * bytes ≤ 140737488355328) (hbase : base ≤ w.heap.size)
    (h : ∀ g' cap w', w'.ownsRow base e size (.slice (some ⟨g', 0, none⟩) (n + 1) cap) (n + 1) (xs ++ us.toList) → w.grownBy w' v.ownBlock → (v.ownBlock = some g' ∨ g' = w.heap.size) → K (a.put o.dst (.slice (some ⟨g', 0, none⟩) (n + 1) cap)) w') :
    if Region.wanted o (yielded ops a.tmps) = true then Oper.wp P o a w K Q else E := by
  refine step_append_lies w hgd s x t ho base e i z size bytes ht hi hz hsize hby hzs hsz v n xs hs hown ⟨g, 0, none⟩ 1 1 us.toList hx (by simp [hl]) (World.news_of_block hu) h1 (by decide) h63 hbytes hbase _ rfl ?_
  intro g' cap w' h2 h3 h4 h5
  exact h g' cap w' h2 h3 h4
end
end Go.Proofs.Ytjmdiobnappgkaa

/-
  A slice copied: 'append([]T(nil), xs...)' of a row that is known.
-/
namespace Go.Proofs.Ytjmdiobnappgkaa
open Go.RowKit
set_option linter.unusedVariables false
set_option linter.unusedSimpArgs false

section
variable {P : Program} {w : World}
theorem own_form {base : Nat} {e : TypeId} {size n : Nat} {v : Value} {xs : List Value} (h : w.ownsRow base e size v n xs) : ∃ A c, v = .slice A n c ∧ (∀ k, v.ownBlock = some k → base ≤ k ∧ k < w.heap.size) := by
  have hl := h.lt
  rcases h.2 with ⟨rfl, rfl⟩ | ⟨g, cap, cur, rfl, _⟩
  · exact ⟨none, 0, rfl, hl⟩
  · exact ⟨_, _, rfl, hl⟩

theorem wpList_append_copy {ops : Array Oper} {rest : List Oper} {o : Oper} {a : Act} {Q : Exit → Act → World → Prop} (hgd : o.guard = none) (s x : Operand) (t : TypeId)
    (ho : o.op = .call { callee := .builtin .append, args := #[s, x], argTypes := #[t, t] })
    (base base' : Nat) (e : TypeId) (i : TypeInfo) (z : Value) (size bytes : Nat) (ht : P.underlying t = some (.slice e)) (hi : P.info? e = some i) (hz : i.zero = some z)
    (hsize : i.size = size) (hby : i.bytes = bytes) (hzs : z.cells.size = size) (hsz : 0 < size)
    (hs : a.eval s = .slice none 0 0) (v : Value) (n : Nat) (xs : List Value) (hx : a.eval x = v) (hown : w.ownsRow base e size v n xs) (h1 : ∀ u ∈ xs, u.oneCell' = true)
    (h63 : n ≤ maxLen) (hbytes : n * bytes ≤ 140737488355328) (hbase : base' ≤ w.heap.size)
    (h : ∀ A c w', w'.ownsRow base' e size (.slice A n c) n xs → w.grownBy w' none → (∀ k, (Value.slice A n c).ownBlock = some k → w.heap.size ≤ k) → wpList P ops Q rest (a.put o.dst (.slice A n c)) w') : wpList P ops Q (o :: rest) a w := by
  have hnil := World.ownsRow_nil w base' e size
  rcases hown.2 with ⟨rfl, rfl⟩ | ⟨g, cap, cur, rfl, hg, hh, hn, hm, hsz', htk⟩
  · have hx0 : xs = [] := List.eq_nil_of_length_eq_zero (by rw [hown.1]; simp)
    subst hx0
    exact wpList_append_own_none hgd s x t ho base' e i size ht hi _ 0 [] hs hnil hx (h none 0 w hnil (World.grownBy.refl w _) (by simp [Value.ownBlock]))
  · refine wpList_append_own_at w hgd s x t ho base' e i z size bytes ht hi hz hsize hby hzs hsz _ 0 [] hs hnil ⟨g, 0, none⟩ n cap xs hx hown.1 (hown.cells rfl) h1 (by omega) (by rw [Nat.zero_add]; exact hbytes) hbase ?_
    intro v' w' h2 h3 h4 h5
    rw [Nat.zero_add, List.nil_append] at h2
    have h3' : w.grownBy w' none := h3
    obtain ⟨A, c, rfl, hl⟩ := own_form h2
    refine h A c w' h2 h3' (fun k hk => ?_)
    rcases h5 with h5 | h5
    · rw [h5] at hk; simp [Value.ownBlock] at hk
    · rw [h5] at hk; injection hk with hk; omega
end
end Go.Proofs.Ytjmdiobnappgkaa

/-
  Layer 14 (disk): the plain model, how it lies in memory, and the walks of New, has, Free, Read, Sync, Loose.
-/
namespace Go.Proofs.Ytjmdiobnappgkaa
open Go.RowKit
set_option linter.unusedVariables false
set_option linter.unusedSimpArgs false

/-- A disk: both files, what is loose (file, how many bytes), the room. -/
structure DS where
  f0 : ByteArray
  f1 : ByteArray
  loose : List (Nat × Nat)
  room : Nat

def lvals (l : List (Nat × Nat)) : List Value := l.flatMap fun p => [Value.int .i64 (p.1 : Int), Value.int .i64 (p.2 : Int)]
def dcells (d : DS) (v : Value) : Array Value := #[.string d.f0, .string d.f1, v, .int .i64 (d.room : Int)]
theorem lvals_append (a b : List (Nat × Nat)) : lvals (a ++ b) = lvals a ++ lvals b := by simp [lvals]
theorem lvals_length (a : List (Nat × Nat)) : (lvals a).length = a.length * 2 := by
  induction a with
  | nil => rfl
  | cons x l ih => simp only [lvals, List.flatMap_cons, List.length_append, List.length_cons, List.length_nil] at ih ⊢; omega

structure IsDisk (w : World) (base g : Nat) (v : Value) (d : DS) : Prop where
  blk : Blk w g 117 (dcells d v)
  hb : base ≤ g
  own : w.ownsRow base 120 2 v d.loose.length (lvals d.loose)

/-- How many loose bytes file f has. -/
def looseOf (f : Nat) (l : List (Nat × Nat)) : Nat := (l.map fun p => if p.1 = f then p.2 else 0).sum
def looseAll (l : List (Nat × Nat)) : Nat := (l.map fun p => p.2).sum
structure DS.ok (d : DS) : Prop where
  fits : d.f0.size + d.f1.size ≤ d.room
  room : d.room ≤ 16777216
  few : d.loose.length ≤ 1000000
  two : ∀ p ∈ d.loose, p.1 < 2
  l0 : looseOf 0 d.loose ≤ d.f0.size
  l1 : looseOf 1 d.loose ≤ d.f1.size
def DS.free (d : DS) : Nat := d.room - d.f0.size - d.f1.size
def DS.file (d : DS) (f : Nat) : ByteArray := if f = 0 then d.f0 else d.f1

section
variable {w : World} {base g : Nat} {v : Value} {d : DS}
theorem IsDisk.c0 (h : IsDisk w base g v d) : w.cell? ⟨g, 0, none⟩ = some (.string d.f0) := h.blk.cell 0
theorem IsDisk.c1 (h : IsDisk w base g v d) : w.cell? ⟨g, 1, none⟩ = some (.string d.f1) := h.blk.cell 1
theorem IsDisk.c2 (h : IsDisk w base g v d) : w.cell? ⟨g, 2, none⟩ = some v := h.blk.cell 2
theorem IsDisk.c3 (h : IsDisk w base g v d) : w.cell? ⟨g, 3, none⟩ = some (.int .i64 (d.room : Int)) := h.blk.cell 3
theorem IsDisk.fr (h : IsDisk w base g v d) (i : Nat) : w.frozen? ⟨g, i, none⟩ = false := h.blk.frozen i
end

theorem has_yes (f : Int) (h0 : 0 ≤ f) (h2 : f < 2) (w : World) : Calls Try.prog 84 #[.int .i64 f] w fun e w' => e = .returned (.bool true) ∧ w = w' := by
  go_enter Try.func84, Try.ntmps84
  go_wp2
  go_ret
  exact ⟨rfl, rfl⟩
theorem has_no (f : Int) (h : f < 0 ∨ 2 ≤ f) (w : World) : Calls Try.prog 84 #[.int .i64 f] w fun e w' => e = .returned (.bool false) ∧ w = w' := by
  rcases h with h | h
  · have h' : decide (0 ≤ f) = false := by simp; omega
    go_enter Try.func84, Try.ntmps84
    go_wp2
    go_ret
    exact ⟨rfl, rfl⟩
  · have h' : 0 ≤ f := by omega
    have h2 : decide (f < 2) = false := by simp; omega
    go_enter Try.func84, Try.ntmps84
    go_wp2
    go_ret
    exact ⟨rfl, rfl⟩

set_option maxRecDepth 100000 in
set_option maxHeartbeats 400000 in
theorem free_any {base g : Nat} {v : Value} {d : DS} {w : World} (h : IsDisk w base g v d) (hk : d.ok) : Calls Try.prog 37 #[.pointer (some ⟨g, 0, none⟩)] w fun e w' => e = .returned (.int .i64 (d.free : Int)) ∧ ∃ n, w' = w.drewN n := by
  have c0 := h.c0
  have c1 := h.c1
  have c3 := h.c3
  have h1 := hk.fits
  have h2 := hk.room
  have hf : (d.room : Int) - d.f0.size - d.f1.size = (d.free : Int) := by unfold DS.free; omega
  have Hf := Lib.hid hf; clear hf
  clear h
  go_enter Try.func37, Try.ntmps37
  go_wp2
  go_quiet (fail)
  go_wp2
  go_ret
  exact ⟨by rw [← Hf.out]; rfl, _, rfl⟩

theorem read_yes {base g : Nat} {v : Value} {d : DS} {w : World} (h : IsDisk w base g v d) (f : Nat) (hf : f < 2) : Calls Try.prog 33 #[.pointer (some ⟨g, 0, none⟩), .int .i64 (f : Int)] w fun e w' => e = .returned (.string (d.file f)) ∧ w = w' := by
  have c0 := h.c0
  have c1 := h.c1
  have hcase : f = 0 ∨ f = 1 := by omega
  clear h
  rcases hcase with rfl | rfl
  all_goals
    go_enter Try.func33, Try.ntmps33
    go_wp2_with fail
    refine (has_yes _ (by omega) (by omega) _).mono ?_
    rintro e w1 ⟨rfl, rfl⟩
    go_wp2
    go_ret
    exact ⟨rfl, rfl⟩
theorem read_no (g : Nat) (f : Int) (h : f < 0 ∨ 2 ≤ f) (w : World) : Calls Try.prog 33 #[.pointer (some ⟨g, 0, none⟩), .int .i64 f] w fun e w' => e = .returned (.string ⟨#[]⟩) ∧ w = w' := by
  go_enter Try.func33, Try.ntmps33
  go_wp2_with fail
  refine (has_no _ h _).mono ?_
  rintro e w1 ⟨rfl, rfl⟩
  go_wp2
  go_ret
  exact ⟨rfl, rfl⟩

def DS.sync (d : DS) : DS := { d with loose := [] }

set_option maxRecDepth 100000 in
set_option maxHeartbeats 400000 in
theorem sync_any {base g : Nat} {v : Value} {d : DS} {w : World} (h : IsDisk w base g v d) : Calls Try.prog 32 #[.pointer (some ⟨g, 0, none⟩)] w fun e w' => e = .returned (.tuple #[]) ∧ IsDisk w' base g (.slice none 0 0) d.sync ∧ Only w.heap.size [g] w w' := by
  have c2 := h.c2
  have f2 := h.fr 2
  have H := Lib.hid h; clear h
  go_enter Try.func32, Try.ntmps32
  go_wp2
  go_end0
  exact ⟨rfl, ⟨H.out.blk.set_ 2 _, H.out.hb, World.ownsRow_nil _ _ _ _⟩, (Only.refl _ _ _).setCell (.inl (by simp)) _⟩

theorem loose_snoc (l : List (Nat × Nat)) (p : Nat × Nat) : looseAll (l ++ [p]) = looseAll l + p.2 := by simp [looseAll]
theorem looseAll_take_le (l : List (Nat × Nat)) (k : Nat) : looseAll (l.take k) ≤ looseAll l := by
  have : looseAll l = looseAll (l.take k) + looseAll (l.drop k) := by
    simp only [looseAll, ← List.sum_append, ← List.map_append, List.take_append_drop]
  omega
theorem looseAll_two : ∀ (l : List (Nat × Nat)), (∀ p ∈ l, p.1 < 2) → looseAll l = looseOf 0 l + looseOf 1 l
  | [], _ => rfl
  | p :: l, h => by
    have ih := looseAll_two l (fun q hq => h q (List.mem_cons_of_mem _ hq))
    have hp := h p (List.mem_cons_self ..)
    simp only [looseAll, looseOf, List.map_cons, List.sum_cons] at ih ⊢
    have : p.1 = 0 ∨ p.1 = 1 := by omega
    rcases this with h0 | h0 <;> simp [h0] <;> omega
theorem DS.ok.all {d : DS} (h : d.ok) : looseAll d.loose ≤ 16777216 := by
  have h1 := looseAll_two d.loose h.two
  have h2 := h.l0; have h3 := h.l1; have h4 := h.fits; have h5 := h.room
  omega
/-- The two cells of a loose entry. -/
theorem lvals_get (l : List (Nat × Nat)) (k : Nat) (hk : k < l.length) : (lvals l)[k * 2]? = some (.int .i64 (l[k].1 : Int)) ∧ (lvals l)[k * 2 + 1]? = some (.int .i64 (l[k].2 : Int)) := by
  induction l generalizing k with
  | nil => simp at hk
  | cons p l ih =>
    cases k with
    | zero => simp [lvals]
    | succ k =>
      have := ih k (by simpa using hk)
      simp only [lvals, List.flatMap_cons, List.cons_append, List.nil_append, List.getElem_cons_succ] at this ⊢
      rw [show (k + 1) * 2 = k * 2 + 1 + 1 by omega, show k * 2 + 1 + 1 + 1 = (k * 2 + 1) + 1 + 1 by omega]
      simpa using this

set_option maxRecDepth 100000 in
set_option maxHeartbeats 400000 in
theorem loose_any {base g : Nat} {v : Value} {d : DS} {w : World} (h : IsDisk w base g v d) (hk : d.ok) : Calls Try.prog 34 #[.pointer (some ⟨g, 0, none⟩)] w fun e w' => e = .returned (.int .i64 (looseAll d.loose : Int)) ∧ Below w.heap.size w w' := by
  have c2 := h.c2
  have hall := hk.all
  have hfew := hk.few
  have hown := h.own
  have H := Lib.hid h; clear h
  rcases hown.2 with ⟨rfl, hn⟩ | ⟨gr, cap, cur, rfl, hbr, hh, hn, hm, hsz, htk⟩
  · have e0 : d.loose = [] := List.eq_nil_of_length_eq_zero hn
    rw [e0]
    have H2 := Lib.hid hn; clear hn hown e0
    go_enter Try.func34, Try.ntmps34
    go_wp2
    refine wp_loop_rounds 1 ?_
    rw [rounds_succ]
    go_wp2
    go_ret
    exact ⟨rfl, Below.refl _ _⟩
  · have hcell := hown.cellAt
    have Hcell := Lib.hid hcell; clear hcell
    clear hown
    have Hsz := Lib.hid hsz; clear hsz
    have Htk := Lib.hid htk; clear htk
    have hrlt : gr < w.heap.size := (Array.getElem?_eq_some_iff.1 hh).1
    have Hh := Lib.hid hh; clear hh
    go_enter Try.func34, Try.ntmps34
    go_wp2
    go_loopw [3, 11] (fun n i wr => ∃ k : Nat, k ≤ d.loose.length ∧ i = .int .i64 k ∧ n = .int .i64 (looseAll (d.loose.take k) : Int) ∧ Below w.heap.size w wr) (fun _ i _ => d.loose.length - (intOf i).toNat)
    case atStart => exact ⟨0, Nat.zero_le _, rfl, rfl, Below.refl _ _⟩
    case round =>
      obtain ⟨k, hk', rfl, rfl, hbel⟩ := hrel
      have hz := hbel.size
      by_cases hlt : k < d.loose.length
      · have hc0 : wr.cell? ⟨gr, k * 2, none⟩ = some (.int .i64 (d.loose[k].1 : Int)) := by
          rw [hbel.cell (by exact hrlt), Hcell.out (k * 2) (by omega)]; exact (lvals_get _ k hlt).1
        have hc1 : wr.cell? ⟨gr, k * 2 + 1, none⟩ = some (.int .i64 (d.loose[k].2 : Int)) := by
          rw [hbel.cell (by exact hrlt), Hcell.out (k * 2 + 1) (by omega)]; exact (lvals_get _ k hlt).2
        have hsn : looseAll (d.loose.take (k + 1)) = looseAll (d.loose.take k) + d.loose[k].2 := by
          rw [List.take_succ_eq_append_getElem hlt, loose_snoc]
        have hle := looseAll_take_le d.loose (k + 1)
        have hb1 : looseAll (d.loose.take k) + d.loose[k].2 ≤ 16777216 := by omega
        have Hsn := Lib.hid hsn; clear hsn hle
        go_wp2
        go_roundw
        case rel => exact ⟨k + 1, by omega, by go_num, by rw [Hsn.out]; go_num, hbel.alloc hz _⟩
        case measure => simp [intOf]; omega
      · obtain rfl : k = d.loose.length := by omega
        have Hfin := Lib.hid (List.take_length (l := d.loose))
        go_wp2
        go_ret
        exact ⟨by rw [← Hfin.out]; simp, hbel⟩

set_option maxRecDepth 100000 in
set_option maxHeartbeats 400000 in
theorem new_no (n : Int) (h : n < 0 ∨ 16777216 < n) (w : World) : Calls Try.prog 30 #[.int .i64 n] w fun e w' => e = .returned (.tuple #[.pointer none, .int .i64 1]) ∧ w = w' := by
  rcases h with h | h
  · go_enter Try.func30, Try.ntmps30
    go_wp2
    go_ret2
    exact ⟨rfl, rfl⟩
  · have h' : decide (n < 0) = false := by simp; omega
    go_enter Try.func30, Try.ntmps30
    go_wp2
    go_ret2
    exact ⟨rfl, rfl⟩
def DS.empty (room : Nat) : DS := ⟨⟨#[]⟩, ⟨#[]⟩, [], room⟩
theorem DS.empty_ok (n : Nat) (h : n ≤ 16777216) : (DS.empty n).ok := ⟨Nat.zero_le n, h, by simp [DS.empty], by simp [DS.empty], by simp [DS.empty, looseOf], by simp [DS.empty, looseOf]⟩
set_option maxRecDepth 100000 in
set_option maxHeartbeats 400000 in
theorem new_yes (n : Nat) (h : n ≤ 16777216) (w : World) : Calls Try.prog 30 #[.int .i64 (n : Int)] w fun e w' => e = .returned (.tuple #[.pointer (some ⟨w.heap.size, 0, none⟩), .int .i64 0]) ∧ IsDisk w' w.heap.size w.heap.size (.slice none 0 0) (DS.empty n) ∧ Only w.heap.size [] w w' := by
  go_enter Try.func30, Try.ntmps30
  go_wp2
  go_ret2
  exact ⟨rfl, ⟨Blk.new _ _ _, Nat.le_refl _, World.ownsRow_nil _ _ _ _⟩, (Only.refl _ _ _).alloc (Nat.le_refl _) _⟩
end Go.Proofs.Ytjmdiobnappgkaa

/-
  Layer 14 (disk): the walks of Put, Turn, Trim, Copy, Crash.
-/
namespace Go.Proofs.Ytjmdiobnappgkaa
open Go.RowKit
set_option linter.unusedVariables false
set_option linter.unusedSimpArgs false

theorem info120 : (Try.prog.info? 120).map (fun i => (i.zero, i.size, i.bytes)) = some (some (.agg #[.int .i64 0, .int .i64 0]), 2, 16) := by kernel_rfl

def DS.put (d : DS) (f : Nat) (s : ByteArray) : DS :=
  if f = 0 then { d with f0 := d.f0 ++ s, loose := d.loose ++ [(0, s.size)] } else { d with f1 := d.f1 ++ s, loose := d.loose ++ [(1, s.size)] }

theorem put_arg (g : Nat) (f : Int) (h : f < 0 ∨ 2 ≤ f) (s : ByteArray) (w : World) : Calls Try.prog 31 #[.pointer (some ⟨g, 0, none⟩), .int .i64 f, .string s] w fun e w' => e = .returned (.int .i64 1) ∧ w = w' := by
  go_enter Try.func31, Try.ntmps31
  go_wp2_with fail
  refine (has_no _ h _).mono ?_
  rintro e w1 ⟨rfl, rfl⟩
  go_wp2
  go_ret
  exact ⟨rfl, rfl⟩

set_option maxRecDepth 100000 in
set_option maxHeartbeats 400000 in
theorem put_full {base g : Nat} {v : Value} {d : DS} {w : World} (h : IsDisk w base g v d) (hk : d.ok) (f : Int) (h0 : 0 ≤ f) (h2 : f < 2) (s : ByteArray) (hs : d.free < s.size) :
    Calls Try.prog 31 #[.pointer (some ⟨g, 0, none⟩), .int .i64 f, .string s] w fun e w' => e = .returned (.int .i64 8) ∧ ∃ n, w' = w.drewN n := by
  have hlt : (d.free : Int) < (s.size : Int) := by omega
  go_enter Try.func31, Try.ntmps31
  go_wp2_with fail
  refine (has_yes _ h0 h2 _).mono ?_
  rintro e w1 ⟨rfl, rfl⟩
  go_wp2_with fail
  refine (free_any h hk).mono ?_
  rintro e w1 ⟨rfl, n, rfl⟩
  go_wp2
  go_ret
  exact ⟨rfl, n, rfl⟩

theorem IsDisk.cf {w : World} {base g : Nat} {v : Value} {d : DS} (h : IsDisk w base g v d) (f : Nat) (hf : f < 2) : w.cell? ⟨g, f, none⟩ = some (.string (d.file f)) := by
  have : f = 0 ∨ f = 1 := by omega
  rcases this with rfl | rfl
  · exact h.c0
  · exact h.c1
theorem file_le {d : DS} (hk : d.ok) (f : Nat) : (d.file f).size ≤ 16777216 := by
  have := hk.fits; have := hk.room; unfold DS.file; split <;> omega
theorem put_cells (d : DS) (v v' : Value) (f : Nat) (hf : f < 2) (s : ByteArray) : ((dcells d v).setIfInBounds f (.string (d.file f ++ s))).setIfInBounds 2 v' = dcells (d.put f s) v' := by
  have : f = 0 ∨ f = 1 := by omega
  rcases this with rfl | rfl <;> rfl
theorem put_loose (d : DS) (f : Nat) (hf : f < 2) (s : ByteArray) : (d.put f s).loose = d.loose ++ [(f, s.size)] := by
  have : f = 0 ∨ f = 1 := by omega
  rcases this with rfl | rfl <;> rfl

set_option maxRecDepth 100000 in
set_option maxHeartbeats 400000 in
theorem put_ok {base g : Nat} {v : Value} {d : DS} {w : World} (h : IsDisk w base g v d) (hk : d.ok) (f : Nat) (hf2 : f < 2) (s : ByteArray) (hs : s.size ≤ d.free) (hfew : d.loose.length < 1000000) :
    Calls Try.prog 31 #[.pointer (some ⟨g, 0, none⟩), .int .i64 (f : Int), .string s] w fun e w' => e = .returned (.int .i64 0) ∧ ∃ v', IsDisk w' base g v' (d.put f s) ∧ (v'.ownBlock = v.ownBlock ∨ ∃ k, w.heap.size ≤ k ∧ v'.ownBlock = some k) ∧ Only w.heap.size (g :: v.ownBlock.toList) w w' := by
  have hge : ¬ (d.free : Int) < (s.size : Int) := by omega
  obtain ⟨i0, hi, hz0, hz1, hz2⟩ := info_parts info120
  have cf := h.cf f hf2
  have ff := h.fr f
  have hfl := file_le hk f
  have hfit := hk.fits
  have hroom := hk.room
  have hfree : d.free ≤ 16777216 := by unfold DS.free; omega
  have hsz0 : ((d.file f).size : Int) + s.size ≤ 9223372036854775807 := by omega
  have hfi : (f : Int) < 2 := by omega
  have H := Lib.hid h
  go_enter Try.func31, Try.ntmps31
  go_wp2_with fail
  refine (has_yes _ (by omega) (by omega) _).mono ?_
  rintro e w1 ⟨rfl, rfl⟩
  go_wp2_with fail
  refine (free_any h hk).mono ?_
  rintro e w1 ⟨rfl, n, rfl⟩
  have hblk := h.blk
  have hown := h.own
  have hfar := own_blk_ne hown hblk (by decide)
  clear h
  have Hblk := Lib.hid hblk; clear hblk
  have Hfar := Lib.hid hfar; clear hfar
  go_wp2
  go_region
  have hb1 : Blk ((w.drewN (n + 1)).setCell ⟨g, f, none⟩ (Value.string (d.file f ++ s))) g 117 ((dcells d v).setIfInBounds f (.string (d.file f ++ s))) := (Hblk.out.drewN (n + 1)).set_ f _
  have hown1 : ((w.drewN (n + 1)).setCell ⟨g, f, none⟩ (Value.string (d.file f ++ s))).ownsRow base 120 2 v d.loose.length (lvals d.loose) := own_set_far (p := ⟨g, f, none⟩) hown Hfar.out _
  have ho1 : Only w.heap.size (g :: v.ownBlock.toList) w ((w.drewN (n + 1)).setCell ⟨g, f, none⟩ (Value.string (d.file f ++ s))) := ((Only.refl _ _ _).drewN _).setCell (p := ⟨g, f, none⟩) (.inl (by simp)) _
  have c2 : ((w.drewN (n + 1)).setCell ⟨g, f, none⟩ (Value.string (d.file f ++ s))).cell? ⟨g, 2, none⟩ = some v := by
    rw [hb1.cell 2, Array.getElem?_setIfInBounds, if_neg (by omega)]; rfl
  have hsz1 : ((w.drewN (n + 1)).setCell ⟨g, f, none⟩ (Value.string (d.file f ++ s))).heap.size = w.heap.size := by simp
  generalize (w.drewN (n + 1)).setCell ⟨g, f, none⟩ (Value.string (d.file f ++ s)) = W at *
  have hbase : base ≤ W.heap.size := by have := H.out.hb; have := hb1.lt; omega
  have hgl := hb1.lt
  have hvl := own_lt hown1
  have Hb1 := Lib.hid hb1; clear hb1
  have Hvl := Lib.hid hvl; clear hvl
  have Ho1 := Lib.hid ho1; clear ho1
  have Hsz1 := Lib.hid hsz1; clear hsz1
  clear cf ff hown
  go_wp2_with (at_builtin; refine wpList_append_el rfl _ _ 115 rfl base 120 i0 _ 2 16 Try.underlying115 hi hz0 hz1 hz2 rfl (by decide) v _ _ rfl (hown1.alloc _) W.heap.size rfl _ 120 (0, 0) (heap_alloc_new W _) rfl ?c1 ?c2 ?c3 ?c4 ?c5)
  case c1 => exact ⟨rfl, rfl⟩
  case c2 => unfold maxLen; omega
  case c3 => omega
  case c4 => simp; omega
  intro g' cap' w2 hown2 hg2 hat2
  have hv2 : g' ≠ g := by
    rcases hat2 with h1 | h1
    · rintro rfl; exact Hfar.out h1
    · have : (W.alloc (.cells #[.int .i64 (f : Int), .int .i64 (s.size : Int)] 120)).heap.size = W.heap.size + 1 := by simp
      omega
  have hblk2 := (Hb1.out.alloc (.cells #[.int .i64 (f : Int), .int .i64 (s.size : Int)] 120)).grown hg2 (fun h => Hfar.out h.symm)
  have c22 : w2.cell? ⟨g, 2, none⟩ = some v := by rw [hblk2.cell 2, Array.getElem?_setIfInBounds, if_neg (by omega)]; rfl
  have f22 := hblk2.frozen 2
  have Hblk2 := Lib.hid hblk2; clear hblk2
  have Hv2 := Lib.hid hv2; clear hv2
  have Hat2 := Lib.hid hat2; clear hat2
  have Hg2 := Lib.hid hg2; clear hg2
  go_wp2
  go_ret
  refine ⟨rfl, .slice (some ⟨g', 0, none⟩) (d.loose.length + 1) cap', ⟨?_, H.out.hb, ?_⟩, ?_, ?_⟩
  · have := Hblk2.out.set_ 2 (.slice (some ⟨g', 0, none⟩) (d.loose.length + 1) cap')
    rw [put_cells d v _ f hf2] at this
    exact this
  · rw [put_loose d f hf2, lvals_append]
    have := own_set_far (p := ⟨g, 2, none⟩) hown2 (by simp [Value.ownBlock]; exact Hv2.out) (.slice (some ⟨g', 0, none⟩) (d.loose.length + 1) cap')
    simpa [lvals] using this
  · rcases Hat2.out with h1 | h1
    · exact .inl (by rw [h1]; rfl)
    · exact .inr ⟨g', by rw [h1]; simp [Hsz1.out], rfl⟩
  · refine (((Ho1.out.alloc (by rw [Hsz1.out]; exact Nat.le_refl _) _).grown Hg2.out (by simp [Hsz1.out]) ?_).setCell (p := ⟨g, 2, none⟩) (.inl (by simp)) _)
    intro k hk
    exact .inl (by rw [hk]; simp)
end Go.Proofs.Ytjmdiobnappgkaa

/-
  Layer 14 (disk): the walks of Turn, Trim, Copy.
-/
namespace Go.Proofs.Ytjmdiobnappgkaa
open Go.RowKit
set_option linter.unusedVariables false
set_option linter.unusedSimpArgs false

theorem IsDisk.only {w w' : World} {base g B : Nat} {v : Value} {d : DS} {l : List Nat} (h : IsDisk w base g v d) (ho : Only B l w w') (hg : g < B ∧ g ∉ l) (hv : ∀ k, v.ownBlock = some k → k < B ∧ k ∉ l) : IsDisk w' base g v d :=
  ⟨h.blk.only ho hg.1 hg.2, h.hb, own_only h.own ho hv⟩
theorem IsDisk.below {w w' : World} {base g : Nat} {v : Value} {d : DS} (h : IsDisk w base g v d) (hb : Below w.heap.size w w') : IsDisk w' base g v d :=
  h.only (Only.ofBelow hb []) ⟨h.blk.lt, by simp⟩ (fun k hk => ⟨own_lt h.own k hk, by simp⟩)
theorem IsDisk.drewN {w : World} {base g : Nat} {v : Value} {d : DS} (h : IsDisk w base g v d) (n : Nat) : IsDisk (w.drewN n) base g v d := ⟨h.blk, h.hb, h.own⟩

def DS.turn (d : DS) : DS := { d with f0 := d.f1, f1 := d.f0 }

set_option maxRecDepth 100000 in
set_option maxHeartbeats 400000 in
theorem turn_no {base g : Nat} {v : Value} {d : DS} {w : World} (h : IsDisk w base g v d) (hk : d.ok) (hl : 0 < looseAll d.loose) : Calls Try.prog 38 #[.pointer (some ⟨g, 0, none⟩)] w fun e w' => e = .returned (.int .i64 7) ∧ Below w.heap.size w w' := by
  have hl' : (0 : Int) < (looseAll d.loose : Int) := by omega
  go_enter Try.func38, Try.ntmps38
  go_wp2_with fail
  refine (loose_any h hk).mono ?_
  rintro e w1 ⟨rfl, hb⟩
  go_wp2
  go_ret
  exact ⟨rfl, hb⟩

set_option maxRecDepth 100000 in
set_option maxHeartbeats 400000 in
theorem turn_yes {base g : Nat} {v : Value} {d : DS} {w : World} (h : IsDisk w base g v d) (hk : d.ok) (hl : looseAll d.loose = 0) : Calls Try.prog 38 #[.pointer (some ⟨g, 0, none⟩)] w fun e w' => e = .returned (.int .i64 0) ∧ IsDisk w' base g v d.turn ∧ Only w.heap.size [g] w w' := by
  have hl' : ¬ (0 : Int) < (looseAll d.loose : Int) := by omega
  go_enter Try.func38, Try.ntmps38
  go_wp2_with fail
  refine (loose_any h hk).mono ?_
  rintro e w1 ⟨rfl, hb⟩
  have h1 := h.below hb
  have c0 := h1.c0
  have c1 := h1.c1
  have f0 := h1.fr 0
  have f1 := h1.fr 1
  have H1 := Lib.hid h1; clear h1 h
  have Hb := Lib.hid hb; clear hb
  go_wp2
  go_region
  have hz := Hb.out.size
  have hbk := H1.out.blk
  have hfar := own_blk_ne H1.out.own hbk (by decide)
  have hb2 : Blk ((w1.setCell ⟨g, 0, none⟩ (Value.string d.f1)).setCell ⟨g, 1, none⟩ (Value.string d.f0)).drew g 117 (dcells d.turn v) := (hbk.set_ 0 _).set_ 1 _
  have ho2 : ((w1.setCell ⟨g, 0, none⟩ (Value.string d.f1)).setCell ⟨g, 1, none⟩ (Value.string d.f0)).drew.ownsRow base 120 2 v d.loose.length (lvals d.loose) := own_set_far (p := ⟨g, 1, none⟩) (own_set_far (p := ⟨g, 0, none⟩) H1.out.own hfar _) hfar _
  have hf2 : Only w.heap.size [g] w ((w1.setCell ⟨g, 0, none⟩ (Value.string d.f1)).setCell ⟨g, 1, none⟩ (Value.string d.f0)).drew := (((Only.ofBelow Hb.out [g]).setCell (p := ⟨g, 0, none⟩) (.inl (by simp)) _).setCell (p := ⟨g, 1, none⟩) (.inl (by simp)) _).drew
  clear hbk c0 c1 f0 f1
  generalize ((w1.setCell ⟨g, 0, none⟩ (Value.string d.f1)).setCell ⟨g, 1, none⟩ (Value.string d.f0)).drew = W at *
  have Hall := Lib.hid (And.intro hb2 (And.intro ho2 hf2)); clear hb2 ho2 hf2
  go_wp2
  go_ret
  exact ⟨rfl, ⟨Hall.out.1, H1.out.hb, Hall.out.2.1⟩, Hall.out.2.2⟩

def DS.trim (d : DS) (f n : Nat) : DS := if f = 0 then { d with f0 := d.f0.extract 0 n } else { d with f1 := d.f1.extract 0 n }
theorem trim_cells (d : DS) (v : Value) (f : Nat) (hf : f < 2) (n : Nat) : (dcells d v).setIfInBounds f (.string ((d.file f).extract 0 n)) = dcells (d.trim f n) v := by
  have : f = 0 ∨ f = 1 := by omega
  rcases this with rfl | rfl <;> rfl
theorem trim_loose (d : DS) (f : Nat) (hf : f < 2) (n : Nat) : (d.trim f n).loose = d.loose := by unfold DS.trim; split <;> rfl

set_option maxRecDepth 100000 in
set_option maxHeartbeats 400000 in
theorem trim_arg0 (g : Nat) (f : Int) (h : f < 0 ∨ 2 ≤ f) (n : Int) (w : World) : Calls Try.prog 39 #[.pointer (some ⟨g, 0, none⟩), .int .i64 f, .int .i64 n] w fun e w' => e = .returned (.int .i64 1) ∧ w = w' := by
  go_enter Try.func39, Try.ntmps39
  go_wp2_with fail
  refine (has_no _ h _).mono ?_
  rintro e w1 ⟨rfl, rfl⟩
  go_wp2
  go_ret
  exact ⟨rfl, rfl⟩
set_option maxRecDepth 100000 in
set_option maxHeartbeats 400000 in
theorem trim_arg {base g : Nat} {v : Value} {d : DS} {w : World} (h : IsDisk w base g v d) (hk : d.ok) (f : Nat) (hf2 : f < 2) (n : Int) (hn : n < 0 ∨ ((d.file f).size : Int) < n) : Calls Try.prog 39 #[.pointer (some ⟨g, 0, none⟩), .int .i64 (f : Int), .int .i64 n] w fun e w' => e = .returned (.int .i64 1) ∧ w = w' := by
  have cf := h.cf f hf2
  have hfi : (f : Int) < 2 := by omega
  have hfl := file_le hk f
  clear h
  rcases hn with hn | hn
  · have h1 : decide (n < 0) = true := by simp; omega
    go_enter Try.func39, Try.ntmps39
    go_wp2_with fail
    refine (has_yes _ (by omega) (by omega) _).mono ?_
    rintro e w1 ⟨rfl, rfl⟩
    go_wp2
    go_ret
    exact ⟨rfl, rfl⟩
  · have h1 : decide (n < 0) = false := by simp; omega
    go_enter Try.func39, Try.ntmps39
    go_wp2_with fail
    refine (has_yes _ (by omega) (by omega) _).mono ?_
    rintro e w1 ⟨rfl, rfl⟩
    go_wp2
    go_ret
    exact ⟨rfl, rfl⟩
set_option maxRecDepth 100000 in
set_option maxHeartbeats 400000 in
theorem trim_state {base g : Nat} {v : Value} {d : DS} {w : World} (h : IsDisk w base g v d) (hk : d.ok) (f : Nat) (hf2 : f < 2) (n : Nat) (hn : n ≤ (d.file f).size) (hl : 0 < looseAll d.loose) : Calls Try.prog 39 #[.pointer (some ⟨g, 0, none⟩), .int .i64 (f : Int), .int .i64 (n : Int)] w fun e w' => e = .returned (.int .i64 7) ∧ Below w.heap.size w w' := by
  have hl' : (0 : Int) < (looseAll d.loose : Int) := by omega
  have cf := h.cf f hf2
  have hfi : (f : Int) < 2 := by omega
  have hfl := file_le hk f
  have hni : (n : Int) ≤ ((d.file f).size : Int) := by omega
  go_enter Try.func39, Try.ntmps39
  go_wp2_with fail
  refine (has_yes _ (by omega) (by omega) _).mono ?_
  rintro e w1 ⟨rfl, rfl⟩
  go_wp2_with fail
  refine (loose_any h hk).mono ?_
  rintro e w1 ⟨rfl, hb⟩
  go_wp2
  go_ret
  exact ⟨rfl, hb⟩
set_option maxRecDepth 100000 in
set_option maxHeartbeats 400000 in
theorem trim_yes {base g : Nat} {v : Value} {d : DS} {w : World} (h : IsDisk w base g v d) (hk : d.ok) (f : Nat) (hf2 : f < 2) (n : Nat) (hn : n ≤ (d.file f).size) (hl : looseAll d.loose = 0) : Calls Try.prog 39 #[.pointer (some ⟨g, 0, none⟩), .int .i64 (f : Int), .int .i64 (n : Int)] w fun e w' => e = .returned (.int .i64 0) ∧ IsDisk w' base g v (d.trim f n) ∧ Only w.heap.size [g] w w' := by
  have hl' : ¬ (0 : Int) < (looseAll d.loose : Int) := by omega
  have cf := h.cf f hf2
  have hfi : (f : Int) < 2 := by omega
  have hfl := file_le hk f
  have hni : (n : Int) ≤ ((d.file f).size : Int) := by omega
  go_enter Try.func39, Try.ntmps39
  go_wp2_with fail
  refine (has_yes _ (by omega) (by omega) _).mono ?_
  rintro e w1 ⟨rfl, rfl⟩
  go_wp2_with fail
  refine (loose_any h hk).mono ?_
  rintro e w1 ⟨rfl, hb⟩
  have h1 := h.below hb
  clear cf
  have cf := h1.cf f hf2
  have ff := h1.fr f
  have H1 := Lib.hid h1; clear h1 h
  have Hb := Lib.hid hb; clear hb
  go_wp2
  go_region
  have hz := Hb.out.size
  have hbk := H1.out.blk
  have hfar := own_blk_ne H1.out.own hbk (by decide)
  have hb2 : Blk (w1.setCell ⟨g, f, none⟩ (Value.string ((d.file f).extract 0 n))).drew g 117 (dcells (d.trim f n) v) := by
    rw [← trim_cells d v f hf2 n]; exact hbk.set_ f _
  have ho2 : (w1.setCell ⟨g, f, none⟩ (Value.string ((d.file f).extract 0 n))).drew.ownsRow base 120 2 v d.loose.length (lvals d.loose) := own_set_far (p := ⟨g, f, none⟩) H1.out.own hfar _
  have hf3 : Only w.heap.size [g] w (w1.setCell ⟨g, f, none⟩ (Value.string ((d.file f).extract 0 n))).drew := ((Only.ofBelow Hb.out [g]).setCell (p := ⟨g, f, none⟩) (.inl (by simp)) _).drew
  clear hbk cf ff
  generalize (w1.setCell ⟨g, f, none⟩ (Value.string ((d.file f).extract 0 n))).drew = W at *
  have Hall := Lib.hid (And.intro hb2 (And.intro ho2 hf3)); clear hb2 ho2 hf3
  go_wp2
  go_ret
  refine ⟨rfl, ⟨Hall.out.1, H1.out.hb, ?_⟩, Hall.out.2.2⟩
  rw [trim_loose d f hf2 n]; exact Hall.out.2.1
end Go.Proofs.Ytjmdiobnappgkaa

/-
  Layer 14 (disk): the walks of Copy and Crash.
-/
namespace Go.Proofs.Ytjmdiobnappgkaa
open Go.RowKit
set_option linter.unusedVariables false
set_option linter.unusedSimpArgs false

set_option maxRecDepth 100000 in
set_option maxHeartbeats 400000 in
theorem copy_any {base g : Nat} {v : Value} {d : DS} {w : World} (h : IsDisk w base g v d) (hk : d.ok) : Calls Try.prog 41 #[.pointer (some ⟨g, 0, none⟩)] w fun e w' => ∃ g' v', e = .returned (.pointer (some ⟨g', 0, none⟩)) ∧ IsDisk w' w.heap.size g' v' d ∧ Below w.heap.size w w' := by
  obtain ⟨A, cp, rfl, hvl⟩ := own_form h.own
  have c0 := h.c0
  have c1 := h.c1
  have c2 := h.c2
  have c3 := h.c3
  obtain ⟨i0, hi, hz0, hz1, hz2⟩ := info_parts info120
  have hfew := hk.few
  have hgl := h.blk.lt
  have H := Lib.hid h; clear h
  have Hvl := Lib.hid hvl; clear hvl
  have hone : ∀ u ∈ lvals d.loose, u.oneCell' = true := by
    intro u hu; simp only [lvals, List.mem_flatMap] at hu; obtain ⟨p, _, hu⟩ := hu; simp at hu; rcases hu with rfl | rfl <;> rfl
  have Hone := Lib.hid hone; clear hone
  go_enter Try.func41, Try.ntmps41
  go_wp2_with (at_builtin; refine wpList_append_copy rfl _ _ 115 rfl base w.heap.size 120 i0 _ 2 16 Try.underlying115 hi hz0 hz1 hz2 rfl (by decide) rfl _ _ _ rfl (H.out.own.alloc _) Hone.out (by unfold maxLen; omega) (by omega) (by simp) ?_)
  intro A' c' w2 hown2 hg2 hl2
  have hb2 : Blk w2 w.heap.size 117 (dcells d (.slice A d.loose.length cp)) := (Blk.new w 117 _).grown hg2 (by simp)
  have k2 := hb2.cell 2
  have f2 := hb2.frozen 2
  have hk2 : w2.cell? ⟨w.heap.size, 2, none⟩ = some (.slice A d.loose.length cp) := k2
  have Hb2 := Lib.hid hb2; clear hb2 k2
  have Hg2 := Lib.hid hg2; clear hg2
  have Hl2 := Lib.hid hl2; clear hl2
  go_wp2
  go_ret
  refine ⟨w.heap.size, .slice A' d.loose.length c', rfl, ⟨?_, Nat.le_refl _, ?_⟩, ?_⟩
  · exact Hb2.out.set_ 2 _
  · refine own_set_far (p := ⟨w.heap.size, 2, none⟩) hown2 ?_ _
    intro hc
    have := Hl2.out _ hc
    simp at this
    omega
  · exact (((Below.refl _ _).alloc (Nat.le_refl _) _).grown Hg2.out (by simp) (by simp)).setCell (p := ⟨w.heap.size, 2, none⟩) (Nat.le_refl _) _
end Go.Proofs.Ytjmdiobnappgkaa

/-
  Layer 14 (disk): the walk of Crash.
-/
namespace Go.Proofs.Ytjmdiobnappgkaa
open Go.RowKit
set_option linter.unusedVariables false
set_option linter.unusedSimpArgs false

set_option maxRecDepth 100000 in
set_option maxHeartbeats 400000 in
theorem undo_any {bb gw gs g f n s : Nat} {x : ByteArray} {w : World} (hbox : w.cell? ⟨bb, 0, none⟩ = some (.pointer (some ⟨g, 0, none⟩))) (hw0 : w.cell? ⟨gw, 0, none⟩ = some (.int .i64 (f : Int))) (hw1 : w.cell? ⟨gw, 1, none⟩ = some (.int .i64 (n : Int)))
    (hs0 : w.cell? ⟨gs, 0, none⟩ = some (.int .i64 (s : Int))) (cf : w.cell? ⟨g, f, none⟩ = some (.string x)) (ff : w.frozen? ⟨g, f, none⟩ = false) (hf : f < 2) (hn : n ≤ x.size) (hs : s ≤ n) (hx : x.size ≤ 16777216) :
    Calls Try.prog 85 #[.pointer (some ⟨bb, 0, none⟩), .pointer (some ⟨gw, 0, none⟩), .pointer (some ⟨gs, 0, none⟩)] w fun e w' => e = .returned (.tuple #[]) ∧ w' = (w.setCell ⟨g, f, none⟩ (.string (x.extract 0 (x.size - n + s)))).drew := by
  have hfi : (f : Int) < 2 := by omega
  have hcut : (x.size : Int) - (n : Int) + (s : Int) = ((x.size - n + s : Nat) : Int) := by omega
  have hc2 : x.size - n + s ≤ x.size := by omega
  have hc3 : ((x.size - n + s : Nat) : Int) ≤ (x.size : Int) := by omega
  have hni : (n : Int) ≤ (x.size : Int) := by omega
  have hwr1 : IntKind.i64.wrap ((x.size : Int) - (n : Int)) = ((x.size - n : Nat) : Int) := by rw [IntKind.wrap_i64]; omega
  have hwr2 : IntKind.i64.wrap (((x.size - n : Nat) : Int) + (s : Int)) = ((x.size - n + s : Nat) : Int) := by rw [IntKind.wrap_i64]; omega
  generalize hm : x.size - n + s = m at *
  generalize x.size - n = m0 at *
  have Hm := Lib.hid hm; clear hm
  go_enter Try.func85, Try.ntmps85
  go_wp2
  go_still_tail 27, (by kernel_rfl)
  show wpList _ _ _ _ _ w.drew
  go_wp2
  go_end0
  exact ⟨rfl, rfl⟩

/-- How many bytes of an entry stay; what may be kept behind it. -/
def stay (keep : Int) (n : Nat) : Nat := (max 0 (min keep (n : Int))).toNat
def stays : List (Nat × Nat) → Int → List Nat
  | [], _ => []
  | p :: l, keep => stay keep p.2 :: stays l (keep - stay keep p.2)
def kept : List (Nat × Nat) → Int → Int
  | [], keep => keep
  | p :: l, keep => kept l (keep - stay keep p.2)
theorem stays_length (l : List (Nat × Nat)) : ∀ keep, (stays l keep).length = l.length := by
  induction l with
  | nil => intro _; rfl
  | cons p l ih => intro keep; simp [stays, ih]
theorem kept_snoc (l : List (Nat × Nat)) (p : Nat × Nat) : ∀ keep, kept (l ++ [p]) keep = kept l keep - stay (kept l keep) p.2 := by
  induction l with
  | nil => intro _; rfl
  | cons q l ih => intro keep; simp only [List.cons_append, kept]; exact ih _
theorem stays_snoc (l : List (Nat × Nat)) (p : Nat × Nat) : ∀ keep, stays (l ++ [p]) keep = stays l keep ++ [stay (kept l keep) p.2] := by
  induction l with
  | nil => intro _; rfl
  | cons q l ih => intro keep; simp only [List.cons_append, stays, kept, ih]
theorem stay_le (keep : Int) (n : Nat) : stay keep n ≤ n := by unfold stay; omega
theorem kept_bd (l : List (Nat × Nat)) : ∀ keep, -9223372036854775808 ≤ keep → keep ≤ 9223372036854775807 → -9223372036854775808 ≤ kept l keep ∧ kept l keep ≤ 9223372036854775807 := by
  induction l with
  | nil => intro keep h1 h2; exact ⟨h1, h2⟩
  | cons p l ih => intro keep h1 h2; exact ih _ (by unfold stay; omega) (by unfold stay; omega)

theorem info1 : (Try.prog.info? 1).map (fun i => (i.zero, i.size, i.bytes)) = some (some .nilFunc, 1, 8) := by kernel_rfl

def fval (bb : Nat) (p : Nat × Nat) : Value := .func (.func 85) #[] #[.pointer (some ⟨bb, 0, none⟩), .pointer (some ⟨p.1, 0, none⟩), .pointer (some ⟨p.2, 0, none⟩)]
def fvals (bb : Nat) (L : List (Nat × Nat)) : List Value := L.map (fval bb)

end Go.Proofs.Ytjmdiobnappgkaa

/-
  Layer 14 (disk): the walk of Crash: what is kept to be undone, and the two loops.
-/
namespace Go.Proofs.Ytjmdiobnappgkaa
open Go.RowKit
set_option linter.unusedVariables false
set_option linter.unusedSimpArgs false

/-- What the first loop has laid: for each entry its copy, what stays of it, and a closure over both. -/
structure Undo (w wr : World) (bb : Nat) (l : List (Nat × Nat)) (keep : Int) (L : List (Nat × Nat)) (v : Value) : Prop where
  len : L.length = l.length
  own : wr.ownsRow (bb + 1) 1 1 v l.length (fvals bb L)
  at_ : ∀ (j : Nat) (p q : Nat × Nat) (s : Nat), l[j]? = some p → L[j]? = some q → (stays l keep)[j]? = some s → Blk wr q.1 120 #[.int .i64 (p.1 : Int), .int .i64 (p.2 : Int)] ∧ Blk wr q.2 3 #[.int .i64 (s : Int)] ∧ bb < q.1 ∧ bb < q.2
  bel : Below (bb + 1) w wr
  lt : bb < wr.heap.size

theorem Undo.start (w : World) (bb : Nat) (keep : Int) (hb : bb < w.heap.size) : Undo w w bb [] keep [] (.slice none 0 0) :=
  ⟨rfl, World.ownsRow_nil _ _ _ _, fun j p q s h => by simp at h, Below.refl _ _, hb⟩

theorem Undo.step {w wr w2 : World} {bb : Nat} {l : List (Nat × Nat)} {keep : Int} {L : List (Nat × Nat)} {v v' : Value} (h : Undo w wr bb l keep L v) (p : Nat × Nat) (f : Value)
    (hown : w2.ownsRow (bb + 1) 1 1 v' (l.length + 1) (fvals bb L ++ [fval bb (wr.heap.size, wr.heap.size + 1)]))
    (hg : (((wr.alloc (.cells #[.int .i64 (p.1 : Int), .int .i64 (p.2 : Int)] 120)).alloc (.cells #[.int .i64 (stay (kept l keep) p.2 : Int)] 3)).alloc (.cells #[f] 1)).grownBy w2 v.ownBlock) :
    Undo w w2 bb (l ++ [p]) keep (L ++ [(wr.heap.size, wr.heap.size + 1)]) v' := by
  have hlt := h.lt
  have hkeep : ∀ (g : Nat) (t : TypeId) (cs : Array Value), t ≠ 1 → Blk wr g t cs → Blk w2 g t cs := by
    intro g t cs ht hb
    refine ((((hb.alloc _).alloc _).alloc _).grown hg ?_)
    exact fun e => own_blk_ne h.own hb (Ne.symm ht) e.symm
  refine ⟨by simp [h.len], by simpa [fvals] using hown, ?_, ?_, ?_⟩
  · intro j p' q s h1 h2 h3
    rcases Nat.lt_or_ge j l.length with hj | hj
    · rw [List.getElem?_append_left hj] at h1
      rw [List.getElem?_append_left (by rw [h.len]; exact hj)] at h2
      rw [stays_snoc, List.getElem?_append_left (by rw [stays_length]; exact hj)] at h3
      obtain ⟨a, b, c, e⟩ := h.at_ j p' q s h1 h2 h3
      exact ⟨hkeep _ _ _ (by decide) a, hkeep _ _ _ (by decide) b, c, e⟩
    · have hj' : j = l.length := by
        have := (List.getElem?_eq_some_iff.1 h1).1
        simp at this; omega
      subst hj'
      rw [List.getElem?_append_right (Nat.le_refl _)] at h1
      rw [List.getElem?_append_right (by rw [h.len]; exact Nat.le_refl _), h.len] at h2
      rw [stays_snoc, List.getElem?_append_right (by rw [stays_length]; exact Nat.le_refl _), stays_length] at h3
      simp at h1 h2 h3
      subst h1 h2 h3
      have hv := own_lt h.own
      refine ⟨?_, ?_, hlt, by show bb < wr.heap.size + 1; omega⟩
      · have b1 : Blk (wr.alloc (.cells #[.int .i64 (p.1 : Int), .int .i64 (p.2 : Int)] 120)) wr.heap.size 120 #[.int .i64 (p.1 : Int), .int .i64 (p.2 : Int)] := Blk.new _ _ _
        exact ((b1.alloc _).alloc _).grown hg (fun e => by have := hv _ e.symm; omega)
      · have b1 := Blk.new (wr.alloc (.cells #[.int .i64 (p.1 : Int), .int .i64 (p.2 : Int)] 120)) 3 #[.int .i64 (stay (kept l keep) p.2 : Int)]
        have e1 : (wr.alloc (.cells #[.int .i64 (p.1 : Int), .int .i64 (p.2 : Int)] 120)).heap.size = wr.heap.size + 1 := by simp
        rw [e1] at b1
        exact (b1.alloc _).grown hg (fun e => by have := hv _ e.symm; omega)
  · refine h.bel.trans ?_
    have hz : bb + 1 ≤ wr.heap.size := hlt
    refine ((((Below.refl (bb + 1) wr).alloc hz _).alloc (by simp; omega) _).alloc (by simp; omega) _).grown hg (by simp; omega) ?_
    intro k hk
    exact (h.own.lt k hk).1
  · have := hg.size; simp at this; omega

def cutf (d : DS) (p : Nat × Nat) (s : Nat) : DS :=
  if p.1 = 0 then { d with f0 := d.f0.extract 0 (d.f0.size - p.2 + s) } else { d with f1 := d.f1.extract 0 (d.f1.size - p.2 + s) }
def undoL (d : DS) : List (Nat × Nat) → List Nat → DS
  | p :: l, s :: ss => cutf (undoL d l ss) p s
  | _, _ => d
theorem cutf_loose (d : DS) (p : Nat × Nat) (s : Nat) : (cutf d p s).loose = d.loose ∧ (cutf d p s).room = d.room := by unfold cutf; split <;> exact ⟨rfl, rfl⟩
theorem undoL_loose (d : DS) : ∀ (l : List (Nat × Nat)) (ss : List Nat), (undoL d l ss).loose = d.loose ∧ (undoL d l ss).room = d.room
  | [], _ => ⟨rfl, rfl⟩
  | _ :: _, [] => ⟨rfl, rfl⟩
  | p :: l, s :: ss => by
    have h1 := undoL_loose d l ss
    have h2 := cutf_loose (undoL d l ss) p s
    exact ⟨h2.1.trans h1.1, h2.2.trans h1.2⟩
theorem cutf_file (d : DS) (p : Nat × Nat) (s : Nat) (f : Nat) (hp : p.1 < 2) (hf : f < 2) : (cutf d p s).file f = if p.1 = f then (d.file f).extract 0 ((d.file f).size - p.2 + s) else d.file f := by
  have h1 : f = 0 ∨ f = 1 := by omega
  have h2 : p.1 = 0 ∨ p.1 = 1 := by omega
  rcases h1 with rfl | rfl <;> rcases h2 with h2 | h2 <;> simp [cutf, DS.file, h2]
theorem undo_size (d : DS) (f : Nat) (hf : f < 2) : ∀ (l : List (Nat × Nat)) (ss : List Nat), (∀ p ∈ l, p.1 < 2) → looseOf f l ≤ (d.file f).size →
    (d.file f).size ≤ ((undoL d l ss).file f).size + looseOf f l ∧ ((undoL d l ss).file f).size ≤ (d.file f).size
  | [], ss, _, _ => by cases ss <;> simp [undoL]
  | p :: l, [], _, h => by simp [undoL]
  | p :: l, s :: ss, hp, h => by
    have hsum : looseOf f (p :: l) = (if p.1 = f then p.2 else 0) + looseOf f l := by simp [looseOf]
    have ih := undo_size d f hf l ss (fun q hq => hp q (List.mem_cons_of_mem _ hq)) (by omega)
    simp only [undoL]
    rw [cutf_file _ _ _ _ (hp p (List.mem_cons_self ..)) hf]
    rw [hsum]
    split
    · rw [ByteArray.size_extract]; omega
    · omega
theorem looseOf_append (f : Nat) (a b : List (Nat × Nat)) : looseOf f (a ++ b) = looseOf f a + looseOf f b := by simp [looseOf]
theorem looseOf_split (f : Nat) (l : List (Nat × Nat)) (i : Nat) (hi : i < l.length) : looseOf f l = looseOf f (l.take i) + ((if l[i].1 = f then l[i].2 else 0) + looseOf f (l.drop (i + 1))) := by
  have h1 : looseOf f l = looseOf f (l.take i) + looseOf f (l.drop i) := by rw [← looseOf_append, List.take_append_drop]
  rw [h1, List.drop_eq_getElem_cons hi]
  simp only [looseOf, List.map_cons, List.sum_cons]
theorem undo_fits (d : DS) (hk : d.ok) (keep : Int) (i : Nat) (hi : i < d.loose.length) :
    d.loose[i].2 ≤ ((undoL d (d.loose.drop (i + 1)) ((stays d.loose keep).drop (i + 1))).file d.loose[i].1).size ∧ ((undoL d (d.loose.drop (i + 1)) ((stays d.loose keep).drop (i + 1))).file d.loose[i].1).size ≤ 16777216 := by
  have hp := hk.two d.loose[i] (List.getElem_mem _)
  have hall : ∀ f, f < 2 → looseOf f d.loose ≤ (d.file f).size := by
    intro f hf
    have : f = 0 ∨ f = 1 := by omega
    rcases this with rfl | rfl
    · exact hk.l0
    · exact hk.l1
  have h1 := hall _ hp
  have h2 := looseOf_split d.loose[i].1 d.loose i hi
  rw [if_pos rfl] at h2
  have h3 := undo_size d d.loose[i].1 hp (d.loose.drop (i + 1)) ((stays d.loose keep).drop (i + 1)) (fun p h => hk.two p (List.mem_of_mem_drop h)) (by omega)
  have h4 := file_le hk d.loose[i].1
  omega
theorem stays_le (l : List (Nat × Nat)) : ∀ (keep : Int) (i : Nat) (hi : i < l.length), (stays l keep)[i]'(by rw [stays_length]; exact hi) ≤ l[i].2 := by
  induction l with
  | nil => intro keep i hi; simp at hi
  | cons p l ih =>
    intro keep i hi
    cases i with
    | zero => exact stay_le _ _
    | succ i => exact ih _ i (by simpa using hi)
theorem blk_file {w : World} {g : Nat} {d : DS} {v : Value} (h : Blk w g 117 (dcells d v)) (f : Nat) (hf : f < 2) : w.cell? ⟨g, f, none⟩ = some (.string (d.file f)) := by
  have : f = 0 ∨ f = 1 := by omega
  rcases this with rfl | rfl
  · exact h.cell 0
  · exact h.cell 1
theorem undo_blk {w : World} {g : Nat} {d : DS} {v : Value} (h : Blk w g 117 (dcells d v)) (f n s : Nat) (hf : f < 2) : Blk (w.setCell ⟨g, f, none⟩ (.string ((d.file f).extract 0 ((d.file f).size - n + s)))).drew g 117 (dcells (cutf d (f, n) s) v) := by
  have := h.set_ f (.string ((d.file f).extract 0 ((d.file f).size - n + s)))
  have e : (dcells d v).setIfInBounds f (.string ((d.file f).extract 0 ((d.file f).size - n + s))) = dcells (cutf d (f, n) s) v := by
    have : f = 0 ∨ f = 1 := by omega
    rcases this with rfl | rfl <;> rfl
  rw [e] at this
  exact this
theorem heap3_new (w : World) (a b c : Obj) : (((w.alloc a).alloc b).alloc c).heap[w.heap.size + 1 + 1]? = some c := by
  have := heap_alloc_new ((w.alloc a).alloc b) c
  simpa using this
theorem base3 {w : World} {B : Nat} (h : B ≤ w.heap.size) (a b c : Obj) : B ≤ (((w.alloc a).alloc b).alloc c).heap.size := by simp; omega
theorem one_single {u : Value} (h : u.oneCell' = true) : ∀ x ∈ (#[u] : Array Value).toList, x.oneCell' = true := by intro x hx; simp at hx; subst hx; exact h
set_option maxRecDepth 100000 in
set_option maxHeartbeats 800000 in
theorem crash_any {base g : Nat} {v : Value} {d : DS} {w : World} (h : IsDisk w base g v d) (hk : d.ok) (keep : Int) (h1 : -9223372036854775808 ≤ keep) (h2 : keep ≤ 9223372036854775807) :
    Calls Try.prog 35 #[.pointer (some ⟨g, 0, none⟩), .int .i64 keep] w fun e w' => e = .returned (.tuple #[]) ∧ IsDisk w' base g (.slice none 0 0) (undoL d d.loose (stays d.loose keep)).sync ∧ Only w.heap.size [g] w w' := by
  obtain ⟨A, cp, rfl, hvl⟩ := own_form h.own
  have c2 := h.c2
  have hgl := h.blk.lt
  have hfew := hk.few
  obtain ⟨i0, hi, hz0, hz1, hz2⟩ := info_parts info1
  have H := Lib.hid h; clear h
  have Hvl := Lib.hid hvl; clear hvl
  have hall := hk.all
  have h00 := Undo.start (w.alloc (.cells #[.pointer (some ⟨g, 0, none⟩)] 35)) w.heap.size keep (by simp)
  go_enter Try.func35, Try.ntmps35
  go_wp2
  go_loopw [1, 4, 14] (fun kp u i wr => ∃ (k : Nat) (L : List (Nat × Nat)) (A' : Option Addr) (c' : Nat), k ≤ d.loose.length ∧ i = .int .i64 k ∧ kp = .int .i64 (kept (d.loose.take k) keep) ∧ u = .slice A' k c' ∧ Undo (w.alloc (.cells #[.pointer (some ⟨g, 0, none⟩)] 35)) wr w.heap.size (d.loose.take k) keep L (.slice A' k c')) (fun _ _ i _ => d.loose.length - (intOf i).toNat)
  case atStart => exact ⟨0, [], none, 0, Nat.zero_le _, rfl, rfl, rfl, h00⟩
  case round =>
    obtain ⟨k, L, A', c', hk', rfl, rfl, rfl, hu⟩ := hrel
    by_cases hlt : k < d.loose.length
    · have hkl : (d.loose.take k).length = k := by simp; omega
      have huo := hu.own
      rw [hkl] at huo
      have hbel := hu.bel
      have hwl := hu.lt
      obtain ⟨gr, rfl, hgr⟩ : ∃ gr, A = some ⟨gr, 0, none⟩ ∧ gr < w.heap.size := by
        rcases H.out.own.2 with ⟨e, hn⟩ | ⟨gr, cap, cur, e, _, hh, _⟩
        · omega
        · injection e with e1 e2 e3
          exact ⟨gr, e1, (Array.getElem?_eq_some_iff.1 hh).1⟩
      have hcell := H.out.own.cellAt
      have hold : ∀ i, wr.cell? ⟨gr, i, none⟩ = w.cell? ⟨gr, i, none⟩ := fun i => by
        rw [hbel.cell (by show gr < w.heap.size + 1; omega), World.cell?_alloc_lt _ _ _ (by exact hgr)]
      have hc0 : wr.cell? ⟨gr, k * 2, none⟩ = some (.int .i64 (d.loose[k].1 : Int)) := by
        rw [hold, hcell (k * 2) (by omega)]; exact (lvals_get _ k hlt).1
      have hc1 : wr.cell? ⟨gr, k * 2 + 1, none⟩ = some (.int .i64 (d.loose[k].2 : Int)) := by
        rw [hold, hcell (k * 2 + 1) (by omega)]; exact (lvals_get _ k hlt).2
      clear hold hcell
      have hkb := kept_bd (d.loose.take k) keep h1 h2
      have Hsn := Lib.hid (List.take_succ_eq_append_getElem hlt)
      have hpn : d.loose[k].2 ≤ 16777216 := by
        have := looseAll_take_le d.loose (k + 1)
        have hs := loose_snoc (d.loose.take k) d.loose[k]
        rw [← Hsn.out] at hs
        omega
      generalize hpe : d.loose[k] = p at *
      have Hpe := Lib.hid hpe; clear hpe
      have hst : stay (kept (d.loose.take k) keep) p.2 = stay (kept (d.loose.take k) keep) p.2 := rfl
      have Hkp := Lib.hid (kept_snoc (d.loose.take k) p keep)
      have HU := Lib.hid hu; clear hu hbel
      generalize hkq : kept (d.loose.take k) keep = kp at *
      have Hkq := Lib.hid hkq; clear hkq hst
      have hcase : (kp ≤ 0 ∧ (stay kp p.2 : Int) = 0) ∨ (0 < kp ∧ kp ≤ (p.2 : Int) ∧ (stay kp p.2 : Int) = kp) ∨ (0 < kp ∧ (p.2 : Int) ≤ 0 ∧ (stay kp p.2 : Int) = 0) ∨ (0 < kp ∧ 0 < (p.2 : Int) ∧ (p.2 : Int) < kp ∧ (stay kp p.2 : Int) = p.2) := by unfold stay; omega
      have hml : k + 1 ≤ maxLen := by unfold maxLen; omega
      have hby : (k + 1) * 8 ≤ 140737488355328 := by omega
      have hbs : w.heap.size + 1 ≤ wr.heap.size := hwl
      rcases hcase with ⟨hq, hst⟩ | ⟨hq, hq2, hst⟩ | ⟨hq, hq2, hst⟩ | ⟨hq, hq2, hq3, hst⟩
      all_goals
        have Hst := Lib.hid hst; clear hst
        go_wp2_with (at_builtin; refine wpList_append_el rfl _ _ 121 rfl (w.heap.size + 1) 1 i0 _ 1 8 Try.underlying121 hi hz0 hz1 hz2 rfl (by decide) _ _ _ rfl (((huo.alloc _).alloc _).alloc _) (wr.heap.size + 1 + 1) rfl _ 1 (0, 0) (heap3_new _ _ _ _) rfl (one_single rfl) hml hby (base3 hbs _ _ _) ?_)
        intro g' cap' w2 hown2 hg2 hat2
        have Hown2 := Lib.hid hown2; clear hown2
        have Hg2 := Lib.hid hg2; clear hg2
        have Hat2 := Lib.hid hat2; clear hat2
        go_wp2
        go_roundw
        case rel =>
          refine ⟨k + 1, L ++ [(wr.heap.size, wr.heap.size + 1)], some ⟨g', 0, none⟩, cap', by omega, by go_num, ?_, rfl, ?_⟩
          · exact congrArg (Value.int IntKind.i64) (by have e := Hkp.out; rw [Hst.out, ← Hsn.out] at e; omega)
          · rw [Hsn.out]
            refine Undo.step HU.out p (fval w.heap.size (wr.heap.size, wr.heap.size + 1)) (by rw [hkl]; exact Hown2.out) ?_
            rw [Hkq.out, Hst.out]; exact Hg2.out
        case measure => simp [intOf]; omega
    · obtain rfl : k = d.loose.length := by omega
      rw [List.take_length] at hu
      generalize kept (List.take d.loose.length d.loose) keep = kfin
      obtain ⟨wo, rfl⟩ : ∃ wo : World, wo = wr := ⟨_, rfl⟩
      have hwl := hu.lt
      have hbel := hu.bel
      have hbox : wo.cell? ⟨w.heap.size, 0, none⟩ = some (.pointer (some ⟨g, 0, none⟩)) := by
        rw [hbel.cell (by show w.heap.size < w.heap.size + 1; omega)]; exact (Blk.new w 35 _).cell 0
      have hblk0 : Blk wo g 117 (dcells d (.slice A d.loose.length cp)) := by
        have := (H.out.blk.alloc (.cells #[.pointer (some ⟨g, 0, none⟩)] 35))
        exact (hbel.block g (by omega)).trans this
      have hgwo : g < wo.heap.size := by omega
      have Hbel := Lib.hid hbel; clear hbel
      have HU := Lib.hid hu; clear hu
      have Hblk0 := Lib.hid hblk0
      go_wp2
      go_loopw [8] (fun i wr => ∃ j : Nat, j ≤ d.loose.length ∧ i = .int .i64 ((j : Int) - 1) ∧ Blk wr g 117 (dcells (undoL d (d.loose.drop j) ((stays d.loose keep).drop j)) (.slice A d.loose.length cp)) ∧ Only wo.heap.size [g] wo wr) (fun i _ => (intOf i + 1).toNat)
      case atStart =>
        refine ⟨d.loose.length, Nat.le_refl _, rfl, ?_, Only.refl _ _ _⟩
        rw [List.drop_length]; exact hblk0
      case round =>
        obtain ⟨j, hj, rfl, hb, ho⟩ := hrel
        have hbx2 : wr.cell? ⟨w.heap.size, 0, none⟩ = some (.pointer (some ⟨g, 0, none⟩)) := by
          rw [World.cell?_of_block (w := wo) (ho.block _ hwl (by simp; omega))]; exact hbox
        rcases Nat.eq_zero_or_pos j with rfl | hjp
        · have Hb := Lib.hid hb; clear hb
          rw [show ((0 : Nat) : Int) - 1 = -1 from rfl]
          have Ho := Lib.hid ho; clear ho
          clear hblk0 hbox
          go_wp2_with fail
          have hdd := undoL_loose d d.loose (stays d.loose keep)
          have hown' : wr.ownsRow base 120 2 (.slice A d.loose.length cp) (undoL d d.loose (stays d.loose keep)).loose.length (lvals (undoL d d.loose (stays d.loose keep)).loose) := by
            rw [hdd.1]
            have hl := own_lt H.out.own
            have hne := own_blk_ne H.out.own H.out.blk (by decide)
            refine own_only (own_only (H.out.own.alloc _) (Only.ofBelow Hbel.out []) (fun k hk => ⟨by have := hl k hk; omega, by simp⟩)) Ho.out (fun k hk => ⟨by have := hl k hk; omega, ?_⟩)
            simp only [List.mem_singleton]
            rintro rfl; exact hne hk
          have hdisk : IsDisk wr base g (.slice A d.loose.length cp) (undoL d d.loose (stays d.loose keep)) := ⟨Hb.out, H.out.hb, hown'⟩
          refine (sync_any hdisk).mono ?_
          rintro e w2 ⟨rfl, hd2, ho2⟩
          have Hd2 := Lib.hid hd2; clear hd2
          have Ho2 := Lib.hid ho2; clear ho2
          go_wp2
          go_end0
          refine ⟨rfl, Hd2.out, ?_⟩
          have h0 : Only w.heap.size [g] w wo := by
            refine Only.then ((Only.refl w.heap.size [g] w).alloc (Nat.le_refl _) (.cells #[.pointer (some ⟨g, 0, none⟩)] 35)) (Only.ofBelow Hbel.out []) (by omega) (by simp)
          exact (h0.then Ho.out (by omega) (fun k _ h => h)).then Ho2.out (by have := Ho.out.size; omega) (fun k _ h => h)
        · obtain ⟨i, rfl⟩ : ∃ i, j = i + 1 := ⟨j - 1, by omega⟩
          rw [show ((i + 1 : Nat) : Int) - 1 = (i : Int) by omega]
          obtain ⟨gu, rfl, hgu, hgul⟩ : ∃ gu, A' = some ⟨gu, 0, none⟩ ∧ w.heap.size + 1 ≤ gu ∧ gu < wo.heap.size := by
            have hlt' := HU.out.own.lt
            rcases HU.out.own.2 with ⟨e, hn⟩ | ⟨gu, cap, cur, e, hb', hh, _⟩
            · omega
            · injection e with e1 e2 e3
              exact ⟨gu, e1, hb', (Array.getElem?_eq_some_iff.1 hh).1⟩
          obtain ⟨q, hq⟩ : ∃ q, L[i]? = some q := ⟨L[i]'(by rw [HU.out.len]; omega), List.getElem?_eq_getElem _⟩
          have hp : d.loose[i]? = some d.loose[i] := List.getElem?_eq_getElem (by omega)
          have hsl : i < (stays d.loose keep).length := by rw [stays_length]; omega
          have hs := List.getElem?_eq_getElem hsl
          obtain ⟨hb1, hb2, hq1, hq2⟩ := HU.out.at_ i _ _ _ hp hq hs
          have hfc : wo.cell? ⟨gu, i, none⟩ = some (fval w.heap.size q) := by
            rw [HU.out.own.cellAt i (by omega)]
            simp [fvals, hq]
          have hfc2 : wr.cell? ⟨gu, i, none⟩ = some (fval w.heap.size q) := by
            rw [World.cell?_of_block (w := wo) (ho.block gu hgul (by simp; omega))]; exact hfc
          have hil : (i : Int) < (d.loose.length : Int) := by omega
          unfold fval at hfc2
          clear hfc
          have Hb1 := Lib.hid hb1; have Hb2 := Lib.hid hb2; clear hb1 hb2
          have Hq := Lib.hid hq; have Hp := Lib.hid hp; have Hs := Lib.hid hs; clear hq hp hs
          have Hb := Lib.hid hb; clear hb
          have Ho := Lib.hid ho; clear ho
          clear hblk0 hbox
          have hpp : d.loose[i].1 < 2 := hk.two _ (List.getElem_mem _)
          have hfit := undo_fits d hk keep i (by omega)
          have hsle := stays_le d.loose keep i (by omega)
          have hbb1 := Hb1.out.cell 0
          have hbw0 : wr.cell? ⟨q.1, 0, none⟩ = some (.int .i64 (d.loose[i].1 : Int)) := by
            rw [World.cell?_of_block (w := wo) (Ho.out.block _ Hb1.out.lt (by simp; omega))]; exact Hb1.out.cell 0
          have hbw1 : wr.cell? ⟨q.1, 1, none⟩ = some (.int .i64 (d.loose[i].2 : Int)) := by
            rw [World.cell?_of_block (w := wo) (Ho.out.block _ Hb1.out.lt (by simp; omega))]; exact Hb1.out.cell 1
          have hbs0 : wr.cell? ⟨q.2, 0, none⟩ = some (.int .i64 ((stays d.loose keep)[i] : Int)) := by
            rw [World.cell?_of_block (w := wo) (Ho.out.block _ Hb2.out.lt (by simp; omega))]; exact Hb2.out.cell 0
          have hcf := blk_file Hb.out d.loose[i].1 hpp
          have hff := Hb.out.frozen d.loose[i].1
          have HB := Lib.hid (And.intro hbw0 (And.intro hbw1 (And.intro hbs0 (And.intro hcf hff)))); clear hbw0 hbw1 hbs0 hcf hff hbb1
          have HF := Lib.hid (And.intro hpp (And.intro hfit hsle)); clear hpp hfit hsle
          go_wp2_with fail
          refine (undo_any hbx2 HB.out.1 HB.out.2.1 HB.out.2.2.1 HB.out.2.2.2.1 HB.out.2.2.2.2 HF.out.1 HF.out.2.1.1 HF.out.2.2 HF.out.2.1.2).mono ?_
          rintro e w2 ⟨rfl, rfl⟩
          have hbn := undo_blk Hb.out d.loose[i].1 d.loose[i].2 (stays d.loose keep)[i] HF.out.1
          have hon : Only wo.heap.size [g] wo (wr.setCell ⟨g, d.loose[i].1, none⟩ (.string (((undoL d (d.loose.drop (i + 1)) ((stays d.loose keep).drop (i + 1))).file d.loose[i].1).extract 0 (((undoL d (d.loose.drop (i + 1)) ((stays d.loose keep).drop (i + 1))).file d.loose[i].1).size - d.loose[i].2 + (stays d.loose keep)[i])))).drew := (Ho.out.setCell (p := ⟨g, d.loose[i].1, none⟩) (.inl (by simp)) _).drew
          generalize (wr.setCell ⟨g, d.loose[i].1, none⟩ (.string (((undoL d (d.loose.drop (i + 1)) ((stays d.loose keep).drop (i + 1))).file d.loose[i].1).extract 0 (((undoL d (d.loose.drop (i + 1)) ((stays d.loose keep).drop (i + 1))).file d.loose[i].1).size - d.loose[i].2 + (stays d.loose keep)[i])))).drew = W at *
          have Hbn := Lib.hid hbn; clear hbn
          have Hon := Lib.hid hon; clear hon
          go_wp2
          go_roundw
          case rel =>
            refine ⟨i, by omega, rfl, ?_, Hon.out⟩
            rw [List.drop_eq_getElem_cons (show i < d.loose.length by omega), List.drop_eq_getElem_cons hsl]
            exact Hbn.out
          case measure => simp [intOf]
end Go.Proofs.Ytjmdiobnappgkaa

/-
  Layer 14 (disk): one disk that a call made itself: each method as a plain function of the model.
-/
namespace Go.Proofs.Ytjmdiobnappgkaa
open Go.RowKit
set_option linter.unusedVariables false
set_option linter.unusedSimpArgs false

/-- In world w block g is a disk d that was made since w0; at most n entries are loose; of what was there in w0 nothing has turned. -/
def DK (w0 w : World) (g : Nat) (d : DS) (n : Nat) : Prop := (∃ v, IsDisk w w0.heap.size g v d) ∧ Below w0.heap.size w0 w ∧ d.ok ∧ d.loose.length ≤ n ∧ w0.heap.size ≤ w.heap.size

def valid (f : Int) : Prop := 0 ≤ f ∧ f < 2
instance (f : Int) : Decidable (valid f) := inferInstanceAs (Decidable (0 ≤ f ∧ f < 2))
def putR (d : DS) (f : Int) (s : ByteArray) : Int := if valid f then (if d.free < s.size then 8 else 0) else 1
def putD (d : DS) (f : Int) (s : ByteArray) : DS := if valid f ∧ ¬ d.free < s.size then d.put f.toNat s else d
def trimBad (d : DS) (f n : Int) : Prop := ¬ valid f ∨ n < 0 ∨ ((d.file f.toNat).size : Int) < n
instance (d : DS) (f n : Int) : Decidable (trimBad d f n) := inferInstanceAs (Decidable (¬ valid f ∨ n < 0 ∨ ((d.file f.toNat).size : Int) < n))
def trimR (d : DS) (f n : Int) : Int := if trimBad d f n then 1 else if 0 < looseAll d.loose then 7 else 0
def trimD (d : DS) (f n : Int) : DS := if trimBad d f n ∨ 0 < looseAll d.loose then d else d.trim f.toNat n.toNat
def turnR (d : DS) : Int := if 0 < looseAll d.loose then 7 else 0
def turnD (d : DS) : DS := if 0 < looseAll d.loose then d else d.turn
def crashD (d : DS) (keep : Int) : DS := (undoL d d.loose (stays d.loose keep)).sync
def readR (d : DS) (f : Int) : ByteArray := if valid f then d.file f.toNat else ⟨#[]⟩

theorem looseOf_snoc (f : Nat) (l : List (Nat × Nat)) (p : Nat × Nat) : looseOf f (l ++ [p]) = looseOf f l + if p.1 = f then p.2 else 0 := by simp [looseOf]
theorem put_okd {d : DS} (h : d.ok) (f : Nat) (hf : f < 2) (s : ByteArray) (hs : s.size ≤ d.free) (hn : d.loose.length < 1000000) : (d.put f s).ok := by
  have h1 := h.fits; have h2 := h.l0; have h3 := h.l1
  unfold DS.free at hs
  have : f = 0 ∨ f = 1 := by omega
  rcases this with rfl | rfl
  · refine ⟨?_, h.room, ?_, ?_, ?_, ?_⟩
    · simp only [DS.put, if_pos, ByteArray.size_append]; omega
    · simp only [DS.put, if_pos, List.length_append, List.length_cons, List.length_nil]; omega
    · intro p hp; simp [DS.put] at hp; rcases hp with hp | rfl
      · exact h.two p hp
      · exact Nat.zero_lt_two
    · simp only [DS.put, if_pos, looseOf_snoc, ByteArray.size_append]; omega
    · simp only [DS.put, if_pos, looseOf_snoc]; simp; exact h3
  · refine ⟨?_, h.room, ?_, ?_, ?_, ?_⟩
    · simp only [DS.put, ByteArray.size_append, if_neg (show ¬ (1 : Nat) = 0 by decide)]; omega
    · simp only [DS.put, if_neg (show ¬ (1 : Nat) = 0 by decide), List.length_append, List.length_cons, List.length_nil]; omega
    · intro p hp; simp [DS.put] at hp; rcases hp with hp | rfl
      · exact h.two p hp
      · exact Nat.one_lt_two
    · simp only [DS.put, if_neg (show ¬ (1 : Nat) = 0 by decide), looseOf_snoc]; simp; exact h2
    · simp only [DS.put, if_neg (show ¬ (1 : Nat) = 0 by decide), looseOf_snoc, ByteArray.size_append]; simp; omega
theorem loose0_of {d : DS} (h : d.ok) (hl : looseAll d.loose = 0) : looseOf 0 d.loose = 0 ∧ looseOf 1 d.loose = 0 := by
  have := looseAll_two d.loose h.two; omega
theorem turn_okd {d : DS} (h : d.ok) (hl : looseAll d.loose = 0) : d.turn.ok := by
  have h1 := h.fits
  have h2 := loose0_of h hl
  exact ⟨by simp only [DS.turn]; omega, h.room, h.few, h.two, by simp only [DS.turn]; omega, by simp only [DS.turn]; omega⟩
theorem trim_okd {d : DS} (h : d.ok) (f n : Nat) (hf : f < 2) (hl : looseAll d.loose = 0) : (d.trim f n).ok := by
  have h1 := h.fits
  have h2 := loose0_of h hl
  have : f = 0 ∨ f = 1 := by omega
  rcases this with rfl | rfl
  · exact ⟨by simp only [DS.trim, if_pos, ByteArray.size_extract]; omega, h.room, h.few, h.two, by simp only [DS.trim, if_pos]; omega, by simp only [DS.trim, if_pos]; omega⟩
  · exact ⟨by simp only [DS.trim, if_neg (show ¬ (1 : Nat) = 0 by decide), ByteArray.size_extract]; omega, h.room, h.few, h.two, by simp only [DS.trim, if_neg (show ¬ (1 : Nat) = 0 by decide)]; omega, by simp only [DS.trim, if_neg (show ¬ (1 : Nat) = 0 by decide)]; omega⟩
theorem sync_okd {d : DS} (h : d.ok) : d.sync.ok := ⟨h.fits, h.room, by simp [DS.sync], by simp [DS.sync], by simp [DS.sync, looseOf], by simp [DS.sync, looseOf]⟩
theorem crash_okd {d : DS} (h : d.ok) (keep : Int) : (crashD d keep).ok := by
  have e0 := undo_size d 0 (by decide) d.loose (stays d.loose keep) h.two h.l0
  have e1 := undo_size d 1 (by decide) d.loose (stays d.loose keep) h.two h.l1
  have er := undoL_loose d d.loose (stays d.loose keep)
  have h1 := h.fits; have h2 := h.room
  have k0 : (undoL d d.loose (stays d.loose keep)).f0.size ≤ d.f0.size := e0.2
  have k1 : (undoL d d.loose (stays d.loose keep)).f1.size ≤ d.f1.size := e1.2
  exact ⟨by show _ + _ ≤ (undoL d d.loose (stays d.loose keep)).room; rw [er.2]; simp only [crashD, DS.sync]; omega, by show (undoL d d.loose (stays d.loose keep)).room ≤ _; rw [er.2]; exact h2, by simp [crashD, DS.sync], by simp [crashD, DS.sync], by simp [crashD, DS.sync, looseOf], by simp [crashD, DS.sync, looseOf]⟩

section
variable {w0 w : World} {g : Nat} {d : DS} {n : Nat}
theorem DK.drewN (h : DK w0 w g d n) (q : Nat) : DK w0 (w.drewN q) g d n := by
  obtain ⟨⟨v, hv⟩, hb, r⟩ := h
  exact ⟨⟨v, hv.drewN q⟩, below_drewN' hb q, r⟩
theorem DK.below {w' : World} (h : DK w0 w g d n) (hb : Below w.heap.size w w') : DK w0 w' g d n := by
  obtain ⟨⟨v, hv⟩, hb0, h1, h2, h3⟩ := h
  exact ⟨⟨v, hv.below hb⟩, hb0.trans (hb.mono h3), h1, h2, Nat.le_trans h3 hb.size⟩
/-- The disk's own blocks alone have turned. -/
theorem DK.only {w' : World} {v v' : Value} {d' : DS} {n' : Nat} (h : DK w0 w g d n) (hv : IsDisk w w0.heap.size g v d) (hv' : IsDisk w' w0.heap.size g v' d') (ho : Only w.heap.size (g :: v.ownBlock.toList) w w') (hk : d'.ok) (hn : d'.loose.length ≤ n') : DK w0 w' g d' n' := by
  obtain ⟨_, hb0, h1, h2, h3⟩ := h
  refine ⟨⟨v', hv'⟩, hb0.trans ?_, hk, hn, Nat.le_trans h3 ho.size⟩
  refine (ho.mono h3 (l' := (g :: v.ownBlock.toList)) (fun k _ h => h)).below ?_
  intro k hk
  rcases List.mem_cons.1 hk with rfl | hk
  · exact hv.hb
  · simp only [Option.mem_toList] at hk
    exact (hv.own.lt k hk).1

theorem dk_put (h : DK w0 w g d n) (hn : n < 1000000) (f : Int) (s : ByteArray) : Calls Try.prog 31 #[.pointer (some ⟨g, 0, none⟩), .int .i64 f, .string s] w fun e w' => e = .returned (.int .i64 (putR d f s)) ∧ DK w0 w' g (putD d f s) (n + 1) := by
  have hh := h
  obtain ⟨⟨v, hv⟩, hb0, hk, hl, h3⟩ := h
  by_cases hf : valid f
  · by_cases hs : d.free < s.size
    · refine (put_full hv hk f hf.1 hf.2 s hs).mono ?_
      rintro e w' ⟨rfl, q, rfl⟩
      refine ⟨by rw [putR, if_pos hf, if_pos hs], ?_⟩
      rw [putD, if_neg (fun c => c.2 hs)]
      obtain ⟨a, b, c, e, f'⟩ := hh.drewN q
      exact ⟨a, b, c, by omega, f'⟩
    · obtain ⟨m, rfl⟩ := Int.eq_ofNat_of_zero_le hf.1
      have hm : m < 2 := by have := hf.2; omega
      refine (put_ok hv hk m hm s (by omega) (by omega)).mono ?_
      rintro e w' ⟨rfl, v', hv', hvv, ho⟩
      refine ⟨by rw [putR, if_pos hf, if_neg hs], ?_⟩
      rw [putD, if_pos ⟨hf, hs⟩, Int.toNat_natCast]
      exact hh.only hv hv' ho (put_okd hk m hm s (by omega) (by omega)) (by rw [put_loose d m hm]; simp; omega)
  · have hf' : f < 0 ∨ 2 ≤ f := by unfold valid at hf; omega
    refine (put_arg g f hf' s w).mono ?_
    rintro e w' ⟨rfl, rfl⟩
    refine ⟨by rw [putR, if_neg hf], ?_⟩
    rw [putD, if_neg (fun c => hf c.1)]
    obtain ⟨a, b, c, e, f'⟩ := hh
    exact ⟨a, b, c, by omega, f'⟩

theorem dk_sync (h : DK w0 w g d n) : Calls Try.prog 32 #[.pointer (some ⟨g, 0, none⟩)] w fun e w' => e = .returned (.tuple #[]) ∧ DK w0 w' g d.sync 0 := by
  have hh := h
  obtain ⟨⟨v, hv⟩, hb0, hk, hl, h3⟩ := h
  refine (sync_any hv).mono ?_
  rintro e w' ⟨rfl, hv', ho⟩
  exact ⟨rfl, hh.only hv hv' (ho.mono (Nat.le_refl _) (fun k _ hk => by simp at hk; simp [hk])) (sync_okd hk) (by simp [DS.sync])⟩

theorem dk_crash (h : DK w0 w g d n) (keep : Int) (h1 : -9223372036854775808 ≤ keep) (h2 : keep ≤ 9223372036854775807) : Calls Try.prog 35 #[.pointer (some ⟨g, 0, none⟩), .int .i64 keep] w fun e w' => e = .returned (.tuple #[]) ∧ DK w0 w' g (crashD d keep) 0 := by
  have hh := h
  obtain ⟨⟨v, hv⟩, hb0, hk, hl, h3⟩ := h
  refine (crash_any hv hk keep h1 h2).mono ?_
  rintro e w' ⟨rfl, hv', ho⟩
  exact ⟨rfl, hh.only hv hv' (ho.mono (Nat.le_refl _) (fun k _ hk => by simp at hk; simp [hk])) (crash_okd hk keep) (by simp [crashD, DS.sync])⟩

theorem dk_loose (h : DK w0 w g d n) : Calls Try.prog 34 #[.pointer (some ⟨g, 0, none⟩)] w fun e w' => e = .returned (.int .i64 (looseAll d.loose : Int)) ∧ DK w0 w' g d n := by
  have hh := h
  obtain ⟨⟨v, hv⟩, hb0, hk, hl, h3⟩ := h
  refine (loose_any hv hk).mono ?_
  rintro e w' ⟨rfl, hb⟩
  exact ⟨rfl, hh.below hb⟩
theorem dk_free (h : DK w0 w g d n) : Calls Try.prog 37 #[.pointer (some ⟨g, 0, none⟩)] w fun e w' => e = .returned (.int .i64 (d.free : Int)) ∧ DK w0 w' g d n := by
  have hh := h
  obtain ⟨⟨v, hv⟩, hb0, hk, hl, h3⟩ := h
  refine (free_any hv hk).mono ?_
  rintro e w' ⟨rfl, q, rfl⟩
  exact ⟨rfl, hh.drewN q⟩
theorem dk_read (h : DK w0 w g d n) (f : Int) : Calls Try.prog 33 #[.pointer (some ⟨g, 0, none⟩), .int .i64 f] w fun e w' => e = .returned (.string (readR d f)) ∧ w = w' := by
  obtain ⟨⟨v, hv⟩, hb0, hk, hl, h3⟩ := h
  by_cases hf : valid f
  · obtain ⟨m, rfl⟩ := Int.eq_ofNat_of_zero_le hf.1
    refine (read_yes hv m (by have := hf.2; omega)).mono ?_
    rintro e w' ⟨rfl, rfl⟩
    exact ⟨by rw [readR, if_pos hf]; rfl, rfl⟩
  · refine (read_no g f (by unfold valid at hf; omega) w).mono ?_
    rintro e w' ⟨rfl, rfl⟩
    exact ⟨by rw [readR, if_neg hf], rfl⟩
theorem dk_turn (h : DK w0 w g d n) : Calls Try.prog 38 #[.pointer (some ⟨g, 0, none⟩)] w fun e w' => e = .returned (.int .i64 (turnR d)) ∧ DK w0 w' g (turnD d) n := by
  have hh := h
  obtain ⟨⟨v, hv⟩, hb0, hk, hl, h3⟩ := h
  by_cases h0 : 0 < looseAll d.loose
  · refine (turn_no hv hk h0).mono ?_
    rintro e w' ⟨rfl, hb⟩
    exact ⟨by rw [turnR, if_pos h0], by rw [turnD, if_pos h0]; exact hh.below hb⟩
  · refine (turn_yes hv hk (by omega)).mono ?_
    rintro e w' ⟨rfl, hv', ho⟩
    refine ⟨by rw [turnR, if_neg h0], ?_⟩
    rw [turnD, if_neg h0]
    exact hh.only hv hv' (ho.mono (Nat.le_refl _) (fun k _ hk => by simp at hk; simp [hk])) (turn_okd hk (by omega)) hl
theorem dk_trim (h : DK w0 w g d n) (f m : Int) : Calls Try.prog 39 #[.pointer (some ⟨g, 0, none⟩), .int .i64 f, .int .i64 m] w fun e w' => e = .returned (.int .i64 (trimR d f m)) ∧ DK w0 w' g (trimD d f m) n := by
  have hh := h
  obtain ⟨⟨v, hv⟩, hb0, hk, hl, h3⟩ := h
  by_cases hf : valid f
  · obtain ⟨f, rfl⟩ := Int.eq_ofNat_of_zero_le hf.1
    have hf2 : f < 2 := by have := hf.2; omega
    by_cases hm : m < 0 ∨ ((d.file f).size : Int) < m
    · have hbad : trimBad d (f : Int) m := by unfold trimBad; rw [Int.toNat_natCast]; exact .inr hm
      refine (trim_arg hv hk f hf2 m hm).mono ?_
      rintro e w' ⟨rfl, rfl⟩
      exact ⟨by rw [trimR, if_pos hbad], by rw [trimD, if_pos (.inl hbad)]; exact hh⟩
    · have hbad : ¬ trimBad d (f : Int) m := by
        unfold trimBad; rw [Int.toNat_natCast]
        rintro (h | h)
        · exact h hf
        · exact hm h
      obtain ⟨m, rfl⟩ := Int.eq_ofNat_of_zero_le (show 0 ≤ m by omega)
      by_cases h0 : 0 < looseAll d.loose
      · refine (trim_state hv hk f hf2 m (by omega) h0).mono ?_
        rintro e w' ⟨rfl, hb⟩
        exact ⟨by rw [trimR, if_neg hbad, if_pos h0], by rw [trimD, if_pos (.inr h0)]; exact hh.below hb⟩
      · refine (trim_yes hv hk f hf2 m (by omega) (by omega)).mono ?_
        rintro e w' ⟨rfl, hv', ho⟩
        refine ⟨by rw [trimR, if_neg hbad, if_neg h0], ?_⟩
        rw [trimD, if_neg (fun c => c.elim hbad h0), Int.toNat_natCast, Int.toNat_natCast]
        exact hh.only hv hv' (ho.mono (Nat.le_refl _) (fun k _ hk => by simp at hk; simp [hk])) (trim_okd hk f m hf2 (by omega)) (by rw [trim_loose d f hf2]; exact hl)
  · have hbad : trimBad d f m := .inl hf
    refine (trim_arg0 g f (by unfold valid at hf; omega) m w).mono ?_
    rintro e w' ⟨rfl, rfl⟩
    exact ⟨by rw [trimR, if_pos hbad], by rw [trimD, if_pos (.inl hbad)]; exact hh⟩
theorem dk_new (m : Nat) (hm : m ≤ 16777216) (w : World) : Calls Try.prog 30 #[.int .i64 (m : Int)] w fun e w' => e = .returned (.tuple #[.pointer (some ⟨w.heap.size, 0, none⟩), .int .i64 0]) ∧ DK w w' w.heap.size (DS.empty m) 0 := by
  refine (new_yes m hm w).mono ?_
  rintro e w' ⟨rfl, hv, ho⟩
  exact ⟨rfl, ⟨_, hv⟩, ho.below (by simp), DS.empty_ok m hm, by simp [DS.empty], ho.size⟩
end
end Go.Proofs.Ytjmdiobnappgkaa

/-
  Layer 14 (disk): the calls whose answers the document fixes.
-/
namespace Go.Proofs.Ytjmdiobnappgkaa
open Go.RowKit
set_option linter.unusedVariables false
set_option linter.unusedSimpArgs false

section
variable {w0 w : World} {g : Nat} {d : DS} {n : Nat}
theorem at_put (h : DK w0 w g d n) (hn : n < 1000000) (f : Int) (s : ByteArray) (r : Int) (d' : DS) (hr : putR d f s = r) (hd : putD d f s = d') : Calls Try.prog 31 #[.pointer (some ⟨g, 0, none⟩), .int .i64 f, .string s] w fun e w' => e = .returned (.int .i64 r) ∧ DK w0 w' g d' (n + 1) := by
  rw [← hr, ← hd]; exact dk_put h hn f s
theorem at_trim (h : DK w0 w g d n) (f m : Int) (r : Int) (d' : DS) (hr : trimR d f m = r) (hd : trimD d f m = d') : Calls Try.prog 39 #[.pointer (some ⟨g, 0, none⟩), .int .i64 f, .int .i64 m] w fun e w' => e = .returned (.int .i64 r) ∧ DK w0 w' g d' n := by
  rw [← hr, ← hd]; exact dk_trim h f m
theorem at_turn (h : DK w0 w g d n) (r : Int) (d' : DS) (hr : turnR d = r) (hd : turnD d = d') : Calls Try.prog 38 #[.pointer (some ⟨g, 0, none⟩)] w fun e w' => e = .returned (.int .i64 r) ∧ DK w0 w' g d' n := by
  rw [← hr, ← hd]; exact dk_turn h
theorem at_crash (h : DK w0 w g d n) (keep : Int) (h1 : -9223372036854775808 ≤ keep) (h2 : keep ≤ 9223372036854775807) (d' : DS) (hd : crashD d keep = d') : Calls Try.prog 35 #[.pointer (some ⟨g, 0, none⟩), .int .i64 keep] w fun e w' => e = .returned (.tuple #[]) ∧ DK w0 w' g d' 0 := by
  rw [← hd]; exact dk_crash h keep h1 h2
theorem at_loose (h : DK w0 w g d n) (r : Int) (hr : (looseAll d.loose : Int) = r) : Calls Try.prog 34 #[.pointer (some ⟨g, 0, none⟩)] w fun e w' => e = .returned (.int .i64 r) ∧ DK w0 w' g d n := by
  rw [← hr]; exact dk_loose h
theorem at_free (h : DK w0 w g d n) (r : Int) (hr : (d.free : Int) = r) : Calls Try.prog 37 #[.pointer (some ⟨g, 0, none⟩)] w fun e w' => e = .returned (.int .i64 r) ∧ DK w0 w' g d n := by
  rw [← hr]; exact dk_free h
theorem at_read (h : DK w0 w g d n) (f : Int) (r : ByteArray) (hr : readR d f = r) : Calls Try.prog 33 #[.pointer (some ⟨g, 0, none⟩), .int .i64 f] w fun e w' => e = .returned (.string r) ∧ w = w' := by
  rw [← hr]; exact dk_read h f
end

end Go.Proofs.Ytjmdiobnappgkaa
/-
  Layer 14 (disk): a script, opened: a slice of structs of a kind, two integers and a string.
-/
namespace Go.Proofs.Ytjmdiobnappgkaa
open Go.ChangeShapes Go.WideShapes Go.ChangeAt Go.RowKit Go.Joins Go.Deep
set_option linter.unusedVariables false

/-- An entry of a script. -/
structure OpV where
  K : Int
  F : Int
  N : Int
  S : ByteArray
/-- The slice A of len entries reads as ops; its cells lie below B. -/
structure AtOp (w : World) (B : Nat) (A : Option Addr) (i : Nat) (o : OpV) (b q : Nat) : Prop where
  at_ : A = some ⟨b, q, none⟩
  lt : b < B
  c0 : w.cell? ⟨b, q + i * 4, none⟩ = some (.int .i64 o.K)
  c1 : w.cell? ⟨b, q + i * 4 + 1, none⟩ = some (.int .i64 o.F)
  c2 : w.cell? ⟨b, q + i * 4 + 2, none⟩ = some (.int .i64 o.N)
  c3 : w.cell? ⟨b, q + i * 4 + 3, none⟩ = some (.string o.S)
  hK : -9223372036854775808 ≤ o.K ∧ o.K ≤ 9223372036854775807
  hF : -9223372036854775808 ≤ o.F ∧ o.F ≤ 9223372036854775807
  hN : -9223372036854775808 ≤ o.N ∧ o.N ≤ 9223372036854775807
  hS : o.S.size ≤ maxLen
def IsOps (w : World) (B : Nat) (A : Option Addr) (len : Nat) (ops : Nat → OpV) : Prop := len ≤ maxLen ∧ ∀ i, i < len → ∃ b q, AtOp w B A i (ops i) b q

theorem i64_of_wf {n : Int} (h : (Lit.int .i64 n).wf = true) : -9223372036854775808 ≤ n ∧ n ≤ 9223372036854775807 := by
  simp [Lit.wf, IntKind.min, IntKind.max, IntKind.signed, IntKind.bits] at h
  omega
theorem cells41 : Try.prog.cellsOf 41 = 4 := by kernel_rfl
theorem cells3 : Try.prog.cellsOf 3 = 1 := by kernel_rfl
theorem cells9 : Try.prog.cellsOf 9 = 1 := by kernel_rfl

theorem list4 {α : Type} {l : List α} (h : l.length = 4) : ∃ a b c d, l = [a, b, c, d] := by
  match l, h with
  | [a, b, c, d], _ => exact ⟨a, b, c, d, rfl⟩

set_option maxRecDepth 100000 in
theorem open_list34 {H : Type} {enc : TypeId × Value → H} {w : World} {base : Nat} {spare : Nat → Bool} {held : Bool} {A : Option Addr} {len cap : Nat} {d : DataW H} {p : List MemPlace}
    (h : DataW.Trod enc Try.prog w base spare held 34 (.slice A len cap) d p) : ∃ ops, IsOps w w.heap.size A len ops := by
  obtain ⟨fuel, hf⟩ := h
  rcases open_slice Try.underlying34 hf with ⟨h0, _⟩ | ⟨a, l, c, m, n, D, Pl, h0, hb, hl, hm, hmm, _, hx⟩
  · simp [Value.cells] at h0
    obtain ⟨rfl, rfl, rfl⟩ := h0
    exact ⟨fun _ => ⟨0, 0, 0, ⟨#[]⟩⟩, by decide, fun i hi => absurd hi (by omega)⟩
  · simp [Value.cells] at h0
    obtain ⟨rfl, rfl, rfl⟩ := h0
    have hlm : len ≤ m := by rw [hmm]; split <;> omega
    obtain ⟨ops, hops⟩ := choose_lt (α := Option OpV) (p := fun i o => ∃ o', o = some o' ∧ ∃ b q, AtOp w w.heap.size (some a) i o' b q) (n := len) (fun i hi => by
      obtain ⟨cs', hc, ht⟩ := hx i (by omega)
      obtain ⟨hbase, hlen, hcell⟩ := World.cells?_some hc
      rw [cells41] at hlen hcell
      obtain ⟨x0, x1, x2, x3, rfl⟩ := list4 hlen
      have e0 := hcell 0 (by omega)
      have e1 := hcell 1 (by omega)
      have e2 := hcell 2 (by omega)
      have e3 := hcell 3 (by omega)
      obtain ⟨b, o, spot⟩ := a
      simp only [List.getElem?_cons_zero, List.getElem?_cons_succ] at e0 e1 e2 e3
      obtain ⟨xs, n', _, _, _, hxl, hat⟩ := DataW.trod_struct Try.underlying41 ht
      have hxl' : xs.length = 4 := hxl
      obtain ⟨y0, y1, y2, y3, rfl⟩ := list4 hxl'
      have g0 : DataW.trod enc Try.prog w base spare held n' 3 (([x0, x1, x2, x3].drop 0).take (Try.prog.cellsOf 3)) = [y0, y1, y2, y3][0]? := hat 0 _ rfl
      have g1 : DataW.trod enc Try.prog w base spare held n' 3 (([x0, x1, x2, x3].drop 1).take (Try.prog.cellsOf 3)) = [y0, y1, y2, y3][1]? := hat 1 _ rfl
      have g2 : DataW.trod enc Try.prog w base spare held n' 3 (([x0, x1, x2, x3].drop 2).take (Try.prog.cellsOf 3)) = [y0, y1, y2, y3][2]? := hat 2 _ rfl
      have g3 : DataW.trod enc Try.prog w base spare held n' 9 (([x0, x1, x2, x3].drop 3).take (Try.prog.cellsOf 9)) = [y0, y1, y2, y3][3]? := hat 3 _ rfl
      simp only [cells3, cells9, List.drop, List.take, List.getElem?_cons_zero, List.getElem?_cons_succ] at g0 g1 g2 g3
      have ok_ := DataW.trod_int Try.underlying3 g0
      obtain ⟨k, hk, _, wk⟩ := ok_
      obtain ⟨f, hf', _, wf⟩ := DataW.trod_int Try.underlying3 g1
      obtain ⟨nn, hn, _, wn⟩ := DataW.trod_int Try.underlying3 g2
      obtain ⟨s, hs, _, ws⟩ := DataW.trod_string Try.underlying9 g3
      simp only [List.cons.injEq, and_true] at hk hf' hn hs
      subst hk hf' hn hs
      have hspot : spot = none := by
        obtain ⟨cs0, hc0, _⟩ := hx 0 (by omega)
        obtain ⟨_, hl0, hcl⟩ := World.cells?_some hc0
        rw [cells41] at hl0 hcl
        have z0 := hcl 0 (by omega)
        rw [List.getElem?_eq_getElem (by omega)] at z0
        simpa [Addr.add] using World.cell?_spot z0
      subst hspot
      simp only [add_plain] at e0 e1 e2 e3
      refine ⟨_, ⟨⟨k, f, nn, s⟩, rfl, b, o, rfl, World.block_lt_of_cell? w _ e0, e0, e1, e2, e3, i64_of_wf wk, i64_of_wf wf, i64_of_wf wn, ws⟩⟩)
    exact ⟨fun i => (ops i).getD ⟨0, 0, 0, ⟨#[]⟩⟩, by omega, fun i hi => by
      obtain ⟨o', ho, b, q, hq⟩ := hops i hi
      exact ⟨b, q, by show AtOp w w.heap.size (some a) i ((ops i).getD _) b q; rw [ho]; exact hq⟩⟩
end Go.Proofs.Ytjmdiobnappgkaa

/-
  Layer 14 (disk): DiskTrims walked.
-/
namespace Go.Proofs.Ytjmdiobnappgkaa
open Go.RowKit
set_option linter.unusedVariables false
set_option linter.unusedSimpArgs false

theorem IsOps.below {w w' : World} {B : Nat} {A : Option Addr} {len : Nat} {ops : Nat → OpV} (h : IsOps w B A len ops) (hB : w.heap.size = B) (hb : Below B w w') : IsOps w' B A len ops := by
  refine ⟨h.1, fun i hi => ?_⟩
  obtain ⟨b, q, o⟩ := h.2 i hi
  have c {p : Addr} {v : Value} (hc : w.cell? p = some v) : w'.cell? p = some v := cell_belowB hb hB hc
  exact ⟨b, q, o.at_, o.lt, c o.c0, c o.c1, c o.c2, c o.c3, o.hK, o.hF, o.hN, o.hS⟩

theorem run_min_int2 {P : Program} (w : World) (ts : Array TypeId) (t : TypeId) (k1 k2 : IntKind) (x y : Int) (n : Int) (hn : min x y = n) : (Builtin.min_ ts t #[.int k1 x, .int k2 y]).run P w = .ok (.int k1 n) w := by
  subst hn
  simp [Builtin.min_, Builtin.min2]
  have e : ∀ p q : Int, (if q < p then q else p) = min p q := fun p q => by rw [Int.min_def]; split <;> split <;> omega
  simp only [e]
theorem bit1 (f : Nat) (hf : f < 256) : ∃ kk : Int, (kk = 0 ∨ kk = 1) ∧ bits BinOp.and IntKind.u8 (f : Int) 1 = kk := by
  have : ∀ f : Fin 256, bits BinOp.and IntKind.u8 ((f.val : Nat) : Int) 1 = 0 ∨ bits BinOp.and IntKind.u8 ((f.val : Nat) : Int) 1 = 1 := by decide +kernel
  rcases this ⟨f, hf⟩ with h | h
  · exact ⟨0, Or.inl rfl, h⟩
  · exact ⟨1, Or.inr rfl, h⟩
theorem trim_bad {D : DS} {k n : Int} (hk : valid k) (hb : n < 0 ∨ ((readR D k).size : Int) < n) : trimR D k n = 1 ∧ trimD D k n = D := by
  rw [readR, if_pos hk] at hb
  have : trimBad D k n := Or.inr hb
  exact ⟨by rw [trimR, if_pos this], by rw [trimD, if_pos (Or.inl this)]⟩
theorem trim_good {D : DS} {k n : Int} (hk : valid k) (hl : looseAll D.loose = 0) (h0 : 0 ≤ n) (h1 : n ≤ ((readR D k).size : Int)) :
    trimR D k n = 0 ∧ readR (trimD D k n) k = (readR D k).extract 0 n.toNat ∧ readR (trimD D k n) (1 - k) = readR D (1 - k) ∧ looseAll (trimD D k n).loose = 0 := by
  rw [readR, if_pos hk] at h1
  have hb : ¬ trimBad D k n := by rintro (h | h | h); exact h hk; omega; omega
  have e : trimD D k n = D.trim k.toNat n.toNat := by rw [trimD, if_neg]; rintro (h | h); exact hb h; omega
  have hk2 : valid (1 - k) := by unfold valid at *; omega
  rw [e]
  have : k = 0 ∨ k = 1 := by unfold valid at hk; omega
  rcases this with rfl | rfl
  · exact ⟨by rw [trimR, if_neg hb, if_neg (by omega)], by simp [readR, valid, DS.trim, DS.file], by simp [readR, valid, DS.trim, DS.file], hl⟩
  · exact ⟨by rw [trimR, if_neg hb, if_neg (by omega)], by simp [readR, valid, DS.trim, DS.file], by simp [readR, valid, DS.trim, DS.file], hl⟩
theorem World.DKb {w0 w : World} {g : Nat} {d : DS} {n : Nat} (h : DK w0 w g d (n + 1)) : Below w0.heap.size w0 w := h.2.1
end Go.Proofs.Ytjmdiobnappgkaa
/-
  Layer 14 (disk): small laws for the walks of DiskTurns, DiskRoom, DiskKeeps.
-/
namespace Go.Proofs.Ytjmdiobnappgkaa
open Go.RowKit
theorem low1 (F : Int) : bits BinOp.and IntKind.i64 F 1 = 0 ∨ bits BinOp.and IntKind.i64 F 1 = 1 := by
  have e : (1 : Nat) % 2 ^ IntKind.i64.bits = 1 := by decide
  simp only [bits, BitVec.toNat_and, BitVec.toNat_ofInt]
  have e' : ((1 : Int) % ((2 ^ IntKind.i64.bits : Nat) : Int)).toNat = 1 := by decide
  rw [e', Nat.and_one_is_mod]
  have : ∀ n : Nat, n % 2 = 0 ∨ n % 2 = 1 := fun n => by omega
  rcases this ((F % ((2 ^ IntKind.i64.bits : Nat) : Int)).toNat) with h | h
  · left; rw [h]; decide
  · right; rw [h]; decide
/-- What Put gives back, and what is read after it. -/
theorem put_laws (d : DS) (f : Int) (hf : f = 0 ∨ f = 1) (s : ByteArray) :
    (¬ (d.free < s.size) → putR d f s = 0 ∧ readR (putD d f s) f = readR d f ++ s ∧ (d.ok → ((putD d f s).free : Int) = (d.free : Int) - s.size)) ∧
    (d.free < s.size → putR d f s = 8 ∧ putD d f s = d) := by
  have hv : valid f := by unfold valid; omega
  constructor
  · intro h
    have e : putD d f s = d.put f.toNat s := by rw [putD, if_pos ⟨hv, h⟩]
    refine ⟨by rw [putR, if_pos hv, if_neg h], ?_, ?_⟩
    · rw [e]
      rcases hf with rfl | rfl <;> simp [readR, valid, DS.put, DS.file]
    · intro hk
      rw [e]
      have h1 := hk.fits
      rcases hf with rfl | rfl <;> (simp [DS.free, DS.put] at h ⊢; omega)
  · intro h
    exact ⟨by rw [putR, if_pos hv, if_pos h], by rw [putD, if_neg]; rintro ⟨_, c⟩; exact c h⟩
theorem turn_laws (d : DS) : (looseAll d.loose = 0 → turnR d = 0 ∧ turnD d = d.turn) ∧ (0 < looseAll d.loose → turnR d = 7 ∧ turnD d = d) :=
  ⟨fun h => ⟨by rw [turnR, if_neg (by omega)], by rw [turnD, if_neg (by omega)]⟩, fun h => ⟨by rw [turnR, if_pos h], by rw [turnD, if_pos h]⟩⟩
end Go.Proofs.Ytjmdiobnappgkaa

/-
  Layer 14 (disk): the room is kept; small laws for the walk of DiskRoom.
-/
namespace Go.Proofs.Ytjmdiobnappgkaa
open Go.RowKit
theorem put_room (d : DS) (f : Int) (s : ByteArray) : (putD d f s).room = d.room := by
  unfold putD; split
  · unfold DS.put; split <;> rfl
  · rfl
theorem trim_room (d : DS) (f n : Int) : (trimD d f n).room = d.room := by
  unfold trimD; split
  · rfl
  · unfold DS.trim; split <;> rfl
theorem turn_room (d : DS) : (turnD d).room = d.room := by
  unfold turnD; split <;> rfl
theorem crash_room (d : DS) (keep : Int) : (crashD d keep).room = d.room :=
  (undoL_loose d d.loose (stays d.loose keep)).2
theorem free_sum {d : DS} (h : d.ok) : (d.free : Int) + (((readR d 0).size : Int) + ((readR d 1).size : Int)) = (d.room : Int) := by
  have h1 := h.fits
  have e0 : readR d 0 = d.f0 := by simp [readR, valid, DS.file]
  have e1 : readR d 1 = d.f1 := by simp [readR, valid, DS.file]
  rw [e0, e1]; unfold DS.free; omega
theorem loose_sum {d : DS} (h : d.ok) : (looseAll d.loose : Int) ≤ ((readR d 0).size : Int) + ((readR d 1).size : Int) := by
  have e0 : readR d 0 = d.f0 := by simp [readR, valid, DS.file]
  have e1 : readR d 1 = d.f1 := by simp [readR, valid, DS.file]
  have h2 := h.l0; have h3 := h.l1
  have := looseAll_two d.loose h.two
  rw [e0, e1]; omega
end Go.Proofs.Ytjmdiobnappgkaa

/-
  Layer 14 (disk): what a crash leaves, as plain laws: for the walk of DiskKeeps.
-/
namespace Go.Proofs.Ytjmdiobnappgkaa
open Go.RowKit
set_option linter.unusedVariables false
set_option linter.unusedSimpArgs false

def stOf (f : Nat) : List (Nat × Nat) → List Nat → Nat
  | p :: l, s :: ss => (if p.1 = f then s else 0) + stOf f l ss
  | _, _ => 0
theorem looseOf_cons (f : Nat) (p : Nat × Nat) (l : List (Nat × Nat)) : looseOf f (p :: l) = (if p.1 = f then p.2 else 0) + looseOf f l := by simp [looseOf]
theorem looseAll_cons (p : Nat × Nat) (l : List (Nat × Nat)) : looseAll (p :: l) = p.2 + looseAll l := by simp [looseAll]
theorem stOf_le (f : Nat) : ∀ (l : List (Nat × Nat)) (keep : Int), stOf f l (stays l keep) ≤ looseOf f l
  | [], _ => by simp [stOf, stays]
  | p :: l, keep => by
    have := stOf_le f l (keep - stay keep p.2)
    have h2 := stay_le keep p.2
    rw [stays, stOf, looseOf_cons]
    split <;> omega
theorem stOf_sum : ∀ (l : List (Nat × Nat)) (keep : Int), (∀ p ∈ l, p.1 < 2) → ((stOf 0 l (stays l keep) : Int) + (stOf 1 l (stays l keep) : Int)) = max 0 (min keep (looseAll l : Int))
  | [], keep, _ => by simp [stOf, stays, looseAll]; omega
  | p :: l, keep, h => by
    have ih := stOf_sum l (keep - stay keep p.2) (fun q hq => h q (List.mem_cons_of_mem _ hq))
    have h1 := h p (List.mem_cons_self ..)
    rw [stays, stOf, stOf, looseAll_cons]
    have h2 : p.1 = 0 ∨ p.1 = 1 := by omega
    have hs : ((stay keep p.2 : Nat) : Int) = max 0 (min keep (p.2 : Int)) := by unfold stay; omega
    rcases h2 with h2 | h2 <;> simp only [h2] <;> simp <;> omega
theorem undo_file (d : DS) (f : Nat) (hf : f < 2) : ∀ (l : List (Nat × Nat)) (keep : Int), (∀ p ∈ l, p.1 < 2) → looseOf f l ≤ (d.file f).size →
    (undoL d l (stays l keep)).file f = (d.file f).extract 0 ((d.file f).size - looseOf f l + stOf f l (stays l keep))
  | [], keep, _, _ => by
    simp [undoL, stays, stOf, looseOf]
  | p :: l, keep, hp, h => by
    rw [looseOf_cons] at h
    have ih := undo_file d f hf l (keep - stay keep p.2) (fun q hq => hp q (List.mem_cons_of_mem _ hq)) (by omega)
    have h3 := stOf_le f l (keep - stay keep p.2)
    have h4 := stay_le keep p.2
    rw [stays, undoL, stOf, looseOf_cons, cutf_file _ _ _ _ (hp p (List.mem_cons_self ..)) hf, ih]
    split
    · rename_i hpf
      rw [if_pos hpf] at h
      rw [ByteArray.size_extract, ByteArray.extract_extract]
      congr 1
      omega
    · rw [show ((d.file f).size - (0 + looseOf f l) + (0 + stOf f l (stays l (keep - ↑(stay keep p.2))))) = ((d.file f).size - looseOf f l + stOf f l (stays l (keep - ↑(stay keep p.2)))) by omega]

/-- a and b are what is sure of the disk's files; all behind them is loose. -/
structure Sure (D : DS) (a b : ByteArray) : Prop where
  a0 : D.f0.extract 0 a.size = a
  a1 : a.size + looseOf 0 D.loose = D.f0.size
  b0 : D.f1.extract 0 b.size = b
  b1 : b.size + looseOf 1 D.loose = D.f1.size
theorem Sure.start (D : DS) : Sure D.sync (readR D.sync 0) (readR D.sync 1) := by
  refine ⟨?_, ?_, ?_, ?_⟩ <;> simp [readR, valid, DS.file, DS.sync, looseOf]
theorem Sure.put {D : DS} {a b : ByteArray} (h : Sure D a b) (f : Int) (hf : f = 0 ∨ f = 1) (s : ByteArray) (hs : s.size ≤ D.free) :
    Sure (putD D f s) a b ∧ putR D f s = 0 ∧ (putD D f s).room = D.room ∧ looseAll (putD D f s).loose = looseAll D.loose + s.size ∧ (putD D f s).f0.size + (putD D f s).f1.size = D.f0.size + D.f1.size + s.size := by
  have hv : valid f := by unfold valid; omega
  have hns : ¬ D.free < s.size := by omega
  have e : putD D f s = D.put f.toNat s := by rw [putD, if_pos ⟨hv, hns⟩]
  have r : putR D f s = 0 := by rw [putR, if_pos hv, if_neg hns]
  have ha : a.size ≤ D.f0.size := by have := h.a1; omega
  have hb : b.size ≤ D.f1.size := by have := h.b1; omega
  refine ⟨?_, r, put_room D f s, ?_, ?_⟩
  · rw [e]
    rcases hf with rfl | rfl
    · refine ⟨?_, ?_, ?_, ?_⟩
      · show (D.f0 ++ s).extract 0 a.size = a
        rw [ByteArray.extract_append, show a.size - D.f0.size = 0 by omega]
        simp [h.a0]
      · show a.size + looseOf 0 (D.put 0 s).loose = (D.f0 ++ s).size
        rw [put_loose _ 0 (by decide), looseOf_snoc, ByteArray.size_append]
        have := h.a1; simp; omega
      · exact h.b0
      · show b.size + looseOf 1 (D.put 0 s).loose = D.f1.size
        rw [put_loose _ 0 (by decide), looseOf_snoc]
        have := h.b1; simp; omega
    · refine ⟨?_, ?_, ?_, ?_⟩
      · exact h.a0
      · show a.size + looseOf 0 (D.put 1 s).loose = D.f0.size
        rw [put_loose _ 1 (by decide), looseOf_snoc]
        have := h.a1; simp; omega
      · show (D.f1 ++ s).extract 0 b.size = b
        rw [ByteArray.extract_append, show b.size - D.f1.size = 0 by omega]
        simp [h.b0]
      · show b.size + looseOf 1 (D.put 1 s).loose = (D.f1 ++ s).size
        rw [put_loose _ 1 (by decide), looseOf_snoc, ByteArray.size_append]
        have := h.b1; simp; omega
  · rw [e]
    rcases hf with rfl | rfl
    · show looseAll (D.put 0 s).loose = _
      rw [put_loose _ 0 (by decide), loose_snoc]
    · show looseAll (D.put 1 s).loose = _
      rw [put_loose _ 1 (by decide), loose_snoc]
  · rw [e]
    rcases hf with rfl | rfl
    · show (D.f0 ++ s).size + D.f1.size = _
      rw [ByteArray.size_append]; omega
    · show D.f0.size + (D.f1 ++ s).size = _
      rw [ByteArray.size_append]; omega
theorem extract_pre {x a : ByteArray} {n m : Nat} (h : x.extract 0 n = a) (hn : n ≤ m) : (x.extract 0 m).extract 0 n = a := by
  rw [ByteArray.extract_extract, ← h]; congr 1; omega
/-- What a crash leaves of a disk of which a and b are sure. -/
theorem Sure.crash {D : DS} {a b : ByteArray} (h : Sure D a b) (hk : D.ok) (keep : Int) : ∃ u v : ByteArray, readR (crashD D keep) 0 = u ∧ readR (crashD D keep) 1 = v ∧ looseAll (crashD D keep).loose = 0 ∧
    a.size ≤ u.size ∧ b.size ≤ v.size ∧ u.size ≤ (readR D 0).size ∧ v.size ≤ (readR D 1).size ∧ (readR D 0).extract 0 u.size = u ∧ (readR D 1).extract 0 v.size = v ∧ u.extract 0 a.size = a ∧ v.extract 0 b.size = b ∧
    (u.size : Int) + (v.size : Int) - (a.size : Int) - (b.size : Int) = max 0 (min keep (looseAll D.loose : Int)) := by
  have e0 := undo_file D 0 (by decide) D.loose keep hk.two hk.l0
  have e1 := undo_file D 1 (by decide) D.loose keep hk.two hk.l1
  have s0 := stOf_le 0 D.loose keep
  have s1 := stOf_le 1 D.loose keep
  have sm := stOf_sum D.loose keep hk.two
  generalize stOf 0 D.loose (stays D.loose keep) = k0 at e0 s0 sm
  generalize stOf 1 D.loose (stays D.loose keep) = k1 at e1 s1 sm
  have r0 : readR D 0 = D.f0 := by simp [readR, valid, DS.file]
  have r1 : readR D 1 = D.f1 := by simp [readR, valid, DS.file]
  have c0 : readR (crashD D keep) 0 = D.f0.extract 0 (a.size + k0) := by
    have : (D.file 0).size - looseOf 0 D.loose = a.size := by have := h.a1; show D.f0.size - _ = _; omega
    rw [this] at e0
    rw [← show D.file 0 = D.f0 from rfl, ← e0]
    simp [readR, valid, crashD, DS.sync, DS.file]
  have c1 : readR (crashD D keep) 1 = D.f1.extract 0 (b.size + k1) := by
    have : (D.file 1).size - looseOf 1 D.loose = b.size := by have := h.b1; show D.f1.size - _ = _; omega
    rw [this] at e1
    rw [← show D.file 1 = D.f1 from rfl, ← e1]
    simp [readR, valid, crashD, DS.sync, DS.file]
  have ha := h.a1; have hb := h.b1
  have z0 : (D.f0.extract 0 (a.size + k0)).size = a.size + k0 := by rw [ByteArray.size_extract]; omega
  have z1 : (D.f1.extract 0 (b.size + k1)).size = b.size + k1 := by rw [ByteArray.size_extract]; omega
  refine ⟨_, _, c0, c1, rfl, by omega, by omega, by rw [r0]; omega, by rw [r1]; omega, by rw [r0, z0], by rw [r1, z1], extract_pre h.a0 (by omega), extract_pre h.b0 (by omega), by rw [z0, z1]; omega⟩
theorem put_sizes (d : DS) (f : Int) (s : ByteArray) : (putD d f s).f0.size + (putD d f s).f1.size ≤ d.f0.size + d.f1.size + s.size := by
  unfold putD
  split
  · unfold DS.put
    split <;> simp [ByteArray.size_append] <;> omega
  · omega
end Go.Proofs.Ytjmdiobnappgkaa

/-
  Memory: a row of the call's own of which no cell is frozen, whatever mark stands behind it (so '[]byte(s)' lays one): appended to, and read back as a string.
-/
namespace Go.Proofs.Ytjmdiobnappgkaa
open Go.RowKit
set_option linter.unusedVariables false
set_option linter.unusedSimpArgs false

/-- As 'ownsRow', but that a mark may stand where no cell is. -/
def rowX (w : World) (base : Nat) (e : TypeId) (size : Nat) (v : Value) (n : Nat) (xs : List Value) : Prop :=
  xs.length = n * size ∧
  ((v = .slice none 0 0 ∧ n = 0) ∨
   ∃ g cap cur fz, v = .slice (some ⟨g, 0, none⟩) n cap ∧ base ≤ g ∧ w.heap[g]? = some (.cells cur e fz) ∧ (∀ j, j < cur.size → w.frozen? ⟨g, j, none⟩ = false) ∧ n ≤ cap ∧ cap ≤ maxLen ∧ cur.size = cap * size ∧ cur.toList.take (n * size) = xs)

section
variable {w w' : World} {base : Nat} {e : TypeId} {size : Nat} {v : Value} {n : Nat} {xs : List Value}
theorem rowX.nil (w : World) (base : Nat) (e : TypeId) (size : Nat) : rowX w base e size (.slice none 0 0) 0 [] := ⟨by simp, .inl ⟨rfl, rfl⟩⟩
theorem rowX.own (h : w.ownsRow base e size v n xs) : rowX w base e size v n xs := by
  refine ⟨h.1, h.2.imp id ?_⟩
  rintro ⟨g, cap, cur, hv, hg, hh, r⟩
  exact ⟨g, cap, cur, (0, 0), hv, hg, hh, fun j _ => by simp [World.frozen?, hh], r⟩
theorem rowX.lt (h : rowX w base e size v n xs) : ∀ k, v.ownBlock = some k → base ≤ k ∧ k < w.heap.size := by
  intro k hk
  rcases h.2 with ⟨rfl, _⟩ | ⟨g, cap, cur, fz, rfl, hb, hg, _⟩
  · simp [Value.ownBlock] at hk
  · simp [Value.ownBlock] at hk
    subst hk
    exact ⟨hb, (Array.getElem?_eq_some_iff.1 hg).1⟩
theorem rowX.form (h : rowX w base e size v n xs) : ∃ A c, v = .slice A n c := by
  rcases h.2 with ⟨rfl, rfl⟩ | ⟨g, cap, cur, fz, rfl, _⟩
  · exact ⟨_, _, rfl⟩
  · exact ⟨_, _, rfl⟩
theorem rowX.congr (h : rowX w base e size v n xs) (hk : ∀ k, v.ownBlock = some k → w'.heap[k]? = w.heap[k]?) : rowX w' base e size v n xs := by
  refine ⟨h.1, ?_⟩
  rcases h.2 with h2 | ⟨g, cap, cur, fz, rfl, hg, hh, hf, r⟩
  · exact .inl h2
  · have := hk g rfl
    exact .inr ⟨g, cap, cur, fz, rfl, hg, this.trans hh, fun j hj => by simp only [World.frozen?, this]; exact hf j hj, r⟩
theorem rowX.below (h : rowX w base e size v n xs) (hb : Below w.heap.size w w') : rowX w' base e size v n xs := h.congr fun k hk => hb.block k (h.lt k hk).2
theorem rowX.alloc (h : rowX w base e size v n xs) (o : Obj) : rowX (w.alloc o) base e size v n xs := h.congr fun k hk => Below.heap_alloc _ _ _ (h.lt k hk).2
theorem rowX.drew (h : rowX w base e size v n xs) : rowX w.drew base e size v n xs := h
theorem rowX.drewN (h : rowX w base e size v n xs) (q : Nat) : rowX (w.drewN q) base e size v n xs := h
theorem rowX.cells {A : Addr} {m c : Nat} (h : rowX w base e size (.slice (some A) m c) n xs) : ∀ j u, xs[j]? = some u → w.cell? (A.add j) = some u := by
  intro j u hu
  rcases h.2 with ⟨hc, _⟩ | ⟨g, cap, cur, fz, hv, hg, hh, hf, hn, hm, hs, ht⟩
  · cases hc
  · injection hv with h1 h2 h3
    injection h1 with h1
    subst h1
    rw [Addr.add_lit, Nat.zero_add, cell_of_row w g j cur e fz hh]
    rw [← ht, List.getElem?_take] at hu
    split at hu
    · simpa using hu
    · cases hu

theorem setCells_tape (b : Nat) : ∀ (vs : List Value) (o : Nat) (w : World), (w.setCells b o vs).tape = w.tape ∧ (w.setCells b o vs).os = w.os ∧ (w.setCells b o vs).output = w.output ∧ (w.setCells b o vs).heap.size = w.heap.size
  | [], _, _ => ⟨rfl, rfl, rfl, rfl⟩
  | v :: r, o, w => by
    have := setCells_tape b r (o + 1) (w.setCell ⟨b, o, none⟩ v)
    rw [World.setCells]
    exact ⟨this.1, this.2.1, this.2.2.1, this.2.2.2.trans (by simp [World.setCell])⟩
theorem setCells_row (g : Nat) (fz : Nat × Nat) : ∀ (vs : List Value) (o : Nat) (cur : Array Value) (w : World), w.heap[g]? = some (.cells cur e fz) → o + vs.length ≤ cur.size →
    ∃ cur', (w.setCells g o vs).heap[g]? = some (.cells cur' e fz) ∧ cur'.size = cur.size ∧ cur'.toList.take (o + vs.length) = cur.toList.take o ++ vs
  | [], o, cur, w, h, _ => ⟨cur, h, rfl, by simp⟩
  | v :: r, o, cur, w, h, hl => by
    simp only [List.length_cons] at hl
    have h1 : (w.setCell ⟨g, o, none⟩ v).heap[g]? = some (.cells (cur.setIfInBounds o v) e fz) := by
      simp [World.setCell, Array.getElem?_modify, h]
    obtain ⟨cur', a, b, c⟩ := setCells_row g fz r (o + 1) _ _ h1 (by simp; omega)
    refine ⟨cur', a, by simpa using b, ?_⟩
    rw [List.length_cons, show o + (r.length + 1) = o + 1 + r.length by omega, c]
    have : (cur.setIfInBounds o v).toList.take (o + 1) = cur.toList.take o ++ [v] := by
      rw [Array.toList_setIfInBounds, List.take_set, List.take_succ_eq_append_getElem (by simp; omega)]
      rw [List.set_append_right _ _ (by simp; omega)]
      simp [Nat.min_eq_left (show o ≤ cur.size by omega)]
    rw [this]; simp

variable {P : Program}
/-- '[]byte(s)'. -/
theorem rowX.ofString (w : World) (src dst e : TypeId) (s : ByteArray) (hs : P.underlying src = some .string) (hd : P.underlying dst = some (.slice e)) (he : P.underlying e = some (.int .u8)) (hmax : s.size ≤ maxLen) :
    ∃ v w2, (convert src dst (.string s)).run P w = .ok v w2 ∧ Below w.heap.size w w2 ∧ w2.heap.size = w.heap.size + 1 ∧ rowX w2 w.heap.size e 1 v s.size (bvals s.data.toList) ∧ v.ownBlock = some w.heap.size := by
  refine ⟨_, _, run_bytes_of_string w src dst e s hs hd he, ((Below.refl _ _).drew).alloc (Nat.le_refl _) _, by simp, ⟨by simp [bvals_length], .inr ⟨w.heap.size, _, _, _, rfl, Nat.le_refl _, heap_alloc_new w.drew _, ?_, grownCap_ge _ _ _ _, grownCap_le_maxLen _ _ _ _ hmax, ?_, ?_⟩⟩, rfl⟩
  · intro j hj
    have := heap_alloc_new w.drew (.cells (bytesRow s (grownCap w s.size 0 e)) e ((bytesRow s (grownCap w s.size 0 e)).size, (bytesRow s (grownCap w s.size 0 e)).size + 1))
    have h1 : w.drew.heap.size = w.heap.size := rfl
    rw [h1] at this
    simp only [World.frozen?, this]
    simp; omega
  · have := grownCap_ge w s.size 0 e
    simp only [bytesRow, Array.size_append, Array.size_map, Array.size_replicate, Nat.mul_one]
    have h2 : s.data.size = s.size := rfl
    omega
  · simp only [bytesRow, bvals, Nat.mul_one, Array.toList_append, Array.toList_map]
    rw [List.take_append_of_le_length (by simp), List.take_of_length_le (by simp)]
/-- 'string(b)'. -/
theorem rowX.toString {src dst : TypeId} {l : List UInt8} (hs : P.underlying src = some (.slice e)) (he : P.underlying e = some (.int .u8)) (hd : P.underlying dst = some .string)
    (h : rowX w base e 1 v n (bvals l)) : (convert src dst v).run P w = .ok (.string ⟨l.toArray⟩) w := by
  have hl := h.1
  simp only [bvals_length, Nat.mul_one] at hl
  rcases h.2 with ⟨rfl, rfl⟩ | ⟨g, cap, cur, fz, rfl, _⟩
  · have : l = [] := List.eq_nil_of_length_eq_zero hl
    subst this
    exact run_convert_bytes_nil w src e hs he 0 0 dst hd
  · subst hl
    refine run_convert_bytes_back w src dst e ⟨g, 0, none⟩ cap l hs he hd ?_
    intro j hj
    refine h.cells j _ ?_
    simp [bvals, hj]
/-- Appended to, out of whatever source. -/
theorem run_append_x (t tx ty e : TypeId) (i : TypeInfo) (z : Value) (bytes : Nat) (ht : P.underlying t = some (.slice e)) (hi : P.info? e = some i) (hz : i.zero = some z) (hsize : i.size = size) (hby : i.bytes = bytes) (hzs : z.cells.size = size)
    (h : rowX w base e size v n xs) (x : Value) (m : Nat) (news : List Value) (hs : Src P size tx x m news w) (h63 : n + m ≤ maxLen) (hbytes : (n + m) * bytes ≤ 140737488355328) (hbase : base ≤ w.heap.size) :
    ∃ v' w', (Builtin.append_ #[t, tx] ty #[v, x]).run P w = .ok v' w' ∧ rowX w' base e size v' (n + m) (xs ++ news) ∧ w.grownBy w' v.ownBlock ∧ (v'.ownBlock = v.ownBlock ∨ v'.ownBlock = some w.heap.size) := by
  subst hsize; subst hby
  have hnl := hs.newsLen
  have hxl := h.1
  have hsmall : ((n + m : Nat) : Int) ≤ 9223372036854775807 := by simp only [maxLen] at h63; omega
  have grow : ∀ (bs : Option Addr) (sc : Nat), v = .slice bs n sc → sc < n + m → (Builtin.firstCells i.size n (.slice bs n sc)).run P w.drew = .ok xs.toArray w.drew →
      ∃ v' w', (Builtin.append_ #[t, tx] ty #[v, x]).run P w = .ok v' w' ∧ rowX w' base e i.size v' (n + m) (xs ++ news) ∧ w.grownBy w' v.ownBlock ∧ (v'.ownBlock = v.ownBlock ∨ v'.ownBlock = some w.heap.size) := by
    rintro bs sc rfl hg hold
    have hrun := run_append_grow_src (P := P) w t tx ty e i z ht hi hz bs n sc xs hold x m news hs hg hsmall (growslice_fits hg hbytes)
    have hge := grownCap_ge w (n + m) sc e
    refine ⟨_, _, hrun, ⟨by rw [List.length_append, hxl, hnl, Nat.add_mul], .inr ⟨w.heap.size, _, _, (0, 0), rfl, hbase, heap_alloc_new w.drew _, ?_, hge, grownCap_le_maxLen _ _ _ _ h63, ?_, ?_⟩⟩, ?_, .inr rfl⟩
    · intro j _; exact World.frozen?_alloc_new w.drew _ _ j
    · rw [Array.size_append, size_zeroCells, hzs, List.size_toArray, List.length_append, hxl, hnl, ← Nat.add_mul, ← Nat.add_mul]
      congr 1; omega
    · rw [Array.toList_append]
      rw [List.take_append_of_le_length (by simp [hxl, hnl, Nat.add_mul]), List.take_of_length_le (by simp [hxl, hnl, Nat.add_mul])]
    · exact ⟨rfl, rfl, rfl, by simp, fun k hk _ => Below.heap_alloc w.drew _ k hk⟩
  rcases h.2 with ⟨hv, hn0⟩ | ⟨g, cap, cur, fz, hv, hg, hh, hf, hn, hm, hcs, htk⟩
  · subst hn0
    have hx0 : xs = [] := List.eq_nil_of_length_eq_zero (by rw [hxl]; simp)
    subst hx0
    by_cases h0 : m = 0
    · subst h0
      have hn0 : news = [] := List.eq_nil_of_length_eq_zero (by rw [hnl]; simp)
      subst hn0
      rw [hv]
      exact ⟨_, _, run_append_nothing (P := P) w t tx ty e i ht hi none 0 0 (Nat.le_refl _) x hs, rowX.nil _ _ _ _, ⟨rfl, rfl, rfl, Nat.le_refl _, fun _ _ _ => rfl⟩, .inl rfl⟩
    · exact grow none 0 hv (by omega) (run_firstCells_none w.drew i.size 0 0 0)
  · by_cases hfit : n + m ≤ cap
    · have hcap : (n + m) * i.size ≤ cap * i.size := Nat.mul_le_mul_right _ hfit
      rw [Nat.add_mul] at hcap
      have hrun := run_append_room_src (P := P) w t tx ty e i ht hi g 0 n cap x m news hs hfit
        (fun j hj => by rw [Nat.zero_add, cell_of_row w g _ cur e fz hh, Array.getElem?_eq_getElem (by omega)]; rfl)
        (fun j hj => by rw [Nat.zero_add]; exact hf _ (by omega))
      obtain ⟨cur', a, b, c⟩ := setCells_row (e := e) g fz news (0 + n * i.size) cur w hh (by omega)
      have ht4 := setCells_tape g news (0 + n * i.size) w
      rw [hv]
      refine ⟨_, _, hrun, ⟨by rw [List.length_append, hxl, hnl, Nat.add_mul], .inr ⟨g, cap, cur', fz, rfl, hg, a, ?_, hfit, hm, b.trans hcs, ?_⟩⟩, ⟨ht4.2.1, ht4.1, ht4.2.2.1, by rw [ht4.2.2.2]; exact Nat.le_refl _, ?_⟩, .inl rfl⟩
      · intro j hj
        rw [World.frozen?_setCells]
        exact hf j (by omega)
      · rw [Nat.zero_add, hnl] at c
        rw [Nat.add_mul, c, htk]
      · intro k hk hne
        exact World.heap_setCells_other w g _ news hk (fun e => hne (by rw [e]; rfl))
    · refine grow (some ⟨g, 0, none⟩) cap hv (by omega) ?_
      refine run_firstCells_some w.drew i.size n ⟨g, 0, none⟩ n cap xs hxl (fun j u hu => ?_)
      subst hv
      exact h.cells j u hu
theorem wpList_append_x {ops : Array Oper} {rest : List Oper} {o : Oper} {a : Act} {Q : Exit → Act → World → Prop} (hgd : o.guard = none) (s x : Operand) (t tx : TypeId)
    (ho : o.op = .call { callee := .builtin .append, args := #[s, x], argTypes := #[t, tx] })
    (base : Nat) (e : TypeId) (i : TypeInfo) (z : Value) (size bytes : Nat) (ht : P.underlying t = some (.slice e)) (hi : P.info? e = some i) (hz : i.zero = some z)
    (hsize : i.size = size) (hby : i.bytes = bytes) (hzs : z.cells.size = size)
    (v : Value) (n : Nat) (xs : List Value) (hv : a.eval s = v) (h : rowX w base e size v n xs)
    (xv : Value) (m : Nat) (news : List Value) (hx : a.eval x = xv) (hs : Src P size tx xv m news w)
    (h63 : n + m ≤ maxLen) (hbytes : (n + m) * bytes ≤ 140737488355328) (hbase : base ≤ w.heap.size)
    (hK : ∀ v' w', rowX w' base e size v' (n + m) (xs ++ news) → w.grownBy w' v.ownBlock → (v'.ownBlock = v.ownBlock ∨ v'.ownBlock = some w.heap.size) → wpList P ops Q rest (a.put o.dst v') w') : wpList P ops Q (o :: rest) a w := by
  refine wpList_plain hgd fun K hK' => ?_
  obtain ⟨v', w', hrun, r1, r2, r3⟩ := run_append_x (P := P) t tx o.type e i z bytes ht hi hz hsize hby hzs h xv m news hs h63 hbytes hbase
  unfold Oper.wp
  simp [execOp, ho, resolve, invoke, builtin, hv, hx, hrun, Result.andThen]
  exact hK' _ _ (hK v' w' r1 r2 r3)
end
theorem grown_below {w w1 w2 : World} {B : Nat} {row : Option Nat} (h : Below B w w1) (hg : w1.grownBy w2 row) (hB : B ≤ w1.heap.size) (hr : ∀ k, row = some k → B ≤ k) : Below B w w2 :=
  h.grown hg hB hr
end Go.Proofs.Ytjmdiobnappgkaa

/-
  Memory: a row of the call's own appended to, out of whatever source.
-/
namespace Go.Proofs.Ytjmdiobnappgkaa
open Go.RowKit
set_option linter.unusedVariables false
set_option linter.unusedSimpArgs false

section
variable {w w' : World} {base : Nat} {e : TypeId} {size : Nat} {v : Value} {n : Nat} {xs : List Value} {P : Program}
/-- Appended to, out of whatever source. -/
theorem run_append_o (t tx ty e : TypeId) (i : TypeInfo) (z : Value) (bytes : Nat) (ht : P.underlying t = some (.slice e)) (hi : P.info? e = some i) (hz : i.zero = some z) (hsize : i.size = size) (hby : i.bytes = bytes) (hzs : z.cells.size = size)
    (h : w.ownsRow base e size v n xs) (x : Value) (m : Nat) (news : List Value) (hs : Src P size tx x m news w) (h63 : n + m ≤ maxLen) (hbytes : (n + m) * bytes ≤ 140737488355328) (hbase : base ≤ w.heap.size) :
    ∃ v' w', (Builtin.append_ #[t, tx] ty #[v, x]).run P w = .ok v' w' ∧ w'.ownsRow base e size v' (n + m) (xs ++ news) ∧ w.grownBy w' v.ownBlock ∧ (v'.ownBlock = v.ownBlock ∨ v'.ownBlock = some w.heap.size) := by
  subst hsize; subst hby
  have hnl := hs.newsLen
  have hxl := h.1
  have hsmall : ((n + m : Nat) : Int) ≤ 9223372036854775807 := by simp only [maxLen] at h63; omega
  have grow : ∀ (bs : Option Addr) (sc : Nat), v = .slice bs n sc → sc < n + m → (Builtin.firstCells i.size n (.slice bs n sc)).run P w.drew = .ok xs.toArray w.drew →
      ∃ v' w', (Builtin.append_ #[t, tx] ty #[v, x]).run P w = .ok v' w' ∧ w'.ownsRow base e i.size v' (n + m) (xs ++ news) ∧ w.grownBy w' v.ownBlock ∧ (v'.ownBlock = v.ownBlock ∨ v'.ownBlock = some w.heap.size) := by
    rintro bs sc rfl hg hold
    have hrun := run_append_grow_src (P := P) w t tx ty e i z ht hi hz bs n sc xs hold x m news hs hg hsmall (growslice_fits hg hbytes)
    have hge := grownCap_ge w (n + m) sc e
    refine ⟨_, _, hrun, ⟨by rw [List.length_append, hxl, hnl, Nat.add_mul], .inr ⟨w.heap.size, _, _, rfl, hbase, heap_alloc_new w.drew _, hge, grownCap_le_maxLen _ _ _ _ h63, ?_, ?_⟩⟩, ?_, .inr rfl⟩
    · rw [Array.size_append, size_zeroCells, hzs, List.size_toArray, List.length_append, hxl, hnl, ← Nat.add_mul, ← Nat.add_mul]
      congr 1; omega
    · rw [Array.toList_append]
      rw [List.take_append_of_le_length (by simp [hxl, hnl, Nat.add_mul]), List.take_of_length_le (by simp [hxl, hnl, Nat.add_mul])]
    · exact ⟨rfl, rfl, rfl, by simp, fun k hk _ => Below.heap_alloc w.drew _ k hk⟩
  rcases h.2 with ⟨hv, hn0⟩ | ⟨g, cap, cur, hv, hg, hh, hn, hm, hcs, htk⟩
  rotate_left
  have hf : ∀ j, j < cur.size → w.frozen? ⟨g, j, none⟩ = false := fun j _ => by simp [World.frozen?, hh]
  rotate_left
  · subst hn0
    have hx0 : xs = [] := List.eq_nil_of_length_eq_zero (by rw [hxl]; simp)
    subst hx0
    by_cases h0 : m = 0
    · subst h0
      have hn0 : news = [] := List.eq_nil_of_length_eq_zero (by rw [hnl]; simp)
      subst hn0
      rw [hv]
      exact ⟨_, _, run_append_nothing (P := P) w t tx ty e i ht hi none 0 0 (Nat.le_refl _) x hs, World.ownsRow_nil _ _ _ _, ⟨rfl, rfl, rfl, Nat.le_refl _, fun _ _ _ => rfl⟩, .inl rfl⟩
    · exact grow none 0 hv (by omega) (run_firstCells_none w.drew i.size 0 0 0)
  · by_cases hfit : n + m ≤ cap
    · have hcap : (n + m) * i.size ≤ cap * i.size := Nat.mul_le_mul_right _ hfit
      rw [Nat.add_mul] at hcap
      have hrun := run_append_room_src (P := P) w t tx ty e i ht hi g 0 n cap x m news hs hfit
        (fun j hj => by rw [Nat.zero_add, cell_of_row w g _ cur e (0, 0) hh, Array.getElem?_eq_getElem (by omega)]; rfl)
        (fun j hj => by rw [Nat.zero_add]; exact hf _ (by omega))
      obtain ⟨cur', a, b, c⟩ := setCells_row (e := e) g (0, 0) news (0 + n * i.size) cur w hh (by omega)
      have ht4 := setCells_tape g news (0 + n * i.size) w
      rw [hv]
      refine ⟨_, _, hrun, ⟨by rw [List.length_append, hxl, hnl, Nat.add_mul], .inr ⟨g, cap, cur', rfl, hg, a, hfit, hm, b.trans hcs, ?_⟩⟩, ⟨ht4.2.1, ht4.1, ht4.2.2.1, by rw [ht4.2.2.2]; exact Nat.le_refl _, ?_⟩, .inl rfl⟩
      · rw [Nat.zero_add, hnl] at c
        rw [Nat.add_mul, c, htk]
      · intro k hk hne
        exact World.heap_setCells_other w g _ news hk (fun e => hne (by rw [e]; rfl))
    · refine grow (some ⟨g, 0, none⟩) cap hv (by omega) ?_
      refine run_firstCells_some w.drew i.size n ⟨g, 0, none⟩ n cap xs hxl (fun j u hu => ?_)
      subst hv
      exact h.cells rfl j u hu
theorem wpList_append_o {ops : Array Oper} {rest : List Oper} {o : Oper} {a : Act} {Q : Exit → Act → World → Prop} (hgd : o.guard = none) (s x : Operand) (t tx : TypeId)
    (ho : o.op = .call { callee := .builtin .append, args := #[s, x], argTypes := #[t, tx] })
    (base : Nat) (e : TypeId) (i : TypeInfo) (z : Value) (size bytes : Nat) (ht : P.underlying t = some (.slice e)) (hi : P.info? e = some i) (hz : i.zero = some z)
    (hsize : i.size = size) (hby : i.bytes = bytes) (hzs : z.cells.size = size)
    (v : Value) (n : Nat) (xs : List Value) (hv : a.eval s = v) (h : w.ownsRow base e size v n xs)
    (xv : Value) (m : Nat) (news : List Value) (hx : a.eval x = xv) (hs : Src P size tx xv m news w)
    (h63 : n + m ≤ maxLen) (hbytes : (n + m) * bytes ≤ 140737488355328) (hbase : base ≤ w.heap.size)
    (hK : ∀ v' w', w'.ownsRow base e size v' (n + m) (xs ++ news) → w.grownBy w' v.ownBlock → (v'.ownBlock = v.ownBlock ∨ v'.ownBlock = some w.heap.size) → wpList P ops Q rest (a.put o.dst v') w') : wpList P ops Q (o :: rest) a w := by
  refine wpList_plain hgd fun K hK' => ?_
  obtain ⟨v', w', hrun, r1, r2, r3⟩ := run_append_o (P := P) t tx o.type e i z bytes ht hi hz hsize hby hzs h xv m news hs h63 hbytes hbase
  unfold Oper.wp
  simp [execOp, ho, resolve, invoke, builtin, hv, hx, hrun, Result.andThen]
  exact hK' _ _ (hK v' w' r1 r2 r3)
/-- The first m elements of a row of the call's own, as a source. -/
theorem src_own {tx e' : TypeId} (hk : P.underlying tx = some (.slice e')) {A : Option Addr} {len cap : Nat} (h : w.ownsRow base e size (.slice A len cap) len xs) (h1 : ∀ u ∈ xs, u.oneCell' = true) (m c : Nat) (hm : m ≤ len) : Src P size tx (.slice A m c) m (xs.take (m * size)) w := by
  have hl := h.1
  rcases h.2 with ⟨hv, h0⟩ | ⟨g, cap', cur, hv, hg, hh, hn, hmx, hcs, htk⟩
  · injection hv with e1 e2 e3
    subst e1 e2
    have : m = 0 := by omega
    subst this
    simpa using Src.ofNil (P := P) (w := w) (size := size) hk c
  · injection hv with e1 e2 e3
    subst e1
    refine Src.ofSlice w hk _ _ _ _ ?_ (fun j u hu => ?_) (fun u hu => h1 u (List.mem_of_mem_take hu))
    · rw [List.length_take, hl, Nat.min_eq_left (Nat.mul_le_mul_right _ hm)]
    · refine h.cells rfl j u ?_
      rw [List.getElem?_take] at hu
      split at hu
      · exact hu
      · cases hu
end
end Go.Proofs.Ytjmdiobnappgkaa

/-
  Layer 14 (disk): the document's disk: its plain model, how it lies in memory, and the walks of its methods.
-/
namespace Go.Proofs.Ytjmdiobnappgkaa
open Go.RowKit
set_option linter.unusedVariables false
set_option linter.unusedSimpArgs false

/-- The document's disk: what is sure of both files, the loose bytes (file, byte), the room. -/
structure RS where
  a : ByteArray
  b : ByteArray
  loose : List (Nat × UInt8)
  room : Nat
def rvals (l : List (Nat × UInt8)) : List Value := l.flatMap fun p => [Value.int .i64 (p.1 : Int), Value.int .u8 (p.2.toNat : Int)]
def rcells (r : RS) (v : Value) : Array Value := #[.string r.a, .string r.b, v, .int .i64 (r.room : Int)]
theorem rvals_append (a b : List (Nat × UInt8)) : rvals (a ++ b) = rvals a ++ rvals b := by simp [rvals]
theorem rvals_length (a : List (Nat × UInt8)) : (rvals a).length = a.length * 2 := by
  induction a with
  | nil => rfl
  | cons x l ih => simp only [rvals, List.flatMap_cons, List.length_append, List.length_cons, List.length_nil] at ih ⊢; omega
theorem rvals_one (l : List (Nat × UInt8)) : ∀ u ∈ rvals l, u.oneCell' = true := by
  intro u hu; simp only [rvals, List.mem_flatMap] at hu; obtain ⟨p, _, hu⟩ := hu; simp at hu; rcases hu with rfl | rfl <;> rfl
theorem rvals_get (l : List (Nat × UInt8)) (k : Nat) (hk : k < l.length) : (rvals l)[k * 2]? = some (.int .i64 (l[k].1 : Int)) ∧ (rvals l)[k * 2 + 1]? = some (.int .u8 (l[k].2.toNat : Int)) := by
  induction l generalizing k with
  | nil => simp at hk
  | cons p l ih =>
    cases k with
    | zero => simp [rvals]
    | succ k =>
      have := ih k (by simpa using hk)
      simp only [rvals, List.flatMap_cons, List.cons_append, List.nil_append, List.getElem_cons_succ] at this ⊢
      rw [show (k + 1) * 2 = k * 2 + 1 + 1 by omega, show k * 2 + 1 + 1 + 1 = (k * 2 + 1) + 1 + 1 by omega]
      simpa using this

structure IsRef (w : World) (base g : Nat) (v : Value) (r : RS) : Prop where
  blk : Blk w g 57 (rcells r v)
  hb : base ≤ g
  own : w.ownsRow base 123 2 v r.loose.length (rvals r.loose)
structure RS.ok (r : RS) : Prop where
  fits : r.a.size + r.b.size + r.loose.length ≤ r.room
  room : r.room ≤ 16777216
/-- The loose bytes of file f. -/
def bytesOf (f : Nat) (l : List (Nat × UInt8)) : List UInt8 := (l.filter fun p => p.1 = f).map fun p => p.2
def RS.file (r : RS) (f : Nat) : ByteArray := ⟨((if f = 0 then r.a else r.b).data.toList ++ bytesOf f r.loose).toArray⟩
theorem bytesOf_snoc (f : Nat) (l : List (Nat × UInt8)) (p : Nat × UInt8) : bytesOf f (l ++ [p]) = bytesOf f l ++ if p.1 = f then [p.2] else [] := by
  unfold bytesOf; rw [List.filter_append, List.map_append]
  by_cases h : p.1 = f <;> simp [h]
theorem bytesOf_le (f : Nat) (l : List (Nat × UInt8)) : (bytesOf f l).length ≤ l.length := by
  unfold bytesOf; rw [List.length_map]; exact List.length_filter_le _ _

section
variable {w w' : World} {base g : Nat} {v : Value} {r : RS}
theorem IsRef.c0 (h : IsRef w base g v r) : w.cell? ⟨g, 0, none⟩ = some (.string r.a) := h.blk.cell 0
theorem IsRef.c1 (h : IsRef w base g v r) : w.cell? ⟨g, 1, none⟩ = some (.string r.b) := h.blk.cell 1
theorem IsRef.c2 (h : IsRef w base g v r) : w.cell? ⟨g, 2, none⟩ = some v := h.blk.cell 2
theorem IsRef.c3 (h : IsRef w base g v r) : w.cell? ⟨g, 3, none⟩ = some (.int .i64 (r.room : Int)) := h.blk.cell 3
theorem IsRef.fr (h : IsRef w base g v r) (i : Nat) : w.frozen? ⟨g, i, none⟩ = false := h.blk.frozen i
theorem IsRef.only {B : Nat} {l : List Nat} (h : IsRef w base g v r) (ho : Only B l w w') (hg : g < B ∧ g ∉ l) (hv : ∀ k, v.ownBlock = some k → k < B ∧ k ∉ l) : IsRef w' base g v r :=
  ⟨h.blk.only ho hg.1 hg.2, h.hb, own_only h.own ho hv⟩
theorem IsRef.below (h : IsRef w base g v r) (hb : Below w.heap.size w w') : IsRef w' base g v r :=
  h.only (Only.ofBelow hb []) ⟨h.blk.lt, by simp⟩ (fun k hk => ⟨(h.own.lt k hk).2, by simp⟩)
theorem IsRef.drewN (h : IsRef w base g v r) (n : Nat) : IsRef (w.drewN n) base g v r := ⟨h.blk, h.hb, h.own⟩
end

theorem info123 : (Try.prog.info? 123).map (fun i => (i.zero, i.size, i.bytes)) = some (some (.agg #[.int .i64 0, .int .u8 0]), 2, 16) := by kernel_rfl
theorem info5 : (Try.prog.info? 5).map (fun i => (i.zero, i.size, i.bytes)) = some (some (.int .u8 0), 1, 1) := by kernel_rfl

set_option maxRecDepth 100000 in
theorem rnew_no (n : Int) (h : n < 0 ∨ 16777216 < n) (w : World) : Calls Try.prog 40 #[.int .i64 n] w fun e w' => e = .returned (.tuple #[.pointer none, .int .i64 1]) ∧ w = w' := by
  rcases h with h | h
  · go_enter Try.func40, Try.ntmps40
    go_wp2
    go_ret2
    exact ⟨rfl, rfl⟩
  · have h' : decide (n < 0) = false := by simp; omega
    go_enter Try.func40, Try.ntmps40
    go_wp2
    go_ret2
    exact ⟨rfl, rfl⟩
set_option maxRecDepth 100000 in
theorem rnew_yes (n : Nat) (h : n ≤ 16777216) (w : World) : Calls Try.prog 40 #[.int .i64 (n : Int)] w fun e w' => e = .returned (.tuple #[.pointer (some ⟨w.heap.size, 0, none⟩), .int .i64 0]) ∧ IsRef w' w.heap.size w.heap.size (.slice none 0 0) ⟨⟨#[]⟩, ⟨#[]⟩, [], n⟩ ∧ Only w.heap.size [] w w' := by
  go_enter Try.func40, Try.ntmps40
  go_wp2
  go_ret2
  exact ⟨rfl, ⟨Blk.new _ _ _, Nat.le_refl _, World.ownsRow_nil _ _ _ _⟩, (Only.refl _ _ _).alloc (Nat.le_refl _) _⟩

set_option maxRecDepth 100000 in
set_option maxHeartbeats 400000 in
theorem rfree_any {base g : Nat} {v : Value} {r : RS} {w : World} (h : IsRef w base g v r) (hk : r.ok) : Calls Try.prog 44 #[.pointer (some ⟨g, 0, none⟩)] w fun e w' => e = .returned (.int .i64 ((r.room : Int) - (r.a.size : Int) - (r.b.size : Int) - (r.loose.length : Int))) ∧ ∃ n, w' = w.drewN n := by
  obtain ⟨A, cp, rfl, hvl⟩ := own_form h.own
  have c0 := h.c0
  have c1 := h.c1
  have c2 := h.c2
  have c3 := h.c3
  have h1 := hk.fits
  have h2 := hk.room
  clear h hvl
  go_enter Try.func44, Try.ntmps44
  go_wp2
  go_quiet (fail)
  go_wp2
  go_ret
  exact ⟨rfl, _, rfl⟩

set_option maxRecDepth 100000 in
theorem rread_no (g : Nat) (f : Int) (h : f < 0 ∨ 2 ≤ f) (w : World) : Calls Try.prog 43 #[.pointer (some ⟨g, 0, none⟩), .int .i64 f] w fun e w' => e = .returned (.string ⟨#[]⟩) ∧ w = w' := by
  rcases h with h | h
  · go_enter Try.func43, Try.ntmps43
    go_wp2
    go_ret
    exact ⟨rfl, rfl⟩
  · have h' : decide (f < 0) = false := by simp; omega
    have h2 : (1 : Int) < f := by omega
    go_enter Try.func43, Try.ntmps43
    go_wp2
    go_ret
    exact ⟨rfl, rfl⟩
end Go.Proofs.Ytjmdiobnappgkaa

/-
  Layer 14 (disk): the document's disk: the walks of Read, Sync, Put.
-/
namespace Go.Proofs.Ytjmdiobnappgkaa
open Go.RowKit
set_option linter.unusedVariables false
set_option linter.unusedSimpArgs false

theorem src_byte {w : World} (c : UInt8) : Src Try.prog 1 30 (.slice (some ⟨w.heap.size, 0, none⟩) 1 1) 1 (bvals [c]) (w.alloc (.cells #[.int .u8 (c.toNat : Int)] 5)) := by
  refine Src.ofSlice _ Try.underlying30 _ _ _ _ (by simp [bvals]) ?_ (bvals_one _)
  intro j u hu
  rw [Addr.add_lit, Nat.zero_add, cell_of_row _ _ _ _ _ _ (heap_alloc_new w _)]
  simpa [bvals] using hu
theorem file_small {r : RS} (hk : r.ok) (f k : Nat) : (if f = 0 then r.a else r.b).data.toList.length + (bytesOf f (r.loose.take k)).length ≤ 16777216 := by
  have h1 := hk.fits; have h2 := hk.room
  have h3 := bytesOf_le f (r.loose.take k)
  have h4 : (r.loose.take k).length ≤ r.loose.length := by simp; omega
  have e1 : r.a.data.toList.length = r.a.size := by rw [Array.length_toList]; rfl
  have e2 : r.b.data.toList.length = r.b.size := by rw [Array.length_toList]; rfl
  split <;> omega

set_option maxRecDepth 100000 in
set_option maxHeartbeats 800000 in
theorem rread_yes {base g : Nat} {v : Value} {r : RS} {w : World} (h : IsRef w base g v r) (hk : r.ok) (f : Nat) (hf : f < 2) : Calls Try.prog 43 #[.pointer (some ⟨g, 0, none⟩), .int .i64 (f : Int)] w fun e w' => e = .returned (.string (r.file f)) ∧ Below w.heap.size w w' := by
  obtain ⟨A, cp, rfl, hvl⟩ := own_form h.own
  obtain ⟨i0, hi, hz0, hz1, hz2⟩ := info_parts info5
  have c0 := h.c0
  have c1 := h.c1
  have c2 := h.c2
  have hgl := h.blk.lt
  have hlen : r.loose.length ≤ 16777216 := by have := hk.fits; have := hk.room; omega
  have hsm := fun k => file_small hk f k
  have hcell : ∀ k (hk : k < r.loose.length), ∃ gr, A = some ⟨gr, 0, none⟩ ∧ gr < w.heap.size ∧ w.cell? ⟨gr, k * 2, none⟩ = some (.int .i64 (r.loose[k].1 : Int)) ∧ w.cell? ⟨gr, k * 2 + 1, none⟩ = some (.int .u8 (r.loose[k].2.toNat : Int)) := by
    intro k hkl
    rcases h.own.2 with ⟨hv, hn⟩ | ⟨gr, cap, cur, hv, hbr, hh, hn, hm, hsz, htk⟩
    · rw [hn] at hkl; exact absurd hkl (Nat.not_lt_zero _)
    · injection hv with e1 e2 e3
      subst e1
      have hc := h.own.cellAt
      have hg := rvals_get r.loose k hkl
      refine ⟨gr, rfl, (Array.getElem?_eq_some_iff.1 hh).1, ?_, ?_⟩
      · rw [hc (k * 2) (by omega)]; exact hg.1
      · rw [hc (k * 2 + 1) (by omega)]; exact hg.2
  have Hcell := Lib.hid hcell; clear hcell
  have Hsm := Lib.hid hsm; clear hsm
  clear h hvl hk
  have hfc : f = 0 ∨ f = 1 := by omega
  obtain ⟨s, hs⟩ : ∃ s, (if f = 0 then r.a else r.b) = s := ⟨_, rfl⟩
  have hss : s.size ≤ 16777216 := by have := Hsm.out 0; rw [hs] at this; have e1 : s.data.toList.length = s.size := (by rw [Array.length_toList]; rfl)
                                     omega
  obtain ⟨bv, w2, hconv, hb2, hz2', hrow, hbo⟩ := rowX.ofString (P := Try.prog) w 9 30 5 s Try.underlying9 Try.underlying30 Try.underlying5 (by unfold maxLen; omega)
  have hfile : r.file f = ⟨(s.data.toList ++ bytesOf f r.loose).toArray⟩ := by rw [RS.file, hs]
  have Hfile := Lib.hid hfile; clear hfile
  have Hs := Lib.hid hs; clear hs
  have e0 : bytesOf f (r.loose.take 0) = [] := rfl
  rcases hfc with rfl | rfl
  · have hs' := Hs.out
    simp only [if_true, if_neg (show ¬ (1 : Nat) = 0 by decide), reduceIte, Nat.one_ne_zero] at hs'
    subst hs'
    clear c1
    go_enter Try.func43, Try.ntmps43
    go_wp2
    go_loopw [6, 7] (fun bv i wr => ∃ k : Nat, k ≤ r.loose.length ∧ i = .int .i64 k ∧ (∃ n, rowX wr w.heap.size 5 1 bv n (bvals (r.a.data.toList ++ bytesOf 0 (r.loose.take k)))) ∧ Below w.heap.size w wr ∧ w.heap.size ≤ wr.heap.size) (fun _ i _ => r.loose.length - (intOf i).toNat)
    case atStart => exact ⟨0, Nat.zero_le _, rfl, ⟨_, by rw [e0, List.append_nil]; exact hrow⟩, hb2, by omega⟩
    case round =>
      obtain ⟨k, hk', rfl, ⟨n, hrw⟩, hbel, hz⟩ := hrel
      by_cases hlt : k < r.loose.length
      · obtain ⟨gr, rfl, hgr, d0, d1⟩ := Hcell.out k hlt
        have q0 := (hbel.cell (p := ⟨gr, k * 2, none⟩) hgr).trans d0
        have q1 := (hbel.cell (p := ⟨gr, k * 2 + 1, none⟩) hgr).trans d1
        have q2 := (hbel.cell (p := ⟨g, 2, none⟩) hgl).trans c2
        have hsn := bytesOf_snoc 0 (r.loose.take k) r.loose[k]
        rw [← List.take_succ_eq_append_getElem hlt] at hsn
        have hln := hrw.1
        have hsm1 := Hsm.out k
        simp only [bvals_length, List.length_append, Nat.mul_one] at hln
        have hn1 : n + 1 ≤ 16777217 := by
          simp only [reduceIte, if_true, if_neg (show ¬ (1 : Nat) = 0 by decide)] at hsm1
          omega
        clear hsm1 hln
        generalize r.loose[k] = pp at *
        obtain ⟨pf, pc⟩ := pp
        simp only at q0 q1 hsn d0 d1
        have Hsn := Lib.hid hsn; clear hsn d0 d1
        by_cases hpf : pf = 0
        · have hb : ((pf : Int) == 0) = true := by rw [beq_iff_eq]; omega
          go_wp2_with (at_builtin; refine wpList_append_x rfl _ _ 30 30 rfl w.heap.size 5 i0 _ 1 1 Try.underlying30 hi hz0 hz1 hz2 rfl _ n _ rfl (hrw.alloc _) _ 1 (bvals [pc]) rfl (src_byte pc) (by unfold maxLen; omega) (by omega) (by simp; omega) ?_)
          intro v' w3 hrow3 hg3 hv3
          have hb3 : Below w.heap.size w w3 := (hbel.alloc hz _).grown hg3 (by simp; omega) (fun k hk => (hrw.lt k hk).1)
          have hz3 : w.heap.size ≤ w3.heap.size := hb3.size
          have H3 := Lib.hid hrow3; have B3 := Lib.hid hb3
          clear hrow3 hg3 hv3 hb3 hrw hbel
          go_wp2
          go_roundw
          case rel => exact ⟨k + 1, by omega, by go_num, ⟨n + 1, by rw [Hsn.out, if_pos hpf, ← List.append_assoc, bvals_append]; exact H3.out⟩, B3.out, hz3⟩
          case measure => simp [intOf]; omega
        · have hb : ((pf : Int) == 0) = false := by rw [beq_eq_false_iff_ne]; omega
          have H3 := Lib.hid hrw; have B3 := Lib.hid hbel
          clear hrw hbel
          go_wp2
          go_roundw
          case rel => exact ⟨k + 1, by omega, by go_num, ⟨n, by rw [Hsn.out, if_neg hpf, List.append_nil]; exact H3.out⟩, B3.out, hz⟩
          case measure => simp [intOf]; omega
      · obtain rfl : k = r.loose.length := by omega
        rw [List.take_length] at hrw
        have q2 := (hbel.cell (p := ⟨g, 2, none⟩) hgl).trans c2
        have hstr := hrw.toString (P := Try.prog) (src := 30) (dst := 9) Try.underlying30 Try.underlying5 Try.underlying9
        rw [← Hfile.out] at hstr
        have B3 := Lib.hid hbel
        clear hbel hrw
        go_wp2
        go_ret
        exact ⟨rfl, B3.out⟩
  · have hs' := Hs.out
    simp only [if_true, if_neg (show ¬ (1 : Nat) = 0 by decide), reduceIte, Nat.one_ne_zero] at hs'
    subst hs'
    show Calls Try.prog 43 #[.pointer (some ⟨g, 0, none⟩), .int .i64 1] w _
    go_enter Try.func43, Try.ntmps43
    go_wp2
    go_loopw [6, 7] (fun bv i wr => ∃ k : Nat, k ≤ r.loose.length ∧ i = .int .i64 k ∧ (∃ n, rowX wr w.heap.size 5 1 bv n (bvals (r.b.data.toList ++ bytesOf 1 (r.loose.take k)))) ∧ Below w.heap.size w wr ∧ w.heap.size ≤ wr.heap.size) (fun _ i _ => r.loose.length - (intOf i).toNat)
    case atStart => exact ⟨0, Nat.zero_le _, rfl, ⟨_, by rw [e0, List.append_nil]; exact hrow⟩, hb2, by omega⟩
    case round =>
      obtain ⟨k, hk', rfl, ⟨n, hrw⟩, hbel, hz⟩ := hrel
      by_cases hlt : k < r.loose.length
      · obtain ⟨gr, rfl, hgr, d0, d1⟩ := Hcell.out k hlt
        have q0 := (hbel.cell (p := ⟨gr, k * 2, none⟩) hgr).trans d0
        have q1 := (hbel.cell (p := ⟨gr, k * 2 + 1, none⟩) hgr).trans d1
        have q2 := (hbel.cell (p := ⟨g, 2, none⟩) hgl).trans c2
        have hsn := bytesOf_snoc 1 (r.loose.take k) r.loose[k]
        rw [← List.take_succ_eq_append_getElem hlt] at hsn
        have hln := hrw.1
        have hsm1 := Hsm.out k
        simp only [bvals_length, List.length_append, Nat.mul_one] at hln
        have hn1 : n + 1 ≤ 16777217 := by
          simp only [reduceIte, if_true, if_neg (show ¬ (1 : Nat) = 0 by decide)] at hsm1
          omega
        clear hsm1 hln
        generalize r.loose[k] = pp at *
        obtain ⟨pf, pc⟩ := pp
        simp only at q0 q1 hsn d0 d1
        have Hsn := Lib.hid hsn; clear hsn d0 d1
        by_cases hpf : pf = 1
        · have hb : ((pf : Int) == 1) = true := by rw [beq_iff_eq]; omega
          go_wp2_with (at_builtin; refine wpList_append_x rfl _ _ 30 30 rfl w.heap.size 5 i0 _ 1 1 Try.underlying30 hi hz0 hz1 hz2 rfl _ n _ rfl (hrw.alloc _) _ 1 (bvals [pc]) rfl (src_byte pc) (by unfold maxLen; omega) (by omega) (by simp; omega) ?_)
          intro v' w3 hrow3 hg3 hv3
          have hb3 : Below w.heap.size w w3 := (hbel.alloc hz _).grown hg3 (by simp; omega) (fun k hk => (hrw.lt k hk).1)
          have hz3 : w.heap.size ≤ w3.heap.size := hb3.size
          have H3 := Lib.hid hrow3; have B3 := Lib.hid hb3
          clear hrow3 hg3 hv3 hb3 hrw hbel
          go_wp2
          go_roundw
          case rel => exact ⟨k + 1, by omega, by go_num, ⟨n + 1, by rw [Hsn.out, if_pos hpf, ← List.append_assoc, bvals_append]; exact H3.out⟩, B3.out, hz3⟩
          case measure => simp [intOf]; omega
        · have hb : ((pf : Int) == 1) = false := by rw [beq_eq_false_iff_ne]; omega
          have H3 := Lib.hid hrw; have B3 := Lib.hid hbel
          clear hrw hbel
          go_wp2
          go_roundw
          case rel => exact ⟨k + 1, by omega, by go_num, ⟨n, by rw [Hsn.out, if_neg hpf, List.append_nil]; exact H3.out⟩, B3.out, hz⟩
          case measure => simp [intOf]; omega
      · obtain rfl : k = r.loose.length := by omega
        rw [List.take_length] at hrw
        have q2 := (hbel.cell (p := ⟨g, 2, none⟩) hgl).trans c2
        have hstr := hrw.toString (P := Try.prog) (src := 30) (dst := 9) Try.underlying30 Try.underlying5 Try.underlying9
        rw [← Hfile.out] at hstr
        have B3 := Lib.hid hbel
        clear hbel hrw
        go_wp2
        go_ret
        exact ⟨rfl, B3.out⟩
end Go.Proofs.Ytjmdiobnappgkaa

/-
  Layer 14 (disk): the document's disk: the walks of Sync, Put, Turn, Trim, Crash.
-/
namespace Go.Proofs.Ytjmdiobnappgkaa
open Go.RowKit
set_option linter.unusedVariables false
set_option linter.unusedSimpArgs false

def RS.sync (r : RS) : RS := ⟨r.file 0, r.file 1, [], r.room⟩
theorem ownsRow_empty {w : World} {g : Nat} (base : Nat) (e : TypeId) (size : Nat) (hb : base ≤ g) (h : w.heap[g]? = some (.cells #[] e (0, 0))) : w.ownsRow base e size (.slice (some ⟨g, 0, none⟩) 0 0) 0 [] :=
  ⟨by simp, .inr ⟨g, 0, #[], rfl, hb, h, Nat.le_refl _, Nat.zero_le _, by simp, by simp⟩⟩

set_option maxRecDepth 100000 in
set_option maxHeartbeats 400000 in
theorem rsync_any {base g : Nat} {v : Value} {r : RS} {w : World} (h : IsRef w base g v r) (hk : r.ok) : Calls Try.prog 87 #[.pointer (some ⟨g, 0, none⟩)] w fun e w' => e = .returned (.tuple #[]) ∧ ∃ v', IsRef w' base g v' r.sync ∧ Only w.heap.size [g] w w' := by
  go_enter Try.func87, Try.ntmps87
  go_wp2_with fail
  refine (rread_yes h hk 0 (by decide)).mono ?_
  rintro e w1 ⟨rfl, h1⟩
  have hr1 := h.below h1
  go_wp2_with fail
  refine (rread_yes hr1 hk 1 (by decide)).mono ?_
  rintro e w2 ⟨rfl, h2⟩
  have hr2 := hr1.below h2
  have hb2 := bthen h1 h2
  have c0 := hr2.c0
  have c1 := hr2.c1
  have c2 := hr2.c2
  have f0 := hr2.fr 0
  have f1 := hr2.fr 1
  have f2 := hr2.fr 2
  have hgl := hr2.blk.lt
  have hbase : base ≤ w2.heap.size := by have := hr2.hb; omega
  have H2 := Lib.hid hr2
  have B2 := Lib.hid hb2
  clear h h1 hr1 h2 hr2 hb2
  go_wp2
  go_end0
  have hsz : (((w2.setCell ⟨g, 0, none⟩ (.string (r.file 0))).setCell ⟨g, 1, none⟩ (.string (r.file 1))).setCell ⟨g, 2, none⟩ (.slice (some ⟨w2.heap.size, 0, none⟩) 0 0)).heap.size = w2.heap.size := by simp
  refine ⟨rfl, _, ⟨(((H2.out.blk.set_ 0 _).set_ 1 _).set_ 2 _).alloc _, H2.out.hb, ?_⟩, ?_⟩
  · have := heap_alloc_new (((w2.setCell ⟨g, 0, none⟩ (.string (r.file 0))).setCell ⟨g, 1, none⟩ (.string (r.file 1))).setCell ⟨g, 2, none⟩ (.slice (some ⟨w2.heap.size, 0, none⟩) 0 0)) (.cells #[] 123)
    rw [hsz] at this
    exact ownsRow_empty base 123 2 hbase this
  · refine ((((Only.ofBelow B2.out [g]).setCell (p := ⟨g, 0, none⟩) (.inl (by simp)) _).setCell (p := ⟨g, 1, none⟩) (.inl (by simp)) _).setCell (p := ⟨g, 2, none⟩) (.inl (by simp)) _).alloc ?_ _
    rw [hsz]; exact B2.out.size

/-- A row that was there before, or one that is new. -/
def sameOrNew (B : Nat) (v v' : Value) : Prop := v'.ownBlock = v.ownBlock ∨ ∃ k, B ≤ k ∧ v'.ownBlock = some k
def RS.put (r : RS) (f : Nat) (l : List UInt8) : RS := { r with loose := r.loose ++ l.map fun c => (f, c) }
theorem RS.put_snoc (r : RS) (f : Nat) (l : List UInt8) (c : UInt8) : (r.put f (l ++ [c])).loose = (r.put f l).loose ++ [(f, c)] := by simp [RS.put]
theorem take_snoc' (s : ByteArray) (k : Nat) (h : k < s.size) : s.data.toList.take (k + 1) = s.data.toList.take k ++ [s[k]] := by
  rw [List.take_succ_eq_append_getElem (by rw [Array.length_toList]; exact h)]; rfl

set_option maxRecDepth 100000 in
theorem rput_arg (g : Nat) (f : Int) (h : f < 0 ∨ 2 ≤ f) (s : ByteArray) (w : World) : Calls Try.prog 86 #[.pointer (some ⟨g, 0, none⟩), .int .i64 f, .string s] w fun e w' => e = .returned (.int .i64 1) ∧ w = w' := by
  rcases h with h | h
  · go_enter Try.func86, Try.ntmps86
    go_wp2
    go_ret
    exact ⟨rfl, rfl⟩
  · have h' : decide (f < 0) = false := by simp; omega
    have h2 : (1 : Int) < f := by omega
    go_enter Try.func86, Try.ntmps86
    go_wp2
    go_ret
    exact ⟨rfl, rfl⟩
set_option maxRecDepth 100000 in
theorem rput_full {base g : Nat} {v : Value} {r : RS} {w : World} (h : IsRef w base g v r) (hk : r.ok) (f : Nat) (hf : f < 2) (s : ByteArray) (hs : r.room < r.a.size + r.b.size + r.loose.length + s.size) :
    Calls Try.prog 86 #[.pointer (some ⟨g, 0, none⟩), .int .i64 (f : Int), .string s] w fun e w' => e = .returned (.int .i64 8) ∧ ∃ n, w' = w.drewN n := by
  have hlt : (r.room : Int) - (r.a.size : Int) - (r.b.size : Int) - (r.loose.length : Int) < (s.size : Int) := by omega
  have hf0 : ¬ (f : Int) < 0 := by omega
  have hf1 : ¬ (1 : Int) < (f : Int) := by omega
  go_enter Try.func86, Try.ntmps86
  go_wp2_with fail
  refine (rfree_any h hk).mono ?_
  rintro e w1 ⟨rfl, n, rfl⟩
  go_wp2
  go_ret
  exact ⟨rfl, n, rfl⟩

set_option maxRecDepth 100000 in
set_option maxHeartbeats 800000 in
theorem rput_ok {base g : Nat} {v : Value} {r : RS} {w : World} (h : IsRef w base g v r) (hk : r.ok) (f : Nat) (hf : f < 2) (s : ByteArray) (hs : r.a.size + r.b.size + r.loose.length + s.size ≤ r.room) :
    Calls Try.prog 86 #[.pointer (some ⟨g, 0, none⟩), .int .i64 (f : Int), .string s] w fun e w' => e = .returned (.int .i64 0) ∧ ∃ v', IsRef w' base g v' (r.put f s.data.toList) ∧ sameOrNew w.heap.size v v' ∧ Only w.heap.size (g :: v.ownBlock.toList) w w' := by
  have hge : ¬ (r.room : Int) - (r.a.size : Int) - (r.b.size : Int) - (r.loose.length : Int) < (s.size : Int) := by omega
  have hroom := hk.room
  obtain ⟨i0, hi, hz0, hz1, hz2⟩ := info_parts info123
  have hf0 : ¬ (f : Int) < 0 := by omega
  have hf1 : ¬ (1 : Int) < (f : Int) := by omega
  have hgl := h.blk.lt
  have hvl0 := h.own.lt
  have e0 : r.put f [] = r := by simp [RS.put]
  have Hvl0 := Lib.hid hvl0; clear hvl0
  go_enter Try.func86, Try.ntmps86
  go_wp2_with fail
  refine (rfree_any h hk).mono ?_
  rintro e w1 ⟨rfl, n, rfl⟩
  go_wp2
  go_loopw [7] (fun i wr => ∃ (k : Nat) (v' : Value), k ≤ s.size ∧ i = .int .i64 k ∧ IsRef wr base g v' (r.put f (s.data.toList.take k)) ∧ sameOrNew w.heap.size v v' ∧ Only w.heap.size (g :: v.ownBlock.toList) w wr) (fun i _ => s.size - (intOf i).toNat)
  case atStart => exact ⟨0, v, Nat.zero_le _, rfl, by rw [List.take_zero, e0]; exact h.drewN n, .inl rfl, (Only.refl _ _ _).drewN n⟩
  case round =>
    clear h hge
    obtain ⟨k, v', hk', rfl, hr, hsn, ho⟩ := hrel
    by_cases hlt : k < s.size
    · have hts := take_snoc' s k hlt
      have hps := RS.put_snoc r f (s.data.toList.take k) s[k]
      rw [← hts] at hps
      have hlen : (r.put f (s.data.toList.take k)).loose.length = r.loose.length + k := by
        have : s.data.toList.length = s.size := by rw [Array.length_toList]; rfl
        simp [RS.put]; omega
      have hcl : ∃ c, s[k] = c := ⟨_, rfl⟩
      obtain ⟨c, hc⟩ := hcl
      rw [hc] at hps hts
      have ha0 : (r.put f (s.data.toList.take (k + 1))) = { (r.put f (s.data.toList.take k)) with loose := (r.put f (s.data.toList.take k)).loose ++ [(f, c)] } := by
        rw [hts]; simp [RS.put]
      have Ha0 := Lib.hid ha0; clear ha0 hts hps
      generalize r.put f (s.data.toList.take k) = R at *
      have c2 := hr.c2
      have f2 := hr.fr 2
      have hown := hr.own
      rw [hlen] at hown
      have hbase : base ≤ wr.heap.size := by have := hr.hb; have := hr.blk.lt; omega
      have hfar := own_blk_ne hown hr.blk (by decide)
      have hszw := ho.size
      have Hr := Lib.hid hr; have Ho := Lib.hid ho; have Hfar := Lib.hid hfar; have Hlen := Lib.hid hlen
      clear hr ho hfar hlen
      have c2a : (wr.alloc (.cells #[.int .i64 (f : Int), .int .u8 (c.toNat : Int)] 123)).cell? ⟨g, 2, none⟩ = some v' := (Hr.out.blk.alloc _).cell 2
      go_wp2
      go_region_law (refine step_append_el rfl _ _ 55 rfl base 123 i0 _ 2 16 Try.underlying55 hi hz0 hz1 hz2 rfl (by decide) v' _ _ rfl (hown.alloc _).drew wr.heap.size rfl #[.int .i64 (f : Int), .int .u8 (c.toNat : Int)] 123 (0, 0) (heap_alloc_new wr _) rfl (by intro u hu; simp at hu; rcases hu with rfl | rfl <;> rfl) (by unfold maxLen; omega) (by omega) (by simp; omega) ?_; intro g' cap' w3 hown3 hg3 hat3; have hb3 := ((Hr.out.blk.alloc (.cells #[.int .i64 (f : Int), .int .u8 (c.toNat : Int)] 123)).drew).grown hg3 (fun h => Hfar.out h.symm); have c23 : w3.cell? ⟨g, 2, none⟩ = some v' := hb3.cell 2; have f23 : w3.frozen? ⟨g, 2, none⟩ = false := hb3.frozen 2)
      all_goals
        have Hat := Lib.hid hat3; have Hg3 := Lib.hid hg3; have Hb3 := Lib.hid hb3; have Ho3 := Lib.hid hown3
        clear hat3 hg3 hb3 hown3
        go_wp2
        go_roundw
        case rel =>
          have hne : g' ≠ g := by
            rcases Hat.out with h1 | h1
            · rintro rfl; exact Hfar.out h1
            · have : (wr.alloc (.cells #[.int .i64 (f : Int), .int .u8 (c.toNat : Int)] 123)).drew.heap.size = wr.heap.size + 1 := by simp
              have := Hr.out.blk.lt
              omega
          refine ⟨k + 1, .slice (some ⟨g', 0, none⟩) (r.loose.length + k + 1) cap', by omega, by go_num, ⟨?_, Hr.out.hb, ?_⟩, ?_, ?_⟩
          · rw [Ha0.out]; exact Hb3.out.set_ 2 _
          · rw [Ha0.out]
            have := own_set_far (p := ⟨g, 2, none⟩) Ho3.out (by simp [Value.ownBlock]; exact hne) (.slice (some ⟨g', 0, none⟩) (r.loose.length + k + 1) cap')
            show World.ownsRow _ base 123 2 _ (R.loose ++ [(f, c)]).length (rvals (R.loose ++ [(f, c)]))
            rw [List.length_append, Hlen.out, rvals_append]
            simpa [rvals] using this
          · rcases Hat.out with h1 | h1
            · rcases hsn with h2 | ⟨q, h2, h3⟩
              · exact .inl (by rw [← h2, h1]; rfl)
              · rw [h1] at h3; injection h3 with h3; exact .inr ⟨g', by omega, rfl⟩
            · have : (wr.alloc (.cells #[.int .i64 (f : Int), .int .u8 (c.toNat : Int)] 123)).drew.heap.size = wr.heap.size + 1 := by simp
              exact .inr ⟨g', by omega, rfl⟩
          · refine ((((Ho.out.alloc hszw _).drew).grown Hg3.out (by simp; omega) ?_).setCell (p := ⟨g, 2, none⟩) (.inl (by simp)) _)
            intro q hq
            rcases hsn with h2 | ⟨q', h2, h3⟩
            · exact .inl (by rw [← h2, hq]; simp)
            · rw [hq] at h3; injection h3 with h3; exact .inr (by omega)
        case measure => simp [intOf]; omega
    · obtain rfl : k = s.size := by omega
      have e1 : s.data.toList.take s.size = s.data.toList := List.take_of_length_le (by rw [Array.length_toList]; exact Nat.le_refl _)
      rw [e1] at hr
      have Hr := Lib.hid hr; have Ho := Lib.hid ho; clear hr ho
      go_wp2
      go_ret
      exact ⟨rfl, _, Hr.out, hsn, Ho.out⟩
end Go.Proofs.Ytjmdiobnappgkaa

/-
  Layer 14 (disk): the document's disk: the walks of Turn, Trim, Crash.
-/
namespace Go.Proofs.Ytjmdiobnappgkaa
open Go.RowKit
set_option linter.unusedVariables false
set_option linter.unusedSimpArgs false

def RS.turn (r : RS) : RS := { r with a := r.b, b := r.a }
def RS.trim (r : RS) (f n : Nat) : RS := if f = 0 then { r with a := r.a.extract 0 n } else { r with b := r.b.extract 0 n }

set_option maxRecDepth 100000 in
set_option maxHeartbeats 400000 in
theorem rturn_no {base g : Nat} {v : Value} {r : RS} {w : World} (h : IsRef w base g v r) (hk : r.ok) (hl : 0 < r.loose.length) : Calls Try.prog 89 #[.pointer (some ⟨g, 0, none⟩)] w fun e w' => e = .returned (.int .i64 7) ∧ w = w' := by
  obtain ⟨A, cp, rfl, hvl⟩ := own_form h.own
  have c2 := h.c2
  have hl' : (0 : Int) < (r.loose.length : Int) := by omega
  clear h hvl
  go_enter Try.func89, Try.ntmps89
  go_wp2
  go_ret
  exact ⟨rfl, rfl⟩
set_option maxRecDepth 100000 in
set_option maxHeartbeats 400000 in
theorem rturn_yes {base g : Nat} {v : Value} {r : RS} {w : World} (h : IsRef w base g v r) (hl : r.loose.length = 0) : Calls Try.prog 89 #[.pointer (some ⟨g, 0, none⟩)] w fun e w' => e = .returned (.int .i64 0) ∧ IsRef w' base g v r.turn ∧ Only w.heap.size [g] w w' := by
  obtain ⟨A, cp, rfl, hvl⟩ := own_form h.own
  have c0 := h.c0
  have c1 := h.c1
  have c2 := h.c2
  rw [hl] at c2
  have f0 := h.fr 0
  have f1 := h.fr 1
  have hfar := own_blk_ne h.own h.blk (by decide)
  have H := Lib.hid h; have Hfar := Lib.hid hfar
  clear h hvl hfar
  go_enter Try.func89, Try.ntmps89
  go_wp2
  go_ret
  refine ⟨rfl, ⟨(H.out.blk.set_ 0 _).set_ 1 _, H.out.hb, ?_⟩, (((Only.refl _ _ _).setCell (p := ⟨g, 0, none⟩) (.inl (by simp)) _).setCell (p := ⟨g, 1, none⟩) (.inl (by simp)) _)⟩
  exact own_set_far (p := ⟨g, 1, none⟩) (own_set_far (p := ⟨g, 0, none⟩) H.out.own Hfar.out _) Hfar.out _

set_option maxRecDepth 100000 in
set_option maxHeartbeats 400000 in
theorem rtrim_arg0 (g : Nat) (f : Int) (h : f < 0 ∨ 2 ≤ f) (n : Int) (w : World) : Calls Try.prog 88 #[.pointer (some ⟨g, 0, none⟩), .int .i64 f, .int .i64 n] w fun e w' => e = .returned (.int .i64 1) ∧ w = w' := by
  rcases h with h | h
  · go_enter Try.func88, Try.ntmps88
    go_wp2
    go_ret
    exact ⟨rfl, rfl⟩
  · have h' : decide (f < 0) = false := by simp; omega
    have h2 : (1 : Int) < f := by omega
    go_enter Try.func88, Try.ntmps88
    go_wp2
    go_ret
    exact ⟨rfl, rfl⟩
set_option maxRecDepth 100000 in
set_option maxHeartbeats 400000 in
theorem rtrim_arg {base g : Nat} {v : Value} {r : RS} {w : World} (h : IsRef w base g v r) (hk : r.ok) (f : Nat) (hf2 : f < 2) (n : Int) (hn : n < 0 ∨ ((r.file f).size : Int) < n) : Calls Try.prog 88 #[.pointer (some ⟨g, 0, none⟩), .int .i64 (f : Int), .int .i64 n] w fun e w' => e = .returned (.int .i64 1) ∧ Below w.heap.size w w' := by
  have hf0 : ¬ (f : Int) < 0 := by omega
  have hf1 : ¬ (1 : Int) < (f : Int) := by omega
  have hcase : n < 0 ∨ (¬ n < 0 ∧ ((r.file f).size : Int) < n) := by omega
  rcases hcase with hn0 | ⟨hn0, hn1⟩
  · go_enter Try.func88, Try.ntmps88
    go_wp2
    go_ret
    exact ⟨rfl, Below.refl _ _⟩
  · go_enter Try.func88, Try.ntmps88
    go_wp2_with fail
    refine (rread_yes h hk f hf2).mono ?_
    rintro e w1 ⟨rfl, h1⟩
    have H1 := Lib.hid h1; clear h1
    go_wp2
    go_ret
    exact ⟨rfl, H1.out⟩
set_option maxRecDepth 100000 in
set_option maxHeartbeats 400000 in
theorem rtrim_state {base g : Nat} {v : Value} {r : RS} {w : World} (h : IsRef w base g v r) (hk : r.ok) (f : Nat) (hf2 : f < 2) (n : Nat) (hn : n ≤ (r.file f).size) (hl : 0 < r.loose.length) : Calls Try.prog 88 #[.pointer (some ⟨g, 0, none⟩), .int .i64 (f : Int), .int .i64 (n : Int)] w fun e w' => e = .returned (.int .i64 7) ∧ Below w.heap.size w w' := by
  have hf0 : ¬ (f : Int) < 0 := by omega
  have hf1 : ¬ (1 : Int) < (f : Int) := by omega
  have hn0 : ¬ (n : Int) < 0 := by omega
  have hn1 : ¬ ((r.file f).size : Int) < (n : Int) := by omega
  have hl' : (0 : Int) < (r.loose.length : Int) := by omega
  obtain ⟨A, cp, rfl, hvl⟩ := own_form h.own
  go_enter Try.func88, Try.ntmps88
  go_wp2_with fail
  refine (rread_yes h hk f hf2).mono ?_
  rintro e w1 ⟨rfl, h1⟩
  have c2 := (h.below h1).c2
  have H1 := Lib.hid h1; clear h1 h
  go_wp2
  go_ret
  exact ⟨rfl, H1.out⟩
theorem rfile_loose0 {r : RS} (hl : r.loose.length = 0) (f : Nat) : r.file f = if f = 0 then r.a else r.b := by
  have : r.loose = [] := List.eq_nil_of_length_eq_zero hl
  unfold RS.file; rw [this]; simp [bytesOf]
set_option maxRecDepth 100000 in
set_option maxHeartbeats 400000 in
theorem rtrim_yes {base g : Nat} {v : Value} {r : RS} {w : World} (h : IsRef w base g v r) (hk : r.ok) (f : Nat) (hf2 : f < 2) (n : Nat) (hn : n ≤ (r.file f).size) (hl : r.loose.length = 0) : Calls Try.prog 88 #[.pointer (some ⟨g, 0, none⟩), .int .i64 (f : Int), .int .i64 (n : Int)] w fun e w' => e = .returned (.int .i64 0) ∧ IsRef w' base g v (r.trim f n) ∧ Only w.heap.size [g] w w' := by
  have hn0 : ¬ (n : Int) < 0 := by omega
  have hn1 : ¬ ((r.file f).size : Int) < (n : Int) := by omega
  have hfl := rfile_loose0 hl f
  have hcase : f = 0 ∨ f = 1 := by omega
  rcases hcase with rfl | rfl
  · simp only [if_pos] at hfl
    have hn2 : (n : Int) ≤ (r.a.size : Int) := by rw [hfl] at hn; omega
    have hn3 : n ≤ r.a.size := by omega
    obtain ⟨A, cp, rfl, hvl⟩ := own_form h.own
    clear hfl hvl
    go_enter Try.func88, Try.ntmps88
    go_wp2_with fail
    refine (rread_yes h hk 0 hf2).mono ?_
    rintro e w1 ⟨rfl, h1⟩
    have hr := h.below h1
    have c0 := hr.c0
    have f0 := hr.fr 0
    have c2 := hr.c2
    rw [hl] at c2
    have hfar := own_blk_ne hr.own hr.blk (by decide)
    have H1 := Lib.hid h1; have H := Lib.hid hr; have Hfar := Lib.hid hfar; clear h1 h hr hfar
    go_wp2
    go_ret
    refine ⟨rfl, ⟨H.out.blk.set_ 0 _, H.out.hb, own_set_far (p := ⟨g, 0, none⟩) H.out.own Hfar.out _⟩, (Only.ofBelow H1.out [g]).setCell (p := ⟨g, 0, none⟩) (.inl (by simp)) _⟩
  · simp only [if_neg (show ¬ (1 : Nat) = 0 by decide)] at hfl
    have hn2 : (n : Int) ≤ (r.b.size : Int) := by rw [hfl] at hn; omega
    have hn3 : n ≤ r.b.size := by omega
    obtain ⟨A, cp, rfl, hvl⟩ := own_form h.own
    clear hfl hvl
    show Calls Try.prog 88 #[.pointer (some ⟨g, 0, none⟩), .int .i64 1, .int .i64 (n : Int)] w _
    go_enter Try.func88, Try.ntmps88
    go_wp2_with fail
    refine (rread_yes h hk 1 hf2).mono ?_
    rintro e w1 ⟨rfl, h1⟩
    have hr := h.below h1
    have c1 := hr.c1
    have f1 := hr.fr 1
    have c2 := hr.c2
    rw [hl] at c2
    have hfar := own_blk_ne hr.own hr.blk (by decide)
    have H1 := Lib.hid h1; have H := Lib.hid hr; have Hfar := Lib.hid hfar; clear h1 h hr hfar
    go_wp2
    go_ret
    refine ⟨rfl, ⟨H.out.blk.set_ 1 _, H.out.hb, own_set_far (p := ⟨g, 1, none⟩) H.out.own Hfar.out _⟩, (Only.ofBelow H1.out [g]).setCell (p := ⟨g, 1, none⟩) (.inl (by simp)) _⟩
end Go.Proofs.Ytjmdiobnappgkaa

/-
  Layer 14 (disk): the document's disk: the walk of Crash.
-/
namespace Go.Proofs.Ytjmdiobnappgkaa
open Go.RowKit
set_option linter.unusedVariables false
set_option linter.unusedSimpArgs false

theorem rvals_take (l : List (Nat × UInt8)) (m : Nat) : (rvals l).take (m * 2) = rvals (l.take m) := by
  induction l generalizing m with
  | nil => simp [rvals]
  | cons p l ih =>
    cases m with
    | zero => simp [rvals]
    | succ m =>
      have := ih m
      simp only [rvals, List.flatMap_cons, List.take_succ_cons, List.cons_append, List.nil_append] at this ⊢
      rw [show (m + 1) * 2 = m * 2 + 1 + 1 by omega, List.take_succ_cons, List.take_succ_cons, this]
def RS.lose (r : RS) (m : Nat) : RS := { r with loose := r.loose.take m }
/-- How many loose bytes stay. -/
def stayN (keep : Int) (n : Nat) : Nat := (max 0 (min keep (n : Int))).toNat
theorem lose_ok {r : RS} (hk : r.ok) (m : Nat) : (r.lose m).ok := ⟨by have := hk.fits; simp [RS.lose]; omega, hk.room⟩

set_option maxRecDepth 100000 in
set_option maxHeartbeats 800000 in
theorem rcrash_any {base g : Nat} {v : Value} {r : RS} {w : World} (h : IsRef w base g v r) (hk : r.ok) (keep : Int) (h1 : -9223372036854775808 ≤ keep) (h2 : keep ≤ 9223372036854775807) :
    Calls Try.prog 74 #[.pointer (some ⟨g, 0, none⟩), .int .i64 keep] w fun e w' => e = .returned (.tuple #[]) ∧ ∃ v', IsRef w' base g v' (r.lose (stayN keep r.loose.length)).sync ∧ Only w.heap.size [g] w w' := by
  obtain ⟨A, cp, rfl, hvl⟩ := own_form h.own
  obtain ⟨i0, hi, hz0, hz1, hz2⟩ := info_parts info123
  have hlen : r.loose.length ≤ 16777216 := by have := hk.fits; have := hk.room; omega
  have hm : ∃ m, stayN keep r.loose.length = m ∧ m ≤ r.loose.length ∧ ((keep < 0 ∧ m = 0) ∨ (¬ keep < 0 ∧ (r.loose.length : Int) < keep ∧ m = r.loose.length) ∨ (¬ keep < 0 ∧ ¬ (r.loose.length : Int) < keep ∧ (m : Int) = keep)) := by
    refine ⟨_, rfl, ?_, ?_⟩ <;> unfold stayN <;> omega
  obtain ⟨m, hm, hml, hmc⟩ := hm
  have hmi : (m : Int) ≤ (r.loose.length : Int) := by omega
  have hcp : r.loose.length ≤ cp := by
    rcases h.own.2 with ⟨hv, h0⟩ | ⟨g', cap', cur, hv, hg, hh, hn, _⟩
    · omega
    · injection hv with e1 e2 e3; omega
  have hmcp : (m : Int) ≤ (cp : Int) := by omega
  have hmcp2 : m ≤ cp := by omega
  have hsrc := src_own (P := Try.prog) (tx := 55) Try.underlying55 (h.own.alloc (.cells #[] 123)) (rvals_one _) m cp hml
  have hempty : (w.alloc (.cells #[] 123)).ownsRow base 123 2 (.slice (some ⟨w.heap.size, 0, none⟩) 0 0) 0 [] := ownsRow_empty base 123 2 (by have := h.hb; have := h.blk.lt; omega) (heap_alloc_new w _)
  rw [rvals_take] at hsrc
  have c2 := h.c2
  have hgl := h.blk.lt
  have hbase : base ≤ w.heap.size := by have := h.hb; omega
  rw [hm]
  have H := Lib.hid h; clear h hvl hm
  rcases hmc with ⟨hneg, rfl⟩ | ⟨hneg, hbig, rfl⟩ | ⟨hneg, hbig, rfl⟩
  · have hlen0 : ¬ (r.loose.length : Int) < 0 := by omega
    go_enter Try.func74, Try.ntmps74
    go_wp2_with (at_builtin; refine wpList_append_o rfl _ _ 55 55 rfl base 123 i0 _ 2 16 Try.underlying55 hi hz0 hz1 hz2 rfl _ 0 [] rfl hempty _ _ _ rfl hsrc (by unfold maxLen; omega) (by omega) (by simp; omega) ?_)
    intro v' w3 hown3 hg3 hv3
    replace hown3 : w3.ownsRow base 123 2 v' 0 (rvals (r.loose.take 0)) := by simpa using hown3
    obtain ⟨A', c', rfl, hl3⟩ := own_form hown3
    have hb3 : Blk w3 g 57 (rcells r (.slice A r.loose.length cp)) := (H.out.blk.alloc (.cells #[] 123)).grown hg3 (by simp [Value.ownBlock]; omega)
    have c23 : w3.cell? ⟨g, 2, none⟩ = some (.slice A r.loose.length cp) := hb3.cell 2
    have f23 : w3.frozen? ⟨g, 2, none⟩ = false := hb3.frozen 2
    have hne : (Value.slice A' 0 c').ownBlock ≠ some g := by
      intro he
      rcases hv3 with h1 | h1
      · rw [he] at h1; simp [Value.ownBlock] at h1; omega
      · rw [he] at h1; simp at h1; omega
    have ho3 : Only w.heap.size [g] w w3 := ((Only.refl w.heap.size [g] w).alloc (Nat.le_refl _) _).grown hg3 (by simp) (by intro q hq; simp [Value.ownBlock] at hq; exact .inr (by omega))
    have hr4 : IsRef (w3.setCell ⟨g, 2, none⟩ (.slice A' 0 c')) base g (.slice A' 0 c') (r.lose 0) := by
      refine ⟨hb3.set_ 2 _, H.out.hb, ?_⟩
      have := own_set_far (p := ⟨g, 2, none⟩) hown3 hne (.slice A' 0 c')
      have e : (r.lose 0).loose.length = 0 := by simp [RS.lose] <;> omega
      rw [e]; exact this
    have ho4 := ho3.setCell (p := ⟨g, 2, none⟩) (.inl (by simp)) (.slice A' 0 c')
    have H4 := Lib.hid hr4; have O4 := Lib.hid ho4
    clear hown3 hg3 hv3 hl3 hb3 hne ho3 hr4 ho4 hempty hsrc
    go_wp2_with fail
    refine (rsync_any H4.out (lose_ok hk _)).mono ?_
    rintro e w5 ⟨rfl, v5, h5, o5⟩
    have H5 := Lib.hid h5; have O5 := Lib.hid (O4.out.trans (o5.mono (O4.out.size) (fun _ _ h => h))); clear h5 o5
    go_wp2
    go_end0
    exact ⟨rfl, v5, H5.out, O5.out⟩
  · have hlen0 : ¬ (r.loose.length : Int) < 0 := by omega
    go_enter Try.func74, Try.ntmps74
    go_wp2_with (at_builtin; refine wpList_append_o rfl _ _ 55 55 rfl base 123 i0 _ 2 16 Try.underlying55 hi hz0 hz1 hz2 rfl _ 0 [] rfl hempty _ _ _ rfl hsrc (by unfold maxLen; omega) (by omega) (by simp; omega) ?_)
    intro v' w3 hown3 hg3 hv3
    replace hown3 : w3.ownsRow base 123 2 v' r.loose.length (rvals (r.loose.take r.loose.length)) := by simpa using hown3
    obtain ⟨A', c', rfl, hl3⟩ := own_form hown3
    have hb3 : Blk w3 g 57 (rcells r (.slice A r.loose.length cp)) := (H.out.blk.alloc (.cells #[] 123)).grown hg3 (by simp [Value.ownBlock]; omega)
    have c23 : w3.cell? ⟨g, 2, none⟩ = some (.slice A r.loose.length cp) := hb3.cell 2
    have f23 : w3.frozen? ⟨g, 2, none⟩ = false := hb3.frozen 2
    have hne : (Value.slice A' r.loose.length c').ownBlock ≠ some g := by
      intro he
      rcases hv3 with h1 | h1
      · rw [he] at h1; simp [Value.ownBlock] at h1; omega
      · rw [he] at h1; simp at h1; omega
    have ho3 : Only w.heap.size [g] w w3 := ((Only.refl w.heap.size [g] w).alloc (Nat.le_refl _) _).grown hg3 (by simp) (by intro q hq; simp [Value.ownBlock] at hq; exact .inr (by omega))
    have hr4 : IsRef (w3.setCell ⟨g, 2, none⟩ (.slice A' r.loose.length c')) base g (.slice A' r.loose.length c') (r.lose r.loose.length) := by
      refine ⟨hb3.set_ 2 _, H.out.hb, ?_⟩
      have := own_set_far (p := ⟨g, 2, none⟩) hown3 hne (.slice A' r.loose.length c')
      have e : (r.lose r.loose.length).loose.length = r.loose.length := by simp [RS.lose] <;> omega
      rw [e]; exact this
    have ho4 := ho3.setCell (p := ⟨g, 2, none⟩) (.inl (by simp)) (.slice A' r.loose.length c')
    have H4 := Lib.hid hr4; have O4 := Lib.hid ho4
    clear hown3 hg3 hv3 hl3 hb3 hne ho3 hr4 ho4 hempty hsrc
    go_wp2_with fail
    refine (rsync_any H4.out (lose_ok hk _)).mono ?_
    rintro e w5 ⟨rfl, v5, h5, o5⟩
    have H5 := Lib.hid h5; have O5 := Lib.hid (O4.out.trans (o5.mono (O4.out.size) (fun _ _ h => h))); clear h5 o5
    go_wp2
    go_end0
    exact ⟨rfl, v5, H5.out, O5.out⟩
  · have hlen0 : ¬ (r.loose.length : Int) < 0 := by omega
    go_enter Try.func74, Try.ntmps74
    go_wp2_with (at_builtin; refine wpList_append_o rfl _ _ 55 55 rfl base 123 i0 _ 2 16 Try.underlying55 hi hz0 hz1 hz2 rfl _ 0 [] rfl hempty _ _ _ rfl hsrc (by unfold maxLen; omega) (by omega) (by simp; omega) ?_)
    intro v' w3 hown3 hg3 hv3
    replace hown3 : w3.ownsRow base 123 2 v' m (rvals (r.loose.take m)) := by simpa using hown3
    obtain ⟨A', c', rfl, hl3⟩ := own_form hown3
    have hb3 : Blk w3 g 57 (rcells r (.slice A r.loose.length cp)) := (H.out.blk.alloc (.cells #[] 123)).grown hg3 (by simp [Value.ownBlock]; omega)
    have c23 : w3.cell? ⟨g, 2, none⟩ = some (.slice A r.loose.length cp) := hb3.cell 2
    have f23 : w3.frozen? ⟨g, 2, none⟩ = false := hb3.frozen 2
    have hne : (Value.slice A' m c').ownBlock ≠ some g := by
      intro he
      rcases hv3 with h1 | h1
      · rw [he] at h1; simp [Value.ownBlock] at h1; omega
      · rw [he] at h1; simp at h1; omega
    have ho3 : Only w.heap.size [g] w w3 := ((Only.refl w.heap.size [g] w).alloc (Nat.le_refl _) _).grown hg3 (by simp) (by intro q hq; simp [Value.ownBlock] at hq; exact .inr (by omega))
    have hr4 : IsRef (w3.setCell ⟨g, 2, none⟩ (.slice A' m c')) base g (.slice A' m c') (r.lose m) := by
      refine ⟨hb3.set_ 2 _, H.out.hb, ?_⟩
      have := own_set_far (p := ⟨g, 2, none⟩) hown3 hne (.slice A' m c')
      have e : (r.lose m).loose.length = m := by simp [RS.lose] <;> omega
      rw [e]; exact this
    have ho4 := ho3.setCell (p := ⟨g, 2, none⟩) (.inl (by simp)) (.slice A' m c')
    have H4 := Lib.hid hr4; have O4 := Lib.hid ho4
    clear hown3 hg3 hv3 hl3 hb3 hne ho3 hr4 ho4 hempty hsrc
    go_wp2_with fail
    refine (rsync_any H4.out (lose_ok hk _)).mono ?_
    rintro e w5 ⟨rfl, v5, h5, o5⟩
    have H5 := Lib.hid h5; have O5 := Lib.hid (O4.out.trans (o5.mono (O4.out.size) (fun _ _ h => h))); clear h5 o5
    go_wp2
    go_end0
    exact ⟨rfl, v5, H5.out, O5.out⟩
end Go.Proofs.Ytjmdiobnappgkaa

/-
  Layer 14 (disk): the program's disk and the document's: when they are the same, and that each method keeps them so: plain laws.
-/
namespace Go.Proofs.Ytjmdiobnappgkaa
open Go.RowKit
set_option linter.unusedVariables false
set_option linter.unusedSimpArgs false

def expand (l : List (Nat × Nat)) : List Nat := l.flatMap fun p => List.replicate p.2 p.1
theorem expand_cons (p : Nat × Nat) (l : List (Nat × Nat)) : expand (p :: l) = List.replicate p.2 p.1 ++ expand l := rfl
theorem expand_append (a b : List (Nat × Nat)) : expand (a ++ b) = expand a ++ expand b := by simp [expand]
theorem expand_length (l : List (Nat × Nat)) : (expand l).length = looseAll l := by
  induction l with
  | nil => rfl
  | cons p l ih => rw [expand_cons, looseAll_cons, List.length_append, List.length_replicate, ih]
theorem expand_count (f : Nat) (l : List (Nat × Nat)) : (expand l).count f = looseOf f l := by
  induction l with
  | nil => rfl
  | cons p l ih => rw [expand_cons, looseOf_cons, List.count_append, List.count_replicate, ih]; simp
theorem bytesOf_count (f : Nat) (l : List (Nat × UInt8)) : (bytesOf f l).length = (l.map (·.1)).count f := by
  induction l with
  | nil => rfl
  | cons p l ih =>
    have : bytesOf f (p :: l) = (if p.1 = f then [p.2] else []) ++ bytesOf f l := by
      unfold bytesOf; by_cases h : p.1 = f <;> simp [h]
    rw [this, List.length_append, ih, List.map_cons, List.count_cons]
    by_cases h : p.1 = f <;> simp [h] <;> omega
theorem expand_take (f : Nat) : ∀ (l : List (Nat × Nat)) (keep : Int), ((expand l).take (stayN keep (looseAll l))).count f = stOf f l (stays l keep)
  | [], keep => by simp [expand, stays, stOf]
  | p :: l, keep => by
    have ih := expand_take f l (keep - stay keep p.2)
    rw [expand_cons, looseAll_cons, stays, stOf, List.take_append, List.count_append, List.length_replicate, List.take_replicate, List.count_replicate]
    have e1 : min (stayN keep (p.2 + looseAll l)) p.2 = stay keep p.2 := by unfold stayN stay; omega
    have e2 : stayN keep (p.2 + looseAll l) - p.2 = stayN (keep - stay keep p.2) (looseAll l) := by unfold stayN stay; omega
    rw [e1, e2, ih]; simp

structure Rel (d : DS) (r : RS) : Prop where
  room : d.room = r.room
  f0 : r.file 0 = d.f0
  f1 : r.file 1 = d.f1
  loose : r.loose.map (·.1) = expand d.loose

section
variable {d : DS} {r : RS}
theorem Rel.len (h : Rel d r) : r.loose.length = looseAll d.loose := by
  rw [← expand_length, ← h.loose, List.length_map]
theorem rfile_size (r : RS) (f : Nat) : (r.file f).size = (if f = 0 then r.a else r.b).size + (bytesOf f r.loose).length := by
  show (((if f = 0 then r.a else r.b).data.toList ++ bytesOf f r.loose).toArray).size = _
  rw [List.size_toArray, List.length_append, Array.length_toList]; rfl
theorem Rel.sizes (h : Rel d r) : d.f0.size = r.a.size + looseOf 0 d.loose ∧ d.f1.size = r.b.size + looseOf 1 d.loose := by
  have h0 := rfile_size r 0
  have h1 := rfile_size r 1
  rw [bytesOf_count, h.loose, expand_count] at h0 h1
  rw [h.f0] at h0; rw [h.f1] at h1
  exact ⟨h0, h1⟩
theorem Rel.ok (h : Rel d r) (hk : d.ok) : r.ok := by
  have hs := h.sizes
  have hl := h.len
  have h2 := looseAll_two d.loose hk.two
  have hf := hk.fits
  exact ⟨by rw [← h.room]; omega, by rw [← h.room]; exact hk.room⟩
theorem Rel.free (h : Rel d r) (hk : d.ok) : (r.room : Int) - (r.a.size : Int) - (r.b.size : Int) - (r.loose.length : Int) = (d.free : Int) := by
  have hs := h.sizes
  have hl := h.len
  have h2 := looseAll_two d.loose hk.two
  have hf := hk.fits
  have hr := h.room
  unfold DS.free; omega
theorem Rel.file (h : Rel d r) (f : Nat) (hf : f < 2) : r.file f = d.file f := by
  have : f = 0 ∨ f = 1 := by omega
  rcases this with rfl | rfl
  · exact h.f0
  · exact h.f1
theorem ba_ext {a b : ByteArray} (h : a.data = b.data) : a = b := by cases a; cases b; simp at h; rw [h]
theorem bytesOf_append (f : Nat) (a b : List (Nat × UInt8)) : bytesOf f (a ++ b) = bytesOf f a ++ bytesOf f b := by simp [bytesOf]
theorem bytesOf_map (f g : Nat) (l : List UInt8) : bytesOf f (l.map fun c => (g, c)) = if g = f then l else [] := by
  induction l with
  | nil => simp [bytesOf]
  | cons c l ih =>
    by_cases h : g = f
    · simp [bytesOf, h] at ih ⊢; exact ih
    · simp [bytesOf, h] at ih ⊢
theorem rput_file (r : RS) (g f : Nat) (s : ByteArray) : (r.put g s.data.toList).file f = if g = f then r.file f ++ s else r.file f := by
  apply ba_ext
  unfold RS.file RS.put
  rw [bytesOf_append, bytesOf_map]
  by_cases h : g = f
  · simp only [h, if_true, if_pos]
    rw [ByteArray.data_append, ← List.append_assoc]
    apply Array.ext'; simp
  · simp [h]
theorem Rel.put (h : Rel d r) (f : Nat) (hf : f < 2) (s : ByteArray) : Rel (d.put f s) (r.put f s.data.toList) := by
  have hl : (r.put f s.data.toList).loose.map (·.1) = expand (d.put f s).loose := by
    rw [put_loose d f hf, expand_append, ← h.loose]
    have : s.data.toList.length = s.size := by rw [Array.length_toList]; rfl
    have e : (s.data.toList.map fun c => (f, c)).map (·.1) = List.replicate s.size f := by
      rw [List.map_map, ← this]
      generalize s.data.toList = l
      induction l with
      | nil => rfl
      | cons c l ih => rw [List.map_cons, List.length_cons, List.replicate_succ, ih]; rfl
    simp [RS.put, expand, e] at e ⊢
  have : f = 0 ∨ f = 1 := by omega
  rcases this with rfl | rfl
  · refine ⟨h.room, ?_, ?_, hl⟩
    · rw [rput_file, if_pos rfl, h.f0]; rfl
    · rw [rput_file, if_neg (by decide), h.f1]; rfl
  · refine ⟨h.room, ?_, ?_, hl⟩
    · rw [rput_file, if_neg (by decide), h.f0]; rfl
    · rw [rput_file, if_pos rfl, h.f1]; rfl
theorem ba_self (a : ByteArray) : (⟨a.data.toList.toArray⟩ : ByteArray) = a := by apply ba_ext; simp
theorem rsync_file (r : RS) (f : Nat) (hf : f < 2) : r.sync.file f = r.file f := by
  have : f = 0 ∨ f = 1 := by omega
  rcases this with rfl | rfl
  · show (⟨((r.file 0).data.toList ++ []).toArray⟩ : ByteArray) = _
    rw [List.append_nil, ba_self]
  · show (⟨((r.file 1).data.toList ++ []).toArray⟩ : ByteArray) = _
    rw [List.append_nil, ba_self]
theorem Rel.sync (h : Rel d r) : Rel d.sync r.sync :=
  ⟨h.room, (rsync_file r 0 (by decide)).trans h.f0, (rsync_file r 1 (by decide)).trans h.f1, rfl⟩
theorem Rel.turn (h : Rel d r) (hl : looseAll d.loose = 0) : Rel d.turn r.turn := by
  have e : r.loose.length = 0 := h.len.trans hl
  have e2 : r.turn.loose.length = 0 := e
  have h0 := h.f0; have h1 := h.f1
  rw [rfile_loose0 e] at h0 h1
  refine ⟨h.room, ?_, ?_, h.loose⟩
  · rw [rfile_loose0 e2]; exact h1
  · rw [rfile_loose0 e2]; exact h0
theorem Rel.trim (h : Rel d r) (hl : looseAll d.loose = 0) (f n : Nat) (hf : f < 2) : Rel (d.trim f n) (r.trim f n) := by
  have e : r.loose.length = 0 := h.len.trans hl
  have h0 := h.f0; have h1 := h.f1
  rw [rfile_loose0 e] at h0 h1
  simp at h0 h1
  have : f = 0 ∨ f = 1 := by omega
  rcases this with rfl | rfl
  · have e2 : (r.trim 0 n).loose.length = 0 := e
    refine ⟨h.room, ?_, ?_, h.loose⟩
    · rw [rfile_loose0 e2]; show r.a.extract 0 n = d.f0.extract 0 n; rw [h0]
    · rw [rfile_loose0 e2]; exact h1
  · have e2 : (r.trim 1 n).loose.length = 0 := e
    refine ⟨h.room, ?_, ?_, h.loose⟩
    · rw [rfile_loose0 e2]; exact h0
    · rw [rfile_loose0 e2]; show r.b.extract 0 n = d.f1.extract 0 n; rw [h1]
theorem lose_file (r : RS) (m f : Nat) : (r.lose m).file f = (r.file f).extract 0 ((if f = 0 then r.a else r.b).size + (bytesOf f (r.loose.take m)).length) := by
  have hsp : bytesOf f r.loose = bytesOf f (r.loose.take m) ++ bytesOf f (r.loose.drop m) := by rw [← bytesOf_append, List.take_append_drop]
  have e : r.file f = (⟨((if f = 0 then r.a else r.b).data.toList ++ bytesOf f (r.loose.take m)).toArray⟩ : ByteArray) ++ ⟨(bytesOf f (r.loose.drop m)).toArray⟩ := by
    apply ba_ext; unfold RS.file; rw [hsp, ByteArray.data_append]; apply Array.ext'; simp
  have hsz : ((if f = 0 then r.a else r.b).size + (bytesOf f (r.loose.take m)).length) = (⟨((if f = 0 then r.a else r.b).data.toList ++ bytesOf f (r.loose.take m)).toArray⟩ : ByteArray).size := by
    show _ = (((if f = 0 then r.a else r.b).data.toList ++ bytesOf f (r.loose.take m)).toArray).size
    rw [List.size_toArray, List.length_append, Array.length_toList]; rfl
  rw [e, hsz, ByteArray.extract_append_eq_left rfl]
  rfl
theorem Rel.crash (h : Rel d r) (hk : d.ok) (keep : Int) : Rel (crashD d keep) (r.lose (stayN keep r.loose.length)).sync := by
  have hs := h.sizes
  have e0 := undo_file d 0 (by decide) d.loose keep hk.two hk.l0
  have e1 := undo_file d 1 (by decide) d.loose keep hk.two hk.l1
  have hc : ∀ f, (bytesOf f (r.loose.take (stayN keep r.loose.length))).length = stOf f d.loose (stays d.loose keep) := by
    intro f
    rw [bytesOf_count, List.map_take, h.loose, h.len, expand_take]
  refine ⟨?_, ?_, ?_, rfl⟩
  · rw [crash_room]; exact h.room
  · rw [rsync_file _ 0 (by decide), lose_file, hc, h.f0]
    show _ = (undoL d d.loose (stays d.loose keep)).file 0
    rw [e0]
    show d.f0.extract 0 _ = d.f0.extract 0 _
    congr 1
    show r.a.size + _ = d.f0.size - _ + _
    omega
  · rw [rsync_file _ 1 (by decide), lose_file, hc, h.f1]
    show _ = (undoL d d.loose (stays d.loose keep)).file 1
    rw [e1]
    show d.f1.extract 0 _ = d.f1.extract 0 _
    congr 1
    show r.b.size + _ = d.f1.size - _ + _
    omega
theorem Rel.start (n : Nat) : Rel (DS.empty n) ⟨⟨#[]⟩, ⟨#[]⟩, [], n⟩ := ⟨rfl, rfl, rfl, rfl⟩
end
end Go.Proofs.Ytjmdiobnappgkaa

/-
  Layer 14 (disk): a disk of the program and one of the document in one memory: what each method leaves alone; the document's methods as functions of the program's model.
-/
namespace Go.Proofs.Ytjmdiobnappgkaa
open Go.RowKit
set_option linter.unusedVariables false
set_option linter.unusedSimpArgs false

/-- Blocks of rows of other types than those of T stay as they are. -/
def Spare (T : List TypeId) (w w' : World) : Prop := ∀ (k : Nat) (cs : Array Value) (t : TypeId) (fr : Nat × Nat), w.heap[k]? = some (.cells cs t fr) → t ∉ T → w'.heap[k]? = some (.cells cs t fr)
section
variable {T : List TypeId} {w w' : World}
theorem Spare.refl (T : List TypeId) (w : World) : Spare T w w := fun _ _ _ _ h _ => h
theorem Spare.trans {w'' : World} (h : Spare T w w') (k : Spare T w' w'') : Spare T w w'' := fun i cs t fr hh ht => k i cs t fr (h i cs t fr hh ht) ht
theorem Spare.mono {T' : List TypeId} (h : Spare T w w') (hT : ∀ t ∈ T, t ∈ T') : Spare T' w w' := fun i cs t fr hh ht => h i cs t fr hh (fun hm => ht (hT t hm))
theorem Spare.ofBelow (hb : Below w.heap.size w w') : Spare T w w' := fun k cs t fr h _ => by rw [hb.block k (Array.getElem?_eq_some_iff.1 h).1]; exact h
theorem Spare.ofOnly {l : List Nat} (ho : Only w.heap.size l w w') (hl : ∀ k ∈ l, ∃ (cs : Array Value) (t : TypeId) (fr : Nat × Nat), w.heap[k]? = some (.cells cs t fr) ∧ t ∈ T) : Spare T w w' := fun k cs t fr h ht => by
  rw [ho.block k (Array.getElem?_eq_some_iff.1 h).1 (fun hm => ?_)]
  · exact h
  · obtain ⟨cs', t', fr', h', ht'⟩ := hl k hm
    rw [h] at h'; injection h' with h'; injection h' with _ e; subst e; exact ht ht'
theorem Spare.blk {g : Nat} {t : TypeId} {cs : Array Value} (h : Spare T w w') (hb : Blk w g t cs) (ht : t ∉ T) : Blk w' g t cs := h g cs t (0, 0) hb ht
theorem Spare.own {base : Nat} {e : TypeId} {size n : Nat} {v : Value} {xs : List Value} (h : Spare T w w') (ho : w.ownsRow base e size v n xs) (ht : e ∉ T) : w'.ownsRow base e size v n xs := by
  refine ⟨ho.1, ho.2.imp id ?_⟩
  rintro ⟨g, cap, cur, hv, hg, hh, r⟩
  exact ⟨g, cap, cur, hv, hg, h g cur e (0, 0) hh ht, r⟩
theorem own_typed {base : Nat} {e : TypeId} {size n : Nat} {v : Value} {xs : List Value} (ho : w.ownsRow base e size v n xs) {k : Nat} (hk : v.ownBlock = some k) : ∃ cs, w.heap[k]? = some (.cells cs e (0, 0)) := by
  rcases ho.2 with ⟨rfl, _⟩ | ⟨g, cap, cur, rfl, hg, hh, r⟩
  · simp [Value.ownBlock] at hk
  · simp [Value.ownBlock] at hk; subst hk; exact ⟨cur, hh⟩
end
section
variable {w0 w w' : World} {g gr : Nat} {d : DS} {r : RS} {n : Nat} {base : Nat} {v : Value}
theorem IsDisk.typed (h : IsDisk w base g v d) : ∀ k ∈ (g :: v.ownBlock.toList), ∃ (cs : Array Value) (t : TypeId) (fr : Nat × Nat), w.heap[k]? = some (.cells cs t fr) ∧ t ∈ [117, 120] := by
  intro k hk
  rcases List.mem_cons.1 hk with rfl | hk
  · exact ⟨_, _, _, h.blk, by simp⟩
  · simp only [Option.mem_toList] at hk
    obtain ⟨cs, hc⟩ := own_typed h.own hk
    exact ⟨cs, 120, _, hc, by simp⟩
theorem IsRef.typed (h : IsRef w base g v r) : ∀ k ∈ (g :: v.ownBlock.toList), ∃ (cs : Array Value) (t : TypeId) (fr : Nat × Nat), w.heap[k]? = some (.cells cs t fr) ∧ t ∈ [57, 123] := by
  intro k hk
  rcases List.mem_cons.1 hk with rfl | hk
  · exact ⟨_, _, _, h.blk, by simp⟩
  · simp only [Option.mem_toList] at hk
    obtain ⟨cs, hc⟩ := own_typed h.own hk
    exact ⟨cs, 123, _, hc, by simp⟩
theorem IsDisk.spare {T : List TypeId} (h : IsDisk w base g v d) (hs : Spare T w w') (h1 : 117 ∉ T) (h2 : 120 ∉ T) : IsDisk w' base g v d := ⟨hs.blk h.blk h1, h.hb, hs.own h.own h2⟩
theorem IsRef.spare {T : List TypeId} (h : IsRef w base g v r) (hs : Spare T w w') (h1 : 57 ∉ T) (h2 : 123 ∉ T) : IsRef w' base g v r := ⟨hs.blk h.blk h1, h.hb, hs.own h.own h2⟩

/-- In world w block gr is the document's disk r, made since w0. -/
def RK (w0 w : World) (gr : Nat) (r : RS) : Prop := (∃ v, IsRef w w0.heap.size gr v r) ∧ Below w0.heap.size w0 w ∧ w0.heap.size ≤ w.heap.size
theorem RK.below (h : RK w0 w gr r) (hb : Below w.heap.size w w') : RK w0 w' gr r := by
  obtain ⟨⟨v, hv⟩, hb0, h3⟩ := h
  exact ⟨⟨v, hv.below hb⟩, hb0.trans (hb.mono h3), Nat.le_trans h3 hb.size⟩
theorem RK.spare (h : RK w0 w gr r) (hb : Below w0.heap.size w0 w') (hs : Spare [117, 120] w w') : RK w0 w' gr r := by
  obtain ⟨⟨v, hv⟩, hb0, h3⟩ := h
  exact ⟨⟨v, hv.spare hs (by decide) (by decide)⟩, hb, hb.size⟩
theorem DK.spare (h : DK w0 w g d n) (hb : Below w0.heap.size w0 w') (hs : Spare [57, 123] w w') : DK w0 w' g d n := by
  obtain ⟨⟨v, hv⟩, hb0, h1, h2, h3⟩ := h
  exact ⟨⟨v, hv.spare hs (by decide) (by decide)⟩, hb, h1, h2, hb.size⟩
theorem RK.only {v v' : Value} {r' : RS} (h : RK w0 w gr r) (hv : IsRef w w0.heap.size gr v r) (hv' : IsRef w' w0.heap.size gr v' r') (ho : Only w.heap.size (gr :: v.ownBlock.toList) w w') : RK w0 w' gr r' := by
  obtain ⟨_, hb0, h3⟩ := h
  refine ⟨⟨v', hv'⟩, hb0.trans ?_, Nat.le_trans h3 ho.size⟩
  refine (ho.mono h3 (l' := (gr :: v.ownBlock.toList)) (fun k _ h => h)).below ?_
  intro k hk
  rcases List.mem_cons.1 hk with rfl | hk
  · exact hv.hb
  · simp only [Option.mem_toList] at hk
    exact (hv.own.lt k hk).1
theorem only_one {v : Value} {B : Nat} (h : Only B [g] w w') : Only B (g :: v.ownBlock.toList) w w' := h.mono (Nat.le_refl _) (fun k _ hk => by simp at hk; simp [hk])

/-! The program's methods, and what they leave alone. -/
theorem ds_put (h : DK w0 w g d n) (hn : n < 1000000) (f : Int) (s : ByteArray) : Calls Try.prog 31 #[.pointer (some ⟨g, 0, none⟩), .int .i64 f, .string s] w fun e w' => e = .returned (.int .i64 (putR d f s)) ∧ DK w0 w' g (putD d f s) (n + 1) ∧ Spare [117, 120] w w' := by
  have hh := h
  obtain ⟨⟨v, hv⟩, hb0, hk, hl, h3⟩ := h
  by_cases hf : valid f
  · by_cases hs : d.free < s.size
    · refine (put_full hv hk f hf.1 hf.2 s hs).mono ?_
      rintro e w' ⟨rfl, q, rfl⟩
      refine ⟨by rw [putR, if_pos hf, if_pos hs], ?_, Spare.refl _ _⟩
      rw [putD, if_neg (fun c => c.2 hs)]
      obtain ⟨a, b, c, e, f'⟩ := hh.drewN q
      exact ⟨a, b, c, by omega, f'⟩
    · obtain ⟨m, rfl⟩ := Int.eq_ofNat_of_zero_le hf.1
      have hm : m < 2 := by have := hf.2; omega
      refine (put_ok hv hk m hm s (by omega) (by omega)).mono ?_
      rintro e w' ⟨rfl, v', hv', hvv, ho⟩
      refine ⟨by rw [putR, if_pos hf, if_neg hs], ?_, Spare.ofOnly ho hv.typed⟩
      rw [putD, if_pos ⟨hf, hs⟩, Int.toNat_natCast]
      exact hh.only hv hv' ho (put_okd hk m hm s (by omega) (by omega)) (by rw [put_loose d m hm]; simp; omega)
  · have hf' : f < 0 ∨ 2 ≤ f := by unfold valid at hf; omega
    refine (put_arg g f hf' s w).mono ?_
    rintro e w' ⟨rfl, rfl⟩
    refine ⟨by rw [putR, if_neg hf], ?_, Spare.refl _ _⟩
    rw [putD, if_neg (fun c => hf c.1)]
    obtain ⟨a, b, c, e, f'⟩ := hh
    exact ⟨a, b, c, by omega, f'⟩
theorem ds_sync (h : DK w0 w g d n) : Calls Try.prog 32 #[.pointer (some ⟨g, 0, none⟩)] w fun e w' => e = .returned (.tuple #[]) ∧ DK w0 w' g d.sync 0 ∧ Spare [117, 120] w w' := by
  have hh := h
  obtain ⟨⟨v, hv⟩, hb0, hk, hl, h3⟩ := h
  refine (sync_any hv).mono ?_
  rintro e w' ⟨rfl, hv', ho⟩
  exact ⟨rfl, hh.only hv hv' (only_one ho) (sync_okd hk) (by simp [DS.sync]), Spare.ofOnly (only_one ho) hv.typed⟩
theorem ds_crash (h : DK w0 w g d n) (keep : Int) (h1 : -9223372036854775808 ≤ keep) (h2 : keep ≤ 9223372036854775807) : Calls Try.prog 35 #[.pointer (some ⟨g, 0, none⟩), .int .i64 keep] w fun e w' => e = .returned (.tuple #[]) ∧ DK w0 w' g (crashD d keep) 0 ∧ Spare [117, 120] w w' ∧ Only w.heap.size [g] w w' := by
  have hh := h
  obtain ⟨⟨v, hv⟩, hb0, hk, hl, h3⟩ := h
  refine (crash_any hv hk keep h1 h2).mono ?_
  rintro e w' ⟨rfl, hv', ho⟩
  exact ⟨rfl, hh.only hv hv' (only_one ho) (crash_okd hk keep) (by simp [crashD, DS.sync]), Spare.ofOnly (only_one ho) hv.typed, ho⟩
theorem ds_turn (h : DK w0 w g d n) : Calls Try.prog 38 #[.pointer (some ⟨g, 0, none⟩)] w fun e w' => e = .returned (.int .i64 (turnR d)) ∧ DK w0 w' g (turnD d) n ∧ Spare [117, 120] w w' := by
  have hh := h
  obtain ⟨⟨v, hv⟩, hb0, hk, hl, h3⟩ := h
  by_cases h0 : 0 < looseAll d.loose
  · refine (turn_no hv hk h0).mono ?_
    rintro e w' ⟨rfl, hb⟩
    exact ⟨by rw [turnR, if_pos h0], by rw [turnD, if_pos h0]; exact hh.below hb, Spare.ofBelow hb⟩
  · refine (turn_yes hv hk (by omega)).mono ?_
    rintro e w' ⟨rfl, hv', ho⟩
    refine ⟨by rw [turnR, if_neg h0], ?_, Spare.ofOnly (only_one ho) hv.typed⟩
    rw [turnD, if_neg h0]
    exact hh.only hv hv' (only_one ho) (turn_okd hk (by omega)) hl
theorem ds_trim (h : DK w0 w g d n) (f m : Int) : Calls Try.prog 39 #[.pointer (some ⟨g, 0, none⟩), .int .i64 f, .int .i64 m] w fun e w' => e = .returned (.int .i64 (trimR d f m)) ∧ DK w0 w' g (trimD d f m) n ∧ Spare [117, 120] w w' := by
  have hh := h
  obtain ⟨⟨v, hv⟩, hb0, hk, hl, h3⟩ := h
  by_cases hf : valid f
  · obtain ⟨f, rfl⟩ := Int.eq_ofNat_of_zero_le hf.1
    have hf2 : f < 2 := by have := hf.2; omega
    by_cases hm : m < 0 ∨ ((d.file f).size : Int) < m
    · have hbad : trimBad d (f : Int) m := by unfold trimBad; rw [Int.toNat_natCast]; exact .inr hm
      refine (trim_arg hv hk f hf2 m hm).mono ?_
      rintro e w' ⟨rfl, rfl⟩
      exact ⟨by rw [trimR, if_pos hbad], by rw [trimD, if_pos (.inl hbad)]; exact hh, Spare.refl _ _⟩
    · have hbad : ¬ trimBad d (f : Int) m := by
        unfold trimBad; rw [Int.toNat_natCast]
        rintro (h | h)
        · exact h hf
        · exact hm h
      obtain ⟨m, rfl⟩ := Int.eq_ofNat_of_zero_le (show 0 ≤ m by omega)
      by_cases h0 : 0 < looseAll d.loose
      · refine (trim_state hv hk f hf2 m (by omega) h0).mono ?_
        rintro e w' ⟨rfl, hb⟩
        exact ⟨by rw [trimR, if_neg hbad, if_pos h0], by rw [trimD, if_pos (.inr h0)]; exact hh.below hb, Spare.ofBelow hb⟩
      · refine (trim_yes hv hk f hf2 m (by omega) (by omega)).mono ?_
        rintro e w' ⟨rfl, hv', ho⟩
        refine ⟨by rw [trimR, if_neg hbad, if_neg h0], ?_, Spare.ofOnly (only_one ho) hv.typed⟩
        rw [trimD, if_neg (fun c => c.elim hbad h0), Int.toNat_natCast, Int.toNat_natCast]
        exact hh.only hv hv' (only_one ho) (trim_okd hk f m hf2 (by omega)) (by rw [trim_loose d f hf2]; exact hl)
  · have hbad : trimBad d f m := .inl hf
    refine (trim_arg0 g f (by unfold valid at hf; omega) m w).mono ?_
    rintro e w' ⟨rfl, rfl⟩
    exact ⟨by rw [trimR, if_pos hbad], by rw [trimD, if_pos (.inl hbad)]; exact hh, Spare.refl _ _⟩

/-! The document's methods. -/
theorem rk_put (h : RK w0 w gr r) (rel : Rel d r) (hk : d.ok) (f : Int) (s : ByteArray) : Calls Try.prog 86 #[.pointer (some ⟨gr, 0, none⟩), .int .i64 f, .string s] w fun e w' => e = .returned (.int .i64 (putR d f s)) ∧ (∃ r', RK w0 w' gr r' ∧ Rel (putD d f s) r') ∧ Spare [57, 123] w w' := by
  have hh := h
  obtain ⟨⟨v, hv⟩, hb0, h3⟩ := h
  have hro := rel.ok hk
  have hfr := rel.free hk
  by_cases hf : valid f
  · obtain ⟨m, rfl⟩ := Int.eq_ofNat_of_zero_le hf.1
    have hm : m < 2 := by have := hf.2; omega
    by_cases hs : d.free < s.size
    · refine (rput_full hv hro m hm s (by omega)).mono ?_
      rintro e w' ⟨rfl, q, rfl⟩
      refine ⟨by rw [putR, if_pos hf, if_pos hs], ⟨r, ⟨⟨v, hv.drewN q⟩, below_drewN' hb0 q, h3⟩, ?_⟩, Spare.refl _ _⟩
      rw [putD, if_neg (fun c => c.2 hs)]; exact rel
    · refine (rput_ok hv hro m hm s (by omega)).mono ?_
      rintro e w' ⟨rfl, v', hv', hvv, ho⟩
      refine ⟨by rw [putR, if_pos hf, if_neg hs], ⟨_, hh.only hv hv' ho, ?_⟩, Spare.ofOnly ho hv.typed⟩
      rw [putD, if_pos ⟨hf, hs⟩, Int.toNat_natCast]
      exact rel.put m hm s
  · have hf' : f < 0 ∨ 2 ≤ f := by unfold valid at hf; omega
    refine (rput_arg gr f hf' s w).mono ?_
    rintro e w' ⟨rfl, rfl⟩
    refine ⟨by rw [putR, if_neg hf], ⟨r, hh, ?_⟩, Spare.refl _ _⟩
    rw [putD, if_neg (fun c => hf c.1)]; exact rel
theorem rk_sync (h : RK w0 w gr r) (rel : Rel d r) (hk : d.ok) : Calls Try.prog 87 #[.pointer (some ⟨gr, 0, none⟩)] w fun e w' => e = .returned (.tuple #[]) ∧ (∃ r', RK w0 w' gr r' ∧ Rel d.sync r') ∧ Spare [57, 123] w w' := by
  have hh := h
  obtain ⟨⟨v, hv⟩, hb0, h3⟩ := h
  refine (rsync_any hv (rel.ok hk)).mono ?_
  rintro e w' ⟨rfl, v', hv', ho⟩
  exact ⟨rfl, ⟨_, hh.only hv hv' (only_one ho), rel.sync⟩, Spare.ofOnly (only_one ho) hv.typed⟩
theorem rk_crash (h : RK w0 w gr r) (rel : Rel d r) (hk : d.ok) (keep : Int) (h1 : -9223372036854775808 ≤ keep) (h2 : keep ≤ 9223372036854775807) : Calls Try.prog 74 #[.pointer (some ⟨gr, 0, none⟩), .int .i64 keep] w fun e w' => e = .returned (.tuple #[]) ∧ (∃ r', RK w0 w' gr r' ∧ Rel (crashD d keep) r') ∧ Spare [57, 123] w w' := by
  have hh := h
  obtain ⟨⟨v, hv⟩, hb0, h3⟩ := h
  refine (rcrash_any hv (rel.ok hk) keep h1 h2).mono ?_
  rintro e w' ⟨rfl, v', hv', ho⟩
  exact ⟨rfl, ⟨_, hh.only hv hv' (only_one ho), rel.crash hk keep⟩, Spare.ofOnly (only_one ho) hv.typed⟩
theorem rk_turn (h : RK w0 w gr r) (rel : Rel d r) (hk : d.ok) : Calls Try.prog 89 #[.pointer (some ⟨gr, 0, none⟩)] w fun e w' => e = .returned (.int .i64 (turnR d)) ∧ (∃ r', RK w0 w' gr r' ∧ Rel (turnD d) r') ∧ Spare [57, 123] w w' := by
  have hh := h
  obtain ⟨⟨v, hv⟩, hb0, h3⟩ := h
  have hl := rel.len
  by_cases h0 : 0 < looseAll d.loose
  · refine (rturn_no hv (rel.ok hk) (by omega)).mono ?_
    rintro e w' ⟨rfl, rfl⟩
    exact ⟨by rw [turnR, if_pos h0], ⟨r, hh, by rw [turnD, if_pos h0]; exact rel⟩, Spare.refl _ _⟩
  · refine (rturn_yes hv (by omega)).mono ?_
    rintro e w' ⟨rfl, hv', ho⟩
    exact ⟨by rw [turnR, if_neg h0], ⟨_, hh.only hv hv' (only_one ho), by rw [turnD, if_neg h0]; exact rel.turn (by omega)⟩, Spare.ofOnly (only_one ho) hv.typed⟩
theorem rk_trim (h : RK w0 w gr r) (rel : Rel d r) (hk : d.ok) (f m : Int) : Calls Try.prog 88 #[.pointer (some ⟨gr, 0, none⟩), .int .i64 f, .int .i64 m] w fun e w' => e = .returned (.int .i64 (trimR d f m)) ∧ (∃ r', RK w0 w' gr r' ∧ Rel (trimD d f m) r') ∧ Spare [57, 123] w w' := by
  have hh := h
  obtain ⟨⟨v, hv⟩, hb0, h3⟩ := h
  have hro := rel.ok hk
  have hl := rel.len
  by_cases hf : valid f
  · obtain ⟨f, rfl⟩ := Int.eq_ofNat_of_zero_le hf.1
    have hf2 : f < 2 := by have := hf.2; omega
    have hfile := rel.file f hf2
    by_cases hm : m < 0 ∨ ((d.file f).size : Int) < m
    · have hbad : trimBad d (f : Int) m := by unfold trimBad; rw [Int.toNat_natCast]; exact .inr hm
      refine (rtrim_arg hv hro f hf2 m (by rw [hfile]; exact hm)).mono ?_
      rintro e w' ⟨rfl, hb⟩
      exact ⟨by rw [trimR, if_pos hbad], ⟨r, hh.below hb, by rw [trimD, if_pos (.inl hbad)]; exact rel⟩, Spare.ofBelow hb⟩
    · have hbad : ¬ trimBad d (f : Int) m := by
        unfold trimBad; rw [Int.toNat_natCast]
        rintro (h | h)
        · exact h hf
        · exact hm h
      obtain ⟨m, rfl⟩ := Int.eq_ofNat_of_zero_le (show 0 ≤ m by omega)
      by_cases h0 : 0 < looseAll d.loose
      · refine (rtrim_state hv hro f hf2 m (by rw [hfile]; omega) (by omega)).mono ?_
        rintro e w' ⟨rfl, hb⟩
        exact ⟨by rw [trimR, if_neg hbad, if_pos h0], ⟨r, hh.below hb, by rw [trimD, if_pos (.inr h0)]; exact rel⟩, Spare.ofBelow hb⟩
      · refine (rtrim_yes hv hro f hf2 m (by rw [hfile]; omega) (by omega)).mono ?_
        rintro e w' ⟨rfl, hv', ho⟩
        refine ⟨by rw [trimR, if_neg hbad, if_neg h0], ⟨_, hh.only hv hv' (only_one ho), ?_⟩, Spare.ofOnly (only_one ho) hv.typed⟩
        rw [trimD, if_neg (fun c => c.elim hbad h0), Int.toNat_natCast, Int.toNat_natCast]
        exact rel.trim (by omega) f m hf2
  · have hbad : trimBad d f m := .inl hf
    refine (rtrim_arg0 gr f (by unfold valid at hf; omega) m w).mono ?_
    rintro e w' ⟨rfl, rfl⟩
    exact ⟨by rw [trimR, if_pos hbad], ⟨r, hh, by rw [trimD, if_pos (.inl hbad)]; exact rel⟩, Spare.refl _ _⟩
end
end Go.Proofs.Ytjmdiobnappgkaa
