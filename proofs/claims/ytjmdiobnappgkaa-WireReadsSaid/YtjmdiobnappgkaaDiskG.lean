/-
  Layer 14 (disk): the document's disk: its plain model, how it lies in memory, and the walks of its methods.
-/
import Derived.Test.YtjmdiobnappgkaaDiskK
import Derived.Test.YtjmdiobnappgkaaRowX
namespace Go.Proofs.Ytjmdiobnappgkaa
open Go.RowKit
set_option linter.unusedVariables false
set_option linter.unusedSimpArgs false

/-- The document's disk: what is sure of both files, the loose bytes (file, byte), the room. -/
structure RS where
  a : ByteArray
  b : ByteArray
  loose : List (Nat × UInt8)
  room : Nat
def rvals (l : List (Nat × UInt8)) : List Value := l.flatMap fun p => [Value.int .i64 (p.1 : Int), Value.int .u8 (p.2.toNat : Int)]
def rcells (r : RS) (v : Value) : Array Value := #[.string r.a, .string r.b, v, .int .i64 (r.room : Int)]
theorem rvals_append (a b : List (Nat × UInt8)) : rvals (a ++ b) = rvals a ++ rvals b := by simp [rvals]
theorem rvals_length (a : List (Nat × UInt8)) : (rvals a).length = a.length * 2 := by
  induction a with
  | nil => rfl
  | cons x l ih => simp only [rvals, List.flatMap_cons, List.length_append, List.length_cons, List.length_nil] at ih ⊢; omega
theorem rvals_one (l : List (Nat × UInt8)) : ∀ u ∈ rvals l, u.oneCell' = true := by
  intro u hu; simp only [rvals, List.mem_flatMap] at hu; obtain ⟨p, _, hu⟩ := hu; simp at hu; rcases hu with rfl | rfl <;> rfl
theorem rvals_get (l : List (Nat × UInt8)) (k : Nat) (hk : k < l.length) : (rvals l)[k * 2]? = some (.int .i64 (l[k].1 : Int)) ∧ (rvals l)[k * 2 + 1]? = some (.int .u8 (l[k].2.toNat : Int)) := by
  induction l generalizing k with
  | nil => simp at hk
  | cons p l ih =>
    cases k with
    | zero => simp [rvals]
    | succ k =>
      have := ih k (by simpa using hk)
      simp only [rvals, List.flatMap_cons, List.cons_append, List.nil_append, List.getElem_cons_succ] at this ⊢
      rw [show (k + 1) * 2 = k * 2 + 1 + 1 by omega, show k * 2 + 1 + 1 + 1 = (k * 2 + 1) + 1 + 1 by omega]
      simpa using this

structure IsRef (w : World) (base g : Nat) (v : Value) (r : RS) : Prop where
  blk : Blk w g 57 (rcells r v)
  hb : base ≤ g
  own : w.ownsRow base 123 2 v r.loose.length (rvals r.loose)
structure RS.ok (r : RS) : Prop where
  fits : r.a.size + r.b.size + r.loose.length ≤ r.room
  room : r.room ≤ 16777216
/-- The loose bytes of file f. -/
def bytesOf (f : Nat) (l : List (Nat × UInt8)) : List UInt8 := (l.filter fun p => p.1 = f).map fun p => p.2
def RS.file (r : RS) (f : Nat) : ByteArray := ⟨((if f = 0 then r.a else r.b).data.toList ++ bytesOf f r.loose).toArray⟩
theorem bytesOf_snoc (f : Nat) (l : List (Nat × UInt8)) (p : Nat × UInt8) : bytesOf f (l ++ [p]) = bytesOf f l ++ if p.1 = f then [p.2] else [] := by
  unfold bytesOf; rw [List.filter_append, List.map_append]
  by_cases h : p.1 = f <;> simp [h]
theorem bytesOf_le (f : Nat) (l : List (Nat × UInt8)) : (bytesOf f l).length ≤ l.length := by
  unfold bytesOf; rw [List.length_map]; exact List.length_filter_le _ _

section
variable {w w' : World} {base g : Nat} {v : Value} {r : RS}
theorem IsRef.c0 (h : IsRef w base g v r) : w.cell? ⟨g, 0, none⟩ = some (.string r.a) := h.blk.cell 0
theorem IsRef.c1 (h : IsRef w base g v r) : w.cell? ⟨g, 1, none⟩ = some (.string r.b) := h.blk.cell 1
theorem IsRef.c2 (h : IsRef w base g v r) : w.cell? ⟨g, 2, none⟩ = some v := h.blk.cell 2
theorem IsRef.c3 (h : IsRef w base g v r) : w.cell? ⟨g, 3, none⟩ = some (.int .i64 (r.room : Int)) := h.blk.cell 3
theorem IsRef.fr (h : IsRef w base g v r) (i : Nat) : w.frozen? ⟨g, i, none⟩ = false := h.blk.frozen i
theorem IsRef.only {B : Nat} {l : List Nat} (h : IsRef w base g v r) (ho : Only B l w w') (hg : g < B ∧ g ∉ l) (hv : ∀ k, v.ownBlock = some k → k < B ∧ k ∉ l) : IsRef w' base g v r :=
  ⟨h.blk.only ho hg.1 hg.2, h.hb, own_only h.own ho hv⟩
theorem IsRef.below (h : IsRef w base g v r) (hb : Below w.heap.size w w') : IsRef w' base g v r :=
  h.only (Only.ofBelow hb []) ⟨h.blk.lt, by simp⟩ (fun k hk => ⟨(h.own.lt k hk).2, by simp⟩)
theorem IsRef.drewN (h : IsRef w base g v r) (n : Nat) : IsRef (w.drewN n) base g v r := ⟨h.blk, h.hb, h.own⟩
end

theorem info123 : (Try.prog.info? 123).map (fun i => (i.zero, i.size, i.bytes)) = some (some (.agg #[.int .i64 0, .int .u8 0]), 2, 16) := by kernel_rfl
theorem info5 : (Try.prog.info? 5).map (fun i => (i.zero, i.size, i.bytes)) = some (some (.int .u8 0), 1, 1) := by kernel_rfl

set_option maxRecDepth 100000 in
theorem rnew_no (n : Int) (h : n < 0 ∨ 16777216 < n) (w : World) : Calls Try.prog 40 #[.int .i64 n] w fun e w' => e = .returned (.tuple #[.pointer none, .int .i64 1]) ∧ w = w' := by
  rcases h with h | h
  · go_enter Try.func40, Try.ntmps40
    go_wp2
    go_ret2
    exact ⟨rfl, rfl⟩
  · have h' : decide (n < 0) = false := by simp; omega
    go_enter Try.func40, Try.ntmps40
    go_wp2
    go_ret2
    exact ⟨rfl, rfl⟩
set_option maxRecDepth 100000 in
theorem rnew_yes (n : Nat) (h : n ≤ 16777216) (w : World) : Calls Try.prog 40 #[.int .i64 (n : Int)] w fun e w' => e = .returned (.tuple #[.pointer (some ⟨w.heap.size, 0, none⟩), .int .i64 0]) ∧ IsRef w' w.heap.size w.heap.size (.slice none 0 0) ⟨⟨#[]⟩, ⟨#[]⟩, [], n⟩ ∧ Only w.heap.size [] w w' := by
  go_enter Try.func40, Try.ntmps40
  go_wp2
  go_ret2
  exact ⟨rfl, ⟨Blk.new _ _ _, Nat.le_refl _, World.ownsRow_nil _ _ _ _⟩, (Only.refl _ _ _).alloc (Nat.le_refl _) _⟩

set_option maxRecDepth 100000 in
set_option maxHeartbeats 400000 in
theorem rfree_any {base g : Nat} {v : Value} {r : RS} {w : World} (h : IsRef w base g v r) (hk : r.ok) : Calls Try.prog 44 #[.pointer (some ⟨g, 0, none⟩)] w fun e w' => e = .returned (.int .i64 ((r.room : Int) - (r.a.size : Int) - (r.b.size : Int) - (r.loose.length : Int))) ∧ ∃ n, w' = w.drewN n := by
  obtain ⟨A, cp, rfl, hvl⟩ := own_form h.own
  have c0 := h.c0
  have c1 := h.c1
  have c2 := h.c2
  have c3 := h.c3
  have h1 := hk.fits
  have h2 := hk.room
  clear h hvl
  go_enter Try.func44, Try.ntmps44
  go_wp2
  go_quiet (fail)
  go_wp2
  go_ret
  exact ⟨rfl, _, rfl⟩

set_option maxRecDepth 100000 in
theorem rread_no (g : Nat) (f : Int) (h : f < 0 ∨ 2 ≤ f) (w : World) : Calls Try.prog 43 #[.pointer (some ⟨g, 0, none⟩), .int .i64 f] w fun e w' => e = .returned (.string ⟨#[]⟩) ∧ w = w' := by
  rcases h with h | h
  · go_enter Try.func43, Try.ntmps43
    go_wp2
    go_ret
    exact ⟨rfl, rfl⟩
  · have h' : decide (f < 0) = false := by simp; omega
    have h2 : (1 : Int) < f := by omega
    go_enter Try.func43, Try.ntmps43
    go_wp2
    go_ret
    exact ⟨rfl, rfl⟩
end Go.Proofs.Ytjmdiobnappgkaa
