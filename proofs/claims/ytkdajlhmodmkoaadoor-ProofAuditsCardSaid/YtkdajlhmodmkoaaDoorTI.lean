/-
  Layer 8 (tree): slices.Backward over strings: what the iterator hands to a loop's body.
-/
import Derived.RangeFuncBox
import Derived.RangeFuncLeaves
import Derived.RangeFuncWrites
import Derived.Shelf.Abstract
import Derived.WalkKit
import Derived.OwnWalkIn
import Derived.TacticsInMore
import Derived.LoopNIn
import Derived.LoopIn
import Derived.Test.YtkdajlhmodmkoaaDoorTR
namespace Go.Proofs.YtkdajlhmodmkoaaDoor
open Go.RowKit Go.Shelf TreeM
set_option linter.unusedVariables false
set_option linter.unusedSimpArgs false
attribute [local go_sem] Oper.semAt_some

/-- What has come when k rounds are over. -/
def upto {α : Type} (f : Nat → α) (k : Nat) : List α := (List.range k).map f
theorem upto_succ {α : Type} (f : Nat → α) (k : Nat) : upto f (k + 1) = upto f k ++ [f k] := by simp [upto, List.range_succ]
theorem upto_length {α : Type} (f : Nat → α) (k : Nat) : (upto f k).length = k := by simp [upto]
/-- The strings from the last one on, with their places; of each p holds. -/
abbrev BackT (p : Nat × ByteArray → Prop) := { x : Nat × ByteArray // p x }
def backS {p : Nat × ByteArray → Prop} (L : List ByteArray) (hp : ∀ q (h : q < L.length), p (q, L[q])) (d : BackT p) (k : Nat) : BackT p :=
  if h : L.length - 1 - k < L.length then ⟨(L.length - 1 - k, L[L.length - 1 - k]), hp _ h⟩ else d
theorem backS_at {p : Nat × ByteArray → Prop} (L : List ByteArray) (hp : ∀ q (h : q < L.length), p (q, L[q])) (d : BackT p) (q : Nat) (h : q < L.length) : backS L hp d (L.length - (q + 1)) = ⟨(q, L[q]), hp q h⟩ := by
  have e : L.length - 1 - (L.length - (q + 1)) = q := by omega
  unfold backS
  simp only [e]
  rw [dif_pos h]
theorem upto_back {p : Nat × ByteArray → Prop} (L : List ByteArray) (hp : ∀ q (h : q < L.length), p (q, L[q])) (d : BackT p) (q : Nat) (h : q < L.length) : upto (backS L hp d) (L.length - q) = upto (backS L hp d) (L.length - (q + 1)) ++ [⟨(q, L[q]), hp q h⟩] := by
  rw [show L.length - q = (L.length - (q + 1)) + 1 by omega, upto_succ, backS_at L hp d q h]
/-- A slice's cells, in a block below n₀. -/
def Cells9 (n₀ : Nat) (W : World) (A : Option Addr) (L : List ByteArray) : Prop := ∀ i (h : i < L.length), ∃ b o, A = some ⟨b, o, none⟩ ∧ b < n₀ ∧ W.cell? ⟨b, o + i, none⟩ = some (.string L[i])
theorem Cells9.below {n₀ : Nat} {W W' : World} {A : Option Addr} {L : List ByteArray} (h : Cells9 n₀ W A L) (hb : Below n₀ W W') : Cells9 n₀ W' A L := fun i hi => by
  obtain ⟨b, o, h1, h2, h3⟩ := h i hi
  exact ⟨b, o, h1, h2, (hb.cell (p := ⟨b, o + i, none⟩) h2).trans h3⟩
/-- What lay below n₀ is kept, and the iterator's own box. -/
def KB (n₀ Bs : Nat) (W W' : World) : Prop := Below n₀ W W' ∧ W'.heap[Bs]? = W.heap[Bs]?
theorem KB.refl (n₀ Bs : Nat) (W : World) : KB n₀ Bs W W := ⟨Below.refl _ _, rfl⟩
theorem KB.trans {n₀ Bs : Nat} {A B C : World} (h : KB n₀ Bs A B) (k : KB n₀ Bs B C) : KB n₀ Bs A C := ⟨h.1.trans k.1, k.2.trans h.2⟩
theorem KB.cell {n₀ Bs : Nat} {W W' : World} (h : KB n₀ Bs W W') : W'.cell? ⟨Bs, 0, none⟩ = W.cell? ⟨Bs, 0, none⟩ := World.cell?_congr h.2
theorem KB.put {n₀ Bs B : Nat} (hn : n₀ ≤ B) (hB : Bs < B) (W : World) (l : Nat) (o o' : Obj) (hl : B ≤ l) (h : W.heap[l]? = some o) (h1 : o.isCells = false) (h2 : o.isWalk = false) : KB n₀ Bs W (W.putObj l o') :=
  ⟨(Below.refl n₀ W).grown (grownBy_putObj' W l o') (Nat.le_trans hn (Nat.le_trans hl (Nat.le_of_lt (Array.getElem?_eq_some_iff.1 h).1))) (fun k e => by cases e; omega), World.putObj_heap_other (by omega)⟩
set_option maxRecDepth 100000 in
set_option maxHeartbeats 2000000 in
theorem back1_in {p : Nat × ByteArray → Prop} (F : Fence) (n : Nat) (h8 : F.fn 99) (hro : F.round = none) (hn : 1 ≤ n) (l Bs n₀ cap : Nat) (A : Option Addr) (L : List ByteArray) (hm : L.length ≤ maxLen) (hp : ∀ q (h : q < L.length), p (q, L[q])) (d : BackT p) (J Jx : List (BackT p) → World → Prop)
    (hY : ∀ pre x W, J pre W → pre.length < L.length → YieldAt F (n - 1) Tryd.prog l #[.int .i64 (x.1.1 : Int), .string x.1.2] W fun e W' =>
      (e = .returned (.bool true) ∧ J (pre ++ [x]) W' ∧ KB n₀ Bs W W') ∨ (e = .returned (.bool false) ∧ Jx (pre ++ [x]) W'))
    (W : World) (hBs : W.cell? ⟨Bs, 0, none⟩ = some (.slice A L.length cap)) (hc : Cells9 n₀ W A L) (h0 : J [] W) :
    CallsIn F n Tryd.prog 99 #[.func (.yield l) #[] #[], .pointer (some ⟨Bs, 0, none⟩)] W fun e W' => (∃ v, e = .returned v) ∧
      ((∃ ys, ys = upto (backS L hp d) L.length ∧ J ys W') ∨ (∃ pre, (∃ k, k ≤ L.length ∧ pre = upto (backS L hp d) k) ∧ Jx pre W')) := by
  have hlen : L.length ≤ 9223372036854775807 := hm
  refine callsIn_of_wp Tryd.func99 rfl h8 ?_ hro
  simp only [Tryd.ntmps99, List.size_toArray, List.length_cons, List.length_nil, Nat.reduceAdd, Nat.reduceSub, Array.replicate_succ, Array.replicate_zero, List.push_toArray, List.append_toArray, List.nil_append, List.cons_append]
  have e0 : IntKind.i64.wrap ((L.length : Int) - 1) = (L.length : Int) - 1 := IntWalk.i64_in _ (by omega)
  gi_wp2
  gi_loopw [3] (fun i wr => ∃ m : Nat, m ≤ L.length ∧ i = .int .i64 ((m : Int) - 1) ∧ J (upto (backS L hp d) (L.length - m)) wr ∧ KB n₀ Bs W wr)
    (fun i _ => (intOf i + 1).toNat)
  case atStart => exact ⟨L.length, Nat.le_refl _, rfl, by rw [Nat.sub_self]; exact h0, KB.refl _ _ _⟩
  case round =>
    obtain ⟨m, hk, rfl, hJs, hnx⟩ := hrel
    have hbs := hnx.cell.trans hBs
    cases m with
    | zero =>
      gi_wp2
      go_end0
      exact ⟨⟨_, rfl⟩, .inl ⟨_, rfl, hJs⟩⟩
    | succ q =>
      have hq : ((q + 1 : Nat) : Int) - 1 = (q : Int) := by omega
      rw [hq]
      obtain ⟨b, o, rfl, hb, hx⟩ := hc q (by omega)
      have hcx : wr.cell? ⟨b, o + q, none⟩ = some (.string L[q]) := (hnx.1.cell (p := ⟨b, o + q, none⟩) hb).trans hx
      have q0 : (0 : Int) ≤ (q : Int) := by omega
      have q1 : (q : Int) < (L.length : Int) := by omega
      obtain ⟨fn, tmps, assign, body, hy, hR⟩ := hY _ ⟨(q, L[q]), hp q (by omega)⟩ wr hJs (by rw [upto_length]; omega)
      dsimp only at hy
      gi_wp2
      refine hR.mono ?_
      rintro e W3 (⟨rfl, hJ3, hk3⟩ | ⟨rfl, hJx3⟩)
      · gi_wp2
        go_roundw
        case rel => exact ⟨q, by omega, by go_num, by rw [upto_back L hp d q (by omega)]; exact hJ3, hnx.trans hk3⟩
        case measure => simp [intOf]
      · gi_wp2
        refine bodyPost_ret (results_none rfl _ _ _) rfl ?_
        exact ⟨⟨_, rfl⟩, .inr ⟨_, ⟨L.length - q, by omega, (upto_back L hp d q (by omega)).symm⟩, hJx3⟩⟩
set_option maxHeartbeats 1000000 in
theorem backward_in (F : Fence) (n : Nat) (h6 : F.fn 74) (hro : F.round = none) (a : Option Addr) (len cap : Nat) (w : World) :
    CallsIn F n Tryd.prog 74 #[.slice a len cap] w fun e w' => e = .returned (.func (.func 99) #[] #[.pointer (some ⟨w.heap.size, 0, none⟩)]) ∧ w' = w.alloc (.cells #[.slice a len cap] 25) := by
  refine callsIn_of_wp Tryd.func74 rfl h6 ?_ hro
  simp only [Tryd.ntmps74, List.size_toArray, List.length_cons, List.length_nil, Nat.reduceAdd, Nat.reduceSub, Array.replicate_succ, Array.replicate_zero, List.push_toArray, List.append_toArray, List.nil_append, List.cons_append]
  gi_wp2
  go_ret
  exact ⟨rfl, rfl⟩
theorem back_stops {p : Nat × ByteArray → Prop} (F : Fence) (n : Nat) (h8 : F.fn 99) (hro : F.round = none) (hn : 1 ≤ n) (Bs n₀ cap : Nat) (A : Option Addr) (L : List ByteArray) (hm : L.length ≤ maxLen) (hp : ∀ q (h : q < L.length), p (q, L[q])) (d : BackT p) (w : World) (hBs : Bs < w.heap.size) (hn₀ : n₀ ≤ w.heap.size)
    (hcB : w.cell? ⟨Bs, 0, none⟩ = some (.slice A L.length cap)) (hc : Cells9 n₀ w A L) :
    SeqStopsK F n Tryd.prog 99 #[.pointer (some ⟨Bs, 0, none⟩)] (fun x : BackT p => #[Value.int .i64 (x.1.1 : Int), Value.string x.1.2]) (KB n₀ Bs) (fun ys => ys = upto (backS L hp d) L.length)
      (fun pre => ∃ k, k ≤ L.length ∧ pre = upto (backS L hp d) k) L.length w := fun l J Jx W hW _ _ hY h0 =>
  back1_in F n h8 hro hn l Bs n₀ cap A L hm hp d J Jx hY W ((hW.cell (p := ⟨Bs, 0, none⟩) hBs).trans hcB) (hc.below (hW.mono hn₀)) h0
end Go.Proofs.YtkdajlhmodmkoaaDoor
