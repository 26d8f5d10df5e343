/-
  Layer 14 (disk): the plain model, how it lies in memory, and the walks of New, has, Free, Read, Sync, Loose.
-/
import Derived.Test.YtjmdiobnappgkaaMem
import Derived.Test.YtjmdiobnappgkaaRows
import Derived.Deep.QuietTactic
import Derived.BigQuiet
namespace Go.Proofs.Ytjmdiobnappgkaa
open Go.RowKit
set_option linter.unusedVariables false
set_option linter.unusedSimpArgs false

/-- A disk: both files, what is loose (file, how many bytes), the room. -/
structure DS where
  f0 : ByteArray
  f1 : ByteArray
  loose : List (Nat × Nat)
  room : Nat

def lvals (l : List (Nat × Nat)) : List Value := l.flatMap fun p => [Value.int .i64 (p.1 : Int), Value.int .i64 (p.2 : Int)]
def dcells (d : DS) (v : Value) : Array Value := #[.string d.f0, .string d.f1, v, .int .i64 (d.room : Int)]
theorem lvals_append (a b : List (Nat × Nat)) : lvals (a ++ b) = lvals a ++ lvals b := by simp [lvals]
theorem lvals_length (a : List (Nat × Nat)) : (lvals a).length = a.length * 2 := by
  induction a with
  | nil => rfl
  | cons x l ih => simp only [lvals, List.flatMap_cons, List.length_append, List.length_cons, List.length_nil] at ih ⊢; omega

structure IsDisk (w : World) (base g : Nat) (v : Value) (d : DS) : Prop where
  blk : Blk w g 117 (dcells d v)
  hb : base ≤ g
  own : w.ownsRow base 120 2 v d.loose.length (lvals d.loose)

/-- How many loose bytes file f has. -/
def looseOf (f : Nat) (l : List (Nat × Nat)) : Nat := (l.map fun p => if p.1 = f then p.2 else 0).sum
def looseAll (l : List (Nat × Nat)) : Nat := (l.map fun p => p.2).sum
structure DS.ok (d : DS) : Prop where
  fits : d.f0.size + d.f1.size ≤ d.room
  room : d.room ≤ 16777216
  few : d.loose.length ≤ 1000000
  two : ∀ p ∈ d.loose, p.1 < 2
  l0 : looseOf 0 d.loose ≤ d.f0.size
  l1 : looseOf 1 d.loose ≤ d.f1.size
def DS.free (d : DS) : Nat := d.room - d.f0.size - d.f1.size
def DS.file (d : DS) (f : Nat) : ByteArray := if f = 0 then d.f0 else d.f1

section
variable {w : World} {base g : Nat} {v : Value} {d : DS}
theorem IsDisk.c0 (h : IsDisk w base g v d) : w.cell? ⟨g, 0, none⟩ = some (.string d.f0) := h.blk.cell 0
theorem IsDisk.c1 (h : IsDisk w base g v d) : w.cell? ⟨g, 1, none⟩ = some (.string d.f1) := h.blk.cell 1
theorem IsDisk.c2 (h : IsDisk w base g v d) : w.cell? ⟨g, 2, none⟩ = some v := h.blk.cell 2
theorem IsDisk.c3 (h : IsDisk w base g v d) : w.cell? ⟨g, 3, none⟩ = some (.int .i64 (d.room : Int)) := h.blk.cell 3
theorem IsDisk.fr (h : IsDisk w base g v d) (i : Nat) : w.frozen? ⟨g, i, none⟩ = false := h.blk.frozen i
end

theorem has_yes (f : Int) (h0 : 0 ≤ f) (h2 : f < 2) (w : World) : Calls Try.prog 84 #[.int .i64 f] w fun e w' => e = .returned (.bool true) ∧ w = w' := by
  go_enter Try.func84, Try.ntmps84
  go_wp2
  go_ret
  exact ⟨rfl, rfl⟩
theorem has_no (f : Int) (h : f < 0 ∨ 2 ≤ f) (w : World) : Calls Try.prog 84 #[.int .i64 f] w fun e w' => e = .returned (.bool false) ∧ w = w' := by
  rcases h with h | h
  · have h' : decide (0 ≤ f) = false := by simp; omega
    go_enter Try.func84, Try.ntmps84
    go_wp2
    go_ret
    exact ⟨rfl, rfl⟩
  · have h' : 0 ≤ f := by omega
    have h2 : decide (f < 2) = false := by simp; omega
    go_enter Try.func84, Try.ntmps84
    go_wp2
    go_ret
    exact ⟨rfl, rfl⟩

set_option maxRecDepth 100000 in
set_option maxHeartbeats 400000 in
theorem free_any {base g : Nat} {v : Value} {d : DS} {w : World} (h : IsDisk w base g v d) (hk : d.ok) : Calls Try.prog 37 #[.pointer (some ⟨g, 0, none⟩)] w fun e w' => e = .returned (.int .i64 (d.free : Int)) ∧ ∃ n, w' = w.drewN n := by
  have c0 := h.c0
  have c1 := h.c1
  have c3 := h.c3
  have h1 := hk.fits
  have h2 := hk.room
  have hf : (d.room : Int) - d.f0.size - d.f1.size = (d.free : Int) := by unfold DS.free; omega
  have Hf := Lib.hid hf; clear hf
  clear h
  go_enter Try.func37, Try.ntmps37
  go_wp2
  go_quiet (fail)
  go_wp2
  go_ret
  exact ⟨by rw [← Hf.out]; rfl, _, rfl⟩

theorem read_yes {base g : Nat} {v : Value} {d : DS} {w : World} (h : IsDisk w base g v d) (f : Nat) (hf : f < 2) : Calls Try.prog 33 #[.pointer (some ⟨g, 0, none⟩), .int .i64 (f : Int)] w fun e w' => e = .returned (.string (d.file f)) ∧ w = w' := by
  have c0 := h.c0
  have c1 := h.c1
  have hcase : f = 0 ∨ f = 1 := by omega
  clear h
  rcases hcase with rfl | rfl
  all_goals
    go_enter Try.func33, Try.ntmps33
    go_wp2_with fail
    refine (has_yes _ (by omega) (by omega) _).mono ?_
    rintro e w1 ⟨rfl, rfl⟩
    go_wp2
    go_ret
    exact ⟨rfl, rfl⟩
theorem read_no (g : Nat) (f : Int) (h : f < 0 ∨ 2 ≤ f) (w : World) : Calls Try.prog 33 #[.pointer (some ⟨g, 0, none⟩), .int .i64 f] w fun e w' => e = .returned (.string ⟨#[]⟩) ∧ w = w' := by
  go_enter Try.func33, Try.ntmps33
  go_wp2_with fail
  refine (has_no _ h _).mono ?_
  rintro e w1 ⟨rfl, rfl⟩
  go_wp2
  go_ret
  exact ⟨rfl, rfl⟩

def DS.sync (d : DS) : DS := { d with loose := [] }

set_option maxRecDepth 100000 in
set_option maxHeartbeats 400000 in
theorem sync_any {base g : Nat} {v : Value} {d : DS} {w : World} (h : IsDisk w base g v d) : Calls Try.prog 32 #[.pointer (some ⟨g, 0, none⟩)] w fun e w' => e = .returned (.tuple #[]) ∧ IsDisk w' base g (.slice none 0 0) d.sync ∧ Only w.heap.size [g] w w' := by
  have c2 := h.c2
  have f2 := h.fr 2
  have H := Lib.hid h; clear h
  go_enter Try.func32, Try.ntmps32
  go_wp2
  go_end0
  exact ⟨rfl, ⟨H.out.blk.set_ 2 _, H.out.hb, World.ownsRow_nil _ _ _ _⟩, (Only.refl _ _ _).setCell (.inl (by simp)) _⟩

theorem loose_snoc (l : List (Nat × Nat)) (p : Nat × Nat) : looseAll (l ++ [p]) = looseAll l + p.2 := by simp [looseAll]
theorem looseAll_take_le (l : List (Nat × Nat)) (k : Nat) : looseAll (l.take k) ≤ looseAll l := by
  have : looseAll l = looseAll (l.take k) + looseAll (l.drop k) := by
    simp only [looseAll, ← List.sum_append, ← List.map_append, List.take_append_drop]
  omega
theorem looseAll_two : ∀ (l : List (Nat × Nat)), (∀ p ∈ l, p.1 < 2) → looseAll l = looseOf 0 l + looseOf 1 l
  | [], _ => rfl
  | p :: l, h => by
    have ih := looseAll_two l (fun q hq => h q (List.mem_cons_of_mem _ hq))
    have hp := h p (List.mem_cons_self ..)
    simp only [looseAll, looseOf, List.map_cons, List.sum_cons] at ih ⊢
    have : p.1 = 0 ∨ p.1 = 1 := by omega
    rcases this with h0 | h0 <;> simp [h0] <;> omega
theorem DS.ok.all {d : DS} (h : d.ok) : looseAll d.loose ≤ 16777216 := by
  have h1 := looseAll_two d.loose h.two
  have h2 := h.l0; have h3 := h.l1; have h4 := h.fits; have h5 := h.room
  omega
/-- The two cells of a loose entry. -/
theorem lvals_get (l : List (Nat × Nat)) (k : Nat) (hk : k < l.length) : (lvals l)[k * 2]? = some (.int .i64 (l[k].1 : Int)) ∧ (lvals l)[k * 2 + 1]? = some (.int .i64 (l[k].2 : Int)) := by
  induction l generalizing k with
  | nil => simp at hk
  | cons p l ih =>
    cases k with
    | zero => simp [lvals]
    | succ k =>
      have := ih k (by simpa using hk)
      simp only [lvals, List.flatMap_cons, List.cons_append, List.nil_append, List.getElem_cons_succ] at this ⊢
      rw [show (k + 1) * 2 = k * 2 + 1 + 1 by omega, show k * 2 + 1 + 1 + 1 = (k * 2 + 1) + 1 + 1 by omega]
      simpa using this

set_option maxRecDepth 100000 in
set_option maxHeartbeats 400000 in
theorem loose_any {base g : Nat} {v : Value} {d : DS} {w : World} (h : IsDisk w base g v d) (hk : d.ok) : Calls Try.prog 34 #[.pointer (some ⟨g, 0, none⟩)] w fun e w' => e = .returned (.int .i64 (looseAll d.loose : Int)) ∧ Below w.heap.size w w' := by
  have c2 := h.c2
  have hall := hk.all
  have hfew := hk.few
  have hown := h.own
  have H := Lib.hid h; clear h
  rcases hown.2 with ⟨rfl, hn⟩ | ⟨gr, cap, cur, rfl, hbr, hh, hn, hm, hsz, htk⟩
  · have e0 : d.loose = [] := List.eq_nil_of_length_eq_zero hn
    rw [e0]
    have H2 := Lib.hid hn; clear hn hown e0
    go_enter Try.func34, Try.ntmps34
    go_wp2
    refine wp_loop_rounds 1 ?_
    rw [rounds_succ]
    go_wp2
    go_ret
    exact ⟨rfl, Below.refl _ _⟩
  · have hcell := hown.cellAt
    have Hcell := Lib.hid hcell; clear hcell
    clear hown
    have Hsz := Lib.hid hsz; clear hsz
    have Htk := Lib.hid htk; clear htk
    have hrlt : gr < w.heap.size := (Array.getElem?_eq_some_iff.1 hh).1
    have Hh := Lib.hid hh; clear hh
    go_enter Try.func34, Try.ntmps34
    go_wp2
    go_loopw [3, 11] (fun n i wr => ∃ k : Nat, k ≤ d.loose.length ∧ i = .int .i64 k ∧ n = .int .i64 (looseAll (d.loose.take k) : Int) ∧ Below w.heap.size w wr) (fun _ i _ => d.loose.length - (intOf i).toNat)
    case atStart => exact ⟨0, Nat.zero_le _, rfl, rfl, Below.refl _ _⟩
    case round =>
      obtain ⟨k, hk', rfl, rfl, hbel⟩ := hrel
      have hz := hbel.size
      by_cases hlt : k < d.loose.length
      · have hc0 : wr.cell? ⟨gr, k * 2, none⟩ = some (.int .i64 (d.loose[k].1 : Int)) := by
          rw [hbel.cell (by exact hrlt), Hcell.out (k * 2) (by omega)]; exact (lvals_get _ k hlt).1
        have hc1 : wr.cell? ⟨gr, k * 2 + 1, none⟩ = some (.int .i64 (d.loose[k].2 : Int)) := by
          rw [hbel.cell (by exact hrlt), Hcell.out (k * 2 + 1) (by omega)]; exact (lvals_get _ k hlt).2
        have hsn : looseAll (d.loose.take (k + 1)) = looseAll (d.loose.take k) + d.loose[k].2 := by
          rw [List.take_succ_eq_append_getElem hlt, loose_snoc]
        have hle := looseAll_take_le d.loose (k + 1)
        have hb1 : looseAll (d.loose.take k) + d.loose[k].2 ≤ 16777216 := by omega
        have Hsn := Lib.hid hsn; clear hsn hle
        go_wp2
        go_roundw
        case rel => exact ⟨k + 1, by omega, by go_num, by rw [Hsn.out]; go_num, hbel.alloc hz _⟩
        case measure => simp [intOf]; omega
      · obtain rfl : k = d.loose.length := by omega
        have Hfin := Lib.hid (List.take_length (l := d.loose))
        go_wp2
        go_ret
        exact ⟨by rw [← Hfin.out]; simp, hbel⟩

set_option maxRecDepth 100000 in
set_option maxHeartbeats 400000 in
theorem new_no (n : Int) (h : n < 0 ∨ 16777216 < n) (w : World) : Calls Try.prog 30 #[.int .i64 n] w fun e w' => e = .returned (.tuple #[.pointer none, .int .i64 1]) ∧ w = w' := by
  rcases h with h | h
  · go_enter Try.func30, Try.ntmps30
    go_wp2
    go_ret2
    exact ⟨rfl, rfl⟩
  · have h' : decide (n < 0) = false := by simp; omega
    go_enter Try.func30, Try.ntmps30
    go_wp2
    go_ret2
    exact ⟨rfl, rfl⟩
def DS.empty (room : Nat) : DS := ⟨⟨#[]⟩, ⟨#[]⟩, [], room⟩
theorem DS.empty_ok (n : Nat) (h : n ≤ 16777216) : (DS.empty n).ok := ⟨Nat.zero_le n, h, by simp [DS.empty], by simp [DS.empty], by simp [DS.empty, looseOf], by simp [DS.empty, looseOf]⟩
set_option maxRecDepth 100000 in
set_option maxHeartbeats 400000 in
theorem new_yes (n : Nat) (h : n ≤ 16777216) (w : World) : Calls Try.prog 30 #[.int .i64 (n : Int)] w fun e w' => e = .returned (.tuple #[.pointer (some ⟨w.heap.size, 0, none⟩), .int .i64 0]) ∧ IsDisk w' w.heap.size w.heap.size (.slice none 0 0) (DS.empty n) ∧ Only w.heap.size [] w w' := by
  go_enter Try.func30, Try.ntmps30
  go_wp2
  go_ret2
  exact ⟨rfl, ⟨Blk.new _ _ _, Nat.le_refl _, World.ownsRow_nil _ _ _ _⟩, (Only.refl _ _ _).alloc (Nat.le_refl _) _⟩
end Go.Proofs.Ytjmdiobnappgkaa
