/-
  Layer 2 (sha): small laws for eat.
-/
import Derived.Test.YtkdajlhmodmkoaaDoorShaR
namespace Go.Proofs.YtkdajlhmodmkoaaDoor
open Go.RowKit
set_option linter.unusedVariables false
set_option linter.unusedSimpArgs false

theorem c_not' (x : UInt32) : bits .xor .u32 (if IntKind.u32.signed = true then -1 else IntKind.u32.max) (x.toNat : Int) = ((unot x).toNat : Int) := c_not x
theorem c_sum41 (a b c d e : UInt32) : (((a.toNat : Int) + (b.toNat : Int) + (c.toNat : Int) + (d.toNat : Int)) % 4294967296 + (e.toNat : Int)) % 4294967296 = ((a + b + c + d + e).toNat : Int) := by
  rw [UInt32.toNat_add, UInt32.toNat_add, UInt32.toNat_add, UInt32.toNat_add]; omega
/-- The first k words have been added. -/
def acc (s t : List UInt32) (k : Nat) : List UInt32 := (List.zipWith (fun x y => x + y) s t).take k ++ s.drop k
theorem acc_zero (s t : List UInt32) : acc s t 0 = s := rfl
theorem acc_all (x y : ShaM.V8) : acc (vl x) (vl y) 8 = vl (ShaM.add8 x y) := rfl
theorem acc_length (s t : List UInt32) (k : Nat) (hs : s.length = 8) (ht : t.length = 8) (hk : k ≤ 8) : (acc s t k).length = 8 := by simp [acc, hs, ht]; omega
theorem acc_get (s t : List UInt32) (k : Nat) (hs : s.length = 8) (ht : t.length = 8) (hk : k < 8) : (acc s t k).getD k 0 = s.getD k 0 := by
  simp only [acc, List.getD_eq_getElem?_getD]
  rw [List.getElem?_append_right (by simp [hs, ht]; omega)]
  simp [hs, ht, Nat.min_eq_left (Nat.le_of_lt hk)]
theorem acc_set (s t : List UInt32) (k : Nat) (hs : s.length = 8) (ht : t.length = 8) (hk : k < 8) : (acc s t k).set k (s.getD k 0 + t.getD k 0) = acc s t (k + 1) := by
  have hl : ((List.zipWith (fun x y => x + y) s t).take k).length = k := by simp [hs, ht]; omega
  unfold acc
  rw [List.set_append_right _ _ (by omega), hl, Nat.sub_self, List.drop_eq_getElem_cons (by omega), List.set_cons_zero, List.take_succ_eq_append_getElem (by simp [hs, ht]; omega), List.getElem_zipWith, List.append_assoc]
  simp [List.getD_eq_getElem?_getD, List.getElem?_eq_getElem (show k < s.length by omega), List.getElem?_eq_getElem (show k < t.length by omega)]
theorem index27 (v : ShaM.V8) (w : World) : ∀ k : Nat, k < 8 → (Instr.index 27 (.agg (ucells (vl v))) (.int .i64 (k : Int))).run Tryd.prog w = .ok (.int .u32 (((vl v).getD k 0).toNat : Int)) w
  | 0, _ => by kernel_rfl
  | 1, _ => by kernel_rfl
  | 2, _ => by kernel_rfl
  | 3, _ => by kernel_rfl
  | 4, _ => by kernel_rfl
  | 5, _ => by kernel_rfl
  | 6, _ => by kernel_rfl
  | 7, _ => by kernel_rfl
  | k + 8, h => absurd h (by omega)
theorem wpList_build_eq {P : Program} {ops : Array Oper} {rest : List Oper} {o : Oper} {a : Act} {w : World} {Q : Exit → Act → World → Prop} (hg : o.guard = none) (t : TypeId) (parts : Array (Nat × Operand)) (ho : o.op = .build t parts)
    (cs : Array Value) (hf : P.built t (parts.map fun (i, x) => (i, a.eval x)).toList = some cs)
    (h : wpList P ops Q rest (a.put o.dst (.agg cs)) w) : wpList P ops Q (o :: rest) a w :=
  wpList_build hg t parts ho (by rw [hf]; rfl) (by rw [hf]; exact h)
def uadd (x y : UInt32) : UInt32 := x + y
theorem c_add (a b : UInt32) : ((a.toNat : Int) + (b.toNat : Int)) % 4294967296 = ((uadd a b).toNat : Int) := c_sum2 a b
theorem info27 : (Tryd.prog.info? 27).map (·.size) = some 8 := by kernel_rfl
theorem inf27 (v : ShaM.V8) : (Tryd.prog.info? 27).map (·.size) = some (ucells (vl v)).size := info27
theorem inf27l (v : ShaM.V8) : (Tryd.prog.info? 27).map (·.size) = some ((vl v).map uval).length := info27
theorem vl_one (v : ShaM.V8) : (ucells (vl v)).all (·.oneCell') = true := by simp [ucells, vl, uval, Value.oneCell']
theorem there8 {w : World} {g : Nat} {on : Bool} {s : List UInt32} {left : List UInt8} {n : Nat} (h : RB w g on s left n) (v : ShaM.V8) : w.there g 1 (ucells (vl v)).size := h.there

theorem only_setCells (w : World) (g o : Nat) (cs : List Value) : Only w.heap.size [g] w (w.setCells g o cs) := by
  have h := setCells_tape g cs o w
  exact ⟨h.2.1, h.1, h.2.2.1, by rw [h.2.2.2]; exact Nat.le_refl _, fun k hk hn => World.heap_setCells_other w g o cs hk (by simpa using hn)⟩
def zero8 : Array Value := #[.int .u32 0, .int .u32 0, .int .u32 0, .int .u32 0, .int .u32 0, .int .u32 0, .int .u32 0, .int .u32 0]
theorem Only.setRow {B : Nat} {l : List Nat} {a w : World} (h : Only B l a w) {g : Nat} (hp : g ∈ l ∨ B ≤ g) (cs : Array Value) : Only B l a (w.setRow g cs) :=
  h.trans ⟨rfl, rfl, rfl, by simp, fun k hk hn => setRow_other w g k cs (by rintro rfl; rcases hp with hp | hp; exact hn hp; omega)⟩
theorem ntab {g : Nat} (hg : 2 ≤ g) : 0 ∉ [g] ∧ 1 ∉ [g] := ⟨by simp; omega, by simp; omega⟩
theorem ucells_get (l : List UInt32) (i : Nat) (h : i < l.length) : (ucells l)[i]? = some (.int .u32 ((l.getD i 0).toNat : Int)) := by
  simp only [ucells, List.getElem?_toArray, List.getElem?_map]
  rw [List.getElem?_eq_getElem h, List.getD_eq_getElem?_getD, List.getElem?_eq_getElem h]
  rfl
theorem Tab.grow {w w' : World} {g : Nat} (h : Tab w) (ho : Only w.heap.size [g] w w') (hg : 2 ≤ g) : Tab w' := h.only ho h.lt (ntab hg).1 (ntab hg).2

end Go.Proofs.YtkdajlhmodmkoaaDoor
