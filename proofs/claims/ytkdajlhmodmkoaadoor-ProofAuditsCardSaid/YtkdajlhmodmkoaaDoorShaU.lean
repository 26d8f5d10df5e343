/-
  Layer 2 (sha): the numbers of the walk as words.
-/
import Derived.Test.YtkdajlhmodmkoaaDoorK
import Derived.Laws.CopyOwn
import Derived.Test.YtkdajlhmodmkoaaDoorShaM
namespace Go.Proofs.YtkdajlhmodmkoaaDoor
open Go.RowKit
set_option linter.unusedVariables false
set_option linter.unusedSimpArgs false

theorem u_lt (x : UInt32) : x.toNat < 4294967296 := x.toNat_lt
theorem u_add (x y : UInt32) : IntKind.u32.wrap ((x.toNat : Int) + (y.toNat : Int)) = ((x + y).toNat : Int) := by
  rw [IntKind.wrap_u32', UInt32.toNat_add]; omega
theorem u_xor (x y : UInt32) : bits .xor .u32 (x.toNat : Int) (y.toNat : Int) = ((x ^^^ y).toNat : Int) := by
  rw [u32_xor_nat _ _ x.toNat_lt y.toNat_lt, UInt32.toNat_xor]
theorem u_and (x y : UInt32) : bits .and .u32 (x.toNat : Int) (y.toNat : Int) = ((x &&& y).toNat : Int) := by
  rw [u32_and_nat _ _ x.toNat_lt y.toNat_lt, UInt32.toNat_and]
theorem u_or (x y : UInt32) : bits .or .u32 (x.toNat : Int) (y.toNat : Int) = ((x ||| y).toNat : Int) := by
  rw [u32_or_nat _ _ x.toNat_lt y.toNat_lt, UInt32.toNat_or]
theorem u_sub (x : UInt32) : (4294967295 : Int) - (x.toNat : Int) = ((~~~x).toNat : Int) := by
  have := x.toNat_lt
  rw [UInt32.toNat_not]
  simp only [UInt32.size]; omega
theorem flip_nat (n : Nat) (h : n < 4294967296) : 4294967295 ^^^ n = 4294967295 - n := by
  have h1 : (~~~(UInt32.ofNat n)).toNat = 4294967295 - n := by
    rw [UInt32.toNat_not, UInt32.toNat_ofNat']; simp only [UInt32.size]; omega
  have h2 : (UInt32.ofNat 4294967295 ^^^ UInt32.ofNat n).toNat = 4294967295 ^^^ n := by
    rw [UInt32.toNat_xor, UInt32.toNat_ofNat', UInt32.toNat_ofNat', Nat.mod_eq_of_lt h]
  have h3 : UInt32.ofNat 4294967295 ^^^ UInt32.ofNat n = ~~~(UInt32.ofNat n) := by
    show (-1 : UInt32) ^^^ _ = _
    simp
  rw [← h2, h3, h1]
theorem u_not (x : UInt32) : bits .xor .u32 IntKind.u32.max (x.toNat : Int) = ((~~~x).toNat : Int) := by
  have h := u32_xor_nat 4294967295 x.toNat (by omega) x.toNat_lt
  rw [flip_nat _ x.toNat_lt] at h
  rw [← u_sub]
  have := x.toNat_lt
  rw [show (4294967295 : Int) - (x.toNat : Int) = ((4294967295 - x.toNat : Nat) : Int) by omega, ← h]; rfl
/-- The words' operations, closed to the walk. -/
def uxor (x y : UInt32) : UInt32 := x ^^^ y
def uand (x y : UInt32) : UInt32 := x &&& y
def unot (x : UInt32) : UInt32 := ~~~x
theorem c_xor (x y : UInt32) : bits .xor .u32 (x.toNat : Int) (y.toNat : Int) = ((uxor x y).toNat : Int) := u_xor x y
theorem c_and (x y : UInt32) : bits .and .u32 (x.toNat : Int) (y.toNat : Int) = ((uand x y).toNat : Int) := u_and x y
theorem c_not (x : UInt32) : bits .xor .u32 IntKind.u32.max (x.toNat : Int) = ((unot x).toNat : Int) := u_not x
theorem c_sum2 (a b : UInt32) : ((a.toNat : Int) + (b.toNat : Int)) % 4294967296 = ((a + b).toNat : Int) := by
  rw [UInt32.toNat_add]; omega
theorem c_sum4 (a b c d : UInt32) : ((a.toNat : Int) + (b.toNat : Int) + (c.toNat : Int) + (d.toNat : Int)) % 4294967296 = ((a + b + c + d).toNat : Int) := by
  rw [UInt32.toNat_add, UInt32.toNat_add, UInt32.toNat_add]; omega
theorem c_sum5 (a b c d e : UInt32) : ((a.toNat : Int) + (b.toNat : Int) + (c.toNat : Int) + (d.toNat : Int) + (e.toNat : Int)) % 4294967296 = ((a + b + c + d + e).toNat : Int) := by
  rw [UInt32.toNat_add, UInt32.toNat_add, UInt32.toNat_add, UInt32.toNat_add]; omega
/-- A whole block is stored anew. -/
theorem run_storeCells_blk {P : Program} {w : World} {g : Nat} {t : TypeId} {old : Array Value} (h : Blk w g t old) (cs : Array Value) (hs : cs.size = old.size) (h1 : ∀ v ∈ cs.toList, v.oneCell' = true) :
    (storeCells ⟨g, 0, none⟩ cs.toList).run P w = .ok () (w.setRow g cs) := by
  have := run_storeCells_at (P := P) g 0 t cs.toList 0 old w h (by simp [hs]) h1
  rw [this]
  congr 2
  rw [List.drop_eq_nil_of_le (by simp [hs])]
  simp
theorem Blk.setRow {w : World} {g : Nat} {t : TypeId} {old : Array Value} (h : Blk w g t old) (cs : Array Value) : Blk (w.setRow g cs) g t cs := setRow_heap w g old cs t (0, 0) h
theorem Blk.setRow_far {w : World} {g k : Nat} {t : TypeId} {old : Array Value} (h : Blk w g t old) (cs : Array Value) (hk : g ≠ k) : Blk (w.setRow k cs) g t old := (setRow_other w k g cs hk).trans h
theorem blk_new2 (w : World) (o : Obj) (t : TypeId) (cs : Array Value) : Blk ((w.alloc o).alloc (.cells cs t)) (w.heap.size + 1) t cs := by
  have h := Blk.new (w.alloc o) t cs
  rw [show (w.alloc o).heap.size = w.heap.size + 1 by simp] at h
  exact h
end Go.Proofs.YtkdajlhmodmkoaaDoor
