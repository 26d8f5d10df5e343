/-
  What every statement of this seat takes from its row's list: the tables in memory; and a world for the witness, in which they lie.
-/
import Derived.Test.YtkdajlhmodmkoaaDoorCards
import Derived.Test.YtkdajlhmodmkoaaDoorTie
import Derived.Test.YtkdajlhmodmkoaaDoorShaR
import Derived.Lib.LaidTab
import Derived.Stop.LaidErr
namespace Go.Proofs.YtkdajlhmodmkoaaDoor
open Go.RowKit
set_option linter.unusedVariables false

theorem gBegin : Tryd.prog.globalNamed "syngraph/sha.begin" = some 0 := by kernel_rfl
theorem gKey : Tryd.prog.globalNamed "syngraph/sha.key" = some 1 := by kernel_rfl
theorem gBru : Tryd.prog.globalNamed "math/bits.deBruijn64tab" = some 2 := by kernel_rfl
theorem tyBegin : (Tryd.prog.globals[0]?).map (·.type) = some 27 := by kernel_rfl
theorem tyKey : (Tryd.prog.globals[1]?).map (·.type) = some 109 := by kernel_rfl
theorem tyBru : (Tryd.prog.globals[2]?).map (·.type) = some 28 := by kernel_rfl
theorem cells26 : Tryd.prog.cellsOf 26 = 1 := by kernel_rfl
theorem cells5 : Tryd.prog.cellsOf 5 = 1 := by kernel_rfl
theorem cells27 : Tryd.prog.cellsOf 27 = 8 := by kernel_rfl
theorem cells28 : Tryd.prog.cellsOf 28 = 64 := by kernel_rfl
theorem cells109 : Tryd.prog.cellsOf 109 = 64 := by kernel_rfl
def zBegin : List Int := (vl ShaM.begin8).map fun x => (x.toNat : Int)
def zKey : List Int := ShaM.K.map fun x => (x.toNat : Int)
def zBru : List Int := [0, 1, 56, 2, 57, 49, 28, 3, 61, 58, 42, 50, 38, 29, 17, 4, 62, 47, 59, 36, 45, 43, 51, 22, 53, 39, 33, 30, 24, 18, 12, 5, 63, 55, 48, 27, 60, 41, 37, 16, 46, 35, 44, 21, 52, 32, 23, 11, 54, 26, 40, 15, 34, 20, 31, 10, 25, 14, 19, 9, 13, 8, 7, 6]
theorem dBegin : (Rows.laid_syngraph_sha_begin : DataW Unit) = Lib.tabData .u32 zBegin := by kernel_rfl
theorem dKey : (Rows.laid_syngraph_sha_key : DataW Unit) = Lib.tabData .u32 zKey := by kernel_rfl
theorem dBru : (Rows.laid_math_bits_deBruijn64tab : DataW Unit) = Lib.tabData .u8 zBru := by kernel_rfl
theorem block_of_var {P : Program} {W : World} {name : String} {g : Nat} {cs : Array Value} (hg : P.globalNamed name = some g) (h : W.var? P name = some cs) : ∃ t fr, W.heap[g]? = some (.cells cs t fr) := by
  unfold World.var? at h
  rw [hg, Option.bind_some] at h
  split at h
  · rename_i c t fr hw
    obtain rfl := Option.some.inj h
    exact ⟨t, fr, hw⟩
  · cases h
theorem tab_of {W : World} {rest : List (String × DataW Unit)} (h : laidMet Tryd.prog (("syngraph/sha.begin", Rows.laid_syngraph_sha_begin) :: ("syngraph/sha.key", Rows.laid_syngraph_sha_key) :: rest) W) : Tab W := by
  have h2 := h.tail
  rw [dBegin] at h
  rw [dKey] at h2
  have a := Lib.tabIs_of_head gBegin tyBegin Tryd.underlying27 Tryd.underlying26 cells26 cells27 h
  have b := Lib.tabIs_of_head gKey tyKey Tryd.underlying109 Tryd.underlying26 cells26 cells109 h2
  refine ⟨?_, ?_⟩
  · obtain ⟨t, fr, e⟩ := block_of_var gBegin a
    exact ⟨t, fr, by rw [e, zBegin, List.map_map]; rfl⟩
  · obtain ⟨t, fr, e⟩ := block_of_var gKey b
    exact ⟨t, fr, by rw [e, zKey, List.map_map]; rfl⟩
/-- The third table. -/
def Bru (w : World) : Prop := ∃ t fr, w.heap[2]? = some (.cells (zBru.map fun z => Value.int .u8 z).toArray t fr)
theorem bru_of {W : World} {rest : List (String × DataW Unit)} (h : laidMet Tryd.prog (("math/bits.deBruijn64tab", Rows.laid_math_bits_deBruijn64tab) :: rest) W) : Bru W := by
  rw [dBru] at h
  exact block_of_var gBru (Lib.tabIs_of_head gBru tyBru Tryd.underlying28 Tryd.underlying5 cells5 cells28 h)
/-- What a variable holds is laid. -/
def layCells (cs : Array Value) : Obj → Obj
  | .cells _ t frozen => .cells cs t frozen
  | o => o
/-- A world in which the tables lie. -/
noncomputable def laidWorld (os : Os) : World :=
  { World.holding Tryd.prog os ⟨#[], #[], []⟩ with
    heap := (((World.holding Tryd.prog os ⟨#[], #[], []⟩).heap.modify 0 (layCells (zBegin.map fun z => Value.int .u32 z).toArray)).modify 1 (layCells (zKey.map fun z => Value.int .u32 z).toArray)).modify 2 (layCells (zBru.map fun z => Value.int .u8 z).toArray) }
end Go.Proofs.YtkdajlhmodmkoaaDoor
