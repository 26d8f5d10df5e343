/-
  Closed facts on the whole program, each proved once for all statements of this seat.
-/
import Derived.Test.YtkdajlhmodmkoaaDoorRows
import Derived.JoinedOf
import Derived.KernelRfl
namespace Go.Proofs.YtkdajlhmodmkoaaDoor
open Go
set_option linter.unusedVariables false

def headCodes : List Nat := [104, 97, 114, 110, 101, 115, 115, 32, 102, 98, 55, 51, 98, 51, 99, 101, 49, 98, 98, 98, 97, 102, 101, 48, 50, 98, 49, 49, 99, 97, 97, 101, 49, 50, 50, 102, 99, 52, 48, 52, 52, 54, 100, 55, 100, 100, 53, 99, 51, 99, 52, 50, 51, 56, 102, 56, 54, 99, 49, 53, 100, 53, 101, 49, 102, 48, 98, 99, 99, 99, 50, 56, 32, 99, 117, 116, 32, 97, 116, 32, 115, 121, 110, 103, 114, 97, 112, 104, 47, 115, 121, 110, 103, 114, 97, 112, 104, 108, 97, 119, 48, 50, 46, 83, 104, 97, 83, 117, 109, 115, 32, 115, 121, 110, 103, 114, 97, 112, 104, 47, 115, 121, 110, 103, 114, 97, 112, 104, 108, 97, 119, 48, 50, 46, 83, 104, 97, 78, 111, 100, 101, 115, 32, 115, 121, 110, 103, 114, 97, 112, 104, 47, 115, 121, 110, 103, 114, 97, 112, 104, 108, 97, 119, 48, 50, 46, 83, 104, 97, 80, 97, 114, 116, 115, 32, 115, 121, 110, 103, 114, 97, 112, 104, 47, 115, 121, 110, 103, 114, 97, 112, 104, 108, 97, 119, 48, 50, 46, 83, 104, 97, 72, 101, 120, 32, 115, 121, 110, 103, 114, 97, 112, 104, 47, 115, 121, 110, 103, 114, 97, 112, 104, 108, 97, 119, 48, 50, 46, 83, 104, 97, 76, 111, 110, 103, 32, 115, 121, 110, 103, 114, 97, 112, 104, 47, 115, 121, 110, 103, 114, 97, 112, 104, 108, 97, 119, 48, 50, 46, 83, 104, 97, 82, 117, 110, 115, 32, 115, 121, 110, 103, 114, 97, 112, 104, 47, 115, 121, 110, 103, 114, 97, 112, 104, 108, 97, 119, 48, 56, 46, 84, 114, 101, 101, 82, 111, 111, 116, 115, 32, 115, 121, 110, 103, 114, 97, 112, 104, 47, 115, 121, 110, 103, 114, 97, 112, 104, 108, 97, 119, 48, 56, 46, 84, 114, 101, 101, 82, 97, 110, 103, 101, 115, 32, 115, 121, 110, 103, 114, 97, 112, 104, 47, 115, 121, 110, 103, 114, 97, 112, 104, 108, 97, 119, 48, 56, 46, 84, 114, 101, 101, 84, 111, 112, 115, 32, 115, 121, 110, 103, 114, 97, 112, 104, 47, 115, 121, 110, 103, 114, 97, 112, 104, 108, 97, 119, 48, 56, 46, 84, 114, 101, 101, 80, 97, 114, 116, 115, 32, 115, 121, 110, 103, 114, 97, 112, 104, 47, 115, 121, 110, 103, 114, 97, 112, 104, 108, 97, 119, 48, 56, 46, 84, 114, 101, 101, 75, 101, 101, 112, 115, 32, 115, 121, 110, 103, 114, 97, 112, 104, 47, 115, 121, 110, 103, 114, 97, 112, 104, 108, 97, 119, 48, 56, 46, 84, 114, 101, 101, 80, 101, 97, 107, 115, 32, 115, 121, 110, 103, 114, 97, 112, 104, 47, 115, 121, 110, 103, 114, 97, 112, 104, 108, 97, 119, 48, 57, 46, 80, 114, 111, 111, 102, 84, 101, 108, 108, 115, 32, 115, 121, 110, 103, 114, 97, 112, 104, 47, 115, 121, 110, 103, 114, 97, 112, 104, 108, 97, 119, 48, 57, 46, 80, 114, 111, 111, 102, 65, 117, 100, 105, 116, 115, 32, 115, 121, 110, 103, 114, 97, 112, 104, 47, 115, 121, 110, 103, 114, 97, 112, 104, 108, 97, 119, 48, 57, 46, 80, 114, 111, 111, 102, 66, 114, 105, 100, 103, 101, 115, 32, 115, 121, 110, 103, 114, 97, 112, 104, 47, 115, 121, 110, 103, 114, 97, 112, 104, 108, 97, 119, 48, 57, 46, 80, 114, 111, 111, 102, 80, 97, 116, 104, 115, 32, 115, 121, 110, 103, 114, 97, 112, 104, 47, 115, 121, 110, 103, 114, 97, 112, 104, 108, 97, 119, 48, 57, 46, 80, 114, 111, 111, 102, 67, 108, 97, 115, 104, 32, 115, 121, 110, 103, 114, 97, 112, 104, 47, 115, 121, 110, 103, 114, 97, 112, 104, 108, 97, 119, 48, 57, 46, 80, 114, 111, 111, 102, 83, 111, 117, 110, 100, 32, 115, 121, 110, 103, 114, 97, 112, 104, 47, 115, 121, 110, 103, 114, 97, 112, 104, 108, 97, 119, 48, 57, 46, 80, 114, 111, 111, 102, 76, 111, 110, 103]
theorem head_list : Tryd.prog.initOrder.toList = headCodes.map Char.ofNat := by
  have h : Tryd.prog.initOrder = String.ofList (headCodes.map Char.ofNat) := by kernel_rfl
  rw [h]; exact String.toList_ofList
theorem fact_laidOut : laidOutB Tryd.prog = true := by kernel_rfl
theorem fact_maps : mapsRowed Tryd.prog = true := by kernel_rfl
theorem fact_stops : (Tryd.prog.stops == []) = true := by kernel_rfl
theorem fact_knobs : (Tryd.prog.stopKnobs == []) = true := by kernel_rfl
theorem fact_plain : Tryd.prog.plainKeys = true := by kernel_rfl
theorem fact_heard : Tryd.prog.stopsHeard = true := by kernel_rfl
theorem enter_key (s : String) (h : s.toList = headCodes.map Char.ofNat) : Program.mayEnter { toTables := { Tryd.progTables with initOrder := s }, funcs := Tryd.funcs } = true := by
  unfold Program.mayEnter
  dsimp only
  rw [h]
  kernel_rfl
theorem lifts_key (s : String) (h : s.toList = headCodes.map Char.ofNat) : Program.liftsFinal { toTables := { Tryd.progTables with initOrder := s }, funcs := Tryd.funcs } = false := by
  unfold Program.liftsFinal Program.headLifts
  dsimp only
  rw [h]
  kernel_rfl
theorem make_key (s : String) (h : s.toList = headCodes.map Char.ofNat) : Program.make { toTables := { Tryd.progTables with initOrder := s }, funcs := Tryd.funcs } = some .cut := by
  unfold Program.make
  dsimp only
  rw [h]
  kernel_rfl
theorem fact_enter : Tryd.prog.mayEnter = true := enter_key _ head_list
theorem fact_lifts : Tryd.prog.liftsFinal = false := lifts_key _ head_list
theorem fact_make : Tryd.prog.make = some .cut := make_key _ head_list
end Go.Proofs.YtkdajlhmodmkoaaDoor
