/-
  Closed facts on the whole program, each proved once for all statements of this seat.
-/
import Derived.Test.YtjmdiobnappgkaaRows
import Derived.JoinedOf
import Derived.KernelRfl
namespace Go.Proofs.Ytjmdiobnappgkaa
open Go
set_option linter.unusedVariables false

def headCodes : List Nat := [104, 97, 114, 110, 101, 115, 115, 32, 57, 52, 48, 98, 98, 52, 98, 97, 55, 54, 50, 56, 101, 51, 54, 50, 54, 102, 100, 53, 100, 49, 57, 56, 99, 102, 49, 56, 50, 102, 52, 97, 51, 55, 97, 52, 101, 53, 53, 57, 97, 99, 98, 101, 57, 49, 100, 55, 54, 55, 53, 57, 48, 54, 50, 101, 98, 49, 102, 53, 51, 101, 97, 53, 32, 99, 117, 116, 32, 97, 116, 32, 115, 121, 110, 103, 114, 97, 112, 104, 47, 115, 121, 110, 103, 114, 97, 112, 104, 108, 97, 119, 49, 48, 46, 67, 114, 99, 83, 117, 109, 115, 32, 115, 121, 110, 103, 114, 97, 112, 104, 47, 115, 121, 110, 103, 114, 97, 112, 104, 108, 97, 119, 49, 48, 46, 67, 114, 99, 80, 97, 114, 116, 115, 32, 115, 121, 110, 103, 114, 97, 112, 104, 47, 115, 121, 110, 103, 114, 97, 112, 104, 108, 97, 119, 49, 48, 46, 67, 114, 99, 79, 110, 101, 32, 115, 121, 110, 103, 114, 97, 112, 104, 47, 115, 121, 110, 103, 114, 97, 112, 104, 108, 97, 119, 49, 48, 46, 67, 114, 99, 76, 105, 110, 101, 97, 114, 32, 115, 121, 110, 103, 114, 97, 112, 104, 47, 115, 121, 110, 103, 114, 97, 112, 104, 108, 97, 119, 49, 48, 46, 67, 114, 99, 80, 117, 116, 115, 32, 115, 121, 110, 103, 114, 97, 112, 104, 47, 115, 121, 110, 103, 114, 97, 112, 104, 108, 97, 119, 49, 52, 46, 68, 105, 115, 107, 75, 101, 101, 112, 115, 32, 115, 121, 110, 103, 114, 97, 112, 104, 47, 115, 121, 110, 103, 114, 97, 112, 104, 108, 97, 119, 49, 52, 46, 68, 105, 115, 107, 84, 117, 114, 110, 115, 32, 115, 121, 110, 103, 114, 97, 112, 104, 47, 115, 121, 110, 103, 114, 97, 112, 104, 108, 97, 119, 49, 52, 46, 68, 105, 115, 107, 82, 111, 111, 109, 32, 115, 121, 110, 103, 114, 97, 112, 104, 47, 115, 121, 110, 103, 114, 97, 112, 104, 108, 97, 119, 49, 52, 46, 68, 105, 115, 107, 84, 114, 105, 109, 115, 32, 115, 121, 110, 103, 114, 97, 112, 104, 47, 115, 121, 110, 103, 114, 97, 112, 104, 108, 97, 119, 49, 52, 46, 68, 105, 115, 107, 68, 111, 101, 115, 32, 115, 121, 110, 103, 114, 97, 112, 104, 47, 115, 121, 110, 103, 114, 97, 112, 104, 108, 97, 119, 49, 49, 46, 87, 105, 114, 101, 87, 114, 105, 116, 101, 115, 32, 115, 121, 110, 103, 114, 97, 112, 104, 47, 115, 121, 110, 103, 114, 97, 112, 104, 108, 97, 119, 49, 49, 46, 87, 105, 114, 101, 66, 97, 99, 107, 32, 115, 121, 110, 103, 114, 97, 112, 104, 47, 115, 121, 110, 103, 114, 97, 112, 104, 108, 97, 119, 49, 49, 46, 87, 105, 114, 101, 78, 117, 109, 115, 32, 115, 121, 110, 103, 114, 97, 112, 104, 47, 115, 121, 110, 103, 114, 97, 112, 104, 108, 97, 119, 49, 49, 46, 87, 105, 114, 101, 82, 101, 97, 100, 115, 32, 115, 121, 110, 103, 114, 97, 112, 104, 47, 115, 121, 110, 103, 114, 97, 112, 104, 108, 97, 119, 49, 49, 46, 87, 105, 114, 101, 69, 114, 114, 115, 32, 115, 121, 110, 103, 114, 97, 112, 104, 47, 115, 121, 110, 103, 114, 97, 112, 104, 108, 97, 119, 49, 53, 46, 74, 111, 117, 114, 110, 97, 108, 68, 111, 101, 115, 32, 115, 121, 110, 103, 114, 97, 112, 104, 47, 115, 121, 110, 103, 114, 97, 112, 104, 108, 97, 119, 49, 53, 46, 74, 111, 117, 114, 110, 97, 108, 70, 114, 97, 109, 101, 115, 32, 115, 121, 110, 103, 114, 97, 112, 104, 47, 115, 121, 110, 103, 114, 97, 112, 104, 108, 97, 119, 49, 53, 46, 74, 111, 117, 114, 110, 97, 108, 75, 101, 101, 112, 115, 32, 115, 121, 110, 103, 114, 97, 112, 104, 47, 115, 121, 110, 103, 114, 97, 112, 104, 108, 97, 119, 49, 53, 46, 74, 111, 117, 114, 110, 97, 108, 79, 114, 100, 101, 114, 32, 115, 121, 110, 103, 114, 97, 112, 104, 47, 115, 121, 110, 103, 114, 97, 112, 104, 108, 97, 119, 49, 53, 46, 74, 111, 117, 114, 110, 97, 108, 70, 117, 108, 108]
theorem head_list : Try.prog.initOrder.toList = headCodes.map Char.ofNat := by
  have h : Try.prog.initOrder = String.ofList (headCodes.map Char.ofNat) := by kernel_rfl
  rw [h]; exact String.toList_ofList
theorem fact_laidOut : laidOutB Try.prog = true := by kernel_rfl
theorem fact_maps : mapsRowed Try.prog = true := by kernel_rfl
theorem fact_stops : (Try.prog.stops == []) = true := by kernel_rfl
theorem fact_knobs : (Try.prog.stopKnobs == []) = true := by kernel_rfl
theorem fact_plain : Try.prog.plainKeys = true := by kernel_rfl
theorem fact_heard : Try.prog.stopsHeard = true := by kernel_rfl
theorem enter_key (s : String) (h : s.toList = headCodes.map Char.ofNat) : Program.mayEnter { toTables := { Try.progTables with initOrder := s }, funcs := Try.funcs } = true := by
  unfold Program.mayEnter
  dsimp only
  rw [h]
  kernel_rfl
theorem lifts_key (s : String) (h : s.toList = headCodes.map Char.ofNat) : Program.liftsFinal { toTables := { Try.progTables with initOrder := s }, funcs := Try.funcs } = false := by
  unfold Program.liftsFinal Program.headLifts
  dsimp only
  rw [h]
  kernel_rfl
theorem make_key (s : String) (h : s.toList = headCodes.map Char.ofNat) : Program.make { toTables := { Try.progTables with initOrder := s }, funcs := Try.funcs } = some .cut := by
  unfold Program.make
  dsimp only
  rw [h]
  kernel_rfl
theorem fact_enter : Try.prog.mayEnter = true := enter_key _ head_list
theorem fact_lifts : Try.prog.liftsFinal = false := lifts_key _ head_list
theorem fact_make : Try.prog.make = some .cut := make_key _ head_list
end Go.Proofs.Ytjmdiobnappgkaa
