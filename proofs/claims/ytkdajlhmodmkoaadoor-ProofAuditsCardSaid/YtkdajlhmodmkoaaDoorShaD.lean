/-
  Layer 2 (sha): the sums of three letters and of nothing, by the kernel. No program is mentioned here.
-/
import Derived.Test.YtkdajlhmodmkoaaDoorShaM
namespace Go.Proofs.YtkdajlhmodmkoaaDoor
set_option maxRecDepth 100000 in
theorem hex_abc : ShaM.hex (ShaM.sum [97, 98, 99]) = [98, 97, 55, 56, 49, 54, 98, 102, 56, 102, 48, 49, 99, 102, 101, 97, 52, 49, 52, 49, 52, 48, 100, 101, 53, 100, 97, 101, 50, 50, 50, 51, 98, 48, 48, 51, 54, 49, 97, 51, 57, 54, 49, 55, 55, 97, 57, 99, 98, 52, 49, 48, 102, 102, 54, 49, 102, 50, 48, 48, 49, 53, 97, 100] := by decide +kernel
set_option maxRecDepth 100000 in
theorem hex_nil : ShaM.hex (ShaM.sum []) = [101, 51, 98, 48, 99, 52, 52, 50, 57, 56, 102, 99, 49, 99, 49, 52, 57, 97, 102, 98, 102, 52, 99, 56, 57, 57, 54, 102, 98, 57, 50, 52, 50, 55, 97, 101, 52, 49, 101, 52, 54, 52, 57, 98, 57, 51, 52, 99, 97, 52, 57, 53, 57, 57, 49, 98, 55, 56, 53, 50, 98, 56, 53, 53] := by decide +kernel
theorem hex_two : ShaM.hex [15, 160] = [48, 102, 97, 48] := by decide +kernel
end Go.Proofs.YtkdajlhmodmkoaaDoor
