/-
  Small laws of memory and of the walk, more: bytes of a new block as a string.
-/
import Derived.Test.YtjmdiobnappgkaaKit
namespace Go.Proofs.Ytjmdiobnappgkaa
open Go.RowKit
set_option linter.unusedVariables false
set_option linter.unusedSimpArgs false

/-- 'string([]byte{..})' of a block that was just made. -/
theorem conv_string_new {P : Program} (w : World) (src dst e : TypeId) (xs : List Int) (hs : P.underlying src = some (.slice e)) (he : P.underlying e = some (.int .u8)) (hd : P.underlying dst = some .string) (len cap : Nat) (hl : xs.length = len) (t : TypeId) :
    (convert src dst (.slice (some ⟨w.heap.size, 0, none⟩) len cap)).run P (w.alloc (.cells (xs.map (Value.int .u8)).toArray t)) = .ok (.string (strOfNums xs)) (w.alloc (.cells (xs.map (Value.int .u8)).toArray t)) := by
  refine run_convert_bytes_arg _ src e hs he w.heap.size 0 len cap xs hl (fun i hi => ?_) dst hd
  rw [cell_of_row _ _ _ _ _ _ (heap_alloc_new w _)]
  have : i < xs.length := by omega
  simp [this]
end Go.Proofs.Ytjmdiobnappgkaa
