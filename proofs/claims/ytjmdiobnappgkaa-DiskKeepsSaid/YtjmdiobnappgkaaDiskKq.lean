/-
  Layer 14 (disk): DiskKeeps, as the outer proof takes it.
-/
import Derived.Test.YtjmdiobnappgkaaDiskKp
namespace Go.Proofs.Ytjmdiobnappgkaa
open Go.RowKit
theorem diskKeeps_at (A1 : Option Addr) (len1 cap1 : Nat) (ops1 : Nat → OpV) {w' : World} (ho1 : IsOps w' w'.heap.size A1 len1 ops1) (A2 : Option Addr) (len2 cap2 : Nat) (ops2 : Nat → OpV) (ho2 : IsOps w' w'.heap.size A2 len2 ops2) (keep : Int) (hn : (Lit.int .i64 keep).wf = true) :
    Calls Try.prog 8 #[.slice A1 len1 cap1, .slice A2 len2 cap2, .int .i64 keep] w' fun e w'' => e = .returned (.bool true) ∧ Below w'.heap.size w' w'' :=
  diskKeeps_walk A1 len1 cap1 ops1 A2 len2 cap2 ops2 keep (i64_of_wf hn).1 (i64_of_wf hn).2 w' ho1 ho2
end Go.Proofs.Ytjmdiobnappgkaa
