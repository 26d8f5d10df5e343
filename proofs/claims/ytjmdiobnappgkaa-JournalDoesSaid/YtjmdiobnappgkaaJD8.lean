/-
  Layer 15 (journal): JournalDoes, as the outer proof takes it.
-/
import Derived.Test.YtjmdiobnappgkaaJD7
namespace Go.Proofs.Ytjmdiobnappgkaa
open Go.RowKit
theorem journalDoes_go (room : Int) (hr : (Lit.int .i64 room).wf = true) (A : Option Addr) (len cap : Nat) (ops : Nat → OpM) {w' : World} (ho : IsScript w' A len ops) :
    Calls Try.prog 18 #[.int .i64 room, .slice A len cap] w' fun e w'' => e = .returned (.bool true) ∧ Below w'.heap.size w' w'' := journalDoes_walk room A len cap ops w' ho
end Go.Proofs.Ytjmdiobnappgkaa
