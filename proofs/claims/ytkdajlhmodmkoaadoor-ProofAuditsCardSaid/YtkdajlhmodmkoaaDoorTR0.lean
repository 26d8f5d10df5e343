/-
  A small law: an operation of a region that leaves the world alone, whose guard is off.
-/
import Derived.Test.YtkdajlhmodmkoaaDoorTC
import Derived.StillTactics
namespace Go.Proofs.YtkdajlhmodmkoaaDoor
open Go.RowKit
theorem wpStill_dead {P : Program} {w : World} {ops : Array Oper} {rest : List Oper} {o : Oper} {a : Act} {Q : Act → Prop} (hw : Region.wanted o (yielded ops a.tmps) = false)
    (h : wpStill P ops w Q rest (a.put o.dst undef)) : wpStill P ops w Q (o :: rest) a :=
  wpStill_step fun K hK => by rw [if_neg (by simp [hw])]; exact hK _ h
end Go.Proofs.YtkdajlhmodmkoaaDoor
