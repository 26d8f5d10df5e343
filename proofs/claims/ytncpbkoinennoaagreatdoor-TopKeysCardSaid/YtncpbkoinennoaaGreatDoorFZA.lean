import Derived.Test.YtncpbkoinennoaaGreatDoorFX0
set_option linter.all false
set_option maxRecDepth 100000
set_option maxHeartbeats 0
namespace Go.Proofs.YtncpbkoinennoaaGreatDoor
open Go.RowKit Proofs.Tryz
attribute [local irreducible] wpList Calls
namespace FX
def q2:dG s2=true:=by kernel_rfl
def q3:dG s3=true:=by kernel_rfl
def q4:dG s4=true:=by kernel_rfl
def q5:dG s5=true:=by kernel_rfl
def q6:dG s6=true:=by kernel_rfl
def q7:dG s7=true:=by kernel_rfl
end FX
