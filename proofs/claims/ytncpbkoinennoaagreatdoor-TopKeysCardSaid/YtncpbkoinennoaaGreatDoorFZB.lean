import Derived.Test.YtncpbkoinennoaaGreatDoorFX0
set_option linter.all false
set_option maxRecDepth 100000
set_option maxHeartbeats 0
namespace Go.Proofs.YtncpbkoinennoaaGreatDoor
open Go.RowKit Proofs.Tryz
attribute [local irreducible] wpList Calls
namespace FX
def KO:dG Ei=true:=by kernel_rfl
def KU:dG Ej=true:=by kernel_rfl
def KZ:dG Ek=true:=by kernel_rfl
def K0:dG El=true:=by kernel_rfl
def K2:dG Em=true:=by kernel_rfl
def vR:dG En=true:=by kernel_rfl
end FX
