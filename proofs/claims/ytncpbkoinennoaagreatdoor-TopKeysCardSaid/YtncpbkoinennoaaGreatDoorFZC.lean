import Derived.Test.YtncpbkoinennoaaGreatDoorFX0
set_option linter.all false
set_option maxRecDepth 100000
set_option maxHeartbeats 0
namespace Go.Proofs.YtncpbkoinennoaaGreatDoor
open Go.RowKit Proofs.Tryz
attribute [local irreducible] wpList Calls
namespace FX
def vS:dG Eo=true:=by kernel_rfl
def Xt:dG Ep=true:=by kernel_rfl
def Xu:dG Er=true:=by kernel_rfl
def Xv:dG Es=true:=by kernel_rfl
def XA:dG Ex=true:=by kernel_rfl
def XB:dG Ey=true:=by kernel_rfl
def XC:dG Ez=true:=by kernel_rfl
def XD:dG EA=true:=by kernel_rfl
end FX
