import Derived.Test.YtncpbkoinennoaaGreatDoorFX0
set_option linter.all false
set_option maxRecDepth 100000
set_option maxHeartbeats 0
namespace Go.Proofs.YtncpbkoinennoaaGreatDoor
open Go.RowKit Proofs.Tryz
attribute [local irreducible] wpList Calls
namespace FX
def Bj:JQ.bW 1 0=JR:=BQ.de V
def Pa:JR.bW 1 0=JS:=BQ.de V
def Pb:JS.bW 1 0=JT:=BQ.de V
def Pc:JT.bW 1 0=JU:=BQ.de V
end FX
