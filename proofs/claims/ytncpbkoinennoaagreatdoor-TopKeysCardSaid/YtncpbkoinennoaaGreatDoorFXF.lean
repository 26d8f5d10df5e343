import Derived.Test.YtncpbkoinennoaaGreatDoorFX0
set_option linter.all false
set_option maxRecDepth 100000
set_option maxHeartbeats 0
namespace Go.Proofs.YtncpbkoinennoaaGreatDoor
open Go.RowKit Proofs.Tryz
attribute [local irreducible] wpList Calls
namespace FX
def HG:Ew.bS 1 0=nZ:=BQ.cY V
end FX
