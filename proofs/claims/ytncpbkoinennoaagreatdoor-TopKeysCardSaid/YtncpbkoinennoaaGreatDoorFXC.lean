import Derived.Test.YtncpbkoinennoaaGreatDoorFX0
set_option linter.all false
set_option maxRecDepth 100000
set_option maxHeartbeats 0
namespace Go.Proofs.YtncpbkoinennoaaGreatDoor
open Go.RowKit Proofs.Tryz
attribute [local irreducible] wpList Calls
namespace FX
def HB:Es.bS 1 0=Et:=BQ.cY V
def HC:Et.bS 1 0=Eu:=BQ.cY V
end FX
