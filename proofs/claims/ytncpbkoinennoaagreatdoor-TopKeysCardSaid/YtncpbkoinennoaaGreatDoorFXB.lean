import Derived.Test.YtncpbkoinennoaaGreatDoorFX0
set_option linter.all false
set_option maxRecDepth 100000
set_option maxHeartbeats 0
namespace Go.Proofs.YtncpbkoinennoaaGreatDoor
open Go.RowKit Proofs.Tryz
attribute [local irreducible] wpList Calls
namespace FX
def uY:En.bS 1 0=Eo:=BQ.cY V
def Hy:Eo.bS 1 0=Ep:=BQ.cY V
def Hz:Ep.bS 1 0=Er:=BQ.cY V
def HA:Er.bS 1 0=Es:=BQ.cY V
end FX
