import Derived.Test.YtncpbkoinennoaaGreatDoorFX0
set_option linter.all false
set_option maxRecDepth 100000
set_option maxHeartbeats 0
namespace Go.Proofs.YtncpbkoinennoaaGreatDoor
open Go.RowKit Proofs.Tryz
attribute [local irreducible] wpList Calls
namespace FX
def Cd:nZ.tick 0 (bo nZ.now nZ.c.a) 0=zk:=BQ.cY V
def HH:zk.tick 1 (bo zk.now zk.c.a) 0=Ex:=BQ.cY V
def HI:Ex.bS 1 0=Ey:=BQ.cY V
def HJ:Ey.bS 1 0=oa:=BQ.cY V
def Ce:oa.tick 0 (bo oa.now oa.c.a) 0=zl:=BQ.cY V
def HK:zl.tick 1 (bo zl.now zl.c.a) 0=Ez:=BQ.cY V
def HL:Ez.bS 1 0=EA:=BQ.cY V
def uZ:EA.bS 1 0=zm:=BQ.cY V
end FX
