import Derived.Test.YtncpbkoinennoaaGreatDoorFX0
set_option linter.all false
set_option maxRecDepth 100000
set_option maxHeartbeats 0
namespace Go.Proofs.YtncpbkoinennoaaGreatDoor
open Go.RowKit Proofs.Tryz
attribute [local irreducible] wpList Calls
namespace FX
def Pj:po.tick 0 (bw po.now po.c.a) 0=yb:=BQ.de V
def Pk:yb.tick 1 (bw yb.now yb.c.a) 0=JZ:=BQ.de V
def Pl:JZ.bW 1 0=J0:=BQ.de V
def Pm:J0.bW 1 0=pq:=BQ.de V
def Pn:pq.tick 0 (bw pq.now pq.c.a) 0=yc:=BQ.de V
def Po:yc.tick 1 (bw yc.now yc.c.a) 0=J1:=BQ.de V
def Pp:J1.bW 1 0=J2:=BQ.de V
def wD:J2.bW 1 0=yd:=BQ.de V
end FX
