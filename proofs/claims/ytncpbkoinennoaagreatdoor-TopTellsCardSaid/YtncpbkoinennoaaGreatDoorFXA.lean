import Derived.Test.YtncpbkoinennoaaGreatDoorFX0
set_option linter.all false
set_option maxRecDepth 100000
set_option maxHeartbeats 0
namespace Go.Proofs.YtncpbkoinennoaaGreatDoor
open Go.RowKit Proofs.Tryz
attribute [local irreducible] wpList Calls
namespace FX
def Hz:fp y3=kT:=by kernel_rfl
def e0:((iU y3 (jJ kT.pub)).act ⟨5,0,0,0,⟨#[97]⟩⟩).act ⟨5,1,0,0,⟨#[98]⟩⟩=s0:=by rw[iU,Hz];exact BQ.de V
def e1:s0.tick 0 (bw s0.now s0.c.a) 0=s1:=BQ.de V
def e2:s1.tick 1 (bw s1.now s1.c.a) 0=s2:=BQ.de V
def e3:s2.bW 1 0=s3:=BQ.de V
def e4:s3.bW 1 0=s4:=BQ.de V
def e5:s4.bW 1 0=s5:=BQ.de V
def e6:s5.bW 1 0=s6:=BQ.de V
def e7:s6.bW 1 0=s7:=BQ.de V
def e8:s7.bW 1 0=s8:=BQ.de V
def e9:s8.tick 0 (bw s8.now s8.c.a) 0=s9:=BQ.de V
def kV:s9.tick 1 (bw s9.now s9.c.a) 0=JM:=BQ.de V
def kW:JM.bW 1 0=JO:=BQ.de V
def kX:JO.bW 1 0=xZ:=BQ.de V
def kY:xZ.bW 1 0=ya:=BQ.de V
def kb:ya.bW 1 0=JP:=BQ.de V
def kZ:JP.bW 1 0=JQ:=BQ.de V
end FX
