import Derived.Test.YtncpbkoinennoaaGreatDoorFX0
set_option linter.all false
set_option maxRecDepth 100000
set_option maxHeartbeats 0
namespace Go.Proofs.YtncpbkoinennoaaGreatDoor
open Go.RowKit Proofs.Tryz
attribute [local irreducible] wpList Calls
namespace FX
def CY:bC y3=kT:=by kernel_rfl
def e0:((iF y3 (jj kT.pub)).act ⟨5,0,0,0,⟨#[97]⟩⟩).act ⟨5,1,0,0,⟨#[98]⟩⟩=s0:=by rw[iF,CY];exact BQ.cY V
def e1:s0.tick 0 (bo s0.now s0.c.a) 0=s1:=BQ.cY V
def e2:s1.tick 1 (bo s1.now s1.c.a) 0=s2:=BQ.cY V
def e3:s2.bS 1 0=s3:=BQ.cY V
def e4:s3.bS 1 0=s4:=BQ.cY V
def e5:s4.bS 1 0=s5:=BQ.cY V
def e6:s5.bS 1 0=s6:=BQ.cY V
def e7:s6.bS 1 0=s7:=BQ.cY V
def e8:s7.bS 1 0=s8:=BQ.cY V
def e9:s8.tick 0 (bo s8.now s8.c.a) 0=s9:=BQ.cY V
def iX:s9.tick 1 (bo s9.now s9.c.a) 0=Ei:=BQ.cY V
def iY:Ei.bS 1 0=Ej:=BQ.cY V
def iZ:Ej.bS 1 0=Ek:=BQ.cY V
def ja:Ek.bS 1 0=El:=BQ.cY V
def ix:El.bS 1 0=Em:=BQ.cY V
def iy:Em.bS 1 0=En:=BQ.cY V
end FX
