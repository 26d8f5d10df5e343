import Derived.Test.YtncpbkoinennoaaGreatDoorFY
import Derived.Test.YtncpbkoinennoaaGreatDoorFZA
import Derived.Test.YtncpbkoinennoaaGreatDoorFZB
import Derived.Test.YtncpbkoinennoaaGreatDoorFZC
import Derived.Test.YtncpbkoinennoaaGreatDoorFZD
set_option linter.all false
set_option maxRecDepth 100000
set_option maxHeartbeats 0
namespace Go.Proofs.YtncpbkoinennoaaGreatDoor
open Go.RowKit Proofs.Tryz
attribute [local irreducible] wpList Calls
variable{M:ME}
namespace FX
def eO{a:ME}(h:dG M=true)(e:M.bS 1 0=a)(b:oH a):oH M:= .step h (by rw[e];exact b)
def XV:qq s0:=by
 refine⟨by kernel_rfl,?_,?_⟩
 ·rw[e1];kernel_rfl
 rw[e1,e2];exact eO q2 e3<|eO q3 e4<|eO q4 e5<|eO q5 e6<|eO q6 e7<|eO q7 e8<| .nil rfl
def K8:qq s8:=by
 refine⟨by kernel_rfl,?_,?_⟩
 ·rw[e9];kernel_rfl
 rw[e9,iX];exact eO KO iY<|eO KU iZ<|eO KZ ja<|eO K0 ix<|eO K2 iy<|eO vR uY<|eO vS Hy<|eO Xt Hz<|eO Xu HA<|eO Xv HB<|eO Xw HC<|eO Xx HE<|eO Xy HF<|eO Xz HG<| .nil rfl
def XW:qq nZ:=by
 refine⟨by kernel_rfl,?_,?_⟩
 ·rw[Cd];kernel_rfl
 rw[Cd,HH];exact eO XA HI<|eO XB HJ<| .nil rfl
def XX:qq oa:=by
 refine⟨by kernel_rfl,?_,?_⟩
 ·rw[Ce];kernel_rfl
 rw[Ce,HK];exact eO XC HL<|eO XD uZ<| .nil rfl
def Sf(j:Nat)(a:j<4):qq (rounds j (((iF gV (jj (bC gV).pub)).act ⟨5,0,0,0,⟨#[97]⟩⟩).act ⟨5,1,0,0,⟨#[98]⟩⟩)):=by
 rw[show bC gV=kT from CY,show((iF gV (jj kT.pub)).act ⟨5,0,0,0,⟨#[97]⟩⟩).act ⟨5,1,0,0,⟨#[98]⟩⟩=s0 from e0]
 match j,a with
 |0,_=>exact XV
 |1,_=>rw[rounds,rounds,za];exact K8
 |2,_=>rw[rounds,rounds,rounds,za,DX];exact XW
 |3,_=>rw[rounds,rounds,rounds,rounds,za,DX,Lc];exact XX
end FX
