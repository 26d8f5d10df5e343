import Derived.Test.YtncpbkoinennoaaGreatDoorFX0
set_option linter.all false
set_option maxRecDepth 100000
set_option maxHeartbeats 0
namespace Go.Proofs.YtncpbkoinennoaaGreatDoor
open Go.RowKit Proofs.Tryz
attribute [local irreducible] wpList Calls
variable{G:MG}{g:Nat}
namespace FX
def bT:BD:=⟨⟨1,6,y6,y7⟩,⟨1,6,Fx,Fy⟩,[]⟩
def ho22:bT.bX=true:=by kernel_rfl
def e22e:decide ((yU bT).enc=M8)=true:=by kernel_rfl
def d22:dV M8= .ok (yU bT):=by
 have h:=iH e22e;rw[<-h];exact proof_dec (BC (Wi ho22)) ho22 (Wi ho22)
def plain_of{k:KY}{c:CF}{p q:PL}{x:PK}{l:List PK}(h:dV x.s= .ok G)(h2:decide (G.b.a.size=G.b.b.size/\tP p q x G)=true):dG ⟨k,c,[p,q],x::l,g⟩=true:=by
 unfold dG;dsimp only;rw[h];exact h2
def za0:decide ((yU bT).b.a.size=(yU bT).b.b.size/\tP p4 p5 mA (yU bT))=true:=by kernel_rfl
def za1:decide ((yU bT).b.a.size=(yU bT).b.b.size/\tP p4 p5 pj (yU bT))=true:=by kernel_rfl
def Xw:dG Et=true:=plain_of (x:=mA) d22 za0
def Xx:dG Eu=true:=plain_of (x:=mA) d22 za0
def Xy:dG Ev=true:=plain_of (x:=pj) d22 za1
def Xz:dG Ew=true:=plain_of (x:=pj) d22 za1
end FX
