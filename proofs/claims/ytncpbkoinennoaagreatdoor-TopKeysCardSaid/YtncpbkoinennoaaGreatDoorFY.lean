import Derived.Test.YtncpbkoinennoaaGreatDoorFXA
import Derived.Test.YtncpbkoinennoaaGreatDoorFXB
import Derived.Test.YtncpbkoinennoaaGreatDoorFXC
import Derived.Test.YtncpbkoinennoaaGreatDoorFXD
import Derived.Test.YtncpbkoinennoaaGreatDoorFXE
import Derived.Test.YtncpbkoinennoaaGreatDoorFXF
import Derived.Test.YtncpbkoinennoaaGreatDoorFXG
set_option linter.all false
set_option maxRecDepth 100000
set_option maxHeartbeats 0
namespace Go.Proofs.YtncpbkoinennoaaGreatDoor
open Go.RowKit Proofs.Tryz
attribute [local irreducible] wpList Calls
variable{M:ME}
namespace FX
def sD(f:Nat)(m:ME)(h:m.b.length=0):ME.eN f m=m:=by
 cases f with
 |zero=>rfl
 |succ f=>unfold ME.eN;rw[au h]
def dl(f:Nat){a:ME}(h:¬M.b.length=0)(e:M.bS 1 0=a):ME.eN (f+1) M=ME.eN f a:=by
 rw[ME.eN,ar h,e]
def zh(m:ME)(h:m.l.length=2):m.round=ME.eN 200 ((m.tick 0 (bo m.now m.c.a) 0).tick 1 (bo (m.tick 0 (bo m.now m.c.a) 0).now (m.tick 0 (bo m.now m.c.a) 0).c.a) 0):=by
 unfold ME.round;rw[h];show ME.eN 200 (ME.jn [0,1] m)=_;rw[ME.jn,ME.jn,ME.jn]
def za:s0.round=s8:=by
 rw[zh s0 rfl,e1,e2];exact(dl 199 zD e3).trans ((dl 198 zD e4).trans ((dl 197 zD e5).trans ((dl 196 zD e6).trans ((dl 195 zD e7).trans ((dl 194 zD e8).trans (sD _ s8 rfl))))))
def DX:s8.round=nZ:=by
 rw[zh s8 rfl,e9,iX];exact(dl 199 zD iY).trans ((dl 198 zD iZ).trans ((dl 197 zD ja).trans ((dl 196 zD ix).trans ((dl 195 zD iy).trans ((dl 194 zD uY).trans ((dl 193 zD Hy).trans ((dl 192 zD Hz).trans ((dl 191 zD HA).trans ((dl 190 zD HB).trans ((dl 189 zD HC).trans ((dl 188 zD HE).trans ((dl 187 zD HF).trans ((dl 186 zD HG).trans (sD _ nZ rfl))))))))))))))
def Lc:nZ.round=oa:=by
 rw[zh nZ rfl,Cd,HH];exact(dl 199 zD HI).trans ((dl 198 zD HJ).trans (sD _ oa rfl))
def X3:oa.round=zm:=by
 rw[zh oa rfl,Ce,HK];exact(dl 199 zD HL).trans ((dl 198 zD uZ).trans (sD _ zm rfl))
def YR:rounds 4 s0=zm:=by
 unfold rounds rounds rounds rounds rounds;rw[za,DX,Lc,X3]
def CD:HD:=⟨1,6,y6,y7⟩
def ym:HD:=⟨1,6,Fx,Fy⟩
def PC:CD.check kT.pub=true:=by kernel_rfl
def PD:ym.check kT.pub=true:=by kernel_rfl
def Ql:gd wK= .ok ⟨CD,ym,[]⟩:=by
 have h:(match gd wK with| .ok x=>BQ.Cl x ⟨CD,ym,[]⟩| .error _=>false)=true:=by kernel_rfl
 split at h
 ·rename_i x hx;rw[hx,BQ.HY h]
 ·cases h
def G4:wL kT.pub wK:=⟨_,Ql,by kernel_rfl,rfl,PC,PD⟩
def Se:∃p q,(rounds 4 (((iF gV (jj (bC gV).pub)).act ⟨5,0,0,0,⟨#[97]⟩⟩).act ⟨5,1,0,0,⟨#[98]⟩⟩)).l=[p,q]/\(rounds 4 (((iF gV (jj (bC gV).pub)).act ⟨5,0,0,0,⟨#[97]⟩⟩).act ⟨5,1,0,0,⟨#[98]⟩⟩)).b.length=0/\wL (rounds 4 (((iF gV (jj (bC gV).pub)).act ⟨5,0,0,0,⟨#[97]⟩⟩).act ⟨5,1,0,0,⟨#[98]⟩⟩)).k.pub p.n.st.aR/\wL (rounds 4 (((iF gV (jj (bC gV).pub)).act ⟨5,0,0,0,⟨#[97]⟩⟩).act ⟨5,1,0,0,⟨#[98]⟩⟩)).k.pub q.n.st.aR:=by
 have a:(((iF gV (jj (bC gV).pub)).act ⟨5,0,0,0,⟨#[97]⟩⟩).act ⟨5,1,0,0,⟨#[98]⟩⟩)=s0:=by
  rw[show bC gV=kT from CY];exact e0
 rw[a,YR];exact⟨_,_,rfl,rfl,G4,G4⟩
end FX
