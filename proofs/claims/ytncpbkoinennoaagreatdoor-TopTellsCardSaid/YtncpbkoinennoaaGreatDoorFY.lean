import Derived.Test.YtncpbkoinennoaaGreatDoorFXA
import Derived.Test.YtncpbkoinennoaaGreatDoorFXB
import Derived.Test.YtncpbkoinennoaaGreatDoorFXC
import Derived.Test.YtncpbkoinennoaaGreatDoorFXD
import Derived.Test.YtncpbkoinennoaaGreatDoorFXE
import Derived.Test.YtncpbkoinennoaaGreatDoorFXF
import Derived.Test.YtncpbkoinennoaaGreatDoorFXG
set_option linter.all false
set_option maxRecDepth 100000
set_option maxHeartbeats 0
namespace Go.Proofs.YtncpbkoinennoaaGreatDoor
open Go.RowKit Proofs.Tryz
attribute [local irreducible] wpList Calls
variable{M:ME}
namespace FX
def rT(f:Nat)(m:ME)(h:m.b.length=0):ME.eO f m=m:=by
 cases f with
 |zero=>rfl
 |succ f=>unfold ME.eO;rw[ax h]
def dl(f:Nat){a:ME}(h:¬M.b.length=0)(e:M.bW 1 0=a):ME.eO (f+1) M=ME.eO f a:=by
 rw[ME.eO,aj h,e]
def xW(m:ME)(h:m.l.length=2):m.round=ME.eO 200 ((m.tick 0 (bw m.now m.c.a) 0).tick 1 (bw (m.tick 0 (bw m.now m.c.a) 0).now (m.tick 0 (bw m.now m.c.a) 0).c.a) 0):=by
 unfold ME.round;rw[h];show ME.eO 200 (ME.ja [0,1] m)=_;rw[ME.ja,ME.ja,ME.ja]
def WY:s0.round=s8:=by
 rw[xW s0 rfl,e1,e2];exact(dl 199 zD e3).trans ((dl 198 zD e4).trans ((dl 197 zD e5).trans ((dl 196 zD e6).trans ((dl 195 zD e7).trans ((dl 194 zD e8).trans (rT _ s8 rfl))))))
def WZ:s8.round=po:=by
 rw[xW s8 rfl,e9,kV];exact(dl 199 zD kW).trans ((dl 198 zD kX).trans ((dl 197 zD kY).trans ((dl 196 zD kb).trans ((dl 195 zD kZ).trans ((dl 194 zD Bj).trans ((dl 193 zD Pa).trans ((dl 192 zD Pb).trans ((dl 191 zD Pc).trans ((dl 190 zD Pd).trans ((dl 189 zD Pe).trans ((dl 188 zD Pf).trans ((dl 187 zD Pg).trans ((dl 186 zD Ph).trans (rT _ po rfl))))))))))))))
def Jo:po.round=pq:=by
 rw[xW po rfl,Pj,Pk];exact(dl 199 zD Pl).trans ((dl 198 zD Pm).trans (rT _ pq rfl))
def W0:pq.round=yd:=by
 rw[xW pq rfl,Pn,Po];exact(dl 199 zD Pp).trans ((dl 198 zD wD).trans (rT _ yd rfl))
def Xt:rounds 4 s0=yd:=by
 unfold rounds rounds rounds rounds rounds;rw[WY,WZ,Jo,W0]
def qw:HD:=⟨1,6,y6,y7⟩
def oN:HD:=⟨1,6,DY,DZ⟩
def FH:qw.check kT.pub=true:=by kernel_rfl
def FI:oN.check kT.pub=true:=by kernel_rfl
def OQ:eN pD= .ok ⟨qw,oN,[]⟩:=by
 have h:(match eN pD with| .ok x=>BQ.wF x ⟨qw,oN,[]⟩| .error _=>false)=true:=by kernel_rfl
 split at h
 ·rename_i x hx;rw[hx,BQ.Bp h]
 ·cases h
def NR:fc kT.pub pD=true:=by
 unfold fc;rw[OQ];have a:(⟨qw,oN,[]⟩:BD).bq=true:=by kernel_rfl
 simp only[a,FH,FI,Bool.and_self]
def OR:eN pD= .ok ⟨qw,oN,[]⟩:=by
 have h:(match eN pD with| .ok x=>BQ.wF x ⟨qw,oN,[]⟩| .error _=>false)=true:=by kernel_rfl
 split at h
 ·rename_i x hx;rw[hx,BQ.Bp h]
 ·cases h
def NS:fc kT.pub pD=true:=by
 unfold fc;rw[OR];have a:(⟨qw,oN,[]⟩:BD).bq=true:=by kernel_rfl
 simp only[a,FH,FI,Bool.and_self]
def QD:∃p q,(rounds 4 (((iU jK (jJ (fp jK).pub)).act ⟨5,0,0,0,⟨#[97]⟩⟩).act ⟨5,1,0,0,⟨#[98]⟩⟩)).l=[p,q]/\(rounds 4 (((iU jK (jJ (fp jK).pub)).act ⟨5,0,0,0,⟨#[97]⟩⟩).act ⟨5,1,0,0,⟨#[98]⟩⟩)).b.length=0/\fc (rounds 4 (((iU jK (jJ (fp jK).pub)).act ⟨5,0,0,0,⟨#[97]⟩⟩).act ⟨5,1,0,0,⟨#[98]⟩⟩)).k.pub p.n.st.aM=true/\fc (rounds 4 (((iU jK (jJ (fp jK).pub)).act ⟨5,0,0,0,⟨#[97]⟩⟩).act ⟨5,1,0,0,⟨#[98]⟩⟩)).k.pub q.n.st.aM=true:=by
 have a:(((iU jK (jJ (fp jK).pub)).act ⟨5,0,0,0,⟨#[97]⟩⟩).act ⟨5,1,0,0,⟨#[98]⟩⟩)=s0:=by
  rw[show fp jK=kT from Hz];exact e0
 rw[a,Xt];exact⟨_,_,rfl,rfl,NR,NS⟩
end FX
