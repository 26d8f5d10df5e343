import Derived.Lib.LaidTab
import Derived.Stop.LaidErr
import Derived.Test.YtncpbkoinennoaaGreatDoorCards
import Derived.Test.YtncpbkoinennoaaGreatDoorTie
import Derived.Test.YtncpbkoinennoaaGreatDoorMAV
set_option linter.all false
set_option maxRecDepth 100000
set_option maxHeartbeats 0
namespace Go.Proofs.YtncpbkoinennoaaGreatDoor
open Go.RowKit Proofs.Tryz
attribute [local irreducible] wpList Calls
variable{g k n:Nat}{t:TypeId}
def G5:prog.globalNamed "syngraph/msg.has"=some 0:=by rfl
def G9:prog.globalNamed "syngraph/wide.begin"=some 1:=by rfl
def Ha:prog.globalNamed "syngraph/wide.key"=some 2:=by rfl
def G6:prog.globalNamed "syngraph/scalar.order"=some 3:=by rfl
def G7:prog.globalNamed "syngraph/sha.begin"=some 5:=by rfl
def G8:prog.globalNamed "syngraph/sha.key"=some 6:=by rfl
def aab:(prog.globals[0]?).map (·.type)=some 161:=by rfl
def aaf:(prog.globals[1]?).map (·.type)=some 172:=by rfl
def aag:(prog.globals[2]?).map (·.type)=some 251:=by rfl
def aac:(prog.globals[3]?).map (·.type)=some 184:=by rfl
def aad:(prog.globals[5]?).map (·.type)=some 355:=by rfl
def aae:(prog.globals[6]?).map (·.type)=some 380:=by rfl
def D3:List Int:=List.map (λ x:Nat=>(x:Int)) SC.sA
def D4:List Int:=(vl ShaM.fl).map λ x=>(x.toNat:Int)
def D5:List Int:=ShaM.K.map λ x=>(x.toNat:Int)
def D6:List Int:=(WD.vl WM.fl).map λ x=>(x.toNat:Int)
def D7:List Int:=WM.K.map λ x=>(x.toNat:Int)
def D1:List (List UInt8):=[[],[107],[107],[108,104],[108,98],[108,105],[108,105,109,110],[108,105,104],[108,105,109,110,112],[108],[108,110]]
def OJ:(Rows.laid_syngraph_scalar_order:DataW Unit)=Lib.tabData .u64 D3:=by rfl
def OL:(Rows.laid_syngraph_sha_begin:DataW Unit)=Lib.tabData .u32 D4:=by rfl
def OM:(Rows.laid_syngraph_sha_key:DataW Unit)=Lib.tabData .u32 D5:=by rfl
def OO:(Rows.laid_syngraph_wide_begin:DataW Unit)=Lib.tabData .u64 D6:=by rfl
def OP:(Rows.laid_syngraph_wide_key:DataW Unit)=Lib.tabData .u64 D7:=by rfl
def OI:(Rows.laid_syngraph_msg_has:DataW Unit)= .agg (D1.map λ z=> .lit (.string z)):=by rfl
def TQ:prog.cellsOf 9=1:=by kernel_rfl
def Ca:prog.cellsOf 46=1:=by kernel_rfl
def Hx:prog.cellsOf 95=1:=by kernel_rfl
def TJ:prog.cellsOf 161=11:=by kernel_rfl
def TK:prog.cellsOf 172=8:=by kernel_rfl
def TN:prog.cellsOf 251=80:=by kernel_rfl
def TL:prog.cellsOf 184=4:=by kernel_rfl
def TO:prog.cellsOf 355=8:=by kernel_rfl
def TP:prog.cellsOf 380=64:=by kernel_rfl
def rO{P:Program}{c:aa}{b:String}{a:Array ab}(e:P.globalNamed b=some g)(h:c.var? P b=some a):∃t d,c.heap[g]?=some (.cells a t d):=by
 unfold World.var? at h;grind
def N1{H:Type}{enc:TypeId×ab->H}{P:Program}{w:aa}{A:Nat->Bool}{r:Bool}{e:TypeId}{c:List ab}{a:List (List UInt8)}{p:List MemPlace}
 (x:P.underlying t=some (.array n e)) (q:P.underlying e=some .string) (m:P.cellsOf e=1) (o:P.cellsOf t=n)
 (h:DataW.trod enc P w g A r k t c=some (.agg (a.map λ z=> .lit (.string z)),p)):c=a.map λ z=>Value.string ⟨z.toArray⟩:=by
 cases k with
 |zero=>simp[DataW.trod] at h
 |succ k=>
  simp only[DataW.trod,x,m,o,rD] at h
  split at h
  ·rename_i C
   obtain⟨d,f,hx⟩:=Option.map_eq_some_iff.1 h
   have y:d.map (·.1)=a.map λ z=>(DataW.lit (.string z):DataW H):=by
    have:=congrArg Prod.fst hx
    simpa using this
   have D:d.length=n:=by simpa using Lib.mapM_length f
   have E:a.length=n:=by
    have:=congrArg List.length y
    simp at this
    omega
   apply zl
   intro i
   by_cases v:i<n
   ·obtain⟨b,j,u⟩:=Lib.mapM_at f i i (by simp[v])
    obtain⟨s,l,rfl,_⟩:=DataW.trod_string q u
    have z:c[i]?=some (.string s):=by
     have:=congrArg (·[0]?) l
     simpa[zo,zn] using this
    have B:(d.map (·.1))[i]?=some (DataW.lit (.string s.data.toList):DataW H):=by simp[j]
    simp_all
   grind
  ·cases h
def Q9{a:aa}(h:laidMet prog [("syngraph/msg.has",Rows.laid_syngraph_msg_has)] a):(Y.dP 0 gI).P a:=by
 rw[OI] at h;obtain⟨m,⟨l,n,b,k,p,q,g,i,j,hd,_,_⟩,_⟩:=h;obtain rfl:=hK (G5.symm.trans g);obtain rfl:=hK (aab.symm.trans i);have d:=N1 underlying161 dO TQ TJ hd;obtain⟨t,c,e⟩:=rO G5 j;refine⟨t,c,?_⟩;have f:b=(D1.map λ z=>Value.string ⟨z.toArray⟩).toArray:=by rw[<-d,mP]
 rw[e,f];rfl
def Y7{g:aa}(h:laidMet prog [("syngraph/scalar.order",Rows.laid_syngraph_scalar_order),("syngraph/sha.begin",Rows.laid_syngraph_sha_begin),("syngraph/sha.key",Rows.laid_syngraph_sha_key),("syngraph/wide.begin",Rows.laid_syngraph_wide_begin),("syngraph/wide.key",Rows.laid_syngraph_wide_key),("syngraph/msg.has",Rows.laid_syngraph_msg_has)] g):bQ g:=by
 have b:=h.tail;have c:=b.tail;have d:=c.tail;have f:=d.tail;have n:=f.tail;rw[OJ] at h;rw[OL] at b;rw[OM] at c;rw[OO] at d;rw[OP] at f;have i:=Lib.tabIs_of_head G6 aac oA nn Ca TL h;have j:=Lib.tabIs_of_head G7 aad vN EN Hx TO b;have k:=Lib.tabIs_of_head G8 aae EL EN Hx TP c;have l:=Lib.tabIs_of_head G9 aaf vM nn Ca TK d;have m:=Lib.tabIs_of_head Ha aag underlying251 nn Ca TN f;refine⟨⟨?_,?_⟩,⟨?_,?_⟩,?_,Q9 n⟩
 ·obtain⟨t,a,e⟩:=rO G7 j;exact⟨t,a,by rw[e,D4,vt];rfl⟩
 ·obtain⟨t,a,e⟩:=rO G8 k;exact⟨t,a,by rw[e,D5,vt];rfl⟩
 ·obtain⟨t,a,e⟩:=rO G9 l;exact⟨t,a,by rw[e,D6,vt];rfl⟩
 ·obtain⟨t,a,e⟩:=rO Ha m;exact⟨t,a,by rw[e,D7,vt];rfl⟩
 ·obtain⟨t,a,e⟩:=rO G6 i;exact⟨t,a,by rw[e,D3,vt];rfl⟩
def ss(a:Array ab):Obj->Obj
 | .cells _ t frozen=> .cells a t frozen
 |o=>o
noncomputable def Cd(a:Os):aa:=
 {World.holding prog a ⟨#[],#[],[]⟩ with
  heap:=((((((World.holding prog a ⟨#[],#[],[]⟩).heap.modify 0 (ss (D1.map λ z=>Value.string ⟨z.toArray⟩).toArray)).modify 1 (ss (D6.map λ z=>Value.int .u64 z).toArray)).modify 2 (ss (D7.map λ z=>Value.int .u64 z).toArray)).modify 3 (ss (D3.map λ z=>Value.int .u64 z).toArray)).modify 5 (ss (D4.map λ z=>Value.int .u32 z).toArray)).modify 6 (ss (D5.map λ z=>Value.int .u32 z).toArray)}
