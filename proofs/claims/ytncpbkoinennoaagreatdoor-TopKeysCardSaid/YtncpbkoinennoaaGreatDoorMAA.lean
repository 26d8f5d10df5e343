import Derived.BigQuiet
import Derived.ChangeKeysEq
import Derived.Deep.AppendLies
import Derived.Deep.CutBlock
import Derived.Deep.CutRange
import Derived.Deep.DeepCutAuto
import Derived.Deep.LoopGhost
import Derived.Deep.QuietTactic
import Derived.Deep.RegionHeld
import Derived.Deep.RegionHeld3
import Derived.Deep.RegionLaw
import Derived.Deep.Slices
import Derived.Deep.Upon
import Derived.JoinedOf
import Derived.KernelRfl
import Derived.Laws.AppendOwnNone
import Derived.Laws.Bits128
import Derived.Laws.BitsAllLaws
import Derived.Laws.CopyOwn
import Derived.Laws.CopyRow
import Derived.Laws.IdiomStrings
import Derived.Laws.StructEq
import Derived.Laws.Tables
import Derived.Lib.Bytes
import Derived.Lib.Hide
import Derived.Lib.SliceRun
import Derived.Lib.Strings
import Derived.Maps.AppendAt
import Derived.OrdersIn
import Derived.RangeFuncCalls
import Derived.ScopeJumps
import Derived.SliceStrings
import Derived.StillTactics
import Derived.StillTail
import Derived.StillTailTactics
import Derived.TacticsIn
import Derived.WalkKit
import Derived.WalkLawsBesides
import Derived.WalkMore
import Derived.WalkSpells
import Derived.Test.YtncpbkoinennoaaGreatDoorProg
import Derived.Test.YtncpbkoinennoaaGreatDoorRows
set_option linter.all false
set_option maxRecDepth 100000
set_option maxHeartbeats 0
namespace Go.Proofs.YtncpbkoinennoaaGreatDoor
open Go.RowKit Proofs.Tryz
def gp:=@Addr.add_lit
def FJ:=@AllReadyH.cons
def pX:=@Array.all_toList
def ju:=@Array.ext'
def tO:=@Array.getD_eq_getD_getElem?
def lN:=@Array.getElem?_eq_getElem
def FK:=@Array.getElem?_eq_none
def mT:=@Array.getElem?_eq_some_iff
def Ad:=@Array.getElem?_modify
def iO:=@Array.length_toList
def mU:=@Array.toArray_toList
def Ae:=@Array.toList_append
def FL:=@Array.toList_map
def dR:=@Below.block
def pY:=@Below.heap_alloc
def tQ:=@Below.heap_setCell
def dy:=@Below.mono
def bp:=@Below.refl
def ee:=@Below.size
def fL:=@Below.trans
def FN:=@BitVec.toNat_ofInt
def dL:=@Bool.and_eq_true
def wM:=@Bool.and_false
def Af:=@Bool.and_true
def bw:=@Bool.eq_iff_iff
def kH:=@Bool.false_and
def eG:=@Bool.false_eq_true
def wN:=@Bool.false_or
def Ag:=@Bool.not_eq_true'
def Ah:=@Bool.not_false
def Ai:=@Bool.not_true
def Aj:=@Bool.or_false
def Ak:=@Bool.or_true
def gW:=@Bool.true_and
def Am:=@Bool.true_or
def rN:=@ByteArray.data_append
def Aq:=@ByteArray.data_extract
def pZ:=@ByteArray.ext
def gX:=@ByteArray.size_append
def ib:=@ByteArray.size_extract
def kI:=@ByteArray.toList_eq
def fV:=@Calls.mono
def gY:=@Classical.byContradiction
def Ni:=@Decidable.byContradiction
def kL:=@Exit.noGoto_ret
def rP:=@Fin.ext
def tT:=@Int.add_mul_emod_self_left
def rQ:=@Int.add_zero
def wS:=@Int.emod_eq_of_lt
def wT:=@Int.le_refl
def tU:=@Int.mul_add
def wU:=@Int.mul_assoc
def mV:=@Int.mul_comm
def rR:=@Int.mul_zero
def Aw:=@Int.natCast_add
def FP:=@Int.natCast_ediv
def qc:=@Int.natCast_mul
def qd:=@Int.natCast_pow
def qe:=@Int.pow_succ
def ov:=@Int.tdiv_eq_ediv_of_nonneg
def fz:=@Int.tmod_eq_emod_of_nonneg
def mW:=@Int.toNat_natCast
def hh:=@IntKind.wrap_i64
def ox:=@IntKind.wrap_u32'
def tV:=@IntKind.wrap_u64
def FQ:=@IntKind.wrap_u8'
def aO:=@IntWalk.i64_in
def FR:=@IntWalk.u64_in
def Ax:=@IntWalk.u8_in
def FT:=@IntWalk.wrap64_in
def tW:=@Lib.run_eql_slice_nil
def No:=@List.Nodup.erase_eq_filter
def hl:=@List.all_eq_true
def AB:=@List.any_cons
def gK:=@List.append_assoc
def oz:=@List.append_nil
def lR:=@List.cons_append
def wX:=@List.drop_append_of_le_length
def iQ:=@List.drop_eq_getElem_cons
def kc:=@List.drop_eq_nil_of_le
def tX:=@List.drop_of_length_le
def tY:=@List.drop_succ_cons
def kd:=@List.drop_zero
def ig:=@List.eq_nil_of_length_eq_zero
def FU:=@List.ext_getElem?
def FV:=@List.flatMap_append
def AD:=@List.flatten_cons
def tZ:=@List.foldl_append
def dc:=@List.getD_eq_getElem?_getD
def kO:=@List.getElem?_append_left
def iR:=@List.getElem?_append_right
def oA:=@List.getElem?_cons_succ
def wY:=@List.getElem?_drop
def aU:=@List.getElem?_eq_getElem
def cw:=@List.getElem?_eq_some_iff
def ef:=@List.getElem?_map
def AE:=@List.getElem?_replicate
def hn:=@List.getElem?_set_ne
def lS:=@List.getElem?_set_self
def wZ:=@List.getElem?_take
def iS:=@List.getElem?_toArray
def ua:=@List.getElem_map
def eR:=@List.getElem_mem
def AF:=@List.getElem_set
def kP:=@List.getElem_set_ne
def FW:=@List.getElem_take
def FY:=@List.getElem_zipWith
def bV:=@List.length_append
def gq:=@List.length_cons
def lT:=@List.length_drop
def FZ:=@List.length_erase_of_mem
def cC:=@List.length_map
def ub:=@List.length_nil
def ez:=@List.length_replicate
def fc:=@List.length_set
def rS:=@List.length_singleton
def eA:=@List.length_take
def AG:=@List.mapM_cons
def jy:=@List.map_append
def bZ:=@List.map_cons
def w4:=@List.map_map
def eg:=@List.map_nil
def lU:=@List.map_set
def ke:=@List.map_toArray
def eB:=@List.mem_append
def oB:=@List.mem_append_left
def rT:=@List.mem_append_right
def bO:=@List.mem_cons
def jz:=@List.mem_cons_of_mem
def F0:=@List.mem_flatMap
def qg:=@List.mem_iff_getElem
def eH:=@List.mem_map
def cX:=@List.mem_of_getElem?
def uc:=@List.mem_of_mem_drop
def AH:=@List.mem_of_mem_eraseIdx
def oC:=@List.mem_of_mem_take
def nb:=@List.mem_or_eq_of_mem_set
def AI:=@List.mem_replicate
def ud:=@List.mem_singleton
def jA:=@List.nil_append
def lV:=@List.nodup_append
def ue:=@List.nodup_cons
def F1:=@List.nodup_nil
def F2:=@List.nodup_range
def uf:=@List.not_mem_nil
def Np:=@List.replicate_append_replicate
def ff:=@List.replicate_succ
def AJ:=@List.replicate_succ'
def hq:=@List.replicate_zero
def qh:=@List.setIfInBounds_toArray
def AK:=@List.set_append_left
def kQ:=@List.set_append_right
def nc:=@List.set_cons_succ
def lW:=@List.set_cons_zero
def w5:=@List.set_set
def oD:=@List.size_toArray
def AL:=@List.take_add_one
def nf:=@List.take_append_drop
def w7:=@List.take_append_of_le_length
def AM:=@List.take_length
def bK:=@List.take_of_length_le
def eC:=@List.take_succ_eq_append_getElem
def oE:=@List.take_zero
def qj:=@MapKept.run_getObj_map
def uh:=@MapKept.run_setObj_map
def xb:=@Nat.add_assoc
def qk:=@Nat.add_comm
def rV:=@Nat.add_mod
def oF:=@Nat.add_mul
def Nt:=@Nat.add_mul_mod_self_left
def fA:=@Nat.add_zero
def F3:=@Nat.and_two_pow_sub_one_eq_mod
def xc:=@Nat.div_add_mod
def gM:=@Nat.div_div_eq_div_mul
def F4:=@Nat.div_eq_of_lt
def ng:=@Nat.div_le_self
def AQ:=@Nat.div_lt_iff_lt_mul
def F5:=@Nat.div_lt_of_lt_mul
def rW:=@Nat.div_one
def xd:=@Nat.dvd_of_mod_eq_zero
def ql:=@Nat.le_of_dvd
def kR:=@Nat.le_of_lt
def aQ:=@Nat.le_refl
def fN:=@Nat.le_succ
def hy:=@Nat.le_trans
def ui:=@Nat.lt_of_le_of_lt
def kS:=@Nat.lt_of_lt_of_le
def xe:=@Nat.lt_of_not_le
def lX:=@Nat.lt_or_ge
def lY:=@Nat.lt_trans
def F6:=@Nat.lt_trichotomy
def hz:=@Nat.min_eq_left
def AR:=@Nat.min_eq_right
def bY:=@Nat.mod_eq_of_lt
def AS:=@Nat.mod_eq_zero_of_dvd
def cy:=@Nat.mod_lt
def rX:=@Nat.mod_mod
def AT:=@Nat.mod_mul
def Nu:=@Nat.mod_mul_right_div_self
def AU:=@Nat.mod_one
def rY:=@Nat.mod_two_eq_zero_or_one
def xf:=@Nat.mul_add
def AV:=@Nat.mul_assoc
def fg:=@Nat.mul_comm
def uj:=@Nat.mul_le_mul
def rZ:=@Nat.mul_le_mul_left
def lZ:=@Nat.mul_le_mul_right
def nh:=@Nat.mul_mod
def oG:=@Nat.mul_one
def jB:=@Nat.mul_zero
def ij:=@Nat.not_lt_zero
def sa:=@Nat.one_mul
def uk:=@Nat.or_comm
def F7:=@Nat.or_lt_two_pow
def eI:=@Nat.pow_add
def kU:=@Nat.pow_le_pow_right
def sb:=@Nat.pow_mod
def iT:=@Nat.pow_mul
def xg:=@Nat.pow_one
def ca:=@Nat.pow_succ
def sd:=@Nat.pow_zero
def qm:=@Nat.sub_self
def AX:=@Nat.sub_zero
def F8:=@Nat.xor_lt_two_pow
def dz:=@Nat.zero_add
def bf:=@Nat.zero_le
def dS:=@Nat.zero_lt_succ
def AY:=@Nat.zero_mod
def qn:=@Nat.zero_mul
def gr:=@Ne.symm
def jC:=@Oper.upon_value
def xi:=@Option.getD_some
def Gb:=@Option.isNone_iff_eq_none
def Gc:=@Option.isSome_iff_exists
def A1:=@Option.map_some
def hD:=@Option.some.inj
def uu:=@Prod.ext
def dd:=@Result.andThen_ok
def cO:=@Sem.run_bind
def dN:=@Sem.run_pure
def qw:=@Src.ofSlice
def A8:=@Tryz.func123
def xl:=@Tryz.func147
def A9:=@Tryz.func161
def xm:=@Tryz.func17
def nk:=@Tryz.func183
def Ba:=@Tryz.func210
def sg:=@Tryz.func237
def Bb:=@Tryz.func238
def nm:=@Tryz.func248
def Bc:=@Tryz.func256
def nn:=@Tryz.func323
def np:=@Tryz.func324
def Bd:=@Tryz.func48
def Be:=@Tryz.func65
def Bf:=@Tryz.isAgg46
def Bg:=@Tryz.ntmps123
def xn:=@Tryz.ntmps147
def Bh:=@Tryz.ntmps161
def xo:=@Tryz.ntmps17
def nr:=@Tryz.ntmps183
def Bi:=@Tryz.ntmps210
def sh:=@Tryz.ntmps237
def Bj:=@Tryz.ntmps238
def ns:=@Tryz.ntmps248
def Bk:=@Tryz.ntmps256
def nt:=@Tryz.ntmps323
def nu:=@Tryz.ntmps324
def Bl:=@Tryz.ntmps48
def Bm:=@Tryz.ntmps65
def uz:=@Tryz.results101
def Bn:=@Tryz.results184
def Gj:=@Tryz.results189
def Bo:=@Tryz.sizeOf46
def xp:=@Tryz.underlying118
def xq:=@Tryz.underlying172
def oM:=@Tryz.underlying184
def uA:=@Tryz.underlying186
def uB:=@Tryz.underlying193
def cP:=@Tryz.underlying29
def Gk:=@Tryz.underlying3
def xr:=@Tryz.underlying355
def uC:=@Tryz.underlying358
def Gl:=@Tryz.underlying380
def oN:=@Tryz.underlying46
def eJ:=@Tryz.underlying5
def uD:=@Tryz.underlying60
def qy:=@Tryz.underlying64
def oO:=@Tryz.underlying86
def aY:=@Tryz.underlying88
def df:=@Tryz.underlying9
def xt:=@Tryz.underlying90
def fC:=@Tryz.underlying92
def Gm:=@Tryz.underlying95
def Bp:=@Tryz.underlying96
def Gn:=@Tryz.zeroValue3
def Bq:=@Tryz.zeroValue46
def Gp:=@Tryz.zeroValue9
def oP:=@UInt32.toNat_add
def si:=@UInt32.toNat_ofNat'
def uF:=@UInt64.toNat_ofNat'
def xu:=@UInt8.toNat_inj
def qz:=@UInt8.toNat_ofNat'
def Gr:=@World.heap_setCells_other
def Gs:=@World.news_of_block
def sj:=@World.ownsRow_made
def di:=@World.ownsRow_nil
def xx:=@World.size_alloc
def bL:=@below_setRow
def dP:=@beq_eq_false_iff_ne
def gb:=@beq_iff_eq
def sx:=@bne_eq_false_iff_eq
def ml:=@bne_iff_ne
def cr:=@bodyPost_ret
def nD:=@cell_of_row
def bm:=@decide_eq_false
def B7:=@decide_eq_false_iff_not
def aT:=@decide_eq_true
def ej:=@decide_eq_true_eq
def jL:=@decide_eq_true_iff
def vi:=@eq_self_iff_true
def oZ:=@getD_in
def lr:=@getD_set_ne
def sO:=@getD_set_true
def pg:=@heap_alloc_new
def ar:=@if_neg
def au:=@if_pos
def iB:=@info_parts
def lz:=@mem_ready
def pt:=@nat_join
def yF:=@nat_mask1
def yI:=@not_not_intro
def tc:=@of_decide_eq_false
def iH:=@of_decide_eq_true
def vK:=@or_false
def vX:=@ready_mono
def fI:=@results_cell_row
def D8:=@results_tmp
def gG:=@rounds_succ
def tz:=@run_convert_bytes_back
def LH:=@run_storeCells_cells
def hX:=@run_underlying
def EE:=@setRow_other
def Mj:=@step_append_lies
def Mm:=@strOfNums_size
def EU:=@tail_waits
def E4:=@u32_or_nat
def wB:=@u32_xor_nat
def wC:=@u64_or_nat
def zE:=@u8_and_nat
def Fm:=@wpList_load_mid
def bD:=@wpList_load_row
def MZ:=@wpList_store_mid
def cm:=@wpList_store_row
def zQ:=@wpOp_step
def wI:=@wpStill_nil
def Fo:=@wp_load_mid
def M0:=@wp_loop_rounds
def Fp:=@wp_region_still_lit
def M9:=@yieldsIf_load_mid
def ai(p:Prop):Prop:=p
def ai.U{p:Prop}(h:ai p):p:=h
def Z{p:Prop}(h:p):ai p:=h
def V{p:Prop}(h:p:=by kernel_rfl):p:=h
def W{p:Prop}(h:p:=by omega):p:=h
def zD{p:Prop}(h:p:=by decide):p:=h
def zS{p:Prop}(h:p:=by simp):p:=h
def zR{p:Prop}(h:p:=by rfl):p:=h
def zA{p:Prop}(h:p:=by assumption):p:=h
abbrev O(x:Int):Value:= .int .i64 x
abbrev U(x:Int):Value:= .int .u64 x
abbrev pV(g:Nat):Value:= .pointer (some ⟨g,0,none⟩)
abbrev BW(w a:World):Prop:=RowKit.Below w.heap.size w a
abbrev CB(n:Nat)(a:Array Value)(w:World)(v:Value):Prop:=Calls prog n a w λ e b=>e= .returned v/\RowKit.Below w.heap.size w b
abbrev aa:=World
abbrev ab:=Value
abbrev af:=ByteArray
abbrev ag:= @Value.slice
abbrev ad:= @Value.string
abbrev ao:= @Ending.returned
abbrev aK:= @Value.bool
abbrev aM:= @Value.tuple
abbrev aG:= @Value.agg
variable{n:Nat}
def aS{α:Type _}(l:List α)(i:Nat)(a:α):l.toArray.setIfInBounds i a=(l.set i a).toArray:=qh ..
def av{α:Type _}{a b:α}{l:List α}:(a::l).set 0 b=b::l:=rfl
def ax{α:Type _}{a b:α}{l:List α}:(a::l).set (n+1) b=a::l.set n b:=rfl
def bH{α:Type _}{l:List α}:l.drop 0=l:=rfl
def ck{α:Type _}{a:α}{l:List α}:(a::l).drop (n+1)=l.drop n:=rfl
def dJ{α:Type _}{a:α}{l:List α}:(a::l).take (n+1)=a::l.take n:=rfl
def dr{α:Type _}{l:List α}:l.take 0=[]:=rfl
def mQ{α:Type _}{a b:α}{l:List α}(h:a∈l):a∈b::l:=jz _ h
def mZ{α:Type _}{a:α}{l:List α}:a∈a::l:=List.mem_cons_self
abbrev ye{P:_}{ops:_}{Q:_}{d:_}{t:_}{x:_}{f:_}{e:_}{b:_}{c:_}{rest:_}{a:_}{wr:_}:=wpList P ops Q (⟨d,.load t x,f,e,b,c⟩::rest) a wr
abbrev yd{P:_}{ops:_}{Q:_}{d:_}{t:_}{x:_}{f:_}{e:_}{b:_}{c:_}{rest:_}{a:_}{wr:_}:=wpList P ops Q (⟨d,.box t x,f,e,b,c⟩::rest) a wr
abbrev cn{P:_}{ops:_}{Q:_}{d:_}{t:_}{x:_}{y:_}{f:_}{e:_}{b:_}{c:_}{rest:_}{a:_}{wr:_}:=wpList P ops Q (⟨d,.buildSlice t x y,f,e,b,c⟩::rest) a wr
abbrev ie(n:Nat):Prop:=∀(a:Array ab) (w:aa),(callFunc n a).run prog w= .ok (.enter n a) w
def dW{a b:Func}(h:prog.funcs[n]?=some a)(e:a=b:=by kernel_rfl):prog.funcs[n]?=some b:=h.trans (congrArg some e)
variable{a:Act}{B:Array Bool}{m:List Nat}{i k:Nat}{o:Oper}
def Og(w:aa)(cs a:Array ab)(t:TypeId)(b:Nat×Nat):(w.alloc (.cells cs t b)).setRow w.heap.size a=w.alloc (.cells a t b):=by
 simp only[World.setRow,World.alloc];congr 1;grind
def wg{P:Program}(w:aa)(cs:Array ab)(t:TypeId)(a:List ab)(h:a.length=cs.size)(h1:∀v∈a,v.oneCell'=true):
 (storeCells ⟨w.heap.size,0,none⟩ a).run P (w.alloc (.cells cs t))= .ok () (w.alloc (.cells a.toArray t)):=by
 have:=run_storeCells_at P w.heap.size 0 t a 0 cs (w.alloc (.cells cs t)) (pg w _) W h1
 rw[this,Og]
 congr 3
 grind
def gv{B:Nat}{a w:aa}(h:Below B a w)(n:Nat):Below B a (w.drewN n):=⟨h.os,h.tape,h.output,h.size,h.block⟩
def uS{P:Program}(w:aa)(src b e:TypeId)(s:af)(f:P.underlying src=some .string)(hd:P.underlying b=some (.slice e))(d:P.underlying e=some (.int .u8)):
 ∃c a,(convert src b (ad s)).run P w= .ok (ag (some ⟨w.heap.size,0,none⟩) s.size c) a/\BW w a/\a.heap.size=w.heap.size+1/\s.size<=c/\
  ∀i (h:i<s.size),a.cell? ⟨w.heap.size,i,none⟩=some (.int .u8 (s[i].toNat:Int)):=by
 refine⟨_,_,run_bytes_of_string w src b e s f hd d,?_,?_,grownCap_ge _ _ _ _,?_⟩
 ·exact((bp _ _).drew).alloc (aQ _) _
 ·simp
 ·intro i c
  have a:w.drew.heap.size=w.heap.size:=rfl
  have:=World.cell?_alloc_mark w.drew (bytesRow s (grownCap w s.size 0 e)) e ((bytesRow s (grownCap w s.size 0 e)).size,(bytesRow s (grownCap w s.size 0 e)).size+1) i
  rw[a] at this
  rw[this]
  exact bytesRow_at s _ i c
def uT{P:Program}(w:aa)(src a e:TypeId)(xs:List Int)(h:P.underlying src=some (.slice e))(d:P.underlying e=some (.int .u8))(hd:P.underlying a=some .string)(b c:Nat)(f:xs.length=b)(t:TypeId):
 (convert src a (ag (some ⟨w.heap.size,0,none⟩) b c)).run P (w.alloc (.cells (xs.map (Value.int .u8)).toArray t))= .ok (ad (strOfNums xs)) (w.alloc (.cells (xs.map (Value.int .u8)).toArray t)):=by
 refine run_convert_bytes_arg _ src e h d w.heap.size 0 b c xs f (λ i j=> ?_) a hd
 simp_all
def Pb{w a b:aa}(h:BW w a)(k:BW a b):BW w b:=h.trans (k.mono h.size)
def bB(l:List UInt8):List ab:=l.map λ c=>Value.int .u8 (c.toNat:Int)
def Ph(l:List UInt8):(bB l).length=l.length:=by simp[bB]
def qG(l m:List UInt8):bB (l++m)=bB l++bB m:=by simp[bB]
def Pj(l:List UInt8):∀u∈bB l,u.oneCell'=true:=by
 intro u a;simp only[bB,eH] at a;obtain⟨_,_,rfl⟩:=a;rfl
section
variable{P:Program}{w:aa}
def ER{ops:Array Oper}{K:Act->aa->Prop}{Q:Exit->Act->aa->Prop}{E:Prop}(q:o.guard=none)(s x:Operand)(t:TypeId)
 (A:o.op= .call {callee:= .builtin .append,args:=#[s,x],argTypes:=#[t,t]})
 (base:Nat) (e:TypeId) (i:TypeInfo) (z:ab) (bytes:Nat) (F:P.underlying t=some (.slice e)) (r:P.info? e=some i) (H:i.zero=some z)
 (D:i.size=1) (m:i.bytes=bytes) (I:z.cells.size=1)
 (v:ab) (n:Nat) (xs:List ab) (C:a.eval s=v) (B:w.ownsRow base e 1 v n xs)
 (g:Nat) (hx:a.eval x=ag (some ⟨g,0,none⟩) 1 1) (u:ab) (G:w.cell? ⟨g,0,none⟩=some u) (h1:u.oneCell'=true)
 (h63:n+1<=maxLen) (p:(n+1)*bytes<=140737488355328) (k:base<=w.heap.size)
 (h:∀b w',w'.ownsRow base e 1 b (n+1) (xs++[u])->w.grownBy w' v.ownBlock->(b.ownBlock=v.ownBlock\/b.ownBlock=some w.heap.size)->K (a.put o.dst b) w'):
 if Region.wanted o (yielded ops a.tmps)=true then Oper.wp P o a w K Q else E:=by
 refine Mj w q s x t A base e i z 1 bytes F r H D m I zD v n xs C B ⟨g,0,none⟩ 1 1 [u] hx rfl ?_ ?_ zD h63 p k _ rfl ?_
 ·intro j y c
  match j,c with
  |0,c=>simp at c;subst c;simpa[Addr.add] using G
 ·grind
 ·intro M J w' d f b N
  refine h _ w' d f ?_
  rcases b with b|b
  ·exact .inl b.symm
  ·subst b;exact .inr rfl
def qL{base e src dst t:TypeId}{v:ab}{n:Nat}{l:List UInt8}(d:P.underlying src=some (.slice e))(b:P.underlying e=some (.int .u8))(hd:P.underlying dst=some .string)
 (a:w.ownsRow base t 1 v n (bB l)):(convert src dst v).run P w= .ok (ad ⟨l.toArray⟩) w:=by
 have c:=a.1
 simp only[Ph,oG] at c
 rcases a.2 with⟨rfl,rfl⟩|⟨g,f,i,rfl,_⟩
 ·have:l=[]:=by grind
  subst this
  exact run_convert_bytes_nil w src e d b 0 0 dst hd
 ·subst c
  refine tz w src dst e ⟨g,0,none⟩ f l d b hd ?_
  intro j h
  refine a.cells rfl j _ ?_
  simp[bB,h]
end
def DB{b c:aa}{base:Nat}{e:TypeId}{size:Nat}{v:ab}{n:Nat}{xs:List ab}(h:b.ownsRow base e size v n xs)(i:BW b c):c.ownsRow base e size v n xs:=by
 refine⟨h.1,?_⟩;rcases h.2 with m|⟨g,d,f,k,j,a,r⟩
 ·grind
 ·exact .inr ⟨g,d,f,k,j,by rw[i.block g (mT.1 a).1];exact a,r⟩
def qH{a b:aa}{B:Nat}{p:Addr}{v:ab}(d:Below B a b)(c:a.heap.size=B)(h:a.cell? p=some v):b.cell? p=some v:=by
 subst c;exact(d.cell (World.block_lt_of_cell? a p h)).trans h
structure aW(B:Nat)(l:List Nat)(w w':aa):Prop where
 os:w'.os=w.os
 tape:w'.tape=w.tape
 output:w'.output=w.output
 size:w.heap.size<=w'.heap.size
 block:∀k,k<B->k∉l->w'.heap[k]?=w.heap[k]?
def aW.refl(B:Nat)(l:List Nat)(w:aa):aW B l w w:=⟨rfl,rfl,rfl,aQ _,λ _ _ _=>rfl⟩
def aW.trans{B:Nat}{l:List Nat}{a b c:aa}(h:aW B l a b)(k:aW B l b c):aW B l a c:=
 ⟨k.os.trans h.os,k.tape.trans h.tape,k.output.trans h.output,hy h.size k.size,λ i d f=>(k.block i d f).trans (h.block i d f)⟩
def aW.mono{B:Nat}{l:List Nat}{w w':aa}(h:aW B l w w')(c:k<=B)(d:∀a,a<k->a∈l->a∈m):aW k m w w':=
 ⟨h.os,h.tape,h.output,h.size,λ a b i=>h.block a (kS b c) (λ f=>i (d a b f))⟩
def aW.then{B:Nat}{l:List Nat}{a b c:aa}(h:aW B l a b)(d:aW k m b c)(f:B<=k)(i:∀d,d<B->d∈m->d∈l):aW B l a c:=h.trans (d.mono f i)
def aW.drew{B:Nat}{l:List Nat}{a w:aa}(h:aW B l a w):aW B l a w.drew:=⟨h.os,h.tape,h.output,h.size,h.block⟩
def aW.drewN{B:Nat}{l:List Nat}{a w:aa}(h:aW B l a w)(n:Nat):aW B l a (w.drewN n):=⟨h.os,h.tape,h.output,h.size,h.block⟩
def aW.alloc{B:Nat}{l:List Nat}{a w:aa}(h:aW B l a w)(b:B<=w.heap.size)(o:Obj):aW B l a (w.alloc o):=
 h.trans ⟨rfl,rfl,rfl,by simp,λ k c _=>pY _ _ _ W⟩
def aW.setCell{B:Nat}{l:List Nat}{a w:aa}(h:aW B l a w){p:Addr}(d:p.block∈l\/B<=p.block)(u:ab):aW B l a (w.setCell p u):=
 h.trans ⟨rfl,rfl,rfl,by simp,λ k b c=>tQ _ _ _ _ (by
  grind)⟩
def aW.grown{B:Nat}{l:List Nat}{a w w':aa}{c:Option Nat}(h:aW B l a w)(b:w.grownBy w' c)(d:B<=w.heap.size)(j:∀k,c=some k->k∈l\/B<=k):aW B l a w':=
 h.trans ⟨b.os,b.tape,b.output,b.size,λ k f i=>b.block k W (λ e=>by
  grind)⟩
def aW.below{B:Nat}{l:List Nat}{w w':aa}(h:aW B l w w')(b:∀k∈l,B<=k):Below B w w':=
 ⟨h.os,h.tape,h.output,h.size,λ k a=>h.block k a (λ c=>by grind)⟩
def aW.px{B:Nat}{w w':aa}(h:Below B w w')(l:List Nat):aW B l w w':=⟨h.os,h.tape,h.output,h.size,λ k a _=>h.block k a⟩
def ah(w:aa)(g:Nat)(t:TypeId)(cs:Array ab):Prop:=w.heap[g]?=some (.cells cs t (0,0))
section
variable{w w':aa}{g:Nat}{t:TypeId}{cs:Array ab}
def ah.lt(h:ah w g t cs):g<w.heap.size:=(mT.1 h).1
def ah.cell(h:ah w g t cs)(i:Nat):w.cell? ⟨g,i,none⟩=cs[i]?:=nD w g i cs t (0,0) h
def ah.frozen(h:ah w g t cs)(i:Nat):w.frozen? ⟨g,i,none⟩=false:=by
 unfold ah at h;simp[World.frozen?,h]
def ah.new(w:aa)(t:TypeId)(cs:Array ab):ah (w.alloc (.cells cs t)) w.heap.size t cs:=pg w _
def ah.drew(h:ah w g t cs):ah w.drew g t cs:=h
def ah.drewN(h:ah w g t cs)(n:Nat):ah (w.drewN n) g t cs:=h
def ah.alloc(h:ah w g t cs)(o:Obj):ah (w.alloc o) g t cs:=(pY w o g h.lt).trans h
def ah.dx(h:ah w g t cs)(i:Nat)(u:ab):ah (w.setCell ⟨g,i,none⟩ u) g t (cs.setIfInBounds i u):=by
 unfold ah at h⊢;simp[World.setCell,Ad,h]
def ah.cE(h:ah w g t cs){p:Addr}(a:g≠p.block)(u:ab):ah (w.setCell p u) g t cs:=(tQ w p u g a).trans h
def ah.only{B:Nat}{l:List Nat}(h:ah w g t cs)(c:aW B l w w')(a:g<B)(b:g∉l):ah w' g t cs:=(c.block g a b).trans h
def ah.grown{a:Option Nat}(h:ah w g t cs)(b:w.grownBy w' a)(c:some g≠a):ah w' g t cs:=(b.block g h.lt c).trans h
def ah.VX{a:TypeId}{b:Array ab}(h:ah w g t cs)(c:ah w k a b)(d:t≠a):g≠k:=by
 rintro rfl;unfold ah at h c;grind
def tj{base:Nat}{e:TypeId}{size n:Nat}{v:ab}{xs:List ab}(h:w.ownsRow base e size v n xs)(c:ah w g t cs)(f:e≠t):v.ownBlock≠some g:=by
 rcases h.2 with⟨rfl,_⟩|⟨a,i,j,rfl,_,d,_⟩
 ·simp[Value.ownBlock]
 ·intro b;have:a=g:=by simpa[Value.ownBlock] using b
  subst this;exact ah.VX (t:=e) d c f rfl
def WI{B base:Nat}{l:List Nat}{e:TypeId}{size n:Nat}{v:ab}{xs:List ab}(h:w.ownsRow base e size v n xs)(m:aW B l w w')(f:∀k,v.ownBlock=some k->k<B/\k∉l):w'.ownsRow base e size v n xs:=by
 refine⟨h.1,?_⟩;rcases h.2 with a|⟨g,b,c,rfl,i,j,r⟩
 ·grind
 ·obtain⟨d,a⟩:=f g rfl;exact .inr ⟨g,b,c,rfl,i,by rw[m.block g d a];exact j,r⟩
def DD{base:Nat}{e:TypeId}{size n:Nat}{v:ab}{xs:List ab}(h:w.ownsRow base e size v n xs){p:Addr}(a:v.ownBlock≠some p.block)(u:ab):(w.setCell p u).ownsRow base e size v n xs:=
 ownsRow_setCell_other h a u
def DC{base:Nat}{e:TypeId}{size n:Nat}{v:ab}{xs:List ab}(h:w.ownsRow base e size v n xs):∀k,v.ownBlock=some k->k<w.heap.size:=λ k a=>(h.lt k a).2
end
section
variable{P:Program}{w:aa}
def ZX{ops:Array Oper}{K:Act->aa->Prop}{Q:Exit->Act->aa->Prop}{E:Prop}(p:o.guard=none)(s x:Operand)(t:TypeId)
 (y:o.op= .call {callee:= .builtin .append,args:=#[s,x],argTypes:=#[t,t]})
 (base:Nat) (e:TypeId) (i:TypeInfo) (z:ab) (size bytes:Nat) (F:P.underlying t=some (.slice e)) (q:P.info? e=some i) (H:i.zero=some z)
 (C:i.size=size) (k:i.bytes=bytes) (I:z.cells.size=size) (D:0<size)
 (v:ab) (n:Nat) (xs:List ab) (B:a.eval s=v) (A:w.ownsRow base e size v n xs)
 (g:Nat) (hx:a.eval x=ag (some ⟨g,0,none⟩) 1 1) (b:Array ab) (J:TypeId) (f:Nat×Nat) (G:w.heap[g]?=some (.cells b J f)) (r:b.size=size) (h1:∀u∈b.toList,u.oneCell'=true)
 (h63:n+1<=maxLen) (m:(n+1)*bytes<=140737488355328) (j:base<=w.heap.size)
 (h:∀c d w',w'.ownsRow base e size (ag (some ⟨c,0,none⟩) (n+1) d) (n+1) (xs++b.toList)->w.grownBy w' v.ownBlock->(v.ownBlock=some c\/c=w.heap.size)->K (a.put o.dst (ag (some ⟨c,0,none⟩) (n+1) d)) w'):
 if Region.wanted o (yielded ops a.tmps)=true then Oper.wp P o a w K Q else E:=by
 refine Mj w p s x t y base e i z size bytes F q H C k I D v n xs B A ⟨g,0,none⟩ 1 1 b.toList hx (by simp[r]) (Gs G) h1 zD h63 m j _ rfl ?_
 grind
end
section
variable{P:Program}{w:aa}
def da{base:Nat}{e:TypeId}{size n:Nat}{v:ab}{xs:List ab}(h:w.ownsRow base e size v n xs):∃A c,v=ag A n c/\(∀k,v.ownBlock=some k->base<=k/\k<w.heap.size):=by
 have d:=h.lt;rcases h.2 with⟨rfl,rfl⟩|⟨g,a,b,rfl,_⟩
 ·grind
 grind
end
section
variable{w w':aa}{base:Nat}{e:TypeId}{size:Nat}{v:ab}{n:Nat}{xs:List ab}
def ED(b:Nat):∀(a:List ab) (o:Nat) (w:aa),(w.setCells b o a).tape=w.tape/\(w.setCells b o a).os=w.os/\(w.setCells b o a).output=w.output/\(w.setCells b o a).heap.size=w.heap.size
 |[],_,_=>⟨rfl,rfl,rfl,rfl⟩
 |v::r,o,w=>by
  have:=ED b r (o+1) (w.setCell ⟨b,o,none⟩ v)
  rw[World.setCells]
  exact⟨this.1,this.2.1,this.2.2.1,this.2.2.2.trans zS⟩
def LV(g:Nat)(i:Nat×Nat):∀(a:List ab) (o:Nat) (d:Array ab) (w:aa),w.heap[g]?=some (.cells d e i)->o+a.length<=d.size->
 ∃f,(w.setCells g o a).heap[g]?=some (.cells f e i)/\f.size=d.size/\f.toList.take (o+a.length)=d.toList.take o++a
 |[],o,d,w,h,_=>⟨d,h,rfl,by simp⟩
 |v::r,o,d,w,h,k=>by
  simp only[gq] at k
  have j:(w.setCell ⟨g,o,none⟩ v).heap[g]?=some (.cells (d.setIfInBounds o v) e i):=by
   simp[World.setCell,Ad,h]
  obtain⟨f,a,b,c⟩:=LV g i r (o+1) _ _ j (by grind)
  refine⟨f,a,by grind,?_⟩
  rw[gq,show o+(r.length+1)=o+1+r.length by omega,c]
  have:(d.setIfInBounds o v).toList.take (o+1)=d.toList.take o++[v]:=by
   rw[Array.toList_setIfInBounds,List.take_set,eC (by grind)]
   rw[kQ _ _ (by grind)]
   simp[hz (show o<=d.size by omega)]
  grind
variable{P:Program}
end
section
variable{w w':aa}{base:Nat}{e:TypeId}{size:Nat}{v:ab}{n:Nat}{xs:List ab}{P:Program}
def Y0(t q r e:TypeId)(i:TypeInfo)(z:ab)(bytes:Nat)(H:P.underlying t=some (.slice e))(E:P.info? e=some i)(a8:i.zero=some z)(a5:i.size=size)(T:i.bytes=bytes)(a9:z.cells.size=size)
 (h:w.ownsRow base e size v n xs) (x:ab) (m:Nat) (d:List ab) (A:Src P size q x m d w) (h63:n+m<=maxLen) (X:(n+m)*bytes<=140737488355328) (R:base<=w.heap.size):
 ∃a w',(Builtin.append_ #[t,q] r #[v,x]).run P w= .ok a w'/\w'.ownsRow base e size a (n+m) (xs++d)/\w.grownBy w' v.ownBlock/\(a.ownBlock=v.ownBlock\/a.ownBlock=some w.heap.size):=by
 subst a5;subst T
 have a4:=A.newsLen
 have K:=h.1
 have a6:((n+m:Nat):Int)<=9223372036854775807:=by simp only[maxLen] at h63;omega
 have J:∀(s:Option Addr) (p:Nat),v=ag s n p->p<n+m->(Builtin.firstCells i.size n (ag s n p)).run P w.drew= .ok xs.toArray w.drew->
  ∃a w',(Builtin.append_ #[t,q] r #[v,x]).run P w= .ok a w'/\w'.ownsRow base e i.size a (n+m) (xs++d)/\w.grownBy w' v.ownBlock/\(a.ownBlock=v.ownBlock\/a.ownBlock=some w.heap.size):=by
  rintro s p rfl y b
  have G:=run_append_grow_src (P:=P) w t q r e i z H E a8 s n p xs b x m d A y a6 (growslice_fits y X)
  have a:=grownCap_ge w (n+m) p e
  refine⟨_,_,G,⟨by grind,.inr ⟨w.heap.size,_,_,rfl,R,pg w.drew _,a,grownCap_le_maxLen _ _ _ _ h63,?_,?_⟩⟩,?_,.inr rfl⟩
  ·rw[Array.size_append,size_zeroCells,a9,oD,bV,K,a4,<-oF,<-oF]
   grind
  ·rw[Ae]
   rw[w7 (by grind),bK (by grind)]
  ·exact⟨rfl,rfl,rfl,by simp,λ k u _=>pY w.drew _ k u⟩
 rcases h.2 with⟨o,F⟩|⟨g,f,B,o,y,D,b1,a2,a1,b2⟩
 rotate_left
 have b0:∀j,j<B.size->w.frozen? ⟨g,j,none⟩=false:=λ j _=>by simp[World.frozen?,D]
 rotate_left
 ·subst F
  have a7:xs=[]:=by grind
  subst a7
  by_cases N:m=0
  ·subst N
   have F:d=[]:=by grind
   subst F
   rw[o]
   exact⟨_,_,run_append_nothing (P:=P) w t q r e i H E none 0 0 (aQ _) x A,di _ _ _ _,⟨rfl,rfl,rfl,aQ _,λ _ _ _=>rfl⟩,.inl rfl⟩
  ·exact J none 0 o W (run_firstCells_none w.drew i.size 0 0 0)
 ·by_cases C:n+m<=f
  ·have a0:(n+m)*i.size<=f*i.size:=lZ _ C
   rw[oF] at a0
   have G:=run_append_room_src (P:=P) w t q r e i H E g 0 n f x m d A C
    (λ j a=>by rw[dz,nD w g _ B e (0,0) D,lN W];rfl)
    (λ j a=>by grind)
   obtain⟨M,a,b,c⟩:=LV (e:=e) g (0,0) d (0+n*i.size) B w D W
   have I:=ED g d (0+n*i.size) w
   rw[o]
   refine⟨_,_,G,⟨by grind,.inr ⟨g,f,M,rfl,y,a,C,a2,b.trans a1,?_⟩⟩,⟨I.2.1,I.1,I.2.2.1,by omega,?_⟩,.inl rfl⟩
   ·grind
   ·intro k u a3
    exact Gr w g _ d u (λ e=>a3 (by rw[e];rfl))
  ·refine J (some ⟨g,0,none⟩) f o W ?_
   refine run_firstCells_some w.drew i.size n ⟨g,0,none⟩ n f xs K (λ j u k=> ?_)
   subst o
   exact h.cells rfl j u k
def mM{ops:Array Oper}{rest:List Oper}{Q:Exit->Act->aa->Prop}(u:o.guard=none)(s x:Operand)(t d:TypeId)
 (A:o.op= .call {callee:= .builtin .append,args:=#[s,x],argTypes:=#[t,d]})
 (base:Nat) (e:TypeId) (i:TypeInfo) (z:ab) (size bytes:Nat) (E:P.underlying t=some (.slice e)) (y:P.info? e=some i) (G:i.zero=some z)
 (D:i.size=size) (q:i.bytes=bytes) (H:z.cells.size=size)
 (v:ab) (n:Nat) (xs:List ab) (F:a.eval s=v) (h:w.ownsRow base e size v n xs)
 (f:ab) (m:Nat) (c:List ab) (hx:a.eval x=f) (C:Src P size d f m c w)
 (h63:n+m<=maxLen) (r:(n+m)*bytes<=140737488355328) (p:base<=w.heap.size)
 (j:∀b w',w'.ownsRow base e size b (n+m) (xs++c)->w.grownBy w' v.ownBlock->(b.ownBlock=v.ownBlock\/b.ownBlock=some w.heap.size)->wpList P ops Q rest (a.put o.dst b) w'):wpList P ops Q (o::rest) a w:=by
 refine wpList_plain u λ K k=> ?_
 obtain⟨b,w',B,I,J,M⟩:=Y0 (P:=P) t d o.type e i z bytes E y G D q H h f m c C h63 r p
 unfold Oper.wp
 simp[execOp,A,resolve,invoke,builtin,F,hx,B,Result.andThen]
 exact k _ _ (j b w' I J M)
end
def dI{P:Program}{w:aa}{g:Nat}{t:TypeId}{a:Array ab}(h:ah w g t a)(cs:Array ab)(b:cs.size=a.size)(h1:∀v∈cs.toList,v.oneCell'=true):
 (storeCells ⟨g,0,none⟩ cs.toList).run P w= .ok () (w.setRow g cs):=by
 have:=run_storeCells_at (P:=P) g 0 t cs.toList 0 a w h (by simp[b]) h1
 rw[this]
 congr 2
 grind
def ah.setRow{w:aa}{g:Nat}{t:TypeId}{a:Array ab}(h:ah w g t a)(cs:Array ab):ah (w.setRow g cs) g t cs:=setRow_heap w g a cs t (0,0) h
def ah.cH{w:aa}{g:Nat}{t:TypeId}{a:Array ab}(h:ah w g t a)(cs:Array ab)(b:g≠k):ah (w.setRow k cs) g t a:=(EE w k g cs b).trans h
def fD(w:aa)(o:Obj)(t:TypeId)(cs:Array ab):ah ((w.alloc o).alloc (.cells cs t)) (w.heap.size+1) t cs:=by
 have h:=ah.new (w.alloc o) t cs;simp_all
def bJ(w:aa)(o:Obj):BW w (w.alloc o):=(bp _ _).alloc (aQ _) o
section
variable{P:Program}
end
def hR{P:Program}{c:Func}{p q:Tmp}{b:TypeId}(h:c.results=#[.cell p b,.tmp q])(a:Array ab)(w:aa)(g:Nat)(t:TypeId)(cs:Array ab)(f:Nat×Nat)(d:TypeDesc)
 (k:a.getD p undef=pV g) (i:w.heap[g]?=some (.cells cs t f))
 (o:P.underlying b=some d) (hd:(match d with| .struct _| .array _ _=>true|_=>false)=true) (j:(P.info? b).map (·.size)=some cs.size):
 (results c a).run P w= .ok (aM #[aG cs,a.getD q undef]) w:=by
 have m:a[p]?.getD undef=pV g:=by simpa using k
 simp[results,h,m,asAddr,run_loadVar_row w g t b cs f d i o hd j]
section
variable{P:Program}{ops:Array Oper}{Q:Exit->Act->aa->Prop}{md:Region.Mode}{S:aa->Prop}{n:Nat}{L:Array Bool->Act->aa->Prop}
def fa(P:Program)(md:Region.Mode)(ops:Array Oper)(Q:Exit->Act->aa->Prop)(S:aa->Prop)(n:Nat)(L:Array Bool->Act->aa->Prop):Nat->Array Bool->Act->aa->Prop
 |0,b,a,w=>L b a w
 |f+1,b,a,w=>Region.ready md ops b≠[]/\∀i∈Region.ready md ops b,i<n/\wpOp P ops Q i (λ c w'=>S w'/\fa P md ops Q S n L f (b.setIfInBounds i true) c w') a w
def fa.any{g:Nat}(c:∀b a w,L b a w->wpAny P md ops Q g b a w):∀(f:Nat) (b:Array Bool) (a:Act) (w:aa),fa P md ops Q S n L f b a w->wpAny P md ops Q (f+g) b a w
 |0,b,a,w,h=>by rw[dz];exact c _ _ _ h
 |f+1,b,a,w,h=>by
  rw[show f+1+g=(f+g)+1 by omega]
  exact⟨λ k=>absurd k h.1,λ i m=>wpOp_mono (λ d w' j=>fa.any c f _ d w' j.2) (h.2 i m).2⟩
def fa.first{v:ab}(y:ops[i]?=some o)(G:∀(j:Nat) (a:Oper) cs b,ops[j]?=some a->a.op≠ .select cs b)
 (F:Region.sinkB md ops n=true) (B:Region.chainB md ops n=true) (E:n<ops.size) (D:i<n)
 (K:∀c a w,Q (.panic c) (a.put o.dst v) w->Q (.panic c) a w)
 (M:∀d a w,L d a w->∀j∈Region.ready md ops d,n<=j):
 ∀(f:Nat) (d:Array Bool) (a:Act) (w:aa),HeadInv md ops n d->
  (∀j q,ops[j]?=some q->j≠i->d.getD j true=false->(∀e∈q.after,Region.binds md e=true->e.on≠i)->o.apart ops q=true)->
  i∈Region.ready md ops d->YieldsIf P ops S o v a->S w->
  fa P md ops Q S n L f (d.setIfInBounds i true) (a.put o.dst v) w->fa P md ops Q S n L (f+1) d a w:=by
 intro f
 induction f with
 |zero=>
  intro d a w inv _ u x r H
  have A:=(lz.1 u).1
  refine⟨λ h=>(by grind),λ j p=> ?_⟩
  have s:j<n:=xe λ h=>absurd p (EU F B E inv _ i rfl D A j h)
  refine⟨s,?_⟩
  by_cases m:j=i
  ·subst m;exact x.wpOp y r ⟨r,H⟩
  ·have:=M _ _ _ H j (vX p m)
   omega
 |succ f a2=>
  intro d a w inv C u x r H
  have A:=(lz.1 u).1
  refine⟨λ h=>(by grind),λ j p=> ?_⟩
  have s:j<n:=xe λ h=>absurd p (EU F B E inv _ i rfl D A j h)
  refine⟨s,?_⟩
  by_cases m:j=i
  ·subst m;exact x.wpOp y r ⟨r,H⟩
  ·have I:=(H.2 j (vX p m)).2
   obtain⟨R,q,z,a3⟩:=lz.1 p
   have a1:∀e∈q.after,Region.binds md e=true->e.on≠i:=by grind
   have J:=wpOp_putIf z (C j q z m R a1) (λ cs b=>G i o cs b y) (λ cs b=>G j q cs b z) K x I
   have N:∀k ok,ops[k]?=some ok->k≠i->(d.setIfInBounds j true).getD k true=false->
    (∀e∈ok.after,Region.binds md e=true->e.on≠i)->o.apart ops ok=true:=λ k ok T X a5 a0=>by
    refine C k ok T X ?_ a0
    by_cases a4:j=k
    ·grind
    simp_all
   refine wpOp_mono (λ k w' b=>⟨b.2.1,a2 (d.setIfInBounds j true) k w' (inv.set p s) N (vX u (gr m)) b.1 b.2.1 ?_⟩) J
   rw[Array.setIfInBounds_comm _ _ m]
   grind
def NJ(P:Program)(md:Region.Mode)(l:List Oper)(Q:Exit->Act->aa->Prop)(n:Nat)(b:Array Bool)(a:Act)(w:aa):Prop:=
 Region.seqB md l.toArray (l.length-n) n b=true/\wpList P l.toArray Q (l.drop n) a w
def ay(P:Program)(l:List Oper)(Q:Exit->Act->aa->Prop)(S:aa->Prop)(n f:Nat)(listed:Array Bool)(a:Act)(w:aa):Prop:=
 Region.sinkB .any l.toArray n=true->Region.chainB .any l.toArray n=true->Region.noSelect l.toArray=true->n<l.length->HeadInv .any l.toArray n listed->fa P .any l.toArray Q S n (NJ P .any l Q n) f listed a w
variable{l:List Oper}
def ay.take{oi:Oper}{v:ab}{w:aa}(j:l.toArray[i]?=some oi)(m:i<n)
 (u:Region.free .any l.toArray B i=true) (x:(Region.ready .any l.toArray B).contains i=true)
 (r:∀c a w,Q (.panic c) (a.put oi.dst v) w->Q (.panic c) a w) (y:YieldsIf P l.toArray S oi v a) (s:S w)
 (h:ay P l Q S n k (B.setIfInBounds i true) (a.put oi.dst v) w):ay P l Q S n (k+1) B a w:=λ b d f p inv=>by
 have o:i∈Region.ready .any l.toArray B:=by simpa using x
 exact fa.first j (Region.noSelect_spec f) b d W m r (λ A z w' q=>seqB_ready q.1) k B a w inv (Region.free_spec j u) o y s (h b d f p (inv.set o m))
def ay.one{w:aa}(f:Region.ready .any l.toArray B=[i])(c:i<n)(x:l.toArray[i]?=some o)
 (h:∀b:Act->aa->Prop,Shut (∀a w,S w->(S w->ay P l Q S n k (B.setIfInBounds i true) a w)->b a w)->if Region.wanted o (yielded l.toArray a.tmps)=true then Oper.wp P o a w b Q else b (a.put o.dst undef) w):
 ay P l Q S n (k+1) B a w:=λ m p q r inv=>by
 have y:i∈Region.ready .any l.toArray B:=by rw[f];simp
 refine⟨by grind,λ j d=> ?_⟩
 rw[f,ud] at d
 subst d
 exact⟨c,zQ x (λ b s=>h b (λ a w b u=>s a w ⟨b,u b m p q r (inv.set y c)⟩))⟩
def ay.tail{w:aa}(b:Region.seqB .any l.toArray (l.length-n) n B=true)(h:wpList P l.toArray Q (l.drop n) a w):ay P l Q S n 0 B a w:=λ _ _ _ _ _=>⟨b,h⟩
def mN{id:Nat}{w:aa}(n:Nat)(S:aa->Prop)(m:P.follows .mixedOrders=true)(b:(Region.noSelect l.toArray&&decide (n<l.length)&&Region.sinkB .any l.toArray n&&Region.chainB .any l.toArray n)=true)(i:S w.drew)
 (h:S w.drew->ay P l Q S n n (Array.replicate l.length false) a w.drew):(Code.region id l.toArray true).wp P Q a w:=by
 simp only[dL,ej] at b
 obtain⟨⟨⟨q,o⟩,p⟩,k⟩:=b
 refine wp_region_any m ?_
 have r:HeadInv .any l.toArray n (Array.replicate l.length false):=
  ⟨by simp,λ j s _ c=>(by rw[getD_replicate_false] at c;cases c),λ t _ f=>oZ (by grind) (getD_replicate_false _ _)⟩
 have d:(l.drop n).length=l.length-n:=by simp
 have:=fa.any (Q:=Q) (g:=l.length-n) (λ s f w' c=>by
  have:=wpAny_of_seq (md:= .any) (Q':=Q) (l.drop n) n s f w' (λ j=>by simp) (by rw[d];exact c.1) c.2
  rwa[d] at this) _ _ _ _ (h i p k q o r)
 rw[show n+(l.length-n)=l.toArray.size by grind] at this
 rw[oD] at this⊢
 exact this
def cu{ops:Array Oper}(k:Region.wanted o (yielded ops a.tmps)=true)(b:TypeId)(x:Operand)(i:o.op= .load b x)
 (g:Nat) (hx:a.eval x=pV g) (t:TypeId) (cs:Array ab) (c:Nat×Nat) (d:TypeDesc) (f:∀w,S w->w.heap[g]?=some (.cells cs t c))
 (j:P.underlying b=some d) (hd:(match d with| .struct _| .array _ _=>true|_=>false)=true) (h:(P.info? b).map (·.size)=some cs.size):YieldsIf P ops S o (.agg cs) a:=
 .inl ⟨k,λ w m=>by
  unfold execOp
  simp only[i,hx,Instr.loadAt,Instr.sureAddr,cO,dN,dd,run_loadVar_row w g t b cs c d (f w m) j hd h]⟩
end
section
variable{P:Program}{Q:Exit->Act->aa->Prop}{S:aa->Prop}{n:Nat}{l:List Oper}
def ia(P:Program)(l:List Oper)(Q:Exit->Act->aa->Prop)(S:aa->Prop)(n f:Nat)(c:Array Bool)(a:Act)(w:aa)(d:List Nat):Prop:=
 ∀i∈d,wpOp P l.toArray Q i (λ b w'=>S w'/\ay P l Q S n f (c.setIfInBounds i true) b w') a w
def ia.nil{w:aa}:ia P l Q S n k B a w []:=λ _ h=>by cases h
def ia.cons{w:aa}(p:l.toArray[i]?=some o)
 (h:∀b:Act->aa->Prop,Shut (∀a w,S w->(S w->ay P l Q S n k (B.setIfInBounds i true) a w)->b a w)->if Region.wanted o (yielded l.toArray a.tmps)=true then Oper.wp P o a w b Q else b (a.put o.dst undef) w)
 (q:ia P l Q S n k B a w m):ia P l Q S n k B a w (i::m):=λ j c=>by
 rcases bO.1 c with rfl|c
 ·exact zQ p (λ b d=>h b (λ a w b f=>d a w ⟨b,f b⟩))
 ·exact q j c
def ay.many{rs:List Nat}{w:aa}(q:Region.ready .any l.toArray B=rs)(s:rs≠[])(d:∀i∈rs,i<n)
 (h:ia P l Q S n k B a w rs):ay P l Q S n (k+1) B a w:=λ i m o p inv=>by
 refine⟨by grind,λ j f=> ?_⟩
 have b:j∈rs:=by rw[<-q];exact f
 exact⟨d j b,wpOp_mono (λ r w' c=>⟨c.1,c.2 i m o p (inv.set f (d j b))⟩) (h j b)⟩
end
section
variable{P:Program}{Q:Exit->Act->aa->Prop}
variable{S:aa->Prop}{l:List Oper}
end
def Eh{P:Program}{t e:TypeId}{n:Nat}{q:IntKind}{cs:Array ab}{v:ab}(w:aa)(h:P.underlying t=some (.array n e))(j:P.underlying e=some (.int q))(f:(P.info? e).isSome=true)(a:P.cellsOf e=1)(b:i<n)(k:cs[i]?=some v):
 (Instr.index t (aG cs) (O (i:Int))).run P w= .ok v w:=by
 have d:(0<=(i:Int)/\(i:Int)<(n:Int)):=by omega
 obtain⟨m,c⟩:=Gc.1 f
 simp[Instr.index,hX h,asIntOf,d,go_sem,part,run_sizeOf w c,a,isAgg,hX j,b,k]
def IW(n:Int):bits .and .i64 n 1=n%2:=by
 have h127:(BitVec.ofInt 64 1).toNat=2^1-1:=by decide
 have a:(BitVec.ofInt 64 n&&&BitVec.ofInt 64 1).toNat=(n%((2^64:Nat):Int)).toNat%2^1:=by
  rw[BitVec.toNat_and,FN,h127,F3]
 show IntKind.i64.wrap ((BitVec.ofInt 64 n&&&BitVec.ofInt 64 1).toNat:Nat)=n%2;rw[a,hh];omega
def Ty(n:Int):bits .and .i64 n 65535=n%65536:=by
 have h127:(BitVec.ofInt 64 65535).toNat=2^16-1:=by decide
 have a:(BitVec.ofInt 64 n&&&BitVec.ofInt 64 65535).toNat=(n%((2^64:Nat):Int)).toNat%2^16:=by
  rw[BitVec.toNat_and,FN,h127,F3]
 show IntKind.i64.wrap ((BitVec.ofInt 64 n&&&BitVec.ofInt 64 65535).toNat:Nat)=n%65536;rw[a,hh];omega
variable{f r:Int}{l:List Int}
namespace FM
def P:Int:=57896044618658097711785492504343953926634992332820282019728792003956564819949
def val:List Int->Int
 |[]=>0
 |d::a=>d+65536*val a
def tI:∀(a b:List Int),val (a++b)=val a+65536^a.length*val b
 |[],b=>by simp[val]
 |d::a,b=>by
  simp only[lR,val,tI a b,gq,qe]
  grind
def jq:∀(l:List Int) (k:Nat) (v:Int) (h:k<l.length),val (l.set k v)=val l+(v-l[k])*65536^k
 |[],k,v,h=>absurd h zS
 |d::a,0,v,h=>by simp only[lW,val,List.getElem_cons_zero,Int.pow_zero,Int.mul_one];omega
 |d::a,k+1,v,h=>by
  simp only[nc,val,List.getElem_cons_succ,qe]
  have b:k<a.length:=by simpa using h
  rw[jq a k v b,tU,<-wU,mV 65536 (v-a[k]),wU,mV 65536 (65536^k),Int.add_assoc]
def jX:∀(l:List Int),(∀d∈l,0<=d/\d<65536)->0<=val l/\val l<65536^l.length
 |[],_=>by simp[val]
 |d::a,h=>by
  have b:=h d zS
  have c:=jX a (λ x hx=>h x (jz _ hx))
  simp only[val,gq,qe]
  omega
structure CI(l0 l:List Int)(a b:Int)(i:Nat):Prop where
 len:l.length=16
 c:l0.length=16
 same:val l=val l0
 done:∀k (h:k<l.length),k<i->0<=l[k]/\l[k]<65536
 rest:∀k (h:k<l.length) (h0:k<l0.length),i<k->l[k]=l0[k]
 here:∀(h:i<l.length) (h0:i<l0.length),a<=l[i]-l0[i]/\l[i]-l0[i]<=b
def CI.start(h:l.length=16)(d:r<=0)(e:0<=f):CI l l r f 0:=
 ⟨h,h,rfl,λ k a b=>by omega,λ k a b c=>rfl,λ a b=>by omega⟩
def CI.step{e:List Int}(h:CI e l r f i)(p:i<15){x y q:Int}(hx:l[i]?=some x)(d:l[i+1]?=some y)(s:q=x/65536)(o:r<=q/\q<=f):
 CI e ((l.set i (x-q*65536)).set (i+1) (y+q)) r f (i+1):=by
 have c:i<l.length:=by have:=h.len;omega
 have m:i+1<l.length:=by have:=h.len;omega
 have g:l[i]=x:=by rw[aU c] at hx;exact hD hx
 have j:l[i+1]=y:=by rw[aU m] at d;exact hD d
 refine⟨by simp[h.len],h.c,?_,?_,?_,?_⟩
 ·rw[jq _ _ _ (by grind),jq _ _ _ c,<-h.same,g,kP W,j,qe]
  grind
 ·intro k a n
  simp only[fc] at a
  rw[AF]
  split
  ·omega
  ·rw[AF]
   split
   ·omega
   ·exact h.done k a W
 ·intro k a b n
  simp only[fc] at a
  rw[kP W,kP W]
  exact h.rest k a b W
 ·intro a b
  simp only[fc] at a
  rw[List.getElem_set_self]
  have:=h.rest (i+1) a b W
  omega
def CI.last{e:List Int}(h:CI e l r f 15){x z q:Int}(hx:l[15]?=some x)(d:l[0]?=some z)(j:q=x/65536):
 ((l.set 15 (x-q*65536)).set 0 (z+38*q)).length=16/\val ((l.set 15 (x-q*65536)).set 0 (z+38*q))=val e-2*q*P/\
 (∀k (b:k<((l.set 15 (x-q*65536)).set 0 (z+38*q)).length),0<k->0<=((l.set 15 (x-q*65536)).set 0 (z+38*q))[k]/\((l.set 15 (x-q*65536)).set 0 (z+38*q))[k]<65536)/\0<=z/\z<65536:=by
 have c:15<l.length:=by have:=h.len;omega
 have a:0<l.length:=by omega
 have g:l[15]=x:=by rw[aU c] at hx;exact hD hx
 have i:l[0]=z:=by rw[aU a] at d;exact hD d
 refine⟨by simp[h.len],?_,?_,?_⟩
 ·rw[jq _ _ _ (by grind),jq _ _ _ c,<-h.same,g,kP W,i]
  unfold P
  omega
 ·intro k b a
  simp only[fc] at b
  rw[kP W,AF]
  split
  ·omega
  ·exact h.done k b (by have:=h.len;omega)
 ·have:=h.done 0 a W
  omega
def K6{m M a b:Int}(c:m<=r/\r<=M)(g:a<=f-r/\f-r<=b)(d:65536*a<=m+a)(e:M+b<65536*(b+1)):a<=f/65536/\f/65536<=b:=by omega
structure gJ(l0 l:List Int)(a b:Int):Prop where
 len:l.length=16
 ex:∃q z,a<=q/\q<=b/\val l=val l0-2*q*P/\l[0]?=some (z+38*q)/\0<=z/\z<65536
 high:∀k (h:k<l.length),0<k->0<=l[k]/\l[k]<65536
def kJ(c:List Int)(a b:Int)(k:Nat)(l:List Int):Prop:=(k<16->CI c l a b k)/\(k=16->gJ c l a b)
def kJ.step{c l:List Int}{a b m M x y:Int}{k:Nat}(h:kJ c a b k l)(p:k<15)(hx:l[k]?=some x)(q:l[k+1]?=some y)(j:∀d∈c,m<=d/\d<=M)(n:65536*a<=m+a)(o:M+b<65536*(b+1)):
 kJ c a b (k+1) ((l.set k (x-x/65536*65536)).set (k+1) (y+x/65536))/\a<=x/65536/\x/65536<=b:=by
 have d:=h.1 W
 have f:k<l.length:=by have:=d.len;omega
 have e:k<c.length:=by have:=d.c;omega
 have hd:=d.here f e
 have i:l[k]=x:=by rw[aU f] at hx;exact hD hx
 rw[i] at hd
 have g:=K6 (j c[k] (eR e)) hd n o
 exact⟨⟨λ _=>d.step p hx q rfl g,λ h=>by omega⟩,g⟩
def kJ.last{c l:List Int}{a b m M x z:Int}(h:kJ c a b 15 l)(hx:l[15]?=some x)(o:l[0]?=some z)(j:∀d∈c,m<=d/\d<=M)(k:65536*a<=m+a)(n:M+b<65536*(b+1)):
 kJ c a b 16 ((l.set 15 (x-x/65536*65536)).set 0 (z+38*(x/65536)))/\a<=x/65536/\x/65536<=b:=by
 have d:=h.1 W
 have g:15<l.length:=by have:=d.len;omega
 have f:15<c.length:=by have:=d.c;omega
 have hd:=d.here g f
 have i:l[15]=x:=by rw[aU g] at hx;exact hD hx
 rw[i] at hd
 have e:=K6 (j c[15] (eR f)) hd k n
 obtain⟨p,q,r,s,t⟩:=d.last hx o rfl
 refine⟨⟨λ h=>by omega,λ _=>⟨p,⟨_,z,e.1,e.2,q,?_,s,t⟩,r⟩⟩,e⟩
 grind
def kJ.get{c:List Int}{a:Int}(h:kJ c a r k l)(b:k<16)(i:Nat)(d:i<16):∃x,l[i]?=some x:=⟨_,aU (by have:=(h.1 b).len;omega)⟩
def kJ.small{c:List Int}{m M:Int}(h:kJ c r f k l)(j:k<16)(g:∀d∈c,m<=d/\d<=M){x:Int}(hx:l[i]?=some x)(s:m<=0)(o:65536<=M)(p:r<=0)(q:0<=f):m+r<=x/\x<=M+f:=by
 have b:=h.1 j;obtain⟨e,rfl⟩:=cw.1 hx;have d:i<c.length:=by have:=b.c;have:=b.len;omega
 have n:=g c[i] (eR d);rcases F6 i k with a|a|a
 ·have:=b.done i e a;omega
 ·subst a;have:=b.here e d;omega
 ·rw[b.rest i e d a];omega
def wA:(65536:Int)^16=2*P+38:=by rfl
def gJ.split{a:List Int}(h:gJ a l r f):∃q z t,l=(z+38*q)::t/\r<=q/\q<=f/\0<=z/\z<65536/\(∀d∈t,0<=d/\d<65536)/\t.length=15/\val l=val a-2*q*P/\val a=z+65536*val t+65536^16*q:=by
 obtain⟨c,⟨q,z,e,g,b,i,j,m⟩,n⟩:=h
 match l,c with
 |d::t,c=>
  have hd:d=z+38*q:=by simpa using i
  subst hd;refine⟨q,z,t,rfl,e,g,j,m,?_,by grind,b,?_⟩
  ·intro d hd;obtain⟨k,o,rfl⟩:=qg.1 hd;have:=n (k+1) (by grind) W;grind
  ·rw[wA];simp only[val] at b;grind
def gJ.quo{a:List Int}(h:gJ a l r f):∃z t,l=(z+38*(val a/65536^16))::t/\0<=z/\z<65536/\(∀d∈t,0<=d/\d<65536)/\t.length=15/\val l=val a-2*(val a/65536^16)*P/\val a%65536^16=z+65536*val t:=by
 obtain⟨q,z,t,j,k,m,n,o,d,e,p,c⟩:=h.split;have g:=jX t d;rw[e] at g;have uY:(65536:Int)^16=65536*65536^15:=by decide
 have b:0<=z+65536*val t/\z+65536*val t<65536^16:=by rw[uY];omega
 have i:val a/65536^16=q:=by
  rw[c,Int.add_mul_ediv_left _ _ zD,Int.ediv_eq_zero_of_lt b.1 b.2];omega
 have s:val a%65536^16=z+65536*val t:=by
  rw[c,tT,wS b.1 b.2]
 rw[i];grind
def gJ.mod{a:List Int}(h:gJ a l r f):val l%P=val a%P:=by
 obtain⟨z,t,-,-,-,-,-,b,-⟩:=h.quo;simp_all
structure Good(l:List Int):Prop where
 len:l.length=16
 low:∀z,l[0]?=some z-> -76<=z/\z<=65611
 high:∀k (h:k<l.length),0<k->0<=l[k]/\l[k]<65536
def fe(l:List Int):Nat:=(val l%P).toNat
def kl(l:List Int):(fe l:Int)=val l%P:=by
 unfold fe;have:0<=val l%P:=Int.emod_nonneg _ (by unfold P;decide);omega
def Good.bound(h:Good l)(hd:r∈l): -76<=r/\r<=65611:=by
 obtain⟨k,a,rfl⟩:=qg.1 hd;cases k with
 |zero=>exact h.low _ (aU a)
 |succ k=>have:=h.high (k+1) a W;omega
def gJ.lu{a:List Int}(h:gJ a l r f)(h1: -(2*65536^16)<=val a)(h2:val a<3*65536^16):Good l:=by
 obtain⟨z,t,b,o,p,i,m,-,-⟩:=h.quo;have e: -2<=val a/65536^16:=by omega
 have g:val a/65536^16<3:=by omega
 generalize val a/65536^16=q at*;subst b;refine⟨by grind,λ y n=> ?_,λ k d c=> ?_⟩
 ·grind
 ·obtain⟨j,rfl⟩:∃j,k=j+1:=⟨k-1,by omega⟩;simp_all
structure Norm(l:List Int):Prop where
 len:l.length=16
 e:∀d∈l,0<=d/\d<65536
def Norm.bounds(h:Norm l):0<=val l/\val l<65536^16:=by
 have:=jX l h.e;rwa[h.len] at this
def Good.split(h:Good l):∃d t,l=d::t/\-76<=d/\d<=65611/\t.length=15/\∀x∈t,0<=x/\x<65536:=by
 obtain⟨a,b,c⟩:=h
 match l,a with
 |d::t,a=>
  refine⟨d,t,rfl,(b d rfl).1,(b d rfl).2,by grind,λ x hx=> ?_⟩;obtain⟨k,e,rfl⟩:=qg.1 hx;have:=c (k+1) (by grind) W;grind
def Good.bounds(h:Good l): -76<=val l/\val l<=65536^16+75:=by
 obtain⟨d,t,rfl,e,f,a,b⟩:=h.split;have c:=jX t b;rw[a] at c;simp only[val];omega
def Norm.lu(h:Norm l):Good l:=
 ⟨h.len,λ z b=>by have:=h.e z (cX b);omega,λ k a _=>h.e _ (eR a)⟩
def gJ.norm{a:List Int}(h:gJ a l r f)(e:Good a):Norm l:=by
 have m:=e.bounds;obtain⟨z,t,g,p,s,j,k,-,i⟩:=h.quo;have b:=jX t j;rw[k] at b;have c:=Int.mul_ediv_add_emod (val a) (65536^16);have n: -1<=val a/65536^16:=by omega
 have o:val a/65536^16<2:=by omega
 rw[i] at c;generalize val a/65536^16=q at*;subst g;refine⟨by grind,λ d hd=> ?_⟩;grind
def PN:Nat:=57896044618658097711785492504343953926634992332820282019728792003956564819949
def qo:P=(PN:Int):=rfl
def Il(l:List Int):fe l<PN:=by
 have a:=kl l;have b:val l%P<P:=Int.emod_lt_of_pos _ (by unfold P;decide);rw[qo] at b a;omega
def RX{x y:List Int}(h:val l%P=(val x+val y)%P):fe l=(fe x+fe y)%PN:=by
 have a:=kl l;rw[h,Int.add_emod,<-kl,<-kl,qo] at a;grind
def RY{x y:List Int}(h:val l%P=(val x*val y)%P):fe l=(fe x*fe y)%PN:=by
 have a:=kl l;rw[h,Int.mul_emod,<-kl,<-kl,qo] at a;grind
def RZ{x y:List Int}(h:val l%P=(val x-val y)%P):fe l=(fe x+(PN-fe y))%PN:=by
 have a:=kl l;have c:=Il y;rw[h,Int.sub_emod,<-kl,<-kl,qo] at a;have b:(fe x:Int)-(fe y:Int)=((fe x+(PN-fe y):Nat):Int)+(PN:Int)*(-1):=by omega
 rw[b,tT] at a;omega
def dw(f:Int->Int->Int):Nat->List Int->List Int->List Int
 |0,x,_=>x
 |k+1,p::x,q::y=>f p q::dw f k x y
 |_+1,x,_=>x
def yO(f:Int->Int->Int):∀(k:Nat) (x y:List Int),(dw f k x y).length=x.length
 |0,x,y=>rfl
 |k+1,p::x,q::y=>by simp[dw,yO f k x y]
 |k+1,[],y=>rfl
 |k+1,p::x,[]=>rfl
def vI(f:Int->Int->Int):∀(k:Nat) (x y:List Int) (i:Nat),k<=i->(dw f k x y)[i]?=x[i]?
 |0,x,y,i,_=>rfl
 |k+1,p::x,q::y,0,h=>by omega
 |k+1,p::x,q::y,i+1,h=>by simp[dw,vI f k x y i W]
 |k+1,[],y,i,h=>rfl
 |k+1,p::x,[],i,h=>rfl
def vJ(f:Int->Int->Int):∀(k:Nat) (x y:List Int) (p q:Int),x[k]?=some p->y[k]?=some q->(dw f k x y).set k (f p q)=dw f (k+1) x y
 |0,a::x,b::y,p,q,c,d=>by simp at c d;subst c d;rfl
 |0,[],y,p,q,c,d=>by rfl
 |0,a::x,[],p,q,c,d=>by grind
 |k+1,a::x,b::y,p,q,c,d=>by
  simp only[oA] at c d
  have:=vJ f k x y p q c d
  simp only[dw,nc] at this⊢
  rw[this]
 |k+1,[],y,p,q,c,d=>by rfl
 |k+1,a::x,[],p,q,c,d=>by grind
def yN(f:Int->Int->Int)(R:Int->Prop):∀(k:Nat) (x y:List Int),(∀d∈x,R d)->(∀p∈x,∀q∈y,R (f p q))->∀d∈dw f k x y,R d
 |0,x,y,h,_=>h
 |k+1,p::x,q::y,h,a=>λ d hd=>by
  rcases bO.1 hd with rfl|hd
  ·grind
  ·exact yN f R k x y (λ d hd=>h d (jz _ hd)) (λ p b q c=>a p (jz _ b) q (jz _ c)) d hd
 |k+1,[],y,h,_=>h
 |k+1,p::x,[],h,_=>h
def Dr:∀(k:Nat) (x y:List Int),x.length=k->y.length=k->val (dw (·+·) k x y)=val x+val y
 |0,x,y,a,b=>by rw[ig a,ig b];rfl
 |k+1,p::x,q::y,a,b=>by
  have:=Dr k x y (by grind) (by grind)
  simp only[dw,val,this];omega
 |k+1,[],y,a,b=>by grind
 |k+1,p::x,[],a,b=>by grind
def J4:∀(k:Nat) (x y:List Int),x.length=k->y.length=k->val (dw (·-·) k x y)=val x-val y
 |0,x,y,a,b=>by rw[ig a,ig b];rfl
 |k+1,p::x,q::y,a,b=>by
  have:=J4 k x y (by grind) (by grind)
  simp only[dw,val,this];omega
 |k+1,[],y,a,b=>by grind
 |k+1,p::x,[],a,b=>by grind
def gJ.IL{b:List Int}(h:gJ b l r f)(g: -2<=r)(i:f<=2):Good l:=by
 obtain⟨q,z,t,a,d,e,s,u,n,o,-,-⟩:=h.split;subst a;refine⟨by grind,λ y p=> ?_,λ k m c=> ?_⟩
 ·grind
 ·obtain⟨j,rfl⟩:∃j,k=j+1:=⟨k-1,by omega⟩;simp_all
end FM
variable{g:Nat}
def ak(l:List Int):Array ab:=(l.map λ x=>Value.int .i64 x).toArray
def dp(h:l[k]?=some r):(ak l)[k]?=some (O r):=by simp[ak,h]
def ph(l:List Int)(k:Nat)(x:Int):(ak l).setIfInBounds k (O x)=ak (l.set k x):=by simp[ak,lU]
def cF(l:List Int):(ak l).size=l.length:=by simp[ak]
def mz(l:List Int):∀v∈(ak l).toList,v.oneCell'=true:=by
 intro v a;simp only[ak,eH] at a;obtain⟨_,_,rfl⟩:=a;rfl
def dX:(prog.info? 88).map (·.size)=some 16:=by kernel_rfl
structure CW(w wr:aa)(g:Nat)(l:List Int):Prop where
 only:aW w.heap.size [g] w wr
 a:ah wr g 88 (ak l)
def CW.drew{w wr:aa}{g:Nat}{l:List Int}(h:CW w wr g l):CW w wr.drew g l:=⟨h.only.drew,h.a.drew⟩
def CW.set{w wr:aa}{g:Nat}{l:List Int}(h:CW w wr g l)(k:Nat)(x:Int):CW w (wr.setCell ⟨g,k,none⟩ (O x)) g (l.set k x):=
 ⟨h.only.setCell zS _,by rw[<-ph];exact h.a.dx k _⟩
def uR{w:aa}(I:ah w g 88 (ak l))(X:l.length=16)(a b m M:Int)(J:∀d∈l,m<=d/\d<=M)(L:65536*a<=m+a)(Q:M+b<65536*(b+1))(N:a<=0)(R:0<=b)(a0: -1000000000000000<=m/\m<=0)(K:65536<=M/\M<=1000000000000000)(P: -1000000000000<=a)(S:b<=1000000000000):
 Calls prog 195 #[pV g] w λ e c=>e=ao (aM #[])/\∃o,CW w c g o/\FM.gJ l o a b:=by
 have H:=Z X;have p:=Z J;have G:=Z I
 have c:=Z (And.intro L (And.intro Q (And.intro N (And.intro R (And.intro a0 (And.intro K (And.intro P S)))))))
 go_enter func195,ntmps195
 go_wp2
 go_loopw [4] (λ i wr=>∃(k:Nat) (o:List Int),k<=16/\i=O k/\CW w wr g o/\FM.kJ l a b k o) (λ i _=>16-(intOf i).toNat)
 case atStart=>exact⟨0,l,by omega,rfl,⟨aW.refl _ _ _,G.U⟩,⟨λ _=>FM.CI.start H.U c.U.2.2.1 c.U.2.2.2.1,λ h=>by omega⟩⟩
 case round=>
  obtain⟨k,o,a4,rfl,a2,T⟩:=hrel
  have f:=Z a2;have e:=Z T
  by_cases n:k<16
  ·obtain⟨x,hx⟩:=e.U.get n k n
   have a7:=e.U.small n p.U hx c.U.2.2.2.2.1.2 c.U.2.2.2.2.2.1.1 c.U.2.2.1 c.U.2.2.2.1
   have a6: -2000000000000000<=x/\x<=2000000000000000:=by obtain⟨-,-,-,-,F,q2,q3,q4⟩:=c.U;omega
   have r:=Z hx
   have b2:(0:Int)<=(k:Int):=by omega
   have b3:(k:Int)<16:=by omega
   have E:wr.cell? ⟨g,k,none⟩=some (O x):=(f.U.a.cell k).trans (dp r.U)
   have f0:=f.U.a.frozen k
   obtain⟨q,a1⟩:∃q,x/65536=q:=⟨_,rfl⟩
   have d1:(x+65536)/65536=q+1:=by omega
   have a5: -40000000000<=q/\q<=40000000000:=by omega
   have b6:IntKind.i64.wrap (x+65536)=x+65536:=aO _ W
   have b8:IntKind.i64.wrap ((q+1)*65536)=(q+1)*65536:=aO _ W
   have b9:IntKind.i64.wrap (x+65536-(q+1)*65536)=x-q*65536:=(aO _ W).trans W
   have c0:IntKind.i64.wrap (q+1-1)=q:=(aO _ W).trans W
   have c1:q+1-1=q:=by omega
   have c2:x+65536-(q+1)*65536=x-q*65536:=by omega
   have c3:IntKind.i64.wrap (x-q*65536)=x-q*65536:=aO _ W
   have c4:IntKind.i64.wrap q=q:=aO _ W
   have D:=Z a1
   by_cases h15:k<15
   ·obtain⟨y,B⟩:=e.U.get n (k+1) W
    have a9:=e.U.small n p.U B c.U.2.2.2.2.1.2 c.U.2.2.2.2.2.1.1 c.U.2.2.1 c.U.2.2.2.1
    have a8: -2000000000000000<=y/\y<=2000000000000000:=by obtain⟨-,-,-,-,F,q2,q3,q4⟩:=c.U;omega
    have s:wr.cell? ⟨g,k+1,none⟩=some (O y):=(f.U.a.cell (k+1)).trans (dp B)
    have f1:=f.U.a.frozen (k+1)
    have v:=Z B
    have a3:IntKind.i64.wrap (y+q)=y+q:=aO _ W
    have c5:IntKind.i64.wrap ((k:Int)+1)=(k:Int)+1:=aO _ W
    have t1:((k:Int)+1).toNat=k+1:=by omega
    have p1:(0:Int)<=(k:Int)+1:=by omega
    have b4:(k:Int)+1<16:=by omega
    have b5:(k:Int)<15:=by omega
    go_wp2
    go_still_tail 10,V
    show wpList _ _ _ _ _ wr.drew
    go_wp2
    have h:=(f.U.set k (x+65536)).drew
    generalize(wr.setCell ⟨g,k,none⟩ (O (x+65536))).drew=i at*
    have d:=Z h
    have E:i.cell? ⟨g,k,none⟩=some (O (x+65536)):=(d.U.a.cell k).trans (dp (lS (cw.1 r.U).1))
    have f0:=d.U.a.frozen k
    have s:i.cell? ⟨g,k+1,none⟩=some (O y):=(d.U.a.cell (k+1)).trans (dp ((hn W).trans v.U))
    have f1:=d.U.a.frozen (k+1)
    go_still_tail 12,V
    show wpList _ _ _ _ _ i.drew
    go_wp2
    have h:=(d.U.set k (x-q*65536)).drew
    generalize(i.setCell ⟨g,k,none⟩ (O (x-q*65536))).drew=u at*
    rw[w5] at h
    have j:=Z h
    have s:u.cell? ⟨g,k+1,none⟩=some (O y):=(j.U.a.cell (k+1)).trans (dp ((hn W).trans v.U))
    have f1:=j.U.a.frozen (k+1)
    go_still_tail 13,V
    show wpList _ _ _ _ _ u.drew
    go_wp2
    go_roundw
    case rel=>
     obtain⟨t,-,-⟩:=e.U.step h15 r.U v.U p.U c.U.1 c.U.2.1
     rw[D.U] at t
     exact⟨k+1,_,by omega,by go_num,(j.U.set (k+1) (y+q)).drew,t⟩
    case measure=>simp[intOf];omega
   ·obtain rfl:k=15:=by omega
    obtain⟨z,C⟩:=e.U.get n 0 W
    have b1:=e.U.small n p.U C c.U.2.2.2.2.1.2 c.U.2.2.2.2.2.1.1 c.U.2.2.1 c.U.2.2.2.1
    have b0: -2000000000000000<=z/\z<=2000000000000000:=by obtain⟨-,-,-,-,F,q2,q3,q4⟩:=c.U;omega
    have s:wr.cell? ⟨g,0,none⟩=some (O z):=(f.U.a.cell 0).trans (dp C)
    have f1:=f.U.a.frozen 0
    have A:=Z C
    have a3:IntKind.i64.wrap (38*q)=38*q:=aO _ W
    have b7:IntKind.i64.wrap (z+38*q)=z+38*q:=aO _ W
    go_wp2
    go_still_tail 10,V
    show wpList _ _ _ _ _ wr.drew
    go_wp2
    have h:=(f.U.set 15 (x+65536)).drew
    generalize(wr.setCell ⟨g,15,none⟩ (O (x+65536))).drew=i at*
    have d:=Z h
    have E:i.cell? ⟨g,15,none⟩=some (O (x+65536)):=(d.U.a.cell 15).trans (dp (lS (cw.1 r.U).1))
    have f0:=d.U.a.frozen 15
    have s:i.cell? ⟨g,0,none⟩=some (O z):=(d.U.a.cell 0).trans (dp ((hn W).trans A.U))
    have f1:=d.U.a.frozen 0
    go_still_tail 12,V
    show wpList _ _ _ _ _ i.drew
    go_wp2
    have h:=(d.U.set 15 (x-q*65536)).drew
    generalize(i.setCell ⟨g,15,none⟩ (O (x-q*65536))).drew=u at*
    rw[w5] at h
    have j:=Z h
    have s:u.cell? ⟨g,0,none⟩=some (O z):=(j.U.a.cell 0).trans (dp ((hn W).trans A.U))
    have f1:=j.U.a.frozen 0
    go_still_tail 12,V
    show wpList _ _ _ _ _ u.drew
    go_wp2
    go_roundw
    case rel=>
     obtain⟨t,-,-⟩:=e.U.last r.U A.U p.U c.U.1 c.U.2.1
     rw[D.U] at t
     exact⟨16,_,by omega,by go_num,(j.U.set 0 (z+38*q)).drew,t⟩
    case measure=>simp[intOf]
  ·obtain rfl:k=16:=by omega
   go_wp2
   go_end0
   exact⟨rfl,o,f.U,e.U.2 rfl⟩
def sR:List Nat:=[104,97,114,110,101,115,115,32,51,99,102,49,51,101,50,102,98,50,52,99,54,102,97,56,54,49,52,51,99,51,57,99,56,49,53,98,48,98,100,50,49,102,56,101,57,48,55,98,51,50,53,51,57,51,51,53,56,100,49,98,102,99,99,98,53,50,100,48,54,97,56,49,32,99,117,116,32,97,116,32,115,121,110,103,114,97,112,104,47,115,121,110,103,114,97,112,104,116,111,112,46,84,111,112,75,101,121,115,32,115,121,110,103,114,97,112,104,47,115,121,110,103,114,97,112,104,116,111,112,46,84,111,112,84,101,108,108,115]
def SQ:prog.initOrder.toList=sR.map Char.ofNat:=by
 have h:prog.initOrder=String.ofList (sR.map Char.ofNat):=by kernel_rfl
 rw[h];exact String.toList_ofList
def Rw(s:String)(h:s.toList=sR.map Char.ofNat):Program.mayEnter {toTables:={Tryz.progTables with initOrder:=s},funcs:=funcs}=true:=by
 unfold Program.mayEnter;dsimp only;rw[h];kernel_rfl
def UX(s:String)(h:s.toList=sR.map Char.ofNat):Program.liftsFinal {toTables:={Tryz.progTables with initOrder:=s},funcs:=funcs}=false:=by
 unfold Program.liftsFinal Program.headLifts;dsimp only;rw[h];kernel_rfl
def Vk(s:String)(h:s.toList=sR.map Char.ofNat):Program.make {toTables:={Tryz.progTables with initOrder:=s},funcs:=funcs}=some .cut:=by
 unfold Program.make;dsimp only;rw[h];kernel_rfl
