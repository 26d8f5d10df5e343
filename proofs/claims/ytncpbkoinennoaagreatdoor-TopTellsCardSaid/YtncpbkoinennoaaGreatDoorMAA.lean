import Derived.BigQuiet
import Derived.ChangeKeysEq
import Derived.Deep.AppendLies
import Derived.Deep.CutBlock
import Derived.Deep.CutRange
import Derived.Deep.DeepCutAuto
import Derived.Deep.LoopGhost
import Derived.Deep.QuietTactic
import Derived.Deep.RegionHeld
import Derived.Deep.RegionHeld3
import Derived.Deep.RegionLaw
import Derived.Deep.Slices
import Derived.Deep.Upon
import Derived.Laws.AppendOwnNone
import Derived.Laws.Bits128
import Derived.Laws.BitsAllLaws
import Derived.Laws.CopyOwn
import Derived.Laws.CopyRow
import Derived.Laws.IdiomStrings
import Derived.Laws.StructEq
import Derived.Laws.Tables
import Derived.Lib.Bytes
import Derived.Lib.Hide
import Derived.Lib.SliceRun
import Derived.Lib.Strings
import Derived.Maps.AppendAt
import Derived.OrdersIn
import Derived.RangeFuncCalls
import Derived.ScopeJumps
import Derived.SliceStrings
import Derived.StillTactics
import Derived.StillTail
import Derived.StillTailTactics
import Derived.TacticsIn
import Derived.WalkKit
import Derived.WalkLawsBesides
import Derived.WalkMore
import Derived.WalkSpells
import Derived.Test.YtncpbkoinennoaaGreatDoorProg
import Derived.Test.YtncpbkoinennoaaGreatDoorRows
set_option linter.all false
set_option maxRecDepth 100000
set_option maxHeartbeats 0
namespace Go.Proofs.YtncpbkoinennoaaGreatDoor
open Go.RowKit Proofs.Tryz
def iF:=@Addr.add_lit
def Eb:=@AllReadyH.cons
def pI:=@Array.all_toList
def kx:=@Array.ext'
def sY:=@Array.getD_eq_getD_getElem?
def lF:=@Array.getElem?_eq_getElem
def yP:=@Array.getElem?_eq_none
def lG:=@Array.getElem?_eq_some_iff
def yQ:=@Array.getElem?_modify
def hz:=@Array.length_toList
def Ed:=@Array.replicate_succ
def Ee:=@Array.replicate_zero
def mP:=@Array.toArray_toList
def yR:=@Array.toList_append
def yS:=@Array.toList_map
def LF:=@Array.toList_setIfInBounds
def dQ:=@Below.block
def sZ:=@Below.heap_alloc
def ta:=@Below.heap_setCell
def cP:=@Below.mono
def bz:=@Below.refl
def dA:=@Below.size
def eH:=@Below.trans
def Ef:=@BitVec.toNat_ofInt
def yT:=@Bool.and_eq_false_iff
def cQ:=@Bool.and_eq_true
def vc:=@Bool.and_false
def vd:=@Bool.and_true
def bI:=@Bool.eq_iff_iff
def oc:=@Bool.false_and
def fy:=@Bool.false_eq_true
def ve:=@Bool.false_or
def yU:=@Bool.not_eq_true'
def yV:=@Bool.not_false
def yW:=@Bool.not_true
def yX:=@Bool.or_false
def yY:=@Bool.or_true
def mR:=@Bool.true_and
def yZ:=@Bool.true_or
def rj:=@ByteArray.append_assoc
def vg:=@ByteArray.data_append
def vh:=@ByteArray.ext
def gU:=@ByteArray.size_append
def ij:=@ByteArray.size_extract
def ky:=@ByteArray.toList_eq
def ga:=@Calls.mono
def za:=@DataW.trod_int
def iJ:=@Exit.noGoto_ret
def zc:=@Int.add_mul_emod_self_left
def zd:=@Int.add_zero
def Eh:=@Int.emod_eq_of_lt
def ze:=@Int.le_refl
def zf:=@Int.mul_zero
def vm:=@Int.natCast_mul
def zg:=@Int.pow_succ
def vn:=@Int.tdiv_eq_ediv_of_nonneg
def gd:=@Int.tmod_eq_emod_of_nonneg
def mS:=@Int.toNat_natCast
def Ei:=@Int.toNat_of_nonneg
def fS:=@IntKind.wrap_i64
def og:=@IntKind.wrap_u32'
def kB:=@IntKind.wrap_u64
def Ej:=@IntKind.wrap_u8'
def bd:=@IntWalk.i64_in
def Ek:=@KeepsOthers.setCell
def td:=@Lib.run_eql_slice_nil
def LL:=@List.Nodup.erase_eq_filter
def te:=@List.all_cons
def gC:=@List.all_eq_true
def tf:=@List.any_cons
def di:=@List.append_assoc
def pN:=@List.append_nil
def El:=@List.append_toArray
def zj:=@List.cons.injEq
def gD:=@List.cons_append
def vr:=@List.drop_append_of_le_length
def gE:=@List.drop_eq_getElem_cons
def jQ:=@List.drop_eq_nil_of_le
def Em:=@List.drop_left'
def zk:=@List.drop_length
def rp:=@List.drop_succ_cons
def jR:=@List.drop_zero
def kC:=@List.eq_nil_of_length_eq_zero
def zl:=@List.ext_getElem?
def zm:=@List.flatten_cons
def ti:=@List.foldl_append
def eY:=@List.getD_eq_getElem?_getD
def pO:=@List.getElem?_append_left
def kD:=@List.getElem?_append_right
def mV:=@List.getElem?_cons_succ
def zn:=@List.getElem?_drop
def ba:=@List.getElem?_eq_getElem
def ed:=@List.getElem?_eq_some_iff
def eI:=@List.getElem?_map
def En:=@List.getElem?_reverse
def iK:=@List.getElem?_set_ne
def om:=@List.getElem?_set_self
def zo:=@List.getElem?_take
def iL:=@List.getElem?_toArray
def lJ:=@List.getElem_map
def cY:=@List.getElem_mem
def zp:=@List.getElem_set
def lK:=@List.getElem_set_ne
def Eo:=@List.getElem_zipWith
def bA:=@List.length_append
def fU:=@List.length_cons
def hG:=@List.length_drop
def cR:=@List.length_map
def oo:=@List.length_nil
def ej:=@List.length_replicate
def hH:=@List.length_set
def pQ:=@List.length_singleton
def ee:=@List.length_take
def zq:=@List.mapM_cons
def pR:=@List.map_append
def cw:=@List.map_cons
def vt:=@List.map_map
def ek:=@List.map_nil
def mW:=@List.map_set
def jf:=@List.map_toArray
def eJ:=@List.mem_append
def pS:=@List.mem_append_left
def rr:=@List.mem_append_right
def bV:=@List.mem_cons
def tj:=@List.mem_cons_of_mem
def Ep:=@List.mem_flatMap
def Er:=@List.mem_flatten
def ru:=@List.mem_iff_getElem
def ep:=@List.mem_map
def dB:=@List.mem_of_getElem?
def pT:=@List.mem_of_mem_drop
def zr:=@List.mem_of_mem_eraseIdx
def oq:=@List.mem_of_mem_take
def vu:=@List.mem_or_eq_of_mem_set
def ot:=@List.mem_singleton
def fV:=@List.nil_append
def lL:=@List.nodup_append
def zs:=@List.nodup_cons
def Es:=@List.nodup_nil
def rz:=@List.not_mem_nil
def Et:=@List.push_toArray
def gF:=@List.replicate_succ
def jh:=@List.replicate_zero
def rA:=@List.setIfInBounds_toArray
def kE:=@List.set_append_right
def mX:=@List.set_cons_succ
def lM:=@List.set_cons_zero
def ji:=@List.size_toArray
def ou:=@List.take_append_drop
def vx:=@List.take_append_of_le_length
def zt:=@List.take_left
def lN:=@List.take_left'
def lO:=@List.take_length
def cS:=@List.take_of_length_le
def zu:=@List.take_set
def dC:=@List.take_succ_eq_append_getElem
def pU:=@List.take_zero
def pX:=@MapKept.run_getObj_map
def tl:=@MapKept.run_setObj_map
def zx:=@Nat.add_assoc
def rB:=@Nat.add_comm
def kG:=@Nat.add_mul
def Ev:=@Nat.add_sub_cancel_left
def hJ:=@Nat.add_zero
def Ew:=@Nat.and_two_pow_sub_one_eq_mod
def lP:=@Nat.div_div_eq_div_mul
def zy:=@Nat.div_le_self
def zz:=@Nat.div_lt_iff_lt_mul
def tm:=@Nat.div_one
def Ex:=@Nat.eq_zero_or_pos
def vz:=@Nat.le_of_lt
def aW:=@Nat.le_refl
def gh:=@Nat.le_succ
def iM:=@Nat.le_trans
def vA:=@Nat.lt_irrefl
def lQ:=@Nat.lt_of_lt_of_le
def vB:=@Nat.lt_of_not_le
def jk:=@Nat.lt_or_ge
def zB:=@Nat.lt_trans
def jT:=@Nat.min_eq_left
def ik:=@Nat.mod_eq_of_lt
def pY:=@Nat.mod_lt
def LO:=@Nat.mod_mul_right_div_self
def rC:=@Nat.mod_two_eq_zero_or_one
def jU:=@Nat.mul_comm
def zC:=@Nat.mul_le_mul
def lR:=@Nat.mul_le_mul_right
def rD:=@Nat.mul_one
def vC:=@Nat.mul_zero
def jm:=@Nat.not_lt_zero
def zE:=@Nat.one_mul
def vD:=@Nat.or_comm
def Ey:=@Nat.or_lt_two_pow
def kH:=@Nat.pow_add
def pZ:=@Nat.pow_le_pow_right
def qb:=@Nat.pow_mul
def fk:=@Nat.pow_succ
def qc:=@Nat.sub_self
def zF:=@Nat.sub_zero
def Ez:=@Nat.xor_lt_two_pow
def eu:=@Nat.zero_add
def bh:=@Nat.zero_le
def ck:=@Nat.zero_lt_succ
def tn:=@Nat.zero_mul
def dY:=@Ne.symm
def EC:=@Oper.semAt_some
def jV:=@Oper.upon_value
def vE:=@Option.getD_some
def vF:=@Option.map_some
def hK:=@Option.some.inj
def cZ:=@Result.andThen_ok
def cL:=@Sem.run_bind
def dw:=@Sem.run_pure
def oy:=@Src.ofSlice
def vH:=@Tryz.func147
def zJ:=@Tryz.func154
def zL:=@Tryz.func161
def zM:=@Tryz.func165
def zN:=@Tryz.func166
def nc:=@Tryz.func183
def zP:=@Tryz.func208
def zQ:=@Tryz.func210
def zT:=@Tryz.func220
def zU:=@Tryz.func233
def rG:=@Tryz.func237
def zV:=@Tryz.func238
def nf:=@Tryz.func248
def zW:=@Tryz.func255
def zX:=@Tryz.func256
def zY:=@Tryz.func262
def zZ:=@Tryz.func272
def Aa:=@Tryz.func274
def ng:=@Tryz.func323
def nh:=@Tryz.func324
def Ab:=@Tryz.func48
def Ac:=@Tryz.func65
def vI:=@Tryz.func71
def Ad:=@Tryz.isAgg3
def Ae:=@Tryz.isAgg46
def Af:=@Tryz.isAgg9
def vJ:=@Tryz.ntmps147
def Ag:=@Tryz.ntmps154
def Ah:=@Tryz.ntmps161
def Ai:=@Tryz.ntmps165
def Aj:=@Tryz.ntmps166
def ni:=@Tryz.ntmps183
def Ak:=@Tryz.ntmps208
def Am:=@Tryz.ntmps210
def An:=@Tryz.ntmps220
def Ao:=@Tryz.ntmps233
def rH:=@Tryz.ntmps237
def Aq:=@Tryz.ntmps238
def nj:=@Tryz.ntmps248
def Ar:=@Tryz.ntmps255
def As:=@Tryz.ntmps256
def At:=@Tryz.ntmps262
def Au:=@Tryz.ntmps274
def nk:=@Tryz.ntmps323
def nm:=@Tryz.ntmps324
def Av:=@Tryz.ntmps48
def Aw:=@Tryz.ntmps65
def vK:=@Tryz.ntmps71
def tw:=@Tryz.results101
def Ax:=@Tryz.results184
def EK:=@Tryz.results189
def Ay:=@Tryz.sizeOf3
def Az:=@Tryz.sizeOf46
def AA:=@Tryz.sizeOf9
def vL:=@Tryz.underlying118
def vM:=@Tryz.underlying172
def oA:=@Tryz.underlying184
def dZ:=@Tryz.underlying29
def oB:=@Tryz.underlying3
def vN:=@Tryz.underlying355
def tx:=@Tryz.underlying358
def EL:=@Tryz.underlying380
def EM:=@Tryz.underlying4
def nn:=@Tryz.underlying46
def gi:=@Tryz.underlying5
def np:=@Tryz.underlying60
def lU:=@Tryz.underlying64
def oC:=@Tryz.underlying86
def aX:=@Tryz.underlying88
def dO:=@Tryz.underlying9
def vO:=@Tryz.underlying90
def fA:=@Tryz.underlying92
def EN:=@Tryz.underlying95
def AB:=@Tryz.underlying96
def AD:=@Tryz.zeroValue3
def EO:=@Tryz.zeroValue4
def AE:=@Tryz.zeroValue46
def AF:=@Tryz.zeroValue9
def oD:=@UInt32.toNat_add
def rI:=@UInt32.toNat_ofNat'
def vP:=@UInt64.toNat_ofNat'
def AG:=@UInt8.toNat_inj
def qh:=@UInt8.toNat_ofNat'
def ER:=@World.block_lt_of_cell?
def vS:=@World.cell?_of_block
def ES:=@World.heap_setCells_other
def AI:=@World.news_of_block
def vT:=@World.ownsRow_made
def ct:=@World.ownsRow_nil
def rJ:=@World.size_alloc
def ET:=@World.size_setCell
def bY:=@below_setRow
def cc:=@beq_eq_false_iff_ne
def fB:=@beq_iff_eq
def AX:=@bne_eq_false_iff_eq
def nu:=@bne_iff_ne
def cq:=@bodyPost_ret
def wo:=@callsIn_wide
def nx:=@cell_of_row
def bu:=@decide_eq_false
def aS:=@decide_eq_true
def dx:=@decide_eq_true_eq
def ju:=@decide_eq_true_iff
def lh:=@eq_false
def Bu:=@eq_self_iff_true
def rZ:=@eq_true
def nz:=@getD_in
def BO:=@getD_replicate_false
def ll:=@getD_set_ne
def si:=@getD_set_true
def lo:=@heap_alloc_new
def aj:=@if_neg
def ax:=@if_pos
def ki:=@info_parts
def lr:=@mem_ready
def oX:=@nat_join
def xv:=@not_not_intro
def xA:=@of_decide_eq_false
def my:=@of_decide_eq_true
def sz:=@or_false
def uB:=@ready_mono
def fL:=@results_cell_row
def CU:=@results_tmp
def gO:=@rounds_succ
def uG:=@run_convert_bytes_back
def xY:=@run_storeCells_cells
def fN:=@run_underlying
def C7:=@setRow_other
def Da:=@size_zeroCells
def Ks:=@step_append_lies
def Dg:=@tail_waits
def Dq:=@u32_or_nat
def uU:=@u32_xor_nat
def Dr:=@u64_or_nat
def Ds:=@u8_and_nat
def DM:=@wpList_load_mid
def bO:=@wpList_load_row
def Lf:=@wpList_store_mid
def cn:=@wpList_store_row
def yF:=@wpOp_step
def uZ:=@wpStill_nil
def DN:=@wp_load_mid
def Lg:=@wp_loop_rounds
def DO:=@wp_region_still_lit
def Ls:=@yieldsIf_load_mid
def ai(p:Prop):Prop:=p
def ai.U{p:Prop}(h:ai p):p:=h
def Z{p:Prop}(h:p):ai p:=h
def V{p:Prop}(h:p:=by kernel_rfl):p:=h
def W{p:Prop}(h:p:=by omega):p:=h
def zD{p:Prop}(h:p:=by decide):p:=h
def zS{p:Prop}(h:p:=by simp):p:=h
def zR{p:Prop}(h:p:=by rfl):p:=h
def zA{p:Prop}(h:p:=by assumption):p:=h
abbrev O(x:Int):Value:= .int .i64 x
abbrev U(x:Int):Value:= .int .u64 x
abbrev pV(g:Nat):Value:= .pointer (some ⟨g,0,none⟩)
abbrev BW(w a:World):Prop:=RowKit.Below w.heap.size w a
abbrev CB(n:Nat)(a:Array Value)(w:World)(v:Value):Prop:=Calls prog n a w λ e b=>e= .returned v/\RowKit.Below w.heap.size w b
abbrev aa:=World
abbrev ab:=Value
abbrev ag:=ByteArray
abbrev ad:= @Value.slice
abbrev ae:= @Value.string
abbrev ao:= @Ending.returned
abbrev aF:= @Value.bool
abbrev aJ:= @Value.tuple
abbrev aG:= @Value.agg
variable{n:Nat}
def aH{α:Type _}(l:List α)(i:Nat)(a:α):l.toArray.setIfInBounds i a=(l.set i a).toArray:=rA ..
def au{α:Type _}{a b:α}{l:List α}:(a::l).set 0 b=b::l:=rfl
def ay{α:Type _}{a b:α}{l:List α}:(a::l).set (n+1) b=a::l.set n b:=rfl
def bC{α:Type _}{l:List α}:l.drop 0=l:=rfl
def bU{α:Type _}{a:α}{l:List α}:(a::l).drop (n+1)=l.drop n:=rfl
def dc{α:Type _}{a:α}{l:List α}:(a::l).take (n+1)=a::l.take n:=rfl
def cO{α:Type _}{l:List α}:l.take 0=[]:=rfl
def mQ{α:Type _}{a b:α}{l:List α}(h:a∈l):a∈b::l:=tj _ h
def mZ{α:Type _}{a:α}{l:List α}:a∈a::l:=List.mem_cons_self
abbrev wU{P:_}{ops:_}{Q:_}{d:_}{t:_}{x:_}{f:_}{e:_}{b:_}{c:_}{rest:_}{a:_}{wr:_}:=wpList P ops Q (⟨d,.load t x,f,e,b,c⟩::rest) a wr
abbrev gSt{P:_}{ops:_}{Q:_}{d:_}{t:_}{x:_}{y:_}{f:_}{e:_}{b:_}{c:_}{rest:_}{a:_}{wr:_}:=wpList P ops Q (⟨d,.store t x y,f,e,b,c⟩::rest) a wr
abbrev gAl{P:_}{ops:_}{Q:_}{d:_}{t:_}{f:_}{e:_}{b:_}{c:_}{rest:_}{a:_}{wr:_}:=wpList P ops Q (⟨d,.alloc t,f,e,b,c⟩::rest) a wr
abbrev wT{P:_}{ops:_}{Q:_}{d:_}{t:_}{x:_}{f:_}{e:_}{b:_}{c:_}{rest:_}{a:_}{wr:_}:=wpList P ops Q (⟨d,.box t x,f,e,b,c⟩::rest) a wr
abbrev cH{P:_}{ops:_}{Q:_}{d:_}{t:_}{x:_}{y:_}{f:_}{e:_}{b:_}{c:_}{rest:_}{a:_}{wr:_}:=wpList P ops Q (⟨d,.buildSlice t x y,f,e,b,c⟩::rest) a wr
abbrev gCl{P:_}{ops:_}{Q:_}{d:_}{t:_}{f:_}{e:_}{b:_}{c:_}{rest:_}{a:_}{wr:_}:=wpList P ops Q (⟨d,.call t,f,e,b,c⟩::rest) a wr
abbrev fR(n:Nat):Prop:=∀(a:Array ab) (w:aa),(callFunc n a).run prog w= .ok (.enter n a) w
def dH{a b:Func}(h:prog.funcs[n]?=some a)(e:a=b:=by kernel_rfl):prog.funcs[n]?=some b:=h.trans (congrArg some e)
variable{a:Act}{B:Array Bool}{m:List Nat}{i k:Nat}{o:Oper}
def Mv(w:aa)(cs a:Array ab)(t:TypeId)(b:Nat×Nat):(w.alloc (.cells cs t b)).setRow w.heap.size a=w.alloc (.cells a t b):=by
 simp only[World.setRow,World.alloc];congr 1;grind
def uH{P:Program}(w:aa)(cs:Array ab)(t:TypeId)(a:List ab)(h:a.length=cs.size)(h1:∀v∈a,v.oneCell'=true):
 (storeCells ⟨w.heap.size,0,none⟩ a).run P (w.alloc (.cells cs t))= .ok () (w.alloc (.cells a.toArray t)):=by
 have:=run_storeCells_at P w.heap.size 0 t a 0 cs (w.alloc (.cells cs t)) (lo w _) W h1
 rw[this,Mv]
 congr 3
 grind
def gp{B:Nat}{a w:aa}(h:Below B a w)(n:Nat):Below B a (w.drewN n):=⟨h.os,h.tape,h.output,h.size,h.block⟩
def tK{P:Program}(w:aa)(src b e:TypeId)(s:ag)(f:P.underlying src=some .string)(hd:P.underlying b=some (.slice e))(d:P.underlying e=some (.int .u8)):
 ∃c a,(convert src b (ae s)).run P w= .ok (ad (some ⟨w.heap.size,0,none⟩) s.size c) a/\BW w a/\a.heap.size=w.heap.size+1/\s.size<=c/\
  ∀i (h:i<s.size),a.cell? ⟨w.heap.size,i,none⟩=some (.int .u8 (s[i].toNat:Int)):=by
 refine⟨_,_,run_bytes_of_string w src b e s f hd d,?_,?_,grownCap_ge _ _ _ _,?_⟩
 ·exact((bz _ _).drew).alloc (aW _) _
 ·simp
 ·intro i c
  have a:w.drew.heap.size=w.heap.size:=rfl
  have:=World.cell?_alloc_mark w.drew (bytesRow s (grownCap w s.size 0 e)) e ((bytesRow s (grownCap w s.size 0 e)).size,(bytesRow s (grownCap w s.size 0 e)).size+1) i
  rw[a] at this
  rw[this]
  exact bytesRow_at s _ i c
def wy{P:Program}(w:aa)(src a e:TypeId)(xs:List Int)(h:P.underlying src=some (.slice e))(d:P.underlying e=some (.int .u8))(hd:P.underlying a=some .string)(b c:Nat)(f:xs.length=b)(t:TypeId):
 (convert src a (ad (some ⟨w.heap.size,0,none⟩) b c)).run P (w.alloc (.cells (xs.map (Value.int .u8)).toArray t))= .ok (ae (strOfNums xs)) (w.alloc (.cells (xs.map (Value.int .u8)).toArray t)):=by
 refine run_convert_bytes_arg _ src e h d w.heap.size 0 b c xs f (λ i j=> ?_) a hd
 simp_all
def Nv{w a b:aa}(h:BW w a)(k:BW a b):BW w b:=h.trans (k.mono h.size)
def ca(l:List UInt8):List ab:=l.map λ c=>Value.int .u8 (c.toNat:Int)
def NC(l:List UInt8):(ca l).length=l.length:=by simp[ca]
def wh(l m:List UInt8):ca (l++m)=ca l++ca m:=by simp[ca]
def NF(l:List UInt8):∀u∈ca l,u.oneCell'=true:=by
 intro u a;simp only[ca,ep] at a;obtain⟨_,_,rfl⟩:=a;rfl
section
variable{P:Program}{w:aa}
def Kr{ops:Array Oper}{K:Act->aa->Prop}{Q:Exit->Act->aa->Prop}{E:Prop}(q:o.guard=none)(s x:Operand)(t:TypeId)
 (A:o.op= .call {callee:= .builtin .append,args:=#[s,x],argTypes:=#[t,t]})
 (base:Nat) (e:TypeId) (i:TypeInfo) (z:ab) (bytes:Nat) (F:P.underlying t=some (.slice e)) (r:P.info? e=some i) (H:i.zero=some z)
 (D:i.size=1) (m:i.bytes=bytes) (I:z.cells.size=1)
 (v:ab) (n:Nat) (xs:List ab) (C:a.eval s=v) (B:w.ownsRow base e 1 v n xs)
 (g:Nat) (hx:a.eval x=ad (some ⟨g,0,none⟩) 1 1) (u:ab) (G:w.cell? ⟨g,0,none⟩=some u) (h1:u.oneCell'=true)
 (h63:n+1<=maxLen) (p:(n+1)*bytes<=140737488355328) (k:base<=w.heap.size)
 (h:∀b w',w'.ownsRow base e 1 b (n+1) (xs++[u])->w.grownBy w' v.ownBlock->(b.ownBlock=v.ownBlock\/b.ownBlock=some w.heap.size)->K (a.put o.dst b) w'):
 if Region.wanted o (yielded ops a.tmps)=true then Oper.wp P o a w K Q else E:=by
 refine Ks w q s x t A base e i z 1 bytes F r H D m I zD v n xs C B ⟨g,0,none⟩ 1 1 [u] hx rfl ?_ ?_ zD h63 p k _ rfl ?_
 ·intro j y c
  match j,c with
  |0,c=>simp at c;subst c;simpa[Addr.add] using G
 ·grind
 ·intro M J w' d f b N
  refine h _ w' d f ?_
  rcases b with b|b
  ·exact .inl b.symm
  ·subst b;exact .inr rfl
def wv{base e src dst t:TypeId}{v:ab}{n:Nat}{l:List UInt8}(d:P.underlying src=some (.slice e))(b:P.underlying e=some (.int .u8))(hd:P.underlying dst=some .string)
 (a:w.ownsRow base t 1 v n (ca l)):(convert src dst v).run P w= .ok (ae ⟨l.toArray⟩) w:=by
 have c:=a.1
 simp only[NC,rD] at c
 rcases a.2 with⟨rfl,rfl⟩|⟨g,f,i,rfl,_⟩
 ·have:l=[]:=by grind
  subst this
  exact run_convert_bytes_nil w src e d b 0 0 dst hd
 ·subst c
  refine uG w src dst e ⟨g,0,none⟩ f l d b hd ?_
  intro j h
  refine a.cells rfl j _ ?_
  simp[ca,h]
end
def xG{b c:aa}{base:Nat}{e:TypeId}{size:Nat}{v:ab}{n:Nat}{xs:List ab}(h:b.ownsRow base e size v n xs)(i:BW b c):c.ownsRow base e size v n xs:=by
 refine⟨h.1,?_⟩;rcases h.2 with m|⟨g,d,f,k,j,a,r⟩
 ·grind
 ·exact .inr ⟨g,d,f,k,j,by rw[i.block g (lG.1 a).1];exact a,r⟩
def fb{a b:aa}{B:Nat}{p:Addr}{v:ab}(d:Below B a b)(c:a.heap.size=B)(h:a.cell? p=some v):b.cell? p=some v:=by
 subst c;exact(d.cell (ER a p h)).trans h
structure aR(B:Nat)(l:List Nat)(w w':aa):Prop where
 os:w'.os=w.os
 tape:w'.tape=w.tape
 output:w'.output=w.output
 size:w.heap.size<=w'.heap.size
 block:∀k,k<B->k∉l->w'.heap[k]?=w.heap[k]?
def aR.refl(B:Nat)(l:List Nat)(w:aa):aR B l w w:=⟨rfl,rfl,rfl,aW _,λ _ _ _=>rfl⟩
def aR.trans{B:Nat}{l:List Nat}{a b c:aa}(h:aR B l a b)(k:aR B l b c):aR B l a c:=
 ⟨k.os.trans h.os,k.tape.trans h.tape,k.output.trans h.output,iM h.size k.size,λ i d f=>(k.block i d f).trans (h.block i d f)⟩
def aR.mono{B:Nat}{l:List Nat}{w w':aa}(h:aR B l w w')(c:k<=B)(d:∀a,a<k->a∈l->a∈m):aR k m w w':=
 ⟨h.os,h.tape,h.output,h.size,λ a b i=>h.block a (lQ b c) (λ f=>i (d a b f))⟩
def aR.then{B:Nat}{l:List Nat}{a b c:aa}(h:aR B l a b)(d:aR k m b c)(f:B<=k)(i:∀d,d<B->d∈m->d∈l):aR B l a c:=h.trans (d.mono f i)
def aR.drew{B:Nat}{l:List Nat}{a w:aa}(h:aR B l a w):aR B l a w.drew:=⟨h.os,h.tape,h.output,h.size,h.block⟩
def aR.drewN{B:Nat}{l:List Nat}{a w:aa}(h:aR B l a w)(n:Nat):aR B l a (w.drewN n):=⟨h.os,h.tape,h.output,h.size,h.block⟩
def aR.alloc{B:Nat}{l:List Nat}{a w:aa}(h:aR B l a w)(b:B<=w.heap.size)(o:Obj):aR B l a (w.alloc o):=
 h.trans ⟨rfl,rfl,rfl,by simp,λ k c _=>sZ _ _ _ W⟩
def aR.setCell{B:Nat}{l:List Nat}{a w:aa}(h:aR B l a w){p:Addr}(d:p.block∈l\/B<=p.block)(u:ab):aR B l a (w.setCell p u):=
 h.trans ⟨rfl,rfl,rfl,by simp,λ k b c=>ta _ _ _ _ (by
  grind)⟩
def aR.grown{B:Nat}{l:List Nat}{a w w':aa}{c:Option Nat}(h:aR B l a w)(b:w.grownBy w' c)(d:B<=w.heap.size)(j:∀k,c=some k->k∈l\/B<=k):aR B l a w':=
 h.trans ⟨b.os,b.tape,b.output,b.size,λ k f i=>b.block k W (λ e=>by
  grind)⟩
def aR.below{B:Nat}{l:List Nat}{w w':aa}(h:aR B l w w')(b:∀k∈l,B<=k):Below B w w':=
 ⟨h.os,h.tape,h.output,h.size,λ k a=>h.block k a (λ c=>by grind)⟩
def aR.lx{B:Nat}{w w':aa}(h:Below B w w')(l:List Nat):aR B l w w':=⟨h.os,h.tape,h.output,h.size,λ k a _=>h.block k a⟩
def ah(w:aa)(g:Nat)(t:TypeId)(cs:Array ab):Prop:=w.heap[g]?=some (.cells cs t (0,0))
section
variable{w w':aa}{g:Nat}{t:TypeId}{cs:Array ab}
def ah.lt(h:ah w g t cs):g<w.heap.size:=(lG.1 h).1
def ah.cell(h:ah w g t cs)(i:Nat):w.cell? ⟨g,i,none⟩=cs[i]?:=nx w g i cs t (0,0) h
def ah.frozen(h:ah w g t cs)(i:Nat):w.frozen? ⟨g,i,none⟩=false:=by
 unfold ah at h;simp[World.frozen?,h]
def ah.new(w:aa)(t:TypeId)(cs:Array ab):ah (w.alloc (.cells cs t)) w.heap.size t cs:=lo w _
def ah.drew(h:ah w g t cs):ah w.drew g t cs:=h
def ah.drewN(h:ah w g t cs)(n:Nat):ah (w.drewN n) g t cs:=h
def ah.alloc(h:ah w g t cs)(o:Obj):ah (w.alloc o) g t cs:=(sZ w o g h.lt).trans h
def ah.cN(h:ah w g t cs)(i:Nat)(u:ab):ah (w.setCell ⟨g,i,none⟩ u) g t (cs.setIfInBounds i u):=by
 unfold ah at h⊢;simp[World.setCell,yQ,h]
def ah.cG(h:ah w g t cs){p:Addr}(a:g≠p.block)(u:ab):ah (w.setCell p u) g t cs:=(ta w p u g a).trans h
def ah.only{B:Nat}{l:List Nat}(h:ah w g t cs)(c:aR B l w w')(a:g<B)(b:g∉l):ah w' g t cs:=(c.block g a b).trans h
def ah.grown{a:Option Nat}(h:ah w g t cs)(b:w.grownBy w' a)(c:some g≠a):ah w' g t cs:=(b.block g h.lt c).trans h
def ah.Ih{a:TypeId}{b:Array ab}(h:ah w g t cs)(c:ah w k a b)(d:t≠a):g≠k:=by
 rintro rfl;unfold ah at h c;grind
def qN{base:Nat}{e:TypeId}{size n:Nat}{v:ab}{xs:List ab}(h:w.ownsRow base e size v n xs)(c:ah w g t cs)(f:e≠t):v.ownBlock≠some g:=by
 rcases h.2 with⟨rfl,_⟩|⟨a,i,j,rfl,_,d,_⟩
 ·simp[Value.ownBlock]
 ·intro b;have:a=g:=by simpa[Value.ownBlock] using b
  subst this;exact ah.Ih (t:=e) d c f rfl
def CH{B base:Nat}{l:List Nat}{e:TypeId}{size n:Nat}{v:ab}{xs:List ab}(h:w.ownsRow base e size v n xs)(m:aR B l w w')(f:∀k,v.ownBlock=some k->k<B/\k∉l):w'.ownsRow base e size v n xs:=by
 refine⟨h.1,?_⟩;rcases h.2 with a|⟨g,b,c,rfl,i,j,r⟩
 ·grind
 ·obtain⟨d,a⟩:=f g rfl;exact .inr ⟨g,b,c,rfl,i,by rw[m.block g d a];exact j,r⟩
def uo{base:Nat}{e:TypeId}{size n:Nat}{v:ab}{xs:List ab}(h:w.ownsRow base e size v n xs){p:Addr}(a:v.ownBlock≠some p.block)(u:ab):(w.setCell p u).ownsRow base e size v n xs:=
 ownsRow_setCell_other h a u
def xH{base:Nat}{e:TypeId}{size n:Nat}{v:ab}{xs:List ab}(h:w.ownsRow base e size v n xs):∀k,v.ownBlock=some k->k<w.heap.size:=λ k a=>(h.lt k a).2
end
section
variable{P:Program}{w:aa}
def Le{ops:Array Oper}{rest:List Oper}{Q:Exit->Act->aa->Prop}(y:o.guard=none)(s x:Operand)(t:TypeId)
 (C:o.op= .call {callee:= .builtin .append,args:=#[s,x],argTypes:=#[t,t]})
 (base:Nat) (e:TypeId) (i:TypeInfo) (z:ab) (size bytes:Nat) (H:P.underlying t=some (.slice e)) (A:P.info? e=some i) (J:i.zero=some z)
 (F:i.size=size) (q:i.bytes=bytes) (K:z.cells.size=size) (G:0<size)
 (v:ab) (n:Nat) (xs:List ab) (E:a.eval s=v) (D:w.ownsRow base e size v n xs)
 (g:Nat) (hx:a.eval x=ad (some ⟨g,0,none⟩) 1 1) (c:Array ab) (M:TypeId) (f:Nat×Nat) (I:w.heap[g]?=some (.cells c M f)) (B:c.size=size) (h1:∀u∈c.toList,u.oneCell'=true)
 (h63:n+1<=maxLen) (r:(n+1)*bytes<=140737488355328) (p:base<=w.heap.size)
 (h:∀b d w',w'.ownsRow base e size (ad (some ⟨b,0,none⟩) (n+1) d) (n+1) (xs++c.toList)->w.grownBy w' v.ownBlock->(v.ownBlock=some b\/b=w.heap.size)->wpList P ops Q rest (a.put o.dst (ad (some ⟨b,0,none⟩) (n+1) d)) w'):wpList P ops Q (o::rest) a w:=by
 refine wpList_append_lies w y s x t C base e i z size bytes H A J F q K G v n xs E D ⟨g,0,none⟩ 1 1 c.toList hx (by simp[B]) (AI I) h1 zD h63 r p _ rfl ?_
 intro b d w' j k m u
 exact h b d w' j k m
def YD{ops:Array Oper}{K:Act->aa->Prop}{Q:Exit->Act->aa->Prop}{E:Prop}(p:o.guard=none)(s x:Operand)(t:TypeId)
 (y:o.op= .call {callee:= .builtin .append,args:=#[s,x],argTypes:=#[t,t]})
 (base:Nat) (e:TypeId) (i:TypeInfo) (z:ab) (size bytes:Nat) (F:P.underlying t=some (.slice e)) (q:P.info? e=some i) (H:i.zero=some z)
 (C:i.size=size) (k:i.bytes=bytes) (I:z.cells.size=size) (D:0<size)
 (v:ab) (n:Nat) (xs:List ab) (B:a.eval s=v) (A:w.ownsRow base e size v n xs)
 (g:Nat) (hx:a.eval x=ad (some ⟨g,0,none⟩) 1 1) (b:Array ab) (J:TypeId) (f:Nat×Nat) (G:w.heap[g]?=some (.cells b J f)) (r:b.size=size) (h1:∀u∈b.toList,u.oneCell'=true)
 (h63:n+1<=maxLen) (m:(n+1)*bytes<=140737488355328) (j:base<=w.heap.size)
 (h:∀c d w',w'.ownsRow base e size (ad (some ⟨c,0,none⟩) (n+1) d) (n+1) (xs++b.toList)->w.grownBy w' v.ownBlock->(v.ownBlock=some c\/c=w.heap.size)->K (a.put o.dst (ad (some ⟨c,0,none⟩) (n+1) d)) w'):
 if Region.wanted o (yielded ops a.tmps)=true then Oper.wp P o a w K Q else E:=by
 refine Ks w p s x t y base e i z size bytes F q H C k I D v n xs B A ⟨g,0,none⟩ 1 1 b.toList hx (by simp[r]) (AI G) h1 zD h63 m j _ rfl ?_
 grind
end
section
variable{P:Program}{w:aa}
def cF{base:Nat}{e:TypeId}{size n:Nat}{v:ab}{xs:List ab}(h:w.ownsRow base e size v n xs):∃A c,v=ad A n c/\(∀k,v.ownBlock=some k->base<=k/\k<w.heap.size):=by
 have d:=h.lt;rcases h.2 with⟨rfl,rfl⟩|⟨g,a,b,rfl,_⟩
 ·grind
 grind
end
section
variable{w w':aa}{base:Nat}{e:TypeId}{size:Nat}{v:ab}{n:Nat}{xs:List ab}
def C6(b:Nat):∀(a:List ab) (o:Nat) (w:aa),(w.setCells b o a).tape=w.tape/\(w.setCells b o a).os=w.os/\(w.setCells b o a).output=w.output/\(w.setCells b o a).heap.size=w.heap.size
 |[],_,_=>⟨rfl,rfl,rfl,rfl⟩
 |v::r,o,w=>by
  have:=C6 b r (o+1) (w.setCell ⟨b,o,none⟩ v)
  rw[World.setCells]
  exact⟨this.1,this.2.1,this.2.2.1,this.2.2.2.trans zS⟩
def Kd(g:Nat)(i:Nat×Nat):∀(a:List ab) (o:Nat) (d:Array ab) (w:aa),w.heap[g]?=some (.cells d e i)->o+a.length<=d.size->
 ∃f,(w.setCells g o a).heap[g]?=some (.cells f e i)/\f.size=d.size/\f.toList.take (o+a.length)=d.toList.take o++a
 |[],o,d,w,h,_=>⟨d,h,rfl,by simp⟩
 |v::r,o,d,w,h,k=>by
  simp only[fU] at k
  have j:(w.setCell ⟨g,o,none⟩ v).heap[g]?=some (.cells (d.setIfInBounds o v) e i):=by
   simp[World.setCell,yQ,h]
  obtain⟨f,a,b,c⟩:=Kd g i r (o+1) _ _ j (by grind)
  refine⟨f,a,by grind,?_⟩
  rw[fU,show o+(r.length+1)=o+1+r.length by omega,c]
  have:(d.setIfInBounds o v).toList.take (o+1)=d.toList.take o++[v]:=by
   rw[LF,zu,dC (by grind)]
   rw[kE _ _ (by grind)]
   simp[jT (show o<=d.size by omega)]
  grind
variable{P:Program}
end
section
variable{w w':aa}{base:Nat}{e:TypeId}{size:Nat}{v:ab}{n:Nat}{xs:List ab}{P:Program}
def Xx(t q r e:TypeId)(i:TypeInfo)(z:ab)(bytes:Nat)(H:P.underlying t=some (.slice e))(E:P.info? e=some i)(a6:i.zero=some z)(a4:i.size=size)(R:i.bytes=bytes)(a7:z.cells.size=size)
 (h:w.ownsRow base e size v n xs) (x:ab) (m:Nat) (d:List ab) (A:Src P size q x m d w) (h63:n+m<=maxLen) (T:(n+m)*bytes<=140737488355328) (N:base<=w.heap.size):
 ∃a w',(Builtin.append_ #[t,q] r #[v,x]).run P w= .ok a w'/\w'.ownsRow base e size a (n+m) (xs++d)/\w.grownBy w' v.ownBlock/\(a.ownBlock=v.ownBlock\/a.ownBlock=some w.heap.size):=by
 subst a4;subst R
 have a3:=A.newsLen
 have K:=h.1
 have a5:((n+m:Nat):Int)<=9223372036854775807:=by simp only[maxLen] at h63;omega
 have J:∀(s:Option Addr) (p:Nat),v=ad s n p->p<n+m->(Builtin.firstCells i.size n (ad s n p)).run P w.drew= .ok xs.toArray w.drew->
  ∃a w',(Builtin.append_ #[t,q] r #[v,x]).run P w= .ok a w'/\w'.ownsRow base e i.size a (n+m) (xs++d)/\w.grownBy w' v.ownBlock/\(a.ownBlock=v.ownBlock\/a.ownBlock=some w.heap.size):=by
  rintro s p rfl y b
  have G:=run_append_grow_src (P:=P) w t q r e i z H E a6 s n p xs b x m d A y a5 (growslice_fits y T)
  have a:=grownCap_ge w (n+m) p e
  refine⟨_,_,G,⟨by grind,.inr ⟨w.heap.size,_,_,rfl,N,lo w.drew _,a,grownCap_le_maxLen _ _ _ _ h63,?_,?_⟩⟩,?_,.inr rfl⟩
  ·rw[Array.size_append,Da,a7,ji,bA,K,a3,<-kG,<-kG]
   grind
  ·rw[yR]
   rw[vx (by grind),cS (by grind)]
  ·exact⟨rfl,rfl,rfl,by simp,λ k u _=>sZ w.drew _ k u⟩
 rcases h.2 with⟨o,F⟩|⟨g,f,B,o,y,D,a9,a1,a0,b0⟩
 rotate_left
 have a8:∀j,j<B.size->w.frozen? ⟨g,j,none⟩=false:=λ j _=>by simp[World.frozen?,D]
 rotate_left
 ·subst F
  have b:xs=[]:=by grind
  subst b
  by_cases a:m=0
  ·subst a
   have F:d=[]:=by grind
   subst F
   rw[o]
   exact⟨_,_,run_append_nothing (P:=P) w t q r e i H E none 0 0 (aW _) x A,ct _ _ _ _,⟨rfl,rfl,rfl,aW _,λ _ _ _=>rfl⟩,.inl rfl⟩
  ·exact J none 0 o W (run_firstCells_none w.drew i.size 0 0 0)
 ·by_cases C:n+m<=f
  ·have X:(n+m)*i.size<=f*i.size:=lR _ C
   rw[kG] at X
   have G:=run_append_room_src (P:=P) w t q r e i H E g 0 n f x m d A C
    (λ j a=>by rw[eu,nx w g _ B e (0,0) D,lF W];rfl)
    (λ j a=>by grind)
   obtain⟨M,a,b,c⟩:=Kd (e:=e) g (0,0) d (0+n*i.size) B w D W
   have I:=C6 g d (0+n*i.size) w
   rw[o]
   refine⟨_,_,G,⟨by grind,.inr ⟨g,f,M,rfl,y,a,C,a1,b.trans a0,?_⟩⟩,⟨I.2.1,I.1,I.2.2.1,by omega,?_⟩,.inl rfl⟩
   ·grind
   ·intro k u a2
    exact ES w g _ d u (λ e=>a2 (by rw[e];rfl))
  ·refine J (some ⟨g,0,none⟩) f o W ?_
   refine run_firstCells_some w.drew i.size n ⟨g,0,none⟩ n f xs K (λ j u a=> ?_)
   subst o
   exact h.cells rfl j u a
def re{ops:Array Oper}{rest:List Oper}{Q:Exit->Act->aa->Prop}(u:o.guard=none)(s x:Operand)(t d:TypeId)
 (A:o.op= .call {callee:= .builtin .append,args:=#[s,x],argTypes:=#[t,d]})
 (base:Nat) (e:TypeId) (i:TypeInfo) (z:ab) (size bytes:Nat) (E:P.underlying t=some (.slice e)) (y:P.info? e=some i) (G:i.zero=some z)
 (D:i.size=size) (q:i.bytes=bytes) (H:z.cells.size=size)
 (v:ab) (n:Nat) (xs:List ab) (F:a.eval s=v) (h:w.ownsRow base e size v n xs)
 (f:ab) (m:Nat) (c:List ab) (hx:a.eval x=f) (C:Src P size d f m c w)
 (h63:n+m<=maxLen) (r:(n+m)*bytes<=140737488355328) (p:base<=w.heap.size)
 (j:∀b w',w'.ownsRow base e size b (n+m) (xs++c)->w.grownBy w' v.ownBlock->(b.ownBlock=v.ownBlock\/b.ownBlock=some w.heap.size)->wpList P ops Q rest (a.put o.dst b) w'):wpList P ops Q (o::rest) a w:=by
 refine wpList_plain u λ K k=> ?_
 obtain⟨b,w',B,I,J,M⟩:=Xx (P:=P) t d o.type e i z bytes E y G D q H h f m c C h63 r p
 unfold Oper.wp
 simp[execOp,A,resolve,invoke,builtin,F,hx,B,Result.andThen]
 exact k _ _ (j b w' I J M)
end
def dJ{P:Program}{w:aa}{g:Nat}{t:TypeId}{a:Array ab}(h:ah w g t a)(cs:Array ab)(b:cs.size=a.size)(h1:∀v∈cs.toList,v.oneCell'=true):
 (storeCells ⟨g,0,none⟩ cs.toList).run P w= .ok () (w.setRow g cs):=by
 have:=run_storeCells_at (P:=P) g 0 t cs.toList 0 a w h (by simp[b]) h1
 rw[this]
 congr 2
 grind
def ah.setRow{w:aa}{g:Nat}{t:TypeId}{a:Array ab}(h:ah w g t a)(cs:Array ab):ah (w.setRow g cs) g t cs:=setRow_heap w g a cs t (0,0) h
def ah.cJ{w:aa}{g:Nat}{t:TypeId}{a:Array ab}(h:ah w g t a)(cs:Array ab)(b:g≠k):ah (w.setRow k cs) g t a:=(C7 w k g cs b).trans h
def fC(w:aa)(o:Obj)(t:TypeId)(cs:Array ab):ah ((w.alloc o).alloc (.cells cs t)) (w.heap.size+1) t cs:=by
 have h:=ah.new (w.alloc o) t cs;simp_all
def bJ(w:aa)(o:Obj):BW w (w.alloc o):=(bz _ _).alloc (aW _) o
section
variable{P:Program}
end
def ia{P:Program}{c:Func}{p q:Tmp}{b:TypeId}(h:c.results=#[.cell p b,.tmp q])(a:Array ab)(w:aa)(g:Nat)(t:TypeId)(cs:Array ab)(f:Nat×Nat)(d:TypeDesc)
 (k:a.getD p undef=pV g) (i:w.heap[g]?=some (.cells cs t f))
 (o:P.underlying b=some d) (hd:(match d with| .struct _| .array _ _=>true|_=>false)=true) (j:(P.info? b).map (·.size)=some cs.size):
 (results c a).run P w= .ok (aJ #[aG cs,a.getD q undef]) w:=by
 have m:a[p]?.getD undef=pV g:=by simpa using k
 simp[results,h,m,asAddr,run_loadVar_row w g t b cs f d i o hd j]
section
variable{P:Program}{ops:Array Oper}{Q:Exit->Act->aa->Prop}{md:Region.Mode}{S:aa->Prop}{n:Nat}{L:Array Bool->Act->aa->Prop}
def eX(P:Program)(md:Region.Mode)(ops:Array Oper)(Q:Exit->Act->aa->Prop)(S:aa->Prop)(n:Nat)(L:Array Bool->Act->aa->Prop):Nat->Array Bool->Act->aa->Prop
 |0,b,a,w=>L b a w
 |f+1,b,a,w=>Region.ready md ops b≠[]/\∀i∈Region.ready md ops b,i<n/\wpOp P ops Q i (λ c w'=>S w'/\eX P md ops Q S n L f (b.setIfInBounds i true) c w') a w
def eX.any{g:Nat}(c:∀b a w,L b a w->wpAny P md ops Q g b a w):∀(f:Nat) (b:Array Bool) (a:Act) (w:aa),eX P md ops Q S n L f b a w->wpAny P md ops Q (f+g) b a w
 |0,b,a,w,h=>by rw[eu];exact c _ _ _ h
 |f+1,b,a,w,h=>by
  rw[show f+1+g=(f+g)+1 by omega]
  exact⟨λ k=>absurd k h.1,λ i m=>wpOp_mono (λ d w' j=>eX.any c f _ d w' j.2) (h.2 i m).2⟩
def eX.first{v:ab}(y:ops[i]?=some o)(G:∀(j:Nat) (a:Oper) cs b,ops[j]?=some a->a.op≠ .select cs b)
 (F:Region.sinkB md ops n=true) (B:Region.chainB md ops n=true) (E:n<ops.size) (D:i<n)
 (K:∀c a w,Q (.panic c) (a.put o.dst v) w->Q (.panic c) a w)
 (M:∀d a w,L d a w->∀j∈Region.ready md ops d,n<=j):
 ∀(f:Nat) (d:Array Bool) (a:Act) (w:aa),HeadInv md ops n d->
  (∀j p,ops[j]?=some p->j≠i->d.getD j true=false->(∀e∈p.after,Region.binds md e=true->e.on≠i)->o.apart ops p=true)->
  i∈Region.ready md ops d->YieldsIf P ops S o v a->S w->
  eX P md ops Q S n L f (d.setIfInBounds i true) (a.put o.dst v) w->eX P md ops Q S n L (f+1) d a w:=by
 intro f
 induction f with
 |zero=>
  intro d a w x _ s u q H
  have A:=(lr.1 s).1
  refine⟨λ h=>(by grind),λ j m=> ?_⟩
  have r:j<n:=vB λ h=>absurd m (Dg F B E x _ i rfl D A j h)
  refine⟨r,?_⟩
  by_cases c:j=i
  ·subst c;exact u.wpOp y q ⟨q,H⟩
  ·have:=M _ _ _ H j (uB m c)
   omega
 |succ f a2=>
  intro d a w x C s u q H
  have A:=(lr.1 s).1
  refine⟨λ h=>(by grind),λ j m=> ?_⟩
  have r:j<n:=vB λ h=>absurd m (Dg F B E x _ i rfl D A j h)
  refine⟨r,?_⟩
  by_cases c:j=i
  ·subst c;exact u.wpOp y q ⟨q,H⟩
  ·have I:=(H.2 j (uB m c)).2
   obtain⟨R,p,z,a3⟩:=lr.1 m
   have a1:∀e∈p.after,Region.binds md e=true->e.on≠i:=by grind
   have J:=wpOp_putIf z (C j p z c R a1) (λ cs b=>G i o cs b y) (λ cs b=>G j p cs b z) K u I
   have N:∀k ok,ops[k]?=some ok->k≠i->(d.setIfInBounds j true).getD k true=false->
    (∀e∈ok.after,Region.binds md e=true->e.on≠i)->o.apart ops ok=true:=λ k ok T X a5 a0=>by
    refine C k ok T X ?_ a0
    by_cases a4:j=k
    ·grind
    simp_all
   refine wpOp_mono (λ k w' b=>⟨b.2.1,a2 (d.setIfInBounds j true) k w' (x.set m r) N (uB s (dY c)) b.1 b.2.1 ?_⟩) J
   rw[Array.setIfInBounds_comm _ _ c]
   grind
def L1(P:Program)(md:Region.Mode)(l:List Oper)(Q:Exit->Act->aa->Prop)(n:Nat)(b:Array Bool)(a:Act)(w:aa):Prop:=
 Region.seqB md l.toArray (l.length-n) n b=true/\wpList P l.toArray Q (l.drop n) a w
def az(P:Program)(l:List Oper)(Q:Exit->Act->aa->Prop)(S:aa->Prop)(n f:Nat)(listed:Array Bool)(a:Act)(w:aa):Prop:=
 Region.sinkB .any l.toArray n=true->Region.chainB .any l.toArray n=true->Region.noSelect l.toArray=true->n<l.length->HeadInv .any l.toArray n listed->eX P .any l.toArray Q S n (L1 P .any l Q n) f listed a w
variable{l:List Oper}
def az.take{oi:Oper}{v:ab}{w:aa}(f:l.toArray[i]?=some oi)(j:i<n)
 (u:Region.free .any l.toArray B i=true) (x:(Region.ready .any l.toArray B).contains i=true)
 (r:∀c a w,Q (.panic c) (a.put oi.dst v) w->Q (.panic c) a w) (y:YieldsIf P l.toArray S oi v a) (s:S w)
 (h:az P l Q S n k (B.setIfInBounds i true) (a.put oi.dst v) w):az P l Q S n (k+1) B a w:=λ b c d p o=>by
 have m:i∈Region.ready .any l.toArray B:=by simpa using x
 exact eX.first f (Region.noSelect_spec d) b c W j r (λ A z w' q=>seqB_ready q.1) k B a w o (Region.free_spec f u) m y s (h b c d p (o.set m j))
def az.one{w:aa}(f:Region.ready .any l.toArray B=[i])(c:i<n)(x:l.toArray[i]?=some o)
 (h:∀b:Act->aa->Prop,Shut (∀a w,S w->(S w->az P l Q S n k (B.setIfInBounds i true) a w)->b a w)->if Region.wanted o (yielded l.toArray a.tmps)=true then Oper.wp P o a w b Q else b (a.put o.dst undef) w):
 az P l Q S n (k+1) B a w:=λ m p q r z=>by
 have y:i∈Region.ready .any l.toArray B:=by rw[f];simp
 refine⟨by grind,λ j d=> ?_⟩
 rw[f,ot] at d
 subst d
 exact⟨c,yF x (λ b s=>h b (λ a w b u=>s a w ⟨b,u b m p q r (z.set y c)⟩))⟩
def az.tail{w:aa}(b:Region.seqB .any l.toArray (l.length-n) n B=true)(h:wpList P l.toArray Q (l.drop n) a w):az P l Q S n 0 B a w:=λ _ _ _ _ _=>⟨b,h⟩
def iE{id:Nat}{w:aa}(n:Nat)(S:aa->Prop)(m:P.follows .mixedOrders=true)(b:(Region.noSelect l.toArray&&decide (n<l.length)&&Region.sinkB .any l.toArray n&&Region.chainB .any l.toArray n)=true)(i:S w.drew)
 (h:S w.drew->az P l Q S n n (Array.replicate l.length false) a w.drew):(Code.region id l.toArray true).wp P Q a w:=by
 simp only[cQ,dx] at b
 obtain⟨⟨⟨q,o⟩,p⟩,k⟩:=b
 refine wp_region_any m ?_
 have r:HeadInv .any l.toArray n (Array.replicate l.length false):=
  ⟨by simp,λ j s _ c=>(by rw[BO] at c;cases c),λ t _ f=>nz (by grind) (BO _ _)⟩
 have d:(l.drop n).length=l.length-n:=by simp
 have:=eX.any (Q:=Q) (g:=l.length-n) (λ s f w' c=>by
  have:=wpAny_of_seq (md:= .any) (Q':=Q) (l.drop n) n s f w' (λ j=>by simp) (by rw[d];exact c.1) c.2
  rwa[d] at this) _ _ _ _ (h i p k q o r)
 rw[show n+(l.length-n)=l.toArray.size by grind] at this
 rw[ji] at this⊢
 exact this
def cv{ops:Array Oper}(k:Region.wanted o (yielded ops a.tmps)=true)(b:TypeId)(x:Operand)(i:o.op= .load b x)
 (g:Nat) (hx:a.eval x=pV g) (t:TypeId) (cs:Array ab) (c:Nat×Nat) (d:TypeDesc) (f:∀w,S w->w.heap[g]?=some (.cells cs t c))
 (j:P.underlying b=some d) (hd:(match d with| .struct _| .array _ _=>true|_=>false)=true) (h:(P.info? b).map (·.size)=some cs.size):YieldsIf P ops S o (.agg cs) a:=
 .inl ⟨k,λ w m=>by
  unfold execOp
  simp only[i,hx,Instr.loadAt,Instr.sureAddr,cL,dw,cZ,run_loadVar_row w g t b cs c d (f w m) j hd h]⟩
end
section
variable{P:Program}{Q:Exit->Act->aa->Prop}{S:aa->Prop}{n:Nat}{l:List Oper}
def gB(P:Program)(l:List Oper)(Q:Exit->Act->aa->Prop)(S:aa->Prop)(n f:Nat)(c:Array Bool)(a:Act)(w:aa)(d:List Nat):Prop:=
 ∀i∈d,wpOp P l.toArray Q i (λ b w'=>S w'/\az P l Q S n f (c.setIfInBounds i true) b w') a w
def gB.nil{w:aa}:gB P l Q S n k B a w []:=λ _ h=>by cases h
def gB.cons{w:aa}(p:l.toArray[i]?=some o)
 (h:∀b:Act->aa->Prop,Shut (∀a w,S w->(S w->az P l Q S n k (B.setIfInBounds i true) a w)->b a w)->if Region.wanted o (yielded l.toArray a.tmps)=true then Oper.wp P o a w b Q else b (a.put o.dst undef) w)
 (q:gB P l Q S n k B a w m):gB P l Q S n k B a w (i::m):=λ j c=>by
 rcases bV.1 c with rfl|c
 ·exact yF p (λ b d=>h b (λ a w b f=>d a w ⟨b,f b⟩))
 ·exact q j c
def az.many{rs:List Nat}{w:aa}(q:Region.ready .any l.toArray B=rs)(u:rs≠[])(d:∀i∈rs,i<n)
 (h:gB P l Q S n k B a w rs):az P l Q S n (k+1) B a w:=λ i m o p r=>by
 refine⟨by grind,λ j f=> ?_⟩
 have b:j∈rs:=by rw[<-q];exact f
 exact⟨d j b,wpOp_mono (λ s w' c=>⟨c.1,c.2 i m o p (r.set f (d j b))⟩) (h j b)⟩
end
section
variable{P:Program}{Q:Exit->Act->aa->Prop}
def Oper.aaL{l n:Nat}{w:aa}{K:Act->aa->Prop}(hd:∀c,o.op≠ .defer c)(h:Oper.wp P o a w K Q):Oper.wpIn (Fence.wide.inRound l) n P o a w K Q:=by
 unfold Oper.wp at h;unfold Oper.wpIn;refine⟨λ _ _=>trivial,?_⟩;rw[Fence.inRound_round,EC l _ _ hd];generalize(execOp a.eval o).run P w=r at*;cases r with
 |ok x w'=>
  cases x with
  |enter f b=>
   simp only[Oper.upon,Oper.uponIn] at h⊢;exact⟨λ h=>by simp[Fence.wide] at h,CallsIn.inRound l (wo.2 h)⟩
  |row i b=>
   simp only[Oper.upon,Oper.uponIn] at h⊢;exact⟨λ h=>by simp[Fence.wide] at h,λ c cs _=>let⟨v,w',r,s⟩:=h c cs;⟨v,w',r,stepsIn_wide.2 s⟩⟩
  |value v=>exact h
  |skip=>exact h
  |defer d=>exact h
  |_=>exact h.elim
 |halt x w'=>cases x<;>simp only[Oper.upon,Oper.uponIn] at h⊢<;>exact h
def yD{l n:Nat}{ops:Array Oper}{md:Region.Mode}(d:∀a w,Q .outgrown a w->False)(hd:∀(j:Nat) (o:Oper),ops[j]?=some o->∀c,o.op≠ .defer c):
 ∀(f:Nat) (k:Array Bool) (a:Act) (w:aa),wpAny P md ops Q f k a w->wpAnyIn (Fence.wide.inRound l) n P md ops Q f k a w
 |0,k,a,w,h=>h
 |f+1,k,a,w,h=>by
  refine⟨h.1,λ i q=> ?_⟩
  have b:=h.2 i q
  unfold wpOp at b
  unfold wpOpIn
  split at b
  ·rename_i r;simp only[r];exact yD d hd f _ a w b
  ·rename_i o j
   simp only[j]
   split at b
   ·rename_i c
    simp only[c,if_true]
    rcases b with b|b
    ·exact Oper.wpIn_mono (λ a w p=>yD d hd f _ a w p) (Oper.aaL (hd i o j) b)
    ·obtain⟨-,s,u,m⟩:=b;exact(d _ _ m).elim
   ·rename_i c
    rw[aj c]
    exact⟨λ _ _=>trivial,yD d hd f _ _ w b⟩
def Im(l:List Oper):Bool:=l.all λ o=>match o.op with| .defer _=>false|_=>true
def Vt{l:List Oper}(h:Im l=true)(j:Nat)(o:Oper)(d:l.toArray[j]?=some o)(c:Call):o.op≠ .defer c:=by
 intro b;have a:o∈l:=by grind
 have:=gC.1 h o a;grind
variable{S:aa->Prop}{l:List Oper}
def MJ{w:aa}(n:Nat)(S:aa->Prop)(b:(Region.noSelect l.toArray&&decide (n<l.length)&&Region.sinkB .any l.toArray n&&Region.chainB .any l.toArray n)=true)
 (h:az P l Q S n n (Array.replicate l.length false) a w):wpAny P .any l.toArray Q l.length (Array.replicate l.length false) a w:=by
 simp only[cQ,dx] at b
 obtain⟨⟨⟨o,k⟩,m⟩,i⟩:=b
 have p:HeadInv .any l.toArray n (Array.replicate l.length false):=
  ⟨by simp,λ j q _ c=>(by rw[BO] at c;cases c),λ t _ f=>nz (by grind) (BO _ _)⟩
 have d:(l.drop n).length=l.length-n:=by simp
 have:=eX.any (Q:=Q) (g:=l.length-n) (λ q f w' c=>by
  have:=wpAny_of_seq (md:= .any) (Q':=Q) (l.drop n) n q f w' (λ j=>by simp) (by rw[d];exact c.1) c.2
  rwa[d] at this) _ _ _ _ (h m i o k p)
 rwa[show n+(l.length-n)=l.length by omega] at this
def aaK{id:Nat}{w:aa}(n:Nat)(S:aa->Prop)(f:∀a w,Q .outgrown a w->False)(d:P.follows .mixedOrders=true)
 (b:(Region.noSelect l.toArray&&decide (n<l.length)&&Region.sinkB .any l.toArray n&&Region.chainB .any l.toArray n)=true) (hd:Im l=true) (c:S w.drew)
 (h:S w.drew->az P l Q S n n (Array.replicate l.length false) a w.drew):(Code.region id l.toArray true).wpIn (Fence.wide.inRound k) i P Q a w:=by
 refine wpIn_region_any d ?_
 have:=MJ n S b (h c)
 rw[ji]
 exact yD f (Vt hd) _ _ _ _ this
end
def C0{P:Program}{t e:TypeId}{n:Nat}{q:IntKind}{cs:Array ab}{v:ab}(w:aa)(h:P.underlying t=some (.array n e))(j:P.underlying e=some (.int q))(f:(P.info? e).isSome=true)(a:P.cellsOf e=1)(b:i<n)(k:cs[i]?=some v):
 (Instr.index t (aG cs) (O (i:Int))).run P w= .ok v w:=by
 have d:(0<=(i:Int)/\(i:Int)<(n:Int)):=by omega
 obtain⟨m,c⟩:=Option.isSome_iff_exists.1 f
 simp[Instr.index,fN h,asIntOf,d,go_sem,part,run_sizeOf w c,a,isAgg,fN j,b,k]
def Ho(n:Int):bits .and .i64 n 1=n%2:=by
 have h127:(BitVec.ofInt 64 1).toNat=2^1-1:=by decide
 have a:(BitVec.ofInt 64 n&&&BitVec.ofInt 64 1).toNat=(n%((2^64:Nat):Int)).toNat%2^1:=by
  rw[BitVec.toNat_and,Ef,h127,Ew]
 show IntKind.i64.wrap ((BitVec.ofInt 64 n&&&BitVec.ofInt 64 1).toNat:Nat)=n%2;rw[a,fS];omega
def SN(n:Int):bits .and .i64 n 65535=n%65536:=by
 have h127:(BitVec.ofInt 64 65535).toNat=2^16-1:=by decide
 have a:(BitVec.ofInt 64 n&&&BitVec.ofInt 64 65535).toNat=(n%((2^64:Nat):Int)).toNat%2^16:=by
  rw[BitVec.toNat_and,Ef,h127,Ew]
 show IntKind.i64.wrap ((BitVec.ofInt 64 n&&&BitVec.ofInt 64 65535).toNat:Nat)=n%65536;rw[a,fS];omega
noncomputable def wE(n:Nat):Bool:=match prog.funcs[n]? with
 |some a=> !(a.name== "runtime.NumGoroutine")&& !a.body.isNone
 |none=>false
def en(n:Nat)(h:wE n=true:=by kernel_rfl)(a:Array ab)(w:aa):(callFunc n a).run prog w= .ok (.enter n a) w:=by
 unfold wE at h;split at h
 ·rename_i c f;simp only[cQ,yU,cc,ne_eq] at h;obtain⟨d,b⟩:=h;have e:¬c.body=none:=by intro h;rw[h] at b;cases b
  simp[callFunc,go_sem,f,d,e]
 ·cases h
def sB:(∀b:Bool,(true&&b)=b)/\(∀b:Bool,(b&&true)=b)/\(∀b:Bool,(false&&b)=false)/\(∀b:Bool,(b&&false)=false)/\(∀b:Bool,(true||b)=true)/\(∀b:Bool,(b||true)=true)/\(∀b:Bool,(false||b)=b)/\(∀b:Bool,(b||false)=b)/\((!true)=false)/\((!false)=true):=by simp
def sG{α:Type}:(∀(l:List α) (i:Nat),l.toArray[i]?=l[i]?)/\(∀(a:α) (l:List α) (i:Nat),(a::l)[i+1]?=l[i]?)/\(∀(a:α) (l:List α),(a::l)[0]?=some a)/\(∀a b:α,(some a=some b)=(a=b)):=by simp
abbrev eP{P:_}{ops:_}{Q:_}{d:_}{x:_}{y:_}{f:_}{e:_}{b:_}{c:_}{rest:_}{a:_}{wr:_}:=wpList P ops Q (⟨d,.next x y,f,e,b,c⟩::rest) a wr
abbrev jw{P:_}{ops:_}{Q:_}{d:_}{x:_}{y:_}{f:_}{e:_}{b:_}{c:_}{rest:_}{a:_}{wr:_}:=wpList P ops Q (⟨d,.makeMap x y,f,e,b,c⟩::rest) a wr
abbrev iq{P:_}{ops:_}{Q:_}{d:_}{x:_}{y:_}{z:_}{u:_}{f:_}{e:_}{b:_}{c:_}{rest:_}{a:_}{wr:_}:=wpList P ops Q (⟨d,.lookup x y z u,f,e,b,c⟩::rest) a wr
abbrev QU{P:_}{ops:_}{Q:_}{d:_}{x:_}{y:_}{z:_}{u:_}{f:_}{e:_}{b:_}{c:_}{rest:_}{a:_}{wr:_}:=wpList P ops Q (⟨d,.insert x y z u,f,e,b,c⟩::rest) a wr
abbrev wV{P:_}{ops:_}{Q:_}{d:_}{x:_}{y:_}{f:_}{e:_}{b:_}{c:_}{rest:_}{a:_}{wr:_}:=wpList P ops Q (⟨d,.range x y,f,e,b,c⟩::rest) a wr
abbrev gLo(n:Nat){P:_}{ops:_}{Q:_}{d:_}{x:_}{f:_}{e:_}{b:_}{c:_}{rest:_}{a:_}{wr:_}:=wpList P ops Q (⟨d,.load n x,f,e,b,c⟩::rest) a wr
variable{f r:Int}{l:List Int}
namespace FM
def P:Int:=57896044618658097711785492504343953926634992332820282019728792003956564819949
def val:List Int->Int
 |[]=>0
 |d::a=>d+65536*val a
def DD:∀(a b:List Int),val (a++b)=val a+65536^a.length*val b
 |[],b=>by simp[val]
 |d::a,b=>by
  simp only[gD,val,DD a b,fU,zg]
  grind
def lE:∀(l:List Int) (k:Nat) (v:Int) (h:k<l.length),val (l.set k v)=val l+(v-l[k])*65536^k
 |[],k,v,h=>absurd h zS
 |d::a,0,v,h=>by simp only[lM,val,List.getElem_cons_zero,Int.pow_zero,Int.mul_one];omega
 |d::a,k+1,v,h=>by
  simp only[mX,val,List.getElem_cons_succ,zg]
  have b:k<a.length:=by simpa using h
  rw[lE a k v b,Int.mul_add,<-Int.mul_assoc,Int.mul_comm 65536 (v-a[k]),Int.mul_assoc,Int.mul_comm 65536 (65536^k),Int.add_assoc]
def pC:∀(l:List Int),(∀d∈l,0<=d/\d<65536)->0<=val l/\val l<65536^l.length
 |[],_=>by simp[val]
 |d::a,h=>by
  have b:=h d zS
  have c:=pC a (λ x hx=>h x (tj _ hx))
  simp only[val,fU,zg]
  omega
structure CI(l0 l:List Int)(a b:Int)(i:Nat):Prop where
 len:l.length=16
 c:l0.length=16
 same:val l=val l0
 done:∀k (h:k<l.length),k<i->0<=l[k]/\l[k]<65536
 rest:∀k (h:k<l.length) (h0:k<l0.length),i<k->l[k]=l0[k]
 here:∀(h:i<l.length) (h0:i<l0.length),a<=l[i]-l0[i]/\l[i]-l0[i]<=b
def CI.start(h:l.length=16)(d:r<=0)(e:0<=f):CI l l r f 0:=
 ⟨h,h,rfl,λ k a b=>by omega,λ k a b c=>rfl,λ a b=>by omega⟩
def CI.step{e:List Int}(h:CI e l r f i)(p:i<15){x y q:Int}(hx:l[i]?=some x)(d:l[i+1]?=some y)(s:q=x/65536)(o:r<=q/\q<=f):
 CI e ((l.set i (x-q*65536)).set (i+1) (y+q)) r f (i+1):=by
 have c:i<l.length:=by have:=h.len;omega
 have m:i+1<l.length:=by have:=h.len;omega
 have g:l[i]=x:=by rw[ba c] at hx;exact hK hx
 have j:l[i+1]=y:=by rw[ba m] at d;exact hK d
 refine⟨by simp[h.len],h.c,?_,?_,?_,?_⟩
 ·rw[lE _ _ _ (by grind),lE _ _ _ c,<-h.same,g,lK W,j,zg]
  grind
 ·intro k a n
  simp only[hH] at a
  rw[zp]
  split
  ·omega
  ·rw[zp]
   split
   ·omega
   ·exact h.done k a W
 ·intro k a b n
  simp only[hH] at a
  rw[lK W,lK W]
  exact h.rest k a b W
 ·intro a b
  simp only[hH] at a
  rw[List.getElem_set_self]
  have:=h.rest (i+1) a b W
  omega
def CI.last{e:List Int}(h:CI e l r f 15){x z q:Int}(hx:l[15]?=some x)(d:l[0]?=some z)(j:q=x/65536):
 ((l.set 15 (x-q*65536)).set 0 (z+38*q)).length=16/\val ((l.set 15 (x-q*65536)).set 0 (z+38*q))=val e-2*q*P/\
 (∀k (b:k<((l.set 15 (x-q*65536)).set 0 (z+38*q)).length),0<k->0<=((l.set 15 (x-q*65536)).set 0 (z+38*q))[k]/\((l.set 15 (x-q*65536)).set 0 (z+38*q))[k]<65536)/\0<=z/\z<65536:=by
 have c:15<l.length:=by have:=h.len;omega
 have a:0<l.length:=by omega
 have g:l[15]=x:=by rw[ba c] at hx;exact hK hx
 have i:l[0]=z:=by rw[ba a] at d;exact hK d
 refine⟨by simp[h.len],?_,?_,?_⟩
 ·rw[lE _ _ _ (by grind),lE _ _ _ c,<-h.same,g,lK W,i]
  unfold P
  omega
 ·intro k b a
  simp only[hH] at b
  rw[lK W,zp]
  split
  ·omega
  ·exact h.done k b (by have:=h.len;omega)
 ·have:=h.done 0 a W
  omega
def Jm{m M a b:Int}(c:m<=r/\r<=M)(g:a<=f-r/\f-r<=b)(d:65536*a<=m+a)(e:M+b<65536*(b+1)):a<=f/65536/\f/65536<=b:=by omega
structure gV(l0 l:List Int)(a b:Int):Prop where
 len:l.length=16
 ex:∃q z,a<=q/\q<=b/\val l=val l0-2*q*P/\l[0]?=some (z+38*q)/\0<=z/\z<65536
 high:∀k (h:k<l.length),0<k->0<=l[k]/\l[k]<65536
def kz(c:List Int)(a b:Int)(k:Nat)(l:List Int):Prop:=(k<16->CI c l a b k)/\(k=16->gV c l a b)
def kz.step{c l:List Int}{a b m M x y:Int}{k:Nat}(h:kz c a b k l)(p:k<15)(hx:l[k]?=some x)(q:l[k+1]?=some y)(j:∀d∈c,m<=d/\d<=M)(n:65536*a<=m+a)(o:M+b<65536*(b+1)):
 kz c a b (k+1) ((l.set k (x-x/65536*65536)).set (k+1) (y+x/65536))/\a<=x/65536/\x/65536<=b:=by
 have d:=h.1 W
 have f:k<l.length:=by have:=d.len;omega
 have e:k<c.length:=by have:=d.c;omega
 have hd:=d.here f e
 have i:l[k]=x:=by rw[ba f] at hx;exact hK hx
 rw[i] at hd
 have g:=Jm (j c[k] (cY e)) hd n o
 exact⟨⟨λ _=>d.step p hx q rfl g,λ h=>by omega⟩,g⟩
def kz.last{c l:List Int}{a b m M x z:Int}(h:kz c a b 15 l)(hx:l[15]?=some x)(o:l[0]?=some z)(j:∀d∈c,m<=d/\d<=M)(k:65536*a<=m+a)(n:M+b<65536*(b+1)):
 kz c a b 16 ((l.set 15 (x-x/65536*65536)).set 0 (z+38*(x/65536)))/\a<=x/65536/\x/65536<=b:=by
 have d:=h.1 W
 have g:15<l.length:=by have:=d.len;omega
 have f:15<c.length:=by have:=d.c;omega
 have hd:=d.here g f
 have i:l[15]=x:=by rw[ba g] at hx;exact hK hx
 rw[i] at hd
 have e:=Jm (j c[15] (cY f)) hd k n
 obtain⟨p,q,r,s,t⟩:=d.last hx o rfl
 refine⟨⟨λ h=>by omega,λ _=>⟨p,⟨_,z,e.1,e.2,q,?_,s,t⟩,r⟩⟩,e⟩
 grind
def kz.get{b:List Int}(h:kz b r f k l)(a:k<16)(i:Nat)(c:i<16):∃x,l[i]?=some x:=⟨_,ba (by have:=(h.1 a).len;omega)⟩
def kz.small{c:List Int}{m M:Int}(h:kz c r f k l)(j:k<16)(g:∀d∈c,m<=d/\d<=M){x:Int}(hx:l[i]?=some x)(s:m<=0)(o:65536<=M)(p:r<=0)(q:0<=f):m+r<=x/\x<=M+f:=by
 have b:=h.1 j;obtain⟨e,rfl⟩:=ed.1 hx;have d:i<c.length:=by have:=b.c;have:=b.len;omega
 have n:=g c[i] (cY d);rcases Nat.lt_trichotomy i k with a|a|a
 ·have:=b.done i e a;omega
 ·subst a;have:=b.here e d;omega
 ·rw[b.rest i e d a];omega
def Dp:(65536:Int)^16=2*P+38:=by rfl
def gV.split{a:List Int}(h:gV a l r f):∃q z t,l=(z+38*q)::t/\r<=q/\q<=f/\0<=z/\z<65536/\(∀d∈t,0<=d/\d<65536)/\t.length=15/\val l=val a-2*q*P/\val a=z+65536*val t+65536^16*q:=by
 obtain⟨c,⟨q,z,e,g,b,i,j,m⟩,n⟩:=h
 match l,c with
 |d::t,c=>
  have hd:d=z+38*q:=by simpa using i
  subst hd;refine⟨q,z,t,rfl,e,g,j,m,?_,by grind,b,?_⟩
  ·intro d hd;obtain⟨k,o,rfl⟩:=ru.1 hd;have:=n (k+1) (by grind) W;grind
  ·rw[Dp];simp only[val] at b;grind
def gV.quo{a:List Int}(h:gV a l r f):∃z t,l=(z+38*(val a/65536^16))::t/\0<=z/\z<65536/\(∀d∈t,0<=d/\d<65536)/\t.length=15/\val l=val a-2*(val a/65536^16)*P/\val a%65536^16=z+65536*val t:=by
 obtain⟨q,z,t,j,k,m,n,o,d,e,p,c⟩:=h.split;have g:=pC t d;rw[e] at g;have Bj:(65536:Int)^16=65536*65536^15:=by decide
 have b:0<=z+65536*val t/\z+65536*val t<65536^16:=by rw[Bj];omega
 have i:val a/65536^16=q:=by
  rw[c,Int.add_mul_ediv_left _ _ zD,Int.ediv_eq_zero_of_lt b.1 b.2];omega
 have s:val a%65536^16=z+65536*val t:=by
  rw[c,zc,Eh b.1 b.2]
 rw[i];grind
def gV.mod{a:List Int}(h:gV a l r f):val l%P=val a%P:=by
 obtain⟨z,t,-,-,-,-,-,b,-⟩:=h.quo;simp_all
structure Good(l:List Int):Prop where
 len:l.length=16
 low:∀z,l[0]?=some z-> -76<=z/\z<=65611
 high:∀k (h:k<l.length),0<k->0<=l[k]/\l[k]<65536
def fe(l:List Int):Nat:=(val l%P).toNat
def ke(l:List Int):(fe l:Int)=val l%P:=by
 unfold fe;have:0<=val l%P:=Int.emod_nonneg _ (by unfold P;decide);omega
def Good.bound(h:Good l)(hd:r∈l): -76<=r/\r<=65611:=by
 obtain⟨k,a,rfl⟩:=ru.1 hd;cases k with
 |zero=>exact h.low _ (ba a)
 |succ k=>have:=h.high (k+1) a W;omega
def gV.kg{a:List Int}(h:gV a l r f)(h1: -(2*65536^16)<=val a)(h2:val a<3*65536^16):Good l:=by
 obtain⟨z,t,b,o,p,i,m,-,-⟩:=h.quo;have e: -2<=val a/65536^16:=by omega
 have g:val a/65536^16<3:=by omega
 generalize val a/65536^16=q at*;subst b;refine⟨by grind,λ y n=> ?_,λ k d c=> ?_⟩
 ·grind
 ·obtain⟨j,rfl⟩:∃j,k=j+1:=⟨k-1,by omega⟩;simp_all
structure Norm(l:List Int):Prop where
 len:l.length=16
 a:∀d∈l,0<=d/\d<65536
def Norm.bounds(h:Norm l):0<=val l/\val l<65536^16:=by
 have:=pC l h.a;rwa[h.len] at this
def Good.split(h:Good l):∃d t,l=d::t/\-76<=d/\d<=65611/\t.length=15/\∀x∈t,0<=x/\x<65536:=by
 obtain⟨a,b,c⟩:=h
 match l,a with
 |d::t,a=>
  refine⟨d,t,rfl,(b d rfl).1,(b d rfl).2,by grind,λ x hx=> ?_⟩;obtain⟨k,e,rfl⟩:=ru.1 hx;have:=c (k+1) (by grind) W;grind
def Good.bounds(h:Good l): -76<=val l/\val l<=65536^16+75:=by
 obtain⟨d,t,rfl,e,f,a,b⟩:=h.split;have c:=pC t b;rw[a] at c;simp only[val];omega
def Norm.kg(h:Norm l):Good l:=
 ⟨h.len,λ z b=>by have:=h.a z (dB b);omega,λ k a _=>h.a _ (cY a)⟩
def gV.norm{a:List Int}(h:gV a l r f)(e:Good a):Norm l:=by
 have m:=e.bounds;obtain⟨z,t,g,p,s,j,k,-,i⟩:=h.quo;have b:=pC t j;rw[k] at b;have c:=Int.mul_ediv_add_emod (val a) (65536^16);have n: -1<=val a/65536^16:=by omega
 have o:val a/65536^16<2:=by omega
 rw[i] at c;generalize val a/65536^16=q at*;subst g;refine⟨by grind,λ d hd=> ?_⟩;grind
def PN:Nat:=57896044618658097711785492504343953926634992332820282019728792003956564819949
def tr:P=(PN:Int):=rfl
def GK(l:List Int):fe l<PN:=by
 have a:=ke l;have b:val l%P<P:=Int.emod_lt_of_pos _ (by unfold P;decide);rw[tr] at b a;omega
def Ql{x y:List Int}(h:val l%P=(val x+val y)%P):fe l=(fe x+fe y)%PN:=by
 have a:=ke l;rw[h,Int.add_emod,<-ke,<-ke,tr] at a;grind
def Qm{x y:List Int}(h:val l%P=(val x*val y)%P):fe l=(fe x*fe y)%PN:=by
 have a:=ke l;rw[h,Int.mul_emod,<-ke,<-ke,tr] at a;grind
def Qn{x y:List Int}(h:val l%P=(val x-val y)%P):fe l=(fe x+(PN-fe y))%PN:=by
 have a:=ke l;have c:=GK y;rw[h,Int.sub_emod,<-ke,<-ke,tr] at a;have b:(fe x:Int)-(fe y:Int)=((fe x+(PN-fe y):Nat):Int)+(PN:Int)*(-1):=by omega
 rw[b,zc] at a;omega
def eS(f:Int->Int->Int):Nat->List Int->List Int->List Int
 |0,x,_=>x
 |k+1,p::x,q::y=>f p q::eS f k x y
 |_+1,x,_=>x
def CC(f:Int->Int->Int):∀(k:Nat) (x y:List Int),(eS f k x y).length=x.length
 |0,x,y=>rfl
 |k+1,p::x,q::y=>by simp[eS,CC f k x y]
 |k+1,[],y=>rfl
 |k+1,p::x,[]=>rfl
def xC(f:Int->Int->Int):∀(k:Nat) (x y:List Int) (i:Nat),k<=i->(eS f k x y)[i]?=x[i]?
 |0,x,y,i,_=>rfl
 |k+1,p::x,q::y,0,h=>by omega
 |k+1,p::x,q::y,i+1,h=>by simp[eS,xC f k x y i W]
 |k+1,[],y,i,h=>rfl
 |k+1,p::x,[],i,h=>rfl
def xD(f:Int->Int->Int):∀(k:Nat) (x y:List Int) (p q:Int),x[k]?=some p->y[k]?=some q->(eS f k x y).set k (f p q)=eS f (k+1) x y
 |0,a::x,b::y,p,q,c,d=>by simp at c d;subst c d;rfl
 |0,[],y,p,q,c,d=>by rfl
 |0,a::x,[],p,q,c,d=>by grind
 |k+1,a::x,b::y,p,q,c,d=>by
  simp only[mV] at c d
  have:=xD f k x y p q c d
  simp only[eS,mX] at this⊢
  rw[this]
 |k+1,[],y,p,q,c,d=>by rfl
 |k+1,a::x,[],p,q,c,d=>by grind
def CA(f:Int->Int->Int)(R:Int->Prop):∀(k:Nat) (x y:List Int),(∀d∈x,R d)->(∀p∈x,∀q∈y,R (f p q))->∀d∈eS f k x y,R d
 |0,x,y,h,_=>h
 |k+1,p::x,q::y,h,a=>λ d hd=>by
  rcases bV.1 hd with rfl|hd
  ·grind
  ·exact CA f R k x y (λ d hd=>h d (tj _ hd)) (λ p b q c=>a p (tj _ b) q (tj _ c)) d hd
 |k+1,[],y,h,_=>h
 |k+1,p::x,[],h,_=>h
def IA:∀(k:Nat) (x y:List Int),x.length=k->y.length=k->val (eS (·+·) k x y)=val x+val y
 |0,x,y,a,b=>by rw[kC a,kC b];rfl
 |k+1,p::x,q::y,a,b=>by
  have:=IA k x y (by grind) (by grind)
  simp only[eS,val,this];omega
 |k+1,[],y,a,b=>by grind
 |k+1,p::x,[],a,b=>by grind
def IC:∀(k:Nat) (x y:List Int),x.length=k->y.length=k->val (eS (·-·) k x y)=val x-val y
 |0,x,y,a,b=>by rw[kC a,kC b];rfl
 |k+1,p::x,q::y,a,b=>by
  have:=IC k x y (by grind) (by grind)
  simp only[eS,val,this];omega
 |k+1,[],y,a,b=>by grind
 |k+1,p::x,[],a,b=>by grind
def gV.Hd{b:List Int}(h:gV b l r f)(g: -2<=r)(i:f<=2):Good l:=by
 obtain⟨q,z,t,a,d,e,s,u,n,o,-,-⟩:=h.split;subst a;refine⟨by grind,λ y p=> ?_,λ k m c=> ?_⟩
 ·grind
 ·obtain⟨j,rfl⟩:∃j,k=j+1:=⟨k-1,by omega⟩;simp_all
end FM
