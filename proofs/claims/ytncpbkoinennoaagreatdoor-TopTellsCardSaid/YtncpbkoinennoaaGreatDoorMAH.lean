import Derived.Defers
import Derived.Test.YtncpbkoinennoaaGreatDoorMAG
set_option linter.all false
set_option maxRecDepth 100000
set_option maxHeartbeats 0
namespace Go.Proofs.YtncpbkoinennoaaGreatDoor
open Go.RowKit Proofs.Tryz
attribute [local irreducible] wpList Calls
variable{r:Int}{J:Y}{k n:Nat}{X:Operand}{t:TypeId}
inductive eZ(A A':Y):List Y->List Y->Prop
 |head (l:List Y):eZ A A' (A::l) (A'::l)
 |tail (x:Y) {l l':List Y}:eZ A A' l l'->eZ A A' (x::l) (x::l')
def eZ.idx{A b:Y}:∀{l c:List Y},eZ A b l c->∃i,l[i]?=some A/\c=l.set i b
 |_,_,.head l=>⟨0,rfl,rfl⟩
 |_,_,.tail x h=>by
  obtain⟨i,c,d⟩:=eZ.idx h
  exact⟨i+1,by grind,by grind⟩
section
variable{w wr wz:aa}{m:List Nat}{aq cU:List Y}
def af.in(h:af w wr m aq)(b:J∈aq):J.P wr:=h.ok J b
def af.rep(h:af w wr m aq){b:Y}(d:eZ J b aq cU)(e:bj J wr wz b):af w wz m cU:=by
 obtain⟨i,c,rfl⟩:=d.idx;exact h.at i c e
variable{ops:Array Oper}{rest:List Oper}{op:Oper}{a:Act}{Q:Exit->Act->aa->Prop}
def sw(h:J∈aq):∃i:Nat,aq[i]?=some J:=by
 obtain⟨i,b,e⟩:=ru.1 h;exact⟨i,by rw[ba b,e]⟩
noncomputable def jF(b:TypeId):Bool:=match prog.underlying b with|some d=> !d.isRow|none=>false
def sy(h:jF t=true):∃d,prog.underlying t=some d/\d.isRow=false:=by
 unfold jF at h;grind
noncomputable def ic(b:TypeId)(n:Nat):Bool:=(match prog.underlying b with|some d=>d.isRow|none=>false)&&decide ((prog.info? b).map (·.size)=some n)
def pn(h:ic t n=true):(∃d,prog.underlying t=some d/\d.isRow=true)/\(prog.info? t).map (·.size)=some n:=by
 unfold ic at h;grind
noncomputable def iB(b:TypeId)(n:Nat):Bool:=decide ((prog.info? b).map (·.size)=some n)
def sL(h:iB t n=true):(prog.info? t).map (·.size)=some n:=by simpa[iB] using h
def vp(h:af w wr m aq)(i:Nat){g:Nat}{c:List ab}(o:aq[i]?=some (Y.row g t c))(l:Region.wanted op (yielded ops a.tmps)=true)(b:TypeId){x:Operand}(p:op.op= .load b x)(hx:a.eval x= .pointer (some ⟨g,n,none⟩))
 (j:jF b=true) {v:ab} (q:c[n]?=some v) (k:wpList prog ops Q rest (a.put op.dst v) wr):wpList prog ops Q (op::rest) a wr:=by
 obtain⟨d,e,f⟩:=sy j
 exact Ub h l b x p i hx o d e f v q k
def zi(h:af w wr m aq)(i:Nat){g:Nat}{f:List ab}(r:aq[i]?=some (Y.row g t f))(q:Region.wanted op (yielded ops a.tmps)=true)(e:TypeId)(b:Nat){x:Operand}(u:op.op= .load e x)(hx:a.eval x= .pointer (some ⟨g,n,none⟩))
 (o:ic e b=true) (c:List ab) (y:(f.drop n).take b=c) (s:c.length=b)
 (p:wpList prog ops Q rest (a.put op.dst (aG c.toArray)) wr):wpList prog ops Q (op::rest) a wr:=by
 obtain⟨⟨d,j,k⟩,l⟩:=pn o
 exact Uc h q e x u i hx r d j k b l c y s p
def zI(h:af w wr m aq)(i:Nat){g:Nat}{d:List ab}(p:aq[i]?=some (Y.row g t d))(o:Region.wanted op (yielded ops a.tmps)=true)(e:TypeId)(c:Nat){x:Operand}(r:op.op= .store e x X)(hx:a.eval x= .pointer (some ⟨g,n,none⟩))
 (b:List ab) (s:a.eval X=aG b.toArray) (q:b.length=c) (j:iB e c=true) (l:decide (n+c<=d.length)=true) (h1:b.all (·.oneCell')=true)
 (k:∀f,af w f m (aq.set i (Y.row g t (eF d n b)))->wpList prog ops Q rest (a.put op.dst undef) f):wpList prog ops Q (op::rest) a wr:=
 str h o e x X r i hx p c (sL j) b s q (my l) h1 k
def tR{k:Tmp}{v:ab}(h:a.tmps.toList[k]?=some v):a.eval (.tmp k)=v:=by
 have b:a.tmps[k]?=some v:=by simpa using h
 show a.tmps.getD k undef=v;simp_all
def EI(h:af w wr m aq)(i:Nat){g:Nat}{b:List ab}(o:aq[i]?=some (Y.row g t b))(l:Region.wanted op (yielded ops a.tmps)=true)(c:TypeId){x:Operand}{k:Tmp}(p:op.op= .store c x (.tmp k))(hx:a.eval x= .pointer (some ⟨g,n,none⟩))
 {v:ab} (q:a.tmps.toList[k]?=some v) (e:iB c 1=true) (h1:v.oneCell'=true) (j:decide (n<b.length)=true)
 (f:∀d,af w d m (aq.set i (Y.row g t (b.set n v)))->wpList prog ops Q rest (a.put op.dst undef) d):wpList prog ops Q (op::rest) a wr:=
 qY h l c x _ p i hx o (sL e) v (tR q) h1 (my j) f
def EJ(h:af w wr m aq)(i:Nat){g:Nat}{b:List ab}(l:aq[i]?=some (Y.row g t b))(k:Region.wanted op (yielded ops a.tmps)=true)(c:TypeId){x:Operand}{v:ab}(o:op.op= .store c x (.const v))(hx:a.eval x= .pointer (some ⟨g,n,none⟩))
 (e:iB c 1=true) (h1:v.oneCell'=true) (j:decide (n<b.length)=true)
 (f:∀d,af w d m (aq.set i (Y.row g t (b.set n v)))->wpList prog ops Q rest (a.put op.dst undef) d):wpList prog ops Q (op::rest) a wr:=
 qY h k c x _ o i hx l (sL e) v rfl h1 (my j) f
def fx(b:TypeId)(c:List ab):Prop:=∀w:aa,(Instr.alloc b true (aJ #[])).run prog w= .ok (pV w.heap.size) (w.alloc (.cells c.toArray b))
def Al(h:af w wr m aq)(i:Region.wanted op (yielded ops a.tmps)=true)(b:TypeId)(k:Tmp)(hd:op.dst=some k)(l:op.op= .alloc b)(d:List ab)(n:fx b d)
 (e:∀g c,w.heap.size<=g->af w c m (Y.row g b d::aq)->wpList prog ops Q rest (a.put (some k) (pV g)) c):wpList prog ops Q (op::rest) a wr:=by
 refine al h i b l d n (λ g c f j=> ?_)
 rw[hd]
 exact e g c f j
def Bx(h:af w wr m aq)(f:Region.wanted op (yielded ops a.tmps)=true)(c:TypeId)(k:Tmp)(hd:op.dst=some k){x:Operand}(i:op.op= .box c x)(b:List ab)(hx:(a.eval x).cells=b.toArray)
 (e:∀g d,w.heap.size<=g->af w d m (Y.row g c b::aq)->wpList prog ops Q rest (a.put (some k) (pV g)) d):wpList prog ops Q (op::rest) a wr:=by
 refine dW f λ K d=> ?_
 unfold Oper.wp execOp
 simp only[i,Instr.box,newVar,newRow,hx,cL,run_newObj_alloc,cZ,dw,jV]
 rw[hd]
 exact d _ _ (e _ _ h.size (h.alloc b c))
end
section
variable{w wr:aa}{m:List Nat}{aq:List Y}{a:Act}{fn:Func}{R:Ending->aa->Prop}
def oM{k:Tmp}{v:ab}(h:a.tmps.toList[k]?=some v):a.tmps.getD k undef=v:=tR h
def iH(h:af w wr m aq)(i:Nat){g:Nat}{b:List ab}(k:aq[i]?=some (Y.row g t b))(c n:Nat){p:Tmp}(o:fn.results=#[.cell p c])(l:a.tmps.toList[p]?=some (pV g))
 (f:ic c n=true) (s:b.length=n) (hd:a.defers=[]) (j:R (ao (aG b.toArray)) wr):bodyPost prog fn R .ret a wr:=by
 obtain⟨⟨d,e,q⟩,r⟩:=pn f
 refine cq (v:=aG b.toArray) ?_ hd j
 exact fL o a.tmps wr g t b.toArray (0,0) d (oM l) (h.row k) e (by grind) (by grind)
def cz(h:af w wr m aq)(i:Nat){g:Nat}{b:List ab}(k:aq[i]?=some (Y.row g t b))(c n:Nat){p q:Tmp}(o:fn.results=#[.cell p c,.tmp q])(l:a.tmps.toList[p]?=some (pV g))
 {v:ab} (y:a.tmps.toList[q]?=some v) (f:ic c n=true) (u:b.length=n) (hd:a.defers=[]) (j:R (ao (aJ #[aG b.toArray,v])) wr):bodyPost prog fn R .ret a wr:=by
 obtain⟨⟨d,e,r⟩,s⟩:=pn f
 refine cq (v:=aJ #[aG b.toArray,v]) ?_ hd j
 have:=ia o a.tmps wr g t b.toArray (0,0) d (oM l) (h.row k) e (by grind) (by grind)
 simp_all
def vi{p:Tmp}(e:fn.results=#[.tmp p]){v:ab}(d:a.tmps.toList[p]?=some v)(hd:a.defers=[])(c:R (ao v) wr):bodyPost prog fn R .ret a wr:=by
 refine cq (v:=v) ?_ hd c;have b:a.tmps[p]?.getD undef=v:=by rw[<-sY];exact oM d
 simp[results,e,b]
def iI{p q:Tmp}(h:fn.results=#[.tmp p,.tmp q]){u v:ab}(e:a.tmps.toList[p]?=some u)(f:a.tmps.toList[q]?=some v)(hd:a.defers=[])(d:R (ao (aJ #[u,v])) wr):bodyPost prog fn R .ret a wr:=by
 refine cq (v:=aJ #[u,v]) ?_ hd d;have b:a.tmps[p]?.getD undef=u:=by rw[<-sY];exact oM e
 have c:a.tmps[q]?.getD undef=v:=by rw[<-sY];exact oM f
 simp[results,h,b,c]
end
structure HD where
 size:Nat
 time:Nat
 aE:ag
 a:ag
 deriving DecidableEq
abbrev HD.cells(h:HD):List ab:=[U (h.size:Int),U (h.time:Int),ae h.aE,ae h.a]
abbrev HD.val(h:HD):ab:=aG #[U (h.size:Int),U (h.time:Int),ae h.aE,ae h.a]
structure HD.Ok(h:HD):Prop where
 size:h.size<18446744073709551616
 time:h.time<18446744073709551616
def uv(x:WS)(b:Bool)(e:Nat)(s:ag):(x.put b e s).b.length<=x.b.length+s.size:=by
 have:s.data.toList.length=s.size:=by rw[hz];rfl
 unfold WS.put;grind
def La:∀(f n:Nat),n<128^f->(cm n).length<=max 1 f
 |0,n,h=>by
  have:n=0:=by simpa using h
  subst this;rw[uY zD];simp
 |f+1,n,h=>by
  by_cases b:n<128
  ·rw[uY b];simp
  ·have c:=La f (n/128) W
   rw[yA b,fU]
   grind
def yB(h:n<18446744073709551616):(cm n).length<=10:=by
 have:=La 10 n (lQ h zD);omega
def WS.num(x:WS)(n:Nat):WS:=x.put true 0 ⟨(cm n).toArray⟩
def WS.raw(x:WS)(s:ag)(n:Int):WS:=x.put (decide ((s.size:Int)=n)) 1 s
def WS.byte(x:WS)(n:Int):WS:=x.put (decide (0<=n/\n<=255)) 1 (jZ n)
def WS.head(x:WS)(h:HD):WS:=(((x.num h.size).num h.time).raw h.aE 32).raw h.a 64
def Vy{x:WS}(b:n<18446744073709551616)(hx:x.b.length<=k):(x.num n).b.length<=k+10:=by
 have:=uv x true 0 ⟨(cm n).toArray⟩;have c:=yB b;have d:(⟨(cm n).toArray⟩:ag).size=(cm n).length:=by simp[ByteArray.size]
 unfold WS.num;omega
def WX{x:WS}{s:ag}(hx:x.b.length<=k):(x.raw s r).b.length<=k+s.size:=by
 have:=uv x (decide ((s.size:Int)=r)) 1 s;unfold WS.raw;omega
section
variable{w:aa}{g:Nat}{v:ab}{x:WS}{K:Nat}
def oF(h:(Y.wr g v x).P w)(f:x.b.length<=K)(n:Nat)(i:K<=10000000)(b:n<18446744073709551616):Calls prog 90 #[pV g,U (n:Int)] w λ r d=>r=ao (aJ #[])/\∃c,bj (Y.wr g v x) w d (Y.wr g c (x.num n))/\(x.num n).b.length<=K+10:=
 (w_num h n b (by have:=yB b;omega)).mono λ _ _ ⟨d,c,e⟩=>⟨d,c,e,Vy b f⟩
def vR(h:(Y.wr g v x).P w)(e:x.b.length<=K)(s:ag)(n:Int)(f:K+s.size<=10000000):Calls prog 9 #[pV g,ae s,O n] w λ r c=>r=ao (aJ #[])/\∃b,bj (Y.wr g v x) w c (Y.wr g b (x.raw s n))/\(x.raw s n).b.length<=K+s.size:=
 (aaB h s n W).mono λ _ _ ⟨c,b,d⟩=>⟨c,b,d,WX e⟩
def A5(n:Int):(jZ n).size=1:=rfl
def NG(hx:x.b.length<=K):(x.byte r).b.length<=K+1:=by
 have:=uv x (decide (0<=r/\r<=255)) 1 (jZ r);rw[A5] at this;unfold WS.byte;omega
def tA(h:(Y.wr g v x).P w)(e:x.b.length<=K)(n:Int)(f:K<=10000000):Calls prog 89 #[pV g,O n] w λ r c=>r=ao (aJ #[])/\∃b,bj (Y.wr g v x) w c (Y.wr g b (x.byte n))/\(x.byte n).b.length<=K+1:=
 (aaz h n (by rw[A5];omega)).mono λ _ _ ⟨c,b,d⟩=>⟨c,b,d,NG e⟩
def AH(n:(Y.wr g v x).P w)(d:x.b.length<=K)(h:HD)(l:h.Ok)(s:K<=8000000)(t:h.aE.size<=100000)(u:h.a.size<=100000):
 Calls prog 91 #[pV g,h.val] w λ r k=>r=ao (aJ #[])/\∃j,bj (Y.wr g v x) w k (Y.wr g j (x.head h))/\(x.head h).b.length<=K+200020:=by
 obtain⟨p,q⟩:=l
 have b:=Z (af.self n)
 have c:=Z d
 go_enter func91,ntmps91
 go_wp2_with(first|refine Bx b.U rfl 59 3 rfl rfl h.cells rfl λ o y r f=>?_;have b:=Z f|refine vp b.U 0 rfl rfl 46 rfl rfl zR rfl ?_|refine vp b.U 0 rfl rfl 9 rfl rfl zR rfl ?_|go_at_call 90;refine(oF (b.U.in (by exact .tail _ (.head _))) c.U _ W W).mono ?_;rintro e k ⟨rfl,j,i,d⟩;have f:=b.U.rep (by exact .tail _ (.head _)) i;have b:=Z f;have c:=Z d|go_at_call 9;refine(vR (b.U.in (by exact .tail _ (.head _))) c.U _ _ W).mono ?_;rintro e k ⟨rfl,j,i,d⟩;have f:=b.U.rep (by exact .tail _ (.head _)) i;have b:=Z f;have c:=Z d)
 go_end0
 exact⟨rfl,_,(b.U.tail).gQ,iM c.U W⟩
end
def Lx:fx 23 [ae ⟨#[]⟩,ae ⟨#[]⟩,ae ⟨#[]⟩]:=λ w=>by go_simp
def yJ:fx 31 [ad none 0 0,O 0]:=λ w=>by go_simp
def aaU:fx 50 [ae ⟨#[]⟩,O 0,O 0,U 0,U 0,U 0,U 0,U 0,O 0,O 0]:=λ w=>by go_simp
def hy:fx 59 [U 0,U 0,ae ⟨#[]⟩,ae ⟨#[]⟩]:=λ w=>by go_simp
def gT:fx 62 [aF false,U 0,U 0,ae ⟨#[]⟩,ae ⟨#[]⟩,ad none 0 0,ae ⟨#[]⟩]:=λ w=>by go_simp
def eW:fx 66 [U 0,U 0,ae ⟨#[]⟩,ae ⟨#[]⟩,U 0,U 0,ae ⟨#[]⟩,ae ⟨#[]⟩,ad none 0 0]:=λ w=>by go_simp
def LB:fx 73 [ad none 0 0,O 0,O 0,U 0,U 0,U 0,U 0,U 0,O 0,O 0]:=λ w=>by go_simp
def ei:fx 81 [O 0,O 0,U 0,U 0,U 0,U 0,U 0,ae ⟨#[]⟩,ae ⟨#[]⟩,U 0,U 0,ae ⟨#[]⟩,ae ⟨#[]⟩,U 0,U 0,ae ⟨#[]⟩,ae ⟨#[]⟩,ad none 0 0,ad none 0 0,ad none 0 0]:=λ w=>by go_simp
def aaS:fx 106 [ae ⟨#[]⟩,ae ⟨#[]⟩,ae ⟨#[]⟩]:=λ w=>by go_simp
def Lu:fx 121 [ae ⟨#[]⟩,ae ⟨#[]⟩,ae ⟨#[]⟩]:=λ w=>by go_simp
def aaT:fx 129 [.pointer none,.pointer none,ad none 0 0]:=λ w=>by go_simp
def ku:fx 133 [ae ⟨#[]⟩,aF false,U 0,U 0,ae ⟨#[]⟩,ae ⟨#[]⟩,ad none 0 0,ae ⟨#[]⟩,U 0,U 0,O 0]:=λ w=>by go_simp
def Lv:fx 172 [U 0,U 0,U 0,U 0,U 0,U 0,U 0,U 0]:=λ w=>by go_simp
def Lw:fx 210 [O 0,O 0,ae ⟨#[]⟩]:=λ w=>by go_simp
def jc:fx 240 [O 0,U 0,ae ⟨#[]⟩,aF false]:=λ w=>by go_simp
def Ly:fx 250 [.int .u8 0,.int .u8 0,.int .u8 0,.int .u8 0,.int .u8 0,.int .u8 0,.int .u8 0,.int .u8 0]:=λ w=>by go_simp
def Lz:fx 272 [O 0,ae ⟨#[]⟩]:=λ w=>by go_simp
variable{I:List Y}{m:List Nat}{b:List UInt8}
structure RD where
 s:ag
 e:Nat
def fz(g:Nat)(w w':aa):Prop:=aR w.heap.size [g] w w'
def fz.refl(g:Nat)(w:aa):fz g w w:=aR.refl _ _ _
def fz.trans{g:Nat}{w w' a:aa}(h:fz g w w')(k:fz g w' a):fz g w a:=aR.trans h (aR.mono k h.size (λ _ _ h=>h))
def fz.lx(g:Nat){w w':aa}(h:BW w w'):fz g w w':=aR.lx h [g]
def oh(w:aa)(g:Nat)(x:RD):Prop:=ah w g 104 #[ae x.s,O (x.e:Int)]
def ev(w:aa)(g:Nat)(x:RD):Prop:=oh w g x/\True
section
variable{w w':aa}{g:Nat}{x:RD}
def oh.c0(h:oh w g x):w.cell? ⟨g,0,none⟩=some (ae x.s):=ah.cell h 0
def oh.c1(h:oh w g x):w.cell? ⟨g,1,none⟩=some (O (x.e:Int)):=ah.cell h 1
def oh.fr(h:oh w g x)(i:Nat):w.frozen? ⟨g,i,none⟩=false:=ah.frozen h i
def ev.below(h:ev w g x)(a:BW w w'):ev w' g x:=⟨(a.block g (ah.lt h.1)).trans h.1,trivial⟩
def ev.only{x':RD}(h:ev w g x)(hx:oh w' g x')(a:aR w.heap.size [g] w w'):ev w' g x'/\fz g w w':=⟨⟨hx,trivial⟩,a⟩
def RD.cK(x:RD)(n:Int):ag:=if x.e=0/\0<=n/\n<=x.s.size then x.s.extract 0 n.toNat else⟨#[]⟩
def RD.bF(x:RD)(n:Int):RD:=if x.e=0 then(if n<0 then{x with e:=1} else if(x.s.size:Int)<n then{x with e:=2} else{x with s:=x.s.extract n.toNat x.s.size}) else x
def Y8(a b g n:Nat)(s:ag)(i:n<=s.size)(u:FrameMode)(w:aa)(f:w.cell? ⟨a,0,none⟩=some (pV g))(h:w.cell? ⟨b,0,none⟩=some (O (n:Int)))(d:w.cell? ⟨g,0,none⟩=some (ae s))(f0:w.frozen? ⟨g,0,none⟩=false):
 CallsD prog 117 #[pV a,pV b] u w λ e c w'=>c=u/\(e=ao (aJ #[])/\w'=(w.setCell ⟨g,0,none⟩ (ae (s.extract n s.size))).drew):=by
 have c:(n:Int)<=(s.size:Int):=by omega
 go_enter_d func117,ntmps117
 go_wp2
 go_region
 go_end0
 simp
def xO(h:ev w g x)(n:Int):Calls prog 48 #[pV g,O n] w λ r w'=>r=ao (ae (x.cK n))/\ev w' g (x.bF n)/\fz g w w':=by
 have v:=bJ w (.cells #[pV g] 34);have y:=bJ (w.alloc (.cells #[pV g] 34)) (.cells #[O n] 3);have t:=Nv v y;have l:=h.below t;have k2:((w.alloc (.cells #[pV g] 34)).alloc (.cells #[O n] 3)).cell? ⟨w.heap.size,0,none⟩=some (pV g):=by simp
 have e1:(w.alloc (.cells #[pV g] 34)).heap.size=w.heap.size+1:=by simp
 have k3:((w.alloc (.cells #[pV g] 34)).alloc (.cells #[O n] 3)).cell? ⟨w.heap.size+1,0,none⟩=some (O n):=by
  have:=(ah.new (w.alloc (.cells #[pV g] 34)) 3 #[O n]).cell 0;rw[e1] at this;exact this
 have u:=l.1.c0;have o:=l.1.c1;have f0:=l.1.fr 0;have f1:=l.1.fr 1;have d:=Z l;have m:=Z (fz.lx g t);have z:(¬x.e=0)\/(x.e=0/\n<0)\/(x.e=0/\¬n<0/\(x.s.size:Int)<n)\/(x.e=0/\0<=n/\n<=(x.s.size:Int)):=by omega
 rcases z with a|⟨a,k⟩|⟨a,k,r⟩|⟨a,k,r⟩
 ·have B:¬(x.e:Int)=0:=by omega
  have i:x.cK n=⟨#[]⟩:=by rw[RD.cK,aj (λ c=>a c.1)]
  have j:x.bF n=x:=by rw[RD.bF,aj a]
  rw[i,j]
  go_enter_defers Ab,Av
  go_wp2
  exact⟨_,CU rfl _ _ _,rfl,d.U,m.U⟩
 ·have i:x.cK n=⟨#[]⟩:=by rw[RD.cK,aj (λ c=>by omega)]
  have j:x.bF n={x with e:=1}:=by rw[RD.bF,ax a,ax k]
  rw[i,j];rw[a] at o
  go_enter_defers Ab,Av
  go_wp2
  have b:=d.U.only (x':={x with e:=1}) (ah.cN d.U.1 1 _) ((aR.refl _ _ _).setCell (p:=⟨g,1,none⟩) (.inl zS) (O 1));exact⟨_,CU rfl _ _ _,rfl,b.1,m.U.trans b.2⟩
 ·have i:x.cK n=⟨#[]⟩:=by rw[RD.cK,aj (λ c=>by omega)]
  have j:x.bF n={x with e:=2}:=by rw[RD.bF,ax a,aj k,ax r]
  rw[i,j];rw[a] at o
  go_enter_defers Ab,Av
  go_wp2
  go_quiet (fail)
  go_wp2
  have b:=λ q=>d.U.only (x':={x with e:=2}) (ah.cN (ah.drewN d.U.1 q) 1 _) (((aR.refl _ [g] _).drewN q).setCell (p:=⟨g,1,none⟩) (.inl zS) (O 2));exact⟨_,CU rfl _ _ _,rfl,(b _).1,m.U.trans (b _).2⟩
 ·obtain⟨n,rfl⟩:=Int.eq_ofNat_of_zero_le k;have A:n<=x.s.size:=by omega
  have c:¬(x.s.size:Int)<(n:Int):=by omega
  have i:x.cK (n:Int)=x.s.extract 0 n:=by rw[RD.cK,ax ⟨a,k,r⟩,mS]
  have j:x.bF (n:Int)={x with s:=x.s.extract n x.s.size}:=by rw[RD.bF,ax a,aj W,aj c,mS]
  rw[i,j];rw[a] at o
  go_enter_defers Ab,Av
  go_wp2
  go_quiet (fail)
  go_wp2
  go_quiet (fail)
  go_wp2
  refine leaves_cons (f:=117) (args:=#[pV w.heap.size,.pointer (some ⟨w.heap.size+1,0,none⟩)]) zS zR ?_;refine(Y8 _ _ g n x.s A .returning _ (by exact k2) (by exact k3) (by exact u) (by exact f0)).mono ?_;rintro e C D ⟨rfl,rfl,rfl⟩;have b:=λ q p=>d.U.only (x':={x with s:=x.s.extract n x.s.size}) (ah.drew (ah.cN (ah.drewN (ah.drewN d.U.1 q) p) 0 (ae (x.s.extract n x.s.size)))) (((((aR.refl _ [g] _).drewN q).drewN p).setCell (p:=⟨g,0,none⟩) (.inl zS) (ae (x.s.extract n x.s.size))).drew);exact⟨_,CU rfl _ _ _,rfl,(b _ _).1,m.U.trans (b _ _).2⟩
end
def Ii{s:ag}(h:¬s.size=0):s.toList.isEmpty=false:=by
 rw[<-decide_eq_emptyBytes];simp_all
section
variable{w w':aa}{g:Nat}{x:RD}
def W6(s:ag)(w:aa):Calls prog 10 #[ae s] w λ r w'=>r=ao (pV w.heap.size)/\w'=w.alloc (.cells #[ae s,O 0] 104):=by
 go_enter func10,ntmps10
 go_wp2
 go_ret
 simp
def RD.ea(x:RD):Nat:=if x.e=0 then(if x.s.size=0 then 0 else 3) else x.e
def tB{s:ag}(h:s.size=0):s=⟨#[]⟩:=by
 cases s with
 |mk d=>congr 1;exact Array.eq_empty_of_size_eq_zero h
def W4(h:ev w g x):Calls prog 14 #[pV g] w λ r w'=>r=ao (O (x.ea:Int))/\w=w':=by
 have d:=h.1.c0;have e:=h.1.c1;by_cases b:x.e=0
 ·rw[b] at e;by_cases c:x.s.size=0
  ·have a:x.ea=0:=by rw[RD.ea,ax b,ax c]
   rw[a];rw[tB c] at d
   go_enter func14,ntmps14
   go_wp2
   go_ret
   simp
  ·have a:x.ea=3:=by rw[RD.ea,ax b,aj c]
   rw[a];have f:=Ii c
   go_enter func14,ntmps14
   go_wp2
   go_ret
   simp
 ·have f:¬(x.e:Int)=0:=by omega
  have a:x.ea=x.e:=by rw[RD.ea,aj b]
  rw[a]
  go_enter func14,ntmps14
  go_wp2
  go_ret
  simp
def RD.fail(x:RD)(e:Nat):RD:=if x.e=0 then{x with e:=e} else x
def W5(h:ev w g x)(e:Nat)(c:Int)(f:(e:Int)=c):Calls prog 151 #[pV g,O c] w λ r w'=>r=ao (aJ #[])/\ev w' g (x.fail e)/\fz g w w':=by
 subst f;have d:=h.1.c1;have f1:=h.1.fr 1;have H:=Z h;by_cases a:x.e=0
 ·rw[a] at d;have b:x.fail e={x with e:=e}:=by rw[RD.fail,ax a]
  rw[b]
  go_enter func151,ntmps151
  go_wp2
  go_end0
  have j:=H.U.only (x':={x with e:=e}) (ah.cN H.U.1 1 _) ((aR.refl _ [g] _).setCell (p:=⟨g,1,none⟩) (.inl zS) (O (e:Int)));grind
 ·have i:¬(x.e:Int)=0:=by omega
  have b:x.fail e=x:=by rw[RD.fail,aj a]
  rw[b]
  go_enter func151,ntmps151
  go_wp2
  go_end0
  exact⟨rfl,H.U,fz.refl _ _⟩
def W7(h:ev w g x)(n:Int):Calls prog 13 #[pV g,O n] w λ r w'=>r=ao (ae (x.cK n))/\ev w' g (x.bF n)/\fz g w w':=by
 go_enter func13,ntmps13
 go_wp2_with fail
 refine(xO h n).mono ?_;rintro e c ⟨rfl,a,b⟩
 go_wp2
 go_ret
 simp_all
def RD.dG(x:RD):Nat:=if x.e=0 then(if h:0<x.s.size then x.s[0].toNat else 0) else 0
def Za{x:RD}(a:x.e=0)(h:0<x.s.size):x.cK 1=x.s.extract 0 1:=by
 rw[RD.cK,ax ⟨a,by decide,by omega⟩];rfl
def Y9{x:RD}(h:¬(x.e=0/\0<x.s.size)):x.cK 1=⟨#[]⟩:=by
 rw[RD.cK,aj];omega
def W3(h:ev w g x):Calls prog 162 #[pV g] w λ r w'=>r=ao (O (x.dG:Int))/\ev w' g (x.bF 1)/\fz g w w':=by
 by_cases j:x.e=0/\0<x.s.size
 ·obtain⟨f,k⟩:=j;have i:x.dG=x.s[0].toNat:=by rw[RD.dG,ax f,dif_pos k]
  rw[i];have b:=Za f k;obtain⟨t,d⟩:∃t,x.s.extract 0 1=t:=⟨_,rfl⟩;have q:0<t.size:=by rw[<-d,ij];omega
  have p:t[0].toNat=x.s[0].toNat:=by
   subst d;congr 1;rw[ByteArray.getElem_extract]
  have o:t.toList.isEmpty=false:=Ii W;rw[d] at b;have c:=Z b;have h256:t[0].toNat<256:=t[0].toNat_lt
  go_enter func162,ntmps162
  go_wp2_with fail
  have a:=xO h 1;rw[c.U] at a;refine a.mono ?_;rintro e n ⟨rfl,l,m⟩
  go_wp2
  go_ret
  simp_all
 ·have i:x.dG=0:=by
   rw[RD.dG];by_cases f:x.e=0
   ·grind
   ·grind
  rw[i];have b:=Y9 j;have c:=Z b
  go_enter func162,ntmps162
  go_wp2_with fail
  have a:=xO h 1;rw[c.U] at a;refine a.mono ?_;rintro e n ⟨rfl,l,m⟩
  go_wp2
  go_ret
  simp_all
end
def nI(n c a:Nat):Nat:=n|||((c%128)*2^(7*a))%18446744073709551616
def gM:Nat->List UInt8->Nat->Nat->Except Nat (Nat×Nat)
 |0,_,_,_=> .error 3
 |_+1,[],_,_=> .error 2
 |f+1,c::l,a,n=>
  if 128<=c.toNat then gM f l (a+1) (nI n c.toNat a)
  else if(c.toNat=0/\0<a)\/(a=9/\1<c.toNat) then .error 3
  else .ok (nI n c.toNat a,a+1)
def RD.cB(x:RD):Nat:=if x.e=0 then(match gM 10 x.s.data.toList 0 0 with| .error _=>0| .ok p=>p.1) else 0
def RD.cg(x:RD):RD:=if x.e=0 then(match gM 10 x.s.data.toList 0 0 with| .error e=>{x with e:=e}| .ok p=>{x with s:=x.s.extract p.2 x.s.size}) else x
def Cz(n c a:Nat)(h:n<18446744073709551616):nI n c a<18446744073709551616:=
 Ey (n:=64) h (pY _ zD)
def VS(a b:Nat)(c:a<18446744073709551616)(d:b<18446744073709551616):bits BinOp.or IntKind.u64 (a:Int) (b:Int)=((a|||b:Nat):Int):=by
 simp only[bits,BitVec.toNat_or,Ef];have e1:((a:Int)%((2^IntKind.u64.bits:Nat):Int)).toNat=a:=by
  show((a:Int)%18446744073709551616).toNat=a;omega
 have e2:((b:Int)%((2^IntKind.u64.bits:Nat):Int)).toNat=b:=by
  show((b:Int)%18446744073709551616).toNat=b;omega
 rw[e1,e2];have:a|||b<18446744073709551616:=Ey (n:=64) c d;generalize a|||b=q at this⊢;rw[kB];omega
def Vx(m c k:Nat)(a:m<18446744073709551616):∃b:Nat,IntKind.u64.wrap ((c:Int)%128*2^(7*k))=(b:Int)/\bits BinOp.or IntKind.u64 (m:Int) (b:Int)=((nI m c k:Nat):Int):=by
 refine⟨(c%128)*2^(7*k)%18446744073709551616,?_,?_⟩
 ·rfl
 ·rw[VS _ _ a (pY _ zD)];rfl
def Vv{c:Nat}{R:Except Nat (Nat×Nat)}(d:k<b.length)(e:k<10)(a:b[k].toNat=c)(h:R=gM (10-k) (b.drop k) k n):
 (128<=c->R=gM (10-(k+1)) (b.drop (k+1)) (k+1) (nI n c k))/\(¬128<=c->(c=0/\0<k)\/(k=9/\1<c)->R= .error 3)/\(¬128<=c->¬((c=0/\0<k)\/(k=9/\1<c))->R= .ok (nI n c k,k+1)):=by
 rw[show 10-k=(10-(k+1))+1 by omega,gE d,gM,a] at h
 grind
section
variable{w w':aa}{g:Nat}{x:RD}
def uA(h:ev w g x)(e:Nat):ev (w.setCell ⟨g,1,none⟩ (O (e:Int))) g {x with e:=e}/\fz g w (w.setCell ⟨g,1,none⟩ (O (e:Int))):=
 h.only (x':={x with e:=e}) (ah.cN h.1 1 _) ((aR.refl _ [g] _).setCell (p:=⟨g,1,none⟩) (.inl zS) _)
def CT(h:ev w g x)(s:ag):ev (w.setCell ⟨g,0,none⟩ (ae s)) g {x with s:=s}/\fz g w (w.setCell ⟨g,0,none⟩ (ae s)):=
 h.only (x':={x with s:=s}) (ah.cN h.1 0 _) ((aR.refl _ [g] _).setCell (p:=⟨g,0,none⟩) (.inl zS) _)
def Js(h:ev w g x):Calls prog 47 #[pV g] w λ r w'=>r=ao (U (x.cB:Int))/\ev w' g x.cg/\fz g w w':=by
 have a5:=h.1.c0;have J:=h.1.c1;have f0:=h.1.fr 0;have f1:=h.1.fr 1;have H:=Z h;by_cases n:x.e=0
 ·rw[n] at J;have D:∀e,gM 10 x.s.data.toList 0 0= .error e->x.cB=0/\x.cg={x with e:=e}:=λ e h=>⟨by rw[RD.cB,ax n,h],by rw[RD.cg,ax n,h]⟩;have E:∀m k,gM 10 x.s.data.toList 0 0= .ok (m,k)->x.cB=m/\x.cg={x with s:=x.s.extract k x.s.size}:=λ m k h=>⟨by rw[RD.cB,ax n,h],by rw[RD.cg,ax n,h]⟩;obtain⟨R,S⟩:∃R,gM 10 x.s.data.toList 0 0=R:=⟨_,rfl⟩;rw[S] at D E;have q:=Z D;have B:=Z E;obtain⟨I,T⟩:∃I,x.cB=I:=⟨_,rfl⟩;obtain⟨C,X⟩:∃C,x.cg=C:=⟨_,rfl⟩;simp only[T,X] at q B⊢
  go_enter func47,ntmps47
  go_wp2
  go_step3
  go_wp2
  go_step3
  go_wp2
  go_loop [3,4,5] (λ c a b=>∃k m:Nat,k<=10/\k<=x.s.size/\m<18446744073709551616/\a=O (k:Int)/\c=U (m:Int)/\b=O 3/\R=gM (10-k) (x.s.data.toList.drop k) k m) (λ _ a _=>10-(intOf a).toNat)
  case atStart=>exact⟨0,0,by omega,bh _,by decide,rfl,rfl,rfl,by grind⟩
  case round=>
   obtain⟨k,m,b0,b6,G,rfl,rfl,rfl,A⟩:=hrel;have a6:x.s.data.toList.length=x.s.size:=by rw[hz];rfl
   by_cases a1:k=10
   ·subst a1;have a:=Z (show R= .error 3 from A)
    go_wp2
    all_goals
     try rw[iJ]
     go_ret
     have f:=uA H.U 3;obtain⟨j,l⟩:=q.U 3 a.U;simp_all
   focus
    by_cases a2:k=x.s.size
    ·have a:=Z (show R= .error 2 by rw[A,show 10-k=(9-k)+1 by omega,jQ W];rfl);subst a2
     go_wp2
     all_goals
      try rw[iJ]
      go_ret
      have f:=uA H.U 2;obtain⟨j,l⟩:=q.U 2 a.U;exact⟨by rw[j];rfl,by rw[l];exact f.1,f.2⟩
    focus
     have b5:k<x.s.size:=by omega
     have b2:(k:Int)<(x.s.size:Int):=by omega
     have a3:¬(k:Int)=(x.s.size:Int):=by omega
     have b4:(k:Int)<10:=by omega
     obtain⟨c,F⟩:∃c:Nat,x.s[k].toNat=c:=⟨_,rfl⟩;have a9:c<256:=by rw[<-F];exact x.s[k].toNat_lt
     obtain⟨N,P,Q⟩:=Vv (c:=c) W W (by rw[<-F];rfl) A;obtain⟨b,a7,a8⟩:=Vx m c k G;have a4:=Cz m c k G;have b1:k+1<=x.s.size:=by omega
     generalize nI m c k=M at*;have t:=Z N;have p:=Z P;have o:=Z Q;have a0:(128<=c)\/(c=0/\0<k)\/(c=0/\k=0)\/(¬128<=c/\¬c=0/\k=9/\1<c)\/(¬128<=c/\¬c=0/\k=9/\c=1)\/(¬128<=c/\¬c=0/\¬k=9):=by omega
     have b3:((k:Int)==(x.s.size:Int))=false:=by rw[cc];exact a3
     rcases a0 with d|⟨d,i⟩|⟨d,i⟩|⟨d,i,r,v⟩|⟨d,i,r,v⟩|⟨d,i,r⟩
     ·have y:(128:Int)<=(c:Int):=by omega
      have a:=Z (t.U d)
      go_wp2
      refine⟨⟨k+1,M,by omega,by omega,a4,by simp,rfl,rfl,a.U⟩,?_⟩;simp[intOf];omega
     ·have y:¬(128:Int)<=(c:Int):=by omega
      have u:((c:Int)==0)=true:=by rw[fB];omega
      have K:(1:Int)<(k:Int)+1:=by omega
      have a:=Z (p.U W (.inl ⟨d,i⟩))
      go_wp2
      all_goals
       try rw[iJ]
       go_ret
       have f:=uA H.U 3;obtain⟨j,l⟩:=q.U 3 a.U;exact⟨by rw[j];rfl,by rw[l];exact f.1,f.2⟩
     rotate_left
     ·have y:¬(128:Int)<=(c:Int):=by omega
      have u:((c:Int)==0)=false:=by rw[cc];omega
      have z:((k:Int)+1==10)=true:=by rw[fB];omega
      have L:(1:Int)<(c:Int):=by omega
      have a:=Z (p.U d (.inr ⟨r,v⟩));clear t p o d i r v
      go_wp2
      all_goals
       try rw[iJ]
       go_ret
       have f:=uA H.U 3;obtain⟨j,l⟩:=q.U 3 a.U;exact⟨by rw[j];rfl,by rw[l];exact f.1,f.2⟩
   all_goals
    have y:¬(128:Int)<=(c:Int):=by omega
    first
     |have u:((c:Int)==0)=true:=by rw[fB];omega
      have K:¬(1:Int)<(k:Int)+1:=by omega
      have z:((k:Int)+1==10)=false:=by rw[cc];omega
      have a:=Z (o.U W W);clear t p o d i
     |have u:((c:Int)==0)=false:=by rw[cc];omega
      have z:((k:Int)+1==10)=true:=by rw[fB];omega
      have L:¬(1:Int)<(c:Int):=by omega
      have a:=Z (o.U d W);clear t p o d i r v
     |have u:((c:Int)==0)=false:=by rw[cc];omega
      have z:((k:Int)+1==10)=false:=by rw[cc];omega
      have a:=Z (o.U d W)
    go_wp2
    all_goals
     try rw[iJ]
     go_ret
     have f:=CT H.U (x.s.extract (k+1) x.s.size);obtain⟨j,l⟩:=B.U _ _ a.U;exact⟨by rw[j];rfl,by rw[l];exact f.1,f.2⟩
 ·have b:¬(x.e:Int)=0:=by omega
  have a:x.cB=0:=by rw[RD.cB,aj n]
  have hx:x.cg=x:=by rw[RD.cg,aj n]
  rw[a,hx]
  go_enter func47,ntmps47
  go_wp2
  go_step3
  go_wp2
  rw[iJ]
  go_ret
  exact⟨rfl,H.U,fz.refl _ _⟩
end
def RD.back(z:RD)(s:ag):RD:=if z.e=0 then z else{z with s:=s}
def RD.oH(x:RD)(a:Int):ag:=if x.cg.e=0/\x.cB<=4096/\(x.cB:Int)<=a then x.cg.cK x.cB else⟨#[]⟩
def RD.tD(x:RD)(a:Int):RD:=if x.cg.e=0 then(if x.cB<=4096/\(x.cB:Int)<=a then(x.cg.bF x.cB).back x.s else{s:=x.s,e:=4}) else x.cg
section
variable{w w':aa}{g:Nat}{x:RD}
def W1(h:ev w g x)(b:Int):Calls prog 12 #[pV g,O b] w λ r w'=>r=ao (ae (x.oH b))/\ev w' g (x.tD b)/\fz g w w':=by
 have R:=h.1.c0;obtain⟨y,u⟩:∃y,x.cg=y:=⟨_,rfl⟩;obtain⟨n,p⟩:∃n,x.cB=n:=⟨_,rfl⟩;obtain⟨d,F⟩:∃d,x.oH b=d:=⟨_,rfl⟩;obtain⟨bx,G⟩:∃bx,x.tD b=bx:=⟨_,rfl⟩;have r:=Js h;rw[u,p] at r;have H:=F;have hx:=G;rw[RD.oH,u,p] at H;rw[RD.tD,u,p] at hx;rw[F,G];have j:=Z H;have k:=Z hx;have N:(¬y.e=0)\/(y.e=0/\4096<n)\/(y.e=0/\n<=4096/\b<(n:Int))\/(y.e=0/\n<=4096/\(n:Int)<=b):=by omega
 rcases N with a|⟨a,l⟩|⟨a,l,o⟩|⟨a,l,o⟩;focus
  have f:d=⟨#[]⟩:=by rw[<-j.U,aj (λ c=>a c.1)]
  have i:bx=y:=by rw[<-k.U,aj a]
 rotate_left;focus
  have f:d=⟨#[]⟩:=by rw[<-j.U,aj W]
  have i:bx={s:=x.s,e:=4}:=by rw[<-k.U,ax a,aj W]
 rotate_left;focus
  have f:d=⟨#[]⟩:=by rw[<-j.U,aj W]
  have i:bx={s:=x.s,e:=4}:=by rw[<-k.U,ax a,aj W]
 rotate_left
 ·have E:¬(4096:Int)<(n:Int):=by omega
  have M:IntKind.i64.wrap (n:Int)=(n:Int):=by rw[fS];omega
  have f:d=y.cK n:=by rw[<-j.U,ax ⟨a,l,o⟩]
  have i:bx=(y.bF n).back x.s:=by rw[<-k.U,ax a,ax ⟨l,o⟩]
  obtain⟨z,K⟩:∃z,y.bF (n:Int)=z:=⟨_,rfl⟩;obtain⟨t,I⟩:∃t,y.cK (n:Int)=t:=⟨_,rfl⟩;rw[K] at i;rw[I] at f;rw[f];have J:=λ(c:aa) (hx:ev c g y)=>xO hx (n:Int);rw[K,I] at J;have L:=Z J;have D:=Z i
  go_enter func12,ntmps12
  go_wp2_with fail
  refine r.mono ?_;rintro e Q ⟨rfl,k1,k2⟩;have d0:=k1.1.c0;have d1:=k1.1.c1;rw[a] at d1;have c:=Z k2
  go_wp2_with fail
  refine(L.U _ k1).mono ?_;rintro e S ⟨rfl,k3,k4⟩;have d0:=k3.1.c0;have d1:=k3.1.c1;have f0:=k3.1.fr 0;have f1:=k3.1.fr 1;have B:=Z k3;have C:=Z k4;by_cases v:z.e=0
  ·have A:bx=z:=by rw[D.U,RD.back,ax v]
   rw[v] at d1;have m:=Z A
   go_wp2
   go_ret
   exact⟨rfl,by rw[m.U];exact B.U,c.U.trans C.U⟩
  ·have A:bx={z with s:=x.s}:=by rw[D.U,RD.back,aj v]
   have P:¬(z.e:Int)=0:=by omega
   have m:=Z A
   go_wp2
   go_ret
   have q:=CT B.U x.s;exact⟨rfl,by rw[m.U];exact q.1,c.U.trans (C.U.trans q.2)⟩
 all_goals
  rw[f,i];first
   |have E:¬(4096:Int)<(n:Int):=by omega
    have M:IntKind.i64.wrap (n:Int)=(n:Int):=by rw[fS];omega
   |have E:(4096:Int)<(n:Int):=by omega
   |have P:¬(y.e:Int)=0:=by omega
  go_enter func12,ntmps12
  go_wp2_with fail
  refine r.mono ?_;rintro e Q ⟨rfl,k1,k2⟩;first
   |have d0:=k1.1.c0
   |skip
  have d1:=k1.1.c1;first
   |have f0:=k1.1.fr 0
    have f1:=k1.1.fr 1;rw[a] at d1
   |skip
  have K1:=Z k1;have c:=Z k2
  go_wp2
  go_ret
  first
   |have q:=uA K1.U 4
    have m:=CT q.1 x.s;exact⟨rfl,m.1,c.U.trans (q.2.trans m.2)⟩
   |exact⟨rfl,K1.U,c.U⟩
end
abbrev Y.rd(g:Nat)(x:RD):Y:=Y.row g 104 [ae x.s,O (x.e:Int)]
section
variable{w w':aa}{g:Nat}{x:RD}
def uy{a:RD}(h:ev w' g a/\fz g w w'):bj (Y.rd g x) w w' (Y.rd g a):=⟨h.2,h.1.1,λ k b=> .inl b⟩
def ov(s:ag){a:aa}(b:af a w m I):Calls prog 10 #[ae s] w λ r w'=>∃g,r=ao (pV g)/\a.heap.size<=g/\af a w' m (Y.rd g ⟨s,0⟩::I):=
 (W6 s w).mono λ _ _ ⟨c,d⟩=>⟨_,c,b.size,by rw[d];exact b.alloc [ae s,O 0] 104⟩
def rF(h:(Y.rd g x).P w):Calls prog 14 #[pV g] w λ r w'=>r=ao (O (x.ea:Int))/\w=w':=W4 ⟨h,trivial⟩
def vG(h:(Y.rd g x).P w)(e:Nat)(a:Int)(d:(e:Int)=a):Calls prog 151 #[pV g,O a] w λ r w'=>r=ao (aJ #[])/\bj (Y.rd g x) w w' (Y.rd g (x.fail e)):=
 (W5 ⟨h,trivial⟩ e a d).mono λ _ _ ⟨b,c⟩=>⟨b,uy c⟩
def tt(h:(Y.rd g x).P w)(n:Int):Calls prog 13 #[pV g,O n] w λ r w'=>r=ao (ae (x.cK n))/\bj (Y.rd g x) w w' (Y.rd g (x.bF n)):=
 (W7 ⟨h,trivial⟩ n).mono λ _ _ ⟨a,b⟩=>⟨a,uy b⟩
def ts(h:(Y.rd g x).P w):Calls prog 162 #[pV g] w λ r w'=>r=ao (O (x.dG:Int))/\bj (Y.rd g x) w w' (Y.rd g (x.bF 1)):=
 (W3 ⟨h,trivial⟩).mono λ _ _ ⟨a,b⟩=>⟨a,uy b⟩
def qd(h:(Y.rd g x).P w):Calls prog 47 #[pV g] w λ r w'=>r=ao (U (x.cB:Int))/\bj (Y.rd g x) w w' (Y.rd g x.cg):=
 (Js ⟨h,trivial⟩).mono λ _ _ ⟨a,b⟩=>⟨a,uy b⟩
def LS(h:(Y.rd g x).P w)(a:Int):Calls prog 12 #[pV g,O a] w λ r w'=>r=ao (ae (x.oH a))/\bj (Y.rd g x) w w' (Y.rd g (x.tD a)):=
 (W1 ⟨h,trivial⟩ a).mono λ _ _ ⟨b,c⟩=>⟨b,uy c⟩
end
variable{g:Nat}
def af.drew{w wr:aa}{m:List Nat}{c:List Y}(h:af w wr m c):af w wr.drew m c:=
 ⟨h.only.drew,(λ b d=>b.st wr _ (λ k e=>rfl) (h.ok b d)),h.own,h.b⟩
abbrev bc(L:List Y)(w:aa):Prop:=∀b∈L,b.P w
def bf{w:aa}:bc [] w:=λ _ h=>by cases h
def aP{L:List Y}{w:aa}(h:J.P w)(k:bc L w):bc (J::L) w:=λ c b=>by
 grind
section
variable{ops:Array Oper}{op:Oper}{a:Act}{L:List Y}
def Y1(s:Region.wanted op (yielded ops a.tmps)=true)(i:Nat){b:List ab}(p:L[i]?=some (Y.row g t b))(c:TypeId)(q:op.op= .load c X){o:Nat}(hx:a.eval X= .pointer (some ⟨g,o,none⟩))
 (j:jF c=true) {v:ab} (r:b[o]?=some v):YieldsIf prog ops (bc L) op v a:=
 .inl ⟨s,λ w u=>by
  obtain⟨d,e,h⟩:=sy j
  have k:ah w g t b.toArray:=u _ (dB p)
  have m:w.cell? ⟨g,o,none⟩=some v:=by rw[k.cell o];simpa using r
  unfold execOp
  simp only[q,hx,Instr.loadAt,Instr.sureAddr,cL,dw,cZ,sK w _ c v d m e h]⟩
def Yr(s:Region.wanted op (yielded ops a.tmps)=true)(i:Nat){c:List ab}(q:L[i]?=some (Y.row g t c))(e n:Nat)(r:op.op= .load e X){o:Nat}(hx:a.eval X= .pointer (some ⟨g,o,none⟩))
 (m:ic e n=true) (b:List ab) (A:(c.drop o).take n=b) (z:b.length=n):YieldsIf prog ops (bc L) op (aG b.toArray) a:=by
 obtain⟨⟨d,h,k⟩,x⟩:=pn m
 refine Ls s e X r g o hx b d (λ w u j v y=> ?_) h k (by grind)
 have p:ah w g t c.toArray:=u _ (dB q)
 rw[p.cell]
 grind
end
section
variable{P:Program}{Q:Exit->Act->aa->Prop}{S:aa->Prop}{n:Nat}{l:List Oper}
def fE(a:Act):Operand->Option ab
 | .tmp k=>a.tmps.toList[k]?
 | .const v=>some v
 |_=>none
def wI{a:Act}{v:ab}(h:fE a X=some v):a.eval X=v:=by
 cases X with
 |tmp k=>exact tR h
 |const u=>exact hK h
 |global g=>cases h
 |func f=>cases h
variable{i f:Nat}{o:Oper}{listed:Array Bool}{a:Act}{w:aa}
def az.CZ(m:Region.ready .any l.toArray listed=[i])(g:i<n)(j:l.toArray[i]?=some o)(e:o.guard=none)(k:Tmp)(hd:o.dst=some k)(v:ab)(b:aa)(p:(execOp a.eval o).run P w= .ok (.value v) b)(d:S b)
 (h:az P l Q S n f (listed.setIfInBounds i true) {a with tmps:=a.tmps.setIfInBounds k v} b):az P l Q S n (f+1) listed a w:=by
 refine az.one m g j (λ r c=> ?_)
 have q:Region.wanted o (yielded l.toArray a.tmps)=true:=by unfold Region.wanted;rw[e]
 rw[ax q]
 unfold Oper.wp
 rw[p,jV]
 refine c _ _ d (λ _=> ?_)
 rw[hd]
 exact h
def az.eM(D:Region.ready .any l.toArray listed=[i])(B:i<n)(C:l.toArray[i]?=some o)(A:o.guard=none)(k:Tmp)(hd:o.dst=some k){c:Call}(t:o.op= .call c)(g:FuncId)(z:c.callee= .value (.func g))
 (y:∀d b,(callFunc g d).run P b= .ok (.enter g d) b) (m:List ab) (I:c.args.toList.mapM (fE a)=some m)
 (h:Calls P g m.toArray w λ e b=>∃v,e=ao v/\S b/\az P l Q S n f (listed.setIfInBounds i true) {a with tmps:=a.tmps.setIfInBounds k v} b):az P l Q S n (f+1) listed a w:=by
 refine az.one D B C (λ G s=> ?_)
 have E:Region.wanted o (yielded l.toArray a.tmps)=true:=by unfold Region.wanted;rw[A]
 rw[ax E]
 have H:∀(d:List Operand) (j:List ab),d.mapM (fE a)=some j->d.map a.eval=j:=by
  intro d
  induction d with
  |nil=>simp
  |cons x d F=>
   intro j h
   rw[zq] at h
   cases hx:fE a x with
   |none=>grind
   |some u=>
    rw[hx] at h
    cases p:d.mapM (fE a) with
    |none=>grind
    |some q=>
     rw[p] at h
     have r:u::q=j:=by simpa using h
     rw[<-r,cw,wI hx,F q p]
 refine sU t z (vs:=m.toArray) ?_ y (h.mono ?_)
 ·grind
 ·rintro e b ⟨v,rfl,p,q⟩
  refine⟨v,rfl,?_⟩
  refine s _ _ p (λ _=> ?_)
  rw[hd]
  exact q
def af.region{d:aa}{m:List Nat}{c:List Y}{id:Nat}(e:af d w m c)(n:Nat)(S:aa->Prop)(k:P.follows .mixedOrders=true)(g:(Region.noSelect l.toArray&&decide (n<l.length)&&Region.sinkB .any l.toArray n&&Region.chainB .any l.toArray n)=true)
 (j:∀b,af d b m c->S b) (h:∀b,af d b m c->S b->az P l Q S n n (Array.replicate l.length false) a b):(Code.region id l.toArray true).wp P Q a w:=
 iE n S k g (j _ e.drew) (λ b=>h _ e.drew b)
end
section
variable{Q:Exit->Act->aa->Prop}{l:List Oper}{n f:Nat}{S:aa->Prop}{L L':List Bool}{M M':List ab}{d:List Deferred}{w:aa}{oi:Oper}{v:ab}
def L2{m:List ab}(i:Nat)(b:Tmp)(j:Nat)(e:TypeId)(q:bc I w)(h:az prog l Q (bc I) n f L'.toArray ⟨M'.toArray,d⟩ w)
 (r:l.toArray[i]?=some oi:=by exact rfl) (hd:oi.dst=some b:=by exact rfl)
 (y1:Region.wanted oi (yielded l.toArray M.toArray)=true:=by kernel_rfl) (y2:I[j]?=some (Y.row g t m):=by exact rfl) (y3:oi.op= .load e X:=by exact rfl)
 (y4:(⟨M.toArray,d⟩:Act).eval X= .pointer (some ⟨g,k,none⟩):=by exact rfl) (y5:jF e=true:=by kernel_rfl) (y6:m[k]?=some v:=by exact rfl)
 (o:L.set i true=L':=by first|(simp only[au,ay];exact rfl)|(simp only[gF,jh,au,ay];exact rfl)|exact rfl) (p:M.set b v=M':=by first|(simp only[au,ay,bC,bU,dc,cO];exact rfl)|exact rfl)
 (h1:i<n:=by decide) (h2:Region.free Region.Mode.any l.toArray L.toArray i=true:=by kernel_rfl) (h3:(Region.ready Region.Mode.any l.toArray L.toArray).contains i=true:=by kernel_rfl)
 (h4:∀(c:List PanicEntry) (a:Act) (w:aa),Q (Exit.panic c) (a.put oi.dst v) w->Q (Exit.panic c) a w:=by exact λ _ _ _ h=>h):
 az prog l Q (bc I) n (f+1) L.toArray ⟨M.toArray,d⟩ w:=
 az.dt b r hd h1 h2 h3 h4 (Y1 y1 j y2 e y3 y4 y5 y6) q (by subst o;subst p;simpa only[aH] using h)
end
section
variable{w wr:aa}{m:List Nat}{aq cU:List Y}{ops:Array Oper}{Q:Exit->Act->aa->Prop}{op:Oper}{rest:List Oper}{a:Act}{g:Nat}{t:TypeId}{cs vs:List ab}{x y:Operand}{o:Nat}{v:ab}{k:Tmp}
def K7(d:ai (af w wr m aq))(i:Nat)(c:TypeId)(n:Nat)(h:∀b,ai (af w b m cU)->wpList prog ops Q rest (a.put op.dst undef) b)
 (p:aq[i]?=some (Y.row g t cs):=by exact rfl) (l:Region.wanted op (yielded ops a.tmps)=true:=by exact rfl) (s:op.op= .store c x y:=by exact rfl) (hx:a.eval x= .pointer (some ⟨g,o,none⟩):=by exact rfl)
 (u:a.eval y=aG vs.toArray:=by exact rfl) (q:vs.length=n:=by exact rfl) (e:iB c n=true:=by kernel_rfl) (j:decide (o+n<=cs.length)=true:=by exact rfl) (h1:vs.all (·.oneCell')=true:=by exact rfl)
 (f:aq.set i (Y.row g t (eF cs o vs))=cU:=by simp only[eF,au,ay,bC,bU,dc,cO];exact rfl):wpList prog ops Q (op::rest) a wr:=
 zI d.U i p l c n s hx vs u q e j h1 (λ b r=>h b (Z (by subst f;exact r)))
def K1(d:ai (af w wr m aq))(i:Nat)(c:TypeId)(h:∀b,ai (af w b m cU)->wpList prog ops Q rest (a.put op.dst undef) b)
 (n:aq[i]?=some (Y.row g t cs):=by exact rfl) (l:Region.wanted op (yielded ops a.tmps)=true:=by exact rfl) (q:op.op= .store c x (.tmp k):=by exact rfl) (hx:a.eval x= .pointer (some ⟨g,o,none⟩):=by exact rfl)
 (r:a.tmps.toList[k]?=some v:=by exact rfl) (e:iB c 1=true:=by kernel_rfl) (h1:v.oneCell'=true:=by exact rfl) (j:decide (o<cs.length)=true:=by exact rfl)
 (f:aq.set i (Y.row g t (cs.set o v))=cU:=by simp only[au,ay];exact rfl):wpList prog ops Q (op::rest) a wr:=
 EI d.U i n l c q hx r e h1 j (λ b p=>h b (Z (by subst f;exact p)))
def Kc(d:ai (af w wr m aq))(i:Nat)(c:TypeId)(h:∀b,ai (af w b m cU)->wpList prog ops Q rest (a.put op.dst undef) b)
 (n:aq[i]?=some (Y.row g t cs):=by exact rfl) (l:Region.wanted op (yielded ops a.tmps)=true:=by exact rfl) (q:op.op= .store c x (.const v):=by exact rfl) (hx:a.eval x= .pointer (some ⟨g,o,none⟩):=by exact rfl)
 (e:iB c 1=true:=by kernel_rfl) (h1:v.oneCell'=true:=by exact rfl) (j:decide (o<cs.length)=true:=by exact rfl)
 (f:aq.set i (Y.row g t (cs.set o v))=cU:=by simp only[au,ay];exact rfl):wpList prog ops Q (op::rest) a wr:=
 EJ d.U i n l c q hx e h1 j (λ b p=>h b (Z (by subst f;exact p)))
def KL(c:ai (af w wr m aq))(i:Nat)(b:TypeId)(h:wpList prog ops Q rest (a.put op.dst v) wr)
 (f:aq[i]?=some (Y.row g t cs):=by exact rfl) (e:Region.wanted op (yielded ops a.tmps)=true:=by exact rfl) (j:op.op= .load b x:=by exact rfl) (hx:a.eval x= .pointer (some ⟨g,o,none⟩):=by exact rfl)
 (d:jF b=true:=by kernel_rfl) (l:cs[o]?=some v:=by exact rfl):wpList prog ops Q (op::rest) a wr:=
 vp c.U i f e b j hx d l h
def KR(c:ai (af w wr m aq))(i:Nat)(b:TypeId)(n:Nat)(h:wpList prog ops Q rest (a.put op.dst (aG vs.toArray)) wr)
 (f:aq[i]?=some (Y.row g t cs):=by exact rfl) (e:Region.wanted op (yielded ops a.tmps)=true:=by exact rfl) (l:op.op= .load b x:=by exact rfl) (hx:a.eval x= .pointer (some ⟨g,o,none⟩):=by exact rfl)
 (d:ic b n=true:=by kernel_rfl) (p:(cs.drop o).take n=vs:=by simp only[bC,bU,dc,cO];exact rfl) (j:vs.length=n:=by exact rfl):wpList prog ops Q (op::rest) a wr:=
 zi c.U i f e b n l hx d vs p j h
def KA(d:ai (af w wr m aq))(b:TypeId)(k:Tmp)(l:fx b cs)(h:∀g c,w.heap.size<=g->ai (af w c m (Y.row g b cs::aq))->wpList prog ops Q rest (a.put (some k) (pV g)) c)
 (f:Region.wanted op (yielded ops a.tmps)=true:=by exact rfl) (hd:op.dst=some k:=by exact rfl) (j:op.op= .alloc b:=by exact rfl):wpList prog ops Q (op::rest) a wr:=
 Al d.U f b k hd j cs l (λ g c e i=>h g c e (Z i))
def KB(d:ai (af w wr m aq))(c:TypeId)(k:Tmp)(cs:List ab)(h:∀g b,w.heap.size<=g->ai (af w b m (Y.row g c cs::aq))->wpList prog ops Q rest (a.put (some k) (pV g)) b)
 (f:Region.wanted op (yielded ops a.tmps)=true:=by exact rfl) (hd:op.dst=some k:=by exact rfl) (j:op.op= .box c x:=by exact rfl) (hx:(a.eval x).cells=cs.toArray:=by exact rfl):wpList prog ops Q (op::rest) a wr:=
 Bx d.U f c k hd j cs hx (λ g b e i=>h g b e (Z i))
end
variable{i:Nat}
section
section
variable{ops:Array Oper}{rest:List Oper}{op:Oper}{a:Act}{Q:Exit->Act->aa->Prop}{w wr:aa}{m:List Nat}{aq:List Y}
def Cv(h:af w wr m aq)(x:Nat){c:List ab}(q:aq[x]?=some (Y.row g t c))(p:Region.wanted op (yielded ops a.tmps)=true)(v:op.op= .convert 29 9 X)(hx:a.eval X=ad (some ⟨g,k,none⟩) n i)
 (l:List UInt8) (s:(c.drop k).take n=ca l) (u:l.length=n) (f:wpList prog ops Q rest (a.put op.dst (ae ⟨l.toArray⟩)) wr):wpList prog ops Q (op::rest) a wr:=by
 refine dW p λ K e=> ?_
 have o:=h.row q
 have d:=uG (P:=prog) wr 29 9 5 ⟨g,k,none⟩ i l dZ gi dO (λ j r=>by
  rw[Addr.add_mid,o.cell]
  have b:(ca l)[j]?=some (.int .u8 ((l[j]).toNat:Int)):=by simp[ca,r]
  rw[<-s,zo] at b
  split at b
  ·rw[zn] at b
   simpa using b
  ·cases b)
 rw[u] at d
 unfold Oper.wp execOp
 simp only[v,hx,d,cL,dw,cZ,jV]
 exact e _ _ f
end
end
section
section
variable{w wr:aa}{m:List Nat}{aq:List Y}
def af.ro(h:af w wr m aq)(b:J.P w)(d:∀k∈J.bs,k∉m):J.P wr:=J.st w wr (λ k c=>h.only.block k (J.lt w b k c) (d k c)) b
def af.xT(h:af w wr [] aq)(b:J.P w):J.P wr:=h.ro b (λ _ _=>by simp)
def bc.st{L:List Y}{w c:aa}(h:bc L w)(e:BW w c):bc L c:=λ b d=>b.st w c (λ k g=>e.block k (b.lt w (h b d) k g)) (h b d)
def af.bH(h:af w wr [] aq){L:List Y}(b:bc L w):bc L wr:=b.st h.ak
variable{ops:Array Oper}{rest:List Oper}{op:Oper}{a:Act}{Q:Exit->Act->aa->Prop}{L:List Y}
def il(h:bc L wr)(i:Nat){b:List ab}(x:L[i]?=some (Y.row g t b))(u:Region.wanted op (yielded ops a.tmps)=true)(c:TypeId)(y:op.op= .load c X){o:Nat}(hx:a.eval X= .pointer (some ⟨g,o,none⟩))
 (k:jF c=true) {v:ab} (z:b[o]?=some v) (q:wpList prog ops Q rest (a.put op.dst v) wr):wpList prog ops Q (op::rest) a wr:=by
 obtain⟨d,e,j⟩:=sy k
 have r:ah wr g t b.toArray:=h _ (dB x)
 refine dW u λ K p=> ?_
 have s:wr.cell? ⟨g,o,none⟩=some v:=by rw[r.cell o];simpa using z
 unfold Oper.wp execOp
 simp only[y,hx,Instr.loadAt,Instr.sureAddr,cL,dw,cZ,sK wr _ c v d s e j]
 exact p _ _ q
def EG(h:bc L wr)(i:Nat){e:List ab}(A:L[i]?=some (Y.row g t e))(z:Region.wanted op (yielded ops a.tmps)=true)(k:TypeId)(n:Nat)(C:op.op= .load k X){o:Nat}(hx:a.eval X= .pointer (some ⟨g,o,none⟩))
 (s:ic k n=true) (c:List ab) (D:(e.drop o).take n=c) (B:c.length=n)
 (x:wpList prog ops Q rest (a.put op.dst (aG c.toArray)) wr):wpList prog ops Q (op::rest) a wr:=by
 obtain⟨⟨d,p,q⟩,r⟩:=pn s
 have y:ah wr g t e.toArray:=h _ (dB A)
 refine dW z λ _ u=>DN k X C g o hx c d (λ j v b=> ?_) p q (by rw[r,B]) (u _ _ x)
 rw[y.cell]
 subst D
 rw[zo] at b
 split at b
 ·rw[zn] at b
  simpa using b
 ·cases b
end
section
variable{P:Program}{Q:Exit->Act->aa->Prop}{S:aa->Prop}{n:Nat}{l:List Oper}{i f:Nat}{o:Oper}{listed:Array Bool}{a:Act}{w:aa}
def HT{b:List Operand}{c:List ab}(h:b.mapM (fE a)=some c):b.map a.eval=c:=by
 induction b generalizing c with
 |nil=>simp at h;simp[h]
 |cons x b g=>
  rw[zq] at h;cases hx:fE a x with
  |none=>rw[hx] at h;cases h
  |some u=>
   rw[hx] at h;cases d:b.mapM (fE a) with
   |none=>rw[d] at h;cases h
   |some j=>
    rw[d] at h;have e:u::j=c:=by simpa using h
    rw[<-e,cw,wI hx,g d]
def aaM{op:Oper}{K:Act->aa->Prop}{c:Call}{b:FuncId}{first g vs:Array ab}(q:op.op= .call c)(j:c.callee= .value X)(hx:a.eval X= .func (.func b) first g)(s:c.args.map a.eval=vs)
 (k:∀e d,(callFunc b e).run P d= .ok (.enter b e) d) (h:Calls P b (first++vs++g) w λ e d=>∃v,e=ao v/\K (a.put op.dst v) d):op.wp P a w K Q:=by
 have r:(execOp a.eval op).run P w= .ok (.enter b (first++vs++g)) w:=by
  unfold execOp resolve
  simp[q,j,s,hx,Deferred.ofValue,invoke,k]
 unfold Oper.wp
 rw[r,Oper.upon_enter]
 refine h.mono ?_
 rintro e d ⟨v,rfl,p⟩
 exact p
def az.NP(A:Region.ready .any l.toArray listed=[i])(y:i<n)(z:l.toArray[i]?=some o)(x:o.guard=none)(k:Tmp)(hd:o.dst=some k){c:Call}(s:o.op= .call c)(u:c.callee= .value X)(d:FuncId){first j:Array ab}(hx:fE a X=some (.func (.func d) first j))
 (t:∀e b,(callFunc d e).run P b= .ok (.enter d e) b) (g:List ab) (B:c.args.toList.mapM (fE a)=some g)
 (h:Calls P d (first++g.toArray++j) w λ e b=>∃v,e=ao v/\S b/\az P l Q S n f (listed.setIfInBounds i true) {a with tmps:=a.tmps.setIfInBounds k v} b):az P l Q S n (f+1) listed a w:=by
 refine az.one A y z (λ D p=> ?_)
 have C:Region.wanted o (yielded l.toArray a.tmps)=true:=by unfold Region.wanted;rw[x]
 rw[ax C]
 refine aaM s u (wI hx) (vs:=g.toArray) ?_ t (h.mono ?_)
 ·apply kx
  simpa using HT B
 ·rintro e b ⟨v,rfl,q,r⟩
  refine⟨v,rfl,?_⟩
  refine p _ _ q (λ _=> ?_)
  rw[hd]
  exact r
def az.make{d:aa}{m:List Nat}{aq:List Y}(c:af d w m aq)(t:Region.ready .any l.toArray listed=[i])(r:i<n)(s:l.toArray[i]?=some o)(q:o.guard=none)(k:Tmp)(hd:o.dst=some k)(p:Option Nat)(e:TypeId)(b:List ab)
 (u:(execOp a.eval o).run P w= .ok (.value (bk p w.heap.size)) (w.alloc (.cells b.toArray e)))
 (h:∀g j,d.heap.size<=g->af d j m (Y.row g e b::aq)->S j/\az P l Q S n f (listed.setIfInBounds i true) {a with tmps:=a.tmps.setIfInBounds k (bk p g)} j):az P l Q S n (f+1) listed a w:=
 az.CZ t r s q k hd _ _ u (h _ _ c.size (c.alloc b e)).1 (h _ _ c.size (c.alloc b e)).2
end
end
