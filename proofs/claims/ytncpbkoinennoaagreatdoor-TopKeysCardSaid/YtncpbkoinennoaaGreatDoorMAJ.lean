import Derived.Defers
import Derived.Test.YtncpbkoinennoaaGreatDoorMAH
set_option linter.all false
set_option maxRecDepth 100000
set_option maxHeartbeats 0
namespace Go.Proofs.YtncpbkoinennoaaGreatDoor
open Go.RowKit Proofs.Tryz
attribute [local irreducible] wpList Calls
variable{r:Int}{J:Y}{k n:Nat}{X:Operand}{t:TypeId}
inductive eh(A A':Y):List Y->List Y->Prop
 |head (l:List Y):eh A A' (A::l) (A'::l)
 |tail (x:Y) {l l':List Y}:eh A A' l l'->eh A A' (x::l) (x::l')
def eh.idx{A b:Y}:∀{l c:List Y},eh A b l c->∃i,l[i]?=some A/\c=l.set i b
 |_,_,.head l=>⟨0,rfl,rfl⟩
 |_,_,.tail x h=>by
  obtain⟨i,c,d⟩:=eh.idx h
  exact⟨i+1,by grind,by grind⟩
section
variable{w wr wz:aa}{m:List Nat}{aj cJ:List Y}
def ae.in(h:ae w wr m aj)(b:J∈aj):J.P wr:=h.ok J b
def ae.rep(h:ae w wr m aj){b:Y}(d:eh J b aj cJ)(e:bk J wr wz b):ae w wz m cJ:=by
 obtain⟨i,c,rfl⟩:=d.idx;exact h.at i c e
variable{ops:Array Oper}{rest:List Oper}{op:Oper}{a:Act}{Q:Exit->Act->aa->Prop}
def sY(h:J∈aj):∃i:Nat,aj[i]?=some J:=by
 obtain⟨i,b,e⟩:=qg.1 h;exact⟨i,by rw[aU b,e]⟩
noncomputable def kx(b:TypeId):Bool:=match prog.underlying b with|some d=> !d.isRow|none=>false
def vH(h:kx t=true):∃d,prog.underlying t=some d/\d.isRow=false:=by
 unfold kx at h;grind
noncomputable def hU(b:TypeId)(n:Nat):Bool:=(match prog.underlying b with|some d=>d.isRow|none=>false)&&decide ((prog.info? b).map (·.size)=some n)
def pK(h:hU t n=true):(∃d,prog.underlying t=some d/\d.isRow=true)/\(prog.info? t).map (·.size)=some n:=by
 unfold hU at h;grind
noncomputable def jm(b:TypeId)(n:Nat):Bool:=decide ((prog.info? b).map (·.size)=some n)
def wi(h:jm t n=true):(prog.info? t).map (·.size)=some n:=by simpa[jm] using h
def wV(h:ae w wr m aj)(i:Nat){g:Nat}{c:List ab}(o:aj[i]?=some (Y.row g t c))(l:Region.wanted op (yielded ops a.tmps)=true)(b:TypeId){x:Operand}(p:op.op= .load b x)(hx:a.eval x= .pointer (some ⟨g,n,none⟩))
 (j:kx b=true) {v:ab} (q:c[n]?=some v) (k:wpList prog ops Q rest (a.put op.dst v) wr):wpList prog ops Q (op::rest) a wr:=by
 obtain⟨d,e,f⟩:=vH j
 exact UF h l b x p i hx o d e f v q k
def AA(h:ae w wr m aj)(i:Nat){g:Nat}{f:List ab}(r:aj[i]?=some (Y.row g t f))(q:Region.wanted op (yielded ops a.tmps)=true)(e:TypeId)(b:Nat){x:Operand}(u:op.op= .load e x)(hx:a.eval x= .pointer (some ⟨g,n,none⟩))
 (o:hU e b=true) (c:List ab) (y:(f.drop n).take b=c) (s:c.length=b)
 (p:wpList prog ops Q rest (a.put op.dst (aG c.toArray)) wr):wpList prog ops Q (op::rest) a wr:=by
 obtain⟨⟨d,j,k⟩,l⟩:=pK o
 exact UG h q e x u i hx r d j k b l c y s p
def A6(h:ae w wr m aj)(i:Nat){g:Nat}{d:List ab}(p:aj[i]?=some (Y.row g t d))(o:Region.wanted op (yielded ops a.tmps)=true)(e:TypeId)(c:Nat){x:Operand}(r:op.op= .store e x X)(hx:a.eval x= .pointer (some ⟨g,n,none⟩))
 (b:List ab) (s:a.eval X=aG b.toArray) (q:b.length=c) (j:jm e c=true) (l:decide (n+c<=d.length)=true) (h1:b.all (·.oneCell')=true)
 (k:∀f,ae w f m (aj.set i (Y.row g t (fo d n b)))->wpList prog ops Q rest (a.put op.dst undef) f):wpList prog ops Q (op::rest) a wr:=
 str h o e x X r i hx p c (wi j) b s q (iH l) h1 k
def xV{k:Tmp}{v:ab}(h:a.tmps.toList[k]?=some v):a.eval (.tmp k)=v:=by
 have b:a.tmps[k]?=some v:=by simpa using h
 show a.tmps.getD k undef=v;simp_all
def A4(h:ae w wr m aj)(i:Nat){g:Nat}{b:List ab}(o:aj[i]?=some (Y.row g t b))(l:Region.wanted op (yielded ops a.tmps)=true)(c:TypeId){x:Operand}{k:Tmp}(p:op.op= .store c x (.tmp k))(hx:a.eval x= .pointer (some ⟨g,n,none⟩))
 {v:ab} (q:a.tmps.toList[k]?=some v) (e:jm c 1=true) (h1:v.oneCell'=true) (j:decide (n<b.length)=true)
 (f:∀d,ae w d m (aj.set i (Y.row g t (b.set n v)))->wpList prog ops Q rest (a.put op.dst undef) d):wpList prog ops Q (op::rest) a wr:=
 wo h l c x _ p i hx o (wi e) v (xV q) h1 (iH j) f
def NH(h:ae w wr m aj)(i:Nat){g:Nat}{b:List ab}(l:aj[i]?=some (Y.row g t b))(k:Region.wanted op (yielded ops a.tmps)=true)(c:TypeId){x:Operand}{v:ab}(o:op.op= .store c x (.const v))(hx:a.eval x= .pointer (some ⟨g,n,none⟩))
 (e:jm c 1=true) (h1:v.oneCell'=true) (j:decide (n<b.length)=true)
 (f:∀d,ae w d m (aj.set i (Y.row g t (b.set n v)))->wpList prog ops Q rest (a.put op.dst undef) d):wpList prog ops Q (op::rest) a wr:=
 wo h k c x _ o i hx l (wi e) v rfl h1 (iH j) f
def eY(b:TypeId)(c:List ab):Prop:=∀w:aa,(Instr.alloc b true (aM #[])).run prog w= .ok (pV w.heap.size) (w.alloc (.cells c.toArray b))
def Al(h:ae w wr m aj)(i:Region.wanted op (yielded ops a.tmps)=true)(b:TypeId)(k:Tmp)(hd:op.dst=some k)(l:op.op= .alloc b)(d:List ab)(n:eY b d)
 (e:∀g c,w.heap.size<=g->ae w c m (Y.row g b d::aj)->wpList prog ops Q rest (a.put (some k) (pV g)) c):wpList prog ops Q (op::rest) a wr:=by
 refine al h i b l d n (λ g c f j=> ?_)
 rw[hd]
 exact e g c f j
def Bx(h:ae w wr m aj)(f:Region.wanted op (yielded ops a.tmps)=true)(c:TypeId)(k:Tmp)(hd:op.dst=some k){x:Operand}(i:op.op= .box c x)(b:List ab)(hx:(a.eval x).cells=b.toArray)
 (e:∀g d,w.heap.size<=g->ae w d m (Y.row g c b::aj)->wpList prog ops Q rest (a.put (some k) (pV g)) d):wpList prog ops Q (op::rest) a wr:=by
 refine eF f λ K d=> ?_
 unfold Oper.wp execOp
 simp only[i,Instr.box,newVar,newRow,hx,cO,run_newObj_alloc,dd,dN,jC]
 rw[hd]
 exact d _ _ (e _ _ h.size (h.alloc b c))
end
section
variable{w wr:aa}{m:List Nat}{aj:List Y}{a:Act}{fn:Func}{R:Ending->aa->Prop}
def pa{k:Tmp}{v:ab}(h:a.tmps.toList[k]?=some v):a.tmps.getD k undef=v:=xV h
def ha(h:ae w wr m aj)(i:Nat){g:Nat}{b:List ab}(k:aj[i]?=some (Y.row g t b))(c n:Nat){p:Tmp}(o:fn.results=#[.cell p c])(l:a.tmps.toList[p]?=some (pV g))
 (f:hU c n=true) (s:b.length=n) (hd:a.defers=[]) (j:R (ao (aG b.toArray)) wr):bodyPost prog fn R .ret a wr:=by
 obtain⟨⟨d,e,q⟩,r⟩:=pK f
 refine cr (v:=aG b.toArray) ?_ hd j
 exact fI o a.tmps wr g t b.toArray (0,0) d (pa l) (h.row k) e (by grind) (by grind)
def fb(h:ae w wr m aj)(i:Nat){g:Nat}{b:List ab}(k:aj[i]?=some (Y.row g t b))(c n:Nat){p q:Tmp}(o:fn.results=#[.cell p c,.tmp q])(l:a.tmps.toList[p]?=some (pV g))
 {v:ab} (y:a.tmps.toList[q]?=some v) (f:hU c n=true) (u:b.length=n) (hd:a.defers=[]) (j:R (ao (aM #[aG b.toArray,v])) wr):bodyPost prog fn R .ret a wr:=by
 obtain⟨⟨d,e,r⟩,s⟩:=pK f
 refine cr (v:=aM #[aG b.toArray,v]) ?_ hd j
 have:=hR o a.tmps wr g t b.toArray (0,0) d (pa l) (h.row k) e (by grind) (by grind)
 simp_all
def lP{p:Tmp}(e:fn.results=#[.tmp p]){v:ab}(d:a.tmps.toList[p]?=some v)(hd:a.defers=[])(c:R (ao v) wr):bodyPost prog fn R .ret a wr:=by
 refine cr (v:=v) ?_ hd c;have b:a.tmps[p]?.getD undef=v:=by rw[<-tO];exact pa d
 simp[results,e,b]
def jv{p q:Tmp}(h:fn.results=#[.tmp p,.tmp q]){u v:ab}(e:a.tmps.toList[p]?=some u)(f:a.tmps.toList[q]?=some v)(hd:a.defers=[])(d:R (ao (aM #[u,v])) wr):bodyPost prog fn R .ret a wr:=by
 refine cr (v:=aM #[u,v]) ?_ hd d;have b:a.tmps[p]?.getD undef=u:=by rw[<-tO];exact pa e
 have c:a.tmps[q]?.getD undef=v:=by rw[<-tO];exact pa f
 simp[results,h,b,c]
end
structure HD where
 size:Nat
 time:Nat
 aE:af
 a:af
 deriving DecidableEq
abbrev HD.cells(h:HD):List ab:=[U (h.size:Int),U (h.time:Int),ad h.aE,ad h.a]
abbrev HD.val(h:HD):ab:=aG #[U (h.size:Int),U (h.time:Int),ad h.aE,ad h.a]
structure HD.Ok(h:HD):Prop where
 size:h.size<18446744073709551616
 time:h.time<18446744073709551616
def tt(x:WS)(b:Bool)(e:Nat)(s:af):(x.put b e s).b.length<=x.b.length+s.size:=by
 have:s.data.toList.length=s.size:=by rw[iO];rfl
 unfold WS.put;grind
def MU:∀(f n:Nat),n<128^f->(bU n).length<=max 1 f
 |0,n,h=>by
  have:n=0:=by simpa using h
  subst this;rw[wG zD];simp
 |f+1,n,h=>by
  by_cases b:n<128
  ·rw[wG b];simp
  ·have c:=MU f (n/128) W
   rw[zL b,gq]
   grind
def zM(h:n<18446744073709551616):(bU n).length<=10:=by
 have:=MU 10 n (kS h zD);omega
def WS.num(x:WS)(n:Nat):WS:=x.put true 0 ⟨(bU n).toArray⟩
def WS.raw(x:WS)(s:af)(n:Int):WS:=x.put (decide ((s.size:Int)=n)) 1 s
def WS.byte(x:WS)(n:Int):WS:=x.put (decide (0<=n/\n<=255)) 1 (mn n)
def WS.head(x:WS)(h:HD):WS:=(((x.num h.size).num h.time).raw h.aE 32).raw h.a 64
def Wc{x:WS}(b:n<18446744073709551616)(hx:x.b.length<=k):(x.num n).b.length<=k+10:=by
 have:=tt x true 0 ⟨(bU n).toArray⟩;have c:=zM b;have d:(⟨(bU n).toArray⟩:af).size=(bU n).length:=by simp[ByteArray.size]
 unfold WS.num;omega
def XZ{x:WS}{s:af}(hx:x.b.length<=k):(x.raw s r).b.length<=k+s.size:=by
 have:=tt x (decide ((s.size:Int)=r)) 1 s;unfold WS.raw;omega
section
variable{w:aa}{g:Nat}{v:ab}{x:WS}{K:Nat}
def oQ(h:(Y.wr g v x).P w)(f:x.b.length<=K)(n:Nat)(i:K<=10000000)(b:n<18446744073709551616):Calls prog 90 #[pV g,U (n:Int)] w λ r d=>r=ao (aM #[])/\∃c,bk (Y.wr g v x) w d (Y.wr g c (x.num n))/\(x.num n).b.length<=K+10:=
 (w_num h n b (by have:=zM b;omega)).mono λ _ _ ⟨d,c,e⟩=>⟨d,c,e,Wc b f⟩
def xw(h:(Y.wr g v x).P w)(e:x.b.length<=K)(s:af)(n:Int)(f:K+s.size<=10000000):Calls prog 9 #[pV g,ad s,O n] w λ r c=>r=ao (aM #[])/\∃b,bk (Y.wr g v x) w c (Y.wr g b (x.raw s n))/\(x.raw s n).b.length<=K+s.size:=
 (MV h s n W).mono λ _ _ ⟨c,b,d⟩=>⟨c,b,d,XZ e⟩
def BL(n:Int):(mn n).size=1:=rfl
def Pk(hx:x.b.length<=K):(x.byte r).b.length<=K+1:=by
 have:=tt x (decide (0<=r/\r<=255)) 1 (mn r);rw[BL] at this;unfold WS.byte;omega
def uH(h:(Y.wr g v x).P w)(e:x.b.length<=K)(n:Int)(f:K<=10000000):Calls prog 89 #[pV g,O n] w λ r c=>r=ao (aM #[])/\∃b,bk (Y.wr g v x) w c (Y.wr g b (x.byte n))/\(x.byte n).b.length<=K+1:=
 (abR h n (by rw[BL];omega)).mono λ _ _ ⟨c,b,d⟩=>⟨c,b,d,Pk e⟩
def Br(n:(Y.wr g v x).P w)(d:x.b.length<=K)(h:HD)(l:h.Ok)(s:K<=8000000)(t:h.aE.size<=100000)(u:h.a.size<=100000):
 Calls prog 91 #[pV g,h.val] w λ r k=>r=ao (aM #[])/\∃j,bk (Y.wr g v x) w k (Y.wr g j (x.head h))/\(x.head h).b.length<=K+200020:=by
 obtain⟨p,q⟩:=l
 have b:=Z (ae.self n)
 have c:=Z d
 go_enter func91,ntmps91
 go_wp2_with(first|refine Bx b.U rfl 59 3 rfl rfl h.cells rfl λ o y r f=>?_;have b:=Z f|refine wV b.U 0 rfl rfl 46 rfl rfl zR rfl ?_|refine wV b.U 0 rfl rfl 9 rfl rfl zR rfl ?_|go_at_call 90;refine(oQ (b.U.in (by exact .tail _ (.head _))) c.U _ W W).mono ?_;rintro e k ⟨rfl,j,i,d⟩;have f:=b.U.rep (by exact .tail _ (.head _)) i;have b:=Z f;have c:=Z d|go_at_call 9;refine(xw (b.U.in (by exact .tail _ (.head _))) c.U _ _ W).mono ?_;rintro e k ⟨rfl,j,i,d⟩;have f:=b.U.rep (by exact .tail _ (.head _)) i;have b:=Z f;have c:=Z d)
 go_end0
 exact⟨rfl,_,(b.U.tail).iL,hy c.U W⟩
end
def zW:eY 23 [ad ⟨#[]⟩,ad ⟨#[]⟩,ad ⟨#[]⟩]:=λ w=>by go_simp
def zX:eY 31 [ag none 0 0,O 0]:=λ w=>by go_simp
def acf:eY 50 [ad ⟨#[]⟩,O 0,O 0,U 0,U 0,U 0,U 0,U 0,O 0,O 0]:=λ w=>by go_simp
def oo:eY 59 [U 0,U 0,ad ⟨#[]⟩,ad ⟨#[]⟩]:=λ w=>by go_simp
def mR:eY 62 [aK false,U 0,U 0,ad ⟨#[]⟩,ad ⟨#[]⟩,ag none 0 0,ad ⟨#[]⟩]:=λ w=>by go_simp
def iN:eY 66 [U 0,U 0,ad ⟨#[]⟩,ad ⟨#[]⟩,U 0,U 0,ad ⟨#[]⟩,ad ⟨#[]⟩,ag none 0 0]:=λ w=>by go_simp
def acg:eY 73 [ag none 0 0,O 0,O 0,U 0,U 0,U 0,U 0,U 0,O 0,O 0]:=λ w=>by go_simp
def kF:eY 81 [O 0,O 0,U 0,U 0,U 0,U 0,U 0,ad ⟨#[]⟩,ad ⟨#[]⟩,U 0,U 0,ad ⟨#[]⟩,ad ⟨#[]⟩,U 0,U 0,ad ⟨#[]⟩,ad ⟨#[]⟩,ag none 0 0,ag none 0 0,ag none 0 0]:=λ w=>by go_simp
def acb:eY 106 [ad ⟨#[]⟩,ad ⟨#[]⟩,ad ⟨#[]⟩]:=λ w=>by go_simp
def Nb:eY 121 [ad ⟨#[]⟩,ad ⟨#[]⟩,ad ⟨#[]⟩]:=λ w=>by go_simp
def acd:eY 129 [.pointer none,.pointer none,ag none 0 0]:=λ w=>by go_simp
def mP:eY 133 [ad ⟨#[]⟩,aK false,U 0,U 0,ad ⟨#[]⟩,ad ⟨#[]⟩,ag none 0 0,ad ⟨#[]⟩,U 0,U 0,O 0]:=λ w=>by go_simp
def Nc:eY 172 [U 0,U 0,U 0,U 0,U 0,U 0,U 0,U 0]:=λ w=>by go_simp
def ace:eY 210 [O 0,O 0,ad ⟨#[]⟩]:=λ w=>by go_simp
def jt:eY 240 [O 0,U 0,ad ⟨#[]⟩,aK false]:=λ w=>by go_simp
def Nd:eY 250 [.int .u8 0,.int .u8 0,.int .u8 0,.int .u8 0,.int .u8 0,.int .u8 0,.int .u8 0,.int .u8 0]:=λ w=>by go_simp
def Nf:eY 272 [O 0,ad ⟨#[]⟩]:=λ w=>by go_simp
variable{I:List Y}{m:List Nat}{b:List UInt8}
structure RD where
 s:af
 e:Nat
def fy(g:Nat)(w w':aa):Prop:=aW w.heap.size [g] w w'
def fy.refl(g:Nat)(w:aa):fy g w w:=aW.refl _ _ _
def fy.trans{g:Nat}{w w' a:aa}(h:fy g w w')(k:fy g w' a):fy g w a:=aW.trans h (aW.mono k h.size (λ _ _ h=>h))
def fy.px(g:Nat){w w':aa}(h:BW w w'):fy g w w':=aW.px h [g]
def oy(w:aa)(g:Nat)(x:RD):Prop:=ah w g 104 #[ad x.s,O (x.e:Int)]
def eD(w:aa)(g:Nat)(x:RD):Prop:=oy w g x/\True
section
variable{w w':aa}{g:Nat}{x:RD}
def oy.c0(h:oy w g x):w.cell? ⟨g,0,none⟩=some (ad x.s):=ah.cell h 0
def oy.c1(h:oy w g x):w.cell? ⟨g,1,none⟩=some (O (x.e:Int)):=ah.cell h 1
def oy.fr(h:oy w g x)(i:Nat):w.frozen? ⟨g,i,none⟩=false:=ah.frozen h i
def eD.below(h:eD w g x)(a:BW w w'):eD w' g x:=⟨(a.block g (ah.lt h.1)).trans h.1,trivial⟩
def eD.only{x':RD}(h:eD w g x)(hx:oy w' g x')(a:aW w.heap.size [g] w w'):eD w' g x'/\fy g w w':=⟨⟨hx,trivial⟩,a⟩
def RD.cA(x:RD)(n:Int):af:=if x.e=0/\0<=n/\n<=x.s.size then x.s.extract 0 n.toNat else⟨#[]⟩
def RD.bu(x:RD)(n:Int):RD:=if x.e=0 then(if n<0 then{x with e:=1} else if(x.s.size:Int)<n then{x with e:=2} else{x with s:=x.s.extract n.toNat x.s.size}) else x
def aaq(a b g n:Nat)(s:af)(i:n<=s.size)(u:FrameMode)(w:aa)(f:w.cell? ⟨a,0,none⟩=some (pV g))(h:w.cell? ⟨b,0,none⟩=some (O (n:Int)))(d:w.cell? ⟨g,0,none⟩=some (ad s))(f0:w.frozen? ⟨g,0,none⟩=false):
 CallsD prog 117 #[pV a,pV b] u w λ e c w'=>c=u/\(e=ao (aM #[])/\w'=(w.setCell ⟨g,0,none⟩ (ad (s.extract n s.size))).drew):=by
 have c:(n:Int)<=(s.size:Int):=by omega
 go_enter_d func117,ntmps117
 go_wp2
 go_region
 go_end0
 simp
def zb(h:eD w g x)(n:Int):Calls prog 48 #[pV g,O n] w λ r w'=>r=ao (ad (x.cA n))/\eD w' g (x.bu n)/\fy g w w':=by
 have v:=bJ w (.cells #[pV g] 34);have y:=bJ (w.alloc (.cells #[pV g] 34)) (.cells #[O n] 3);have t:=Pb v y;have l:=h.below t;have k2:((w.alloc (.cells #[pV g] 34)).alloc (.cells #[O n] 3)).cell? ⟨w.heap.size,0,none⟩=some (pV g):=by simp
 have e1:(w.alloc (.cells #[pV g] 34)).heap.size=w.heap.size+1:=by simp
 have k3:((w.alloc (.cells #[pV g] 34)).alloc (.cells #[O n] 3)).cell? ⟨w.heap.size+1,0,none⟩=some (O n):=by
  have:=(ah.new (w.alloc (.cells #[pV g] 34)) 3 #[O n]).cell 0;rw[e1] at this;exact this
 have u:=l.1.c0;have o:=l.1.c1;have f0:=l.1.fr 0;have f1:=l.1.fr 1;have d:=Z l;have m:=Z (fy.px g t);have z:(¬x.e=0)\/(x.e=0/\n<0)\/(x.e=0/\¬n<0/\(x.s.size:Int)<n)\/(x.e=0/\0<=n/\n<=(x.s.size:Int)):=by omega
 rcases z with a|⟨a,k⟩|⟨a,k,r⟩|⟨a,k,r⟩
 ·have C:¬(x.e:Int)=0:=by omega
  have i:x.cA n=⟨#[]⟩:=by rw[RD.cA,ar (λ c=>a c.1)]
  have j:x.bu n=x:=by rw[RD.bu,ar a]
  rw[i,j]
  go_enter_defers Bd,Bl
  go_wp2
  exact⟨_,D8 rfl _ _ _,rfl,d.U,m.U⟩
 ·have i:x.cA n=⟨#[]⟩:=by rw[RD.cA,ar (λ c=>by omega)]
  have j:x.bu n={x with e:=1}:=by rw[RD.bu,au a,au k]
  rw[i,j];rw[a] at o
  go_enter_defers Bd,Bl
  go_wp2
  have b:=d.U.only (x':={x with e:=1}) (ah.dx d.U.1 1 _) ((aW.refl _ _ _).setCell (p:=⟨g,1,none⟩) (.inl zS) (O 1));exact⟨_,D8 rfl _ _ _,rfl,b.1,m.U.trans b.2⟩
 ·have i:x.cA n=⟨#[]⟩:=by rw[RD.cA,ar (λ c=>by omega)]
  have j:x.bu n={x with e:=2}:=by rw[RD.bu,au a,ar k,au r]
  rw[i,j];rw[a] at o
  go_enter_defers Bd,Bl
  go_wp2
  go_quiet (fail)
  go_wp2
  have b:=λ q=>d.U.only (x':={x with e:=2}) (ah.dx (ah.drewN d.U.1 q) 1 _) (((aW.refl _ [g] _).drewN q).setCell (p:=⟨g,1,none⟩) (.inl zS) (O 2));exact⟨_,D8 rfl _ _ _,rfl,(b _).1,m.U.trans (b _).2⟩
 ·obtain⟨n,rfl⟩:=Int.eq_ofNat_of_zero_le k;have B:n<=x.s.size:=by omega
  have A:¬(x.s.size:Int)<(n:Int):=by omega
  have i:x.cA (n:Int)=x.s.extract 0 n:=by rw[RD.cA,au ⟨a,k,r⟩,mW]
  have j:x.bu (n:Int)={x with s:=x.s.extract n x.s.size}:=by rw[RD.bu,au a,ar W,ar A,mW]
  rw[i,j];rw[a] at o
  go_enter_defers Bd,Bl
  go_wp2
  go_quiet (fail)
  go_wp2
  go_quiet (fail)
  go_wp2
  refine leaves_cons (f:=117) (args:=#[pV w.heap.size,.pointer (some ⟨w.heap.size+1,0,none⟩)]) zS zR ?_;refine(aaq _ _ g n x.s B .returning _ (by exact k2) (by exact k3) (by exact u) (by exact f0)).mono ?_;rintro e D E ⟨rfl,rfl,rfl⟩;have b:=λ q p=>d.U.only (x':={x with s:=x.s.extract n x.s.size}) (ah.drew (ah.dx (ah.drewN (ah.drewN d.U.1 q) p) 0 (ad (x.s.extract n x.s.size)))) (((((aW.refl _ [g] _).drewN q).drewN p).setCell (p:=⟨g,0,none⟩) (.inl zS) (ad (x.s.extract n x.s.size))).drew);exact⟨_,D8 rfl _ _ _,rfl,(b _ _).1,m.U.trans (b _ _).2⟩
end
def JT{s:af}(h:¬s.size=0):s.toList.isEmpty=false:=by
 rw[<-decide_eq_emptyBytes];simp_all
section
variable{w w':aa}{g:Nat}{x:RD}
def X9(s:af)(w:aa):Calls prog 10 #[ad s] w λ r w'=>r=ao (pV w.heap.size)/\w'=w.alloc (.cells #[ad s,O 0] 104):=by
 go_enter func10,ntmps10
 go_wp2
 go_ret
 simp
def RD.ea(x:RD):Nat:=if x.e=0 then(if x.s.size=0 then 0 else 3) else x.e
def xA{s:af}(h:s.size=0):s=⟨#[]⟩:=by
 cases s with
 |mk d=>congr 1;exact Array.eq_empty_of_size_eq_zero h
def X7(h:eD w g x):Calls prog 14 #[pV g] w λ r w'=>r=ao (O (x.ea:Int))/\w=w':=by
 have d:=h.1.c0;have e:=h.1.c1;by_cases b:x.e=0
 ·rw[b] at e;by_cases c:x.s.size=0
  ·have a:x.ea=0:=by rw[RD.ea,au b,au c]
   rw[a];rw[xA c] at d
   go_enter func14,ntmps14
   go_wp2
   go_ret
   simp
  ·have a:x.ea=3:=by rw[RD.ea,au b,ar c]
   rw[a];have f:=JT c
   go_enter func14,ntmps14
   go_wp2
   go_ret
   simp
 ·have f:¬(x.e:Int)=0:=by omega
  have a:x.ea=x.e:=by rw[RD.ea,ar b]
  rw[a]
  go_enter func14,ntmps14
  go_wp2
  go_ret
  simp
def RD.fail(x:RD)(e:Nat):RD:=if x.e=0 then{x with e:=e} else x
def X8(h:eD w g x)(e:Nat)(c:Int)(f:(e:Int)=c):Calls prog 151 #[pV g,O c] w λ r w'=>r=ao (aM #[])/\eD w' g (x.fail e)/\fy g w w':=by
 subst f;have d:=h.1.c1;have f1:=h.1.fr 1;have H:=Z h;by_cases a:x.e=0
 ·rw[a] at d;have b:x.fail e={x with e:=e}:=by rw[RD.fail,au a]
  rw[b]
  go_enter func151,ntmps151
  go_wp2
  go_end0
  have j:=H.U.only (x':={x with e:=e}) (ah.dx H.U.1 1 _) ((aW.refl _ [g] _).setCell (p:=⟨g,1,none⟩) (.inl zS) (O (e:Int)));grind
 ·have i:¬(x.e:Int)=0:=by omega
  have b:x.fail e=x:=by rw[RD.fail,ar a]
  rw[b]
  go_enter func151,ntmps151
  go_wp2
  go_end0
  exact⟨rfl,H.U,fy.refl _ _⟩
def Ya(h:eD w g x)(n:Int):Calls prog 13 #[pV g,O n] w λ r w'=>r=ao (ad (x.cA n))/\eD w' g (x.bu n)/\fy g w w':=by
 go_enter func13,ntmps13
 go_wp2_with fail
 refine(zb h n).mono ?_;rintro e c ⟨rfl,a,b⟩
 go_wp2
 go_ret
 simp_all
def RD.ei(x:RD):Nat:=if x.e=0 then(if h:0<x.s.size then x.s[0].toNat else 0) else 0
def aas{x:RD}(a:x.e=0)(h:0<x.s.size):x.cA 1=x.s.extract 0 1:=by
 rw[RD.cA,au ⟨a,by decide,by omega⟩];rfl
def aar{x:RD}(h:¬(x.e=0/\0<x.s.size)):x.cA 1=⟨#[]⟩:=by
 rw[RD.cA,ar];omega
def X6(h:eD w g x):Calls prog 162 #[pV g] w λ r w'=>r=ao (O (x.ei:Int))/\eD w' g (x.bu 1)/\fy g w w':=by
 by_cases j:x.e=0/\0<x.s.size
 ·obtain⟨f,k⟩:=j;have i:x.ei=x.s[0].toNat:=by rw[RD.ei,au f,dif_pos k]
  rw[i];have b:=aas f k;obtain⟨t,d⟩:∃t,x.s.extract 0 1=t:=⟨_,rfl⟩;have q:0<t.size:=by rw[<-d,ib];omega
  have p:t[0].toNat=x.s[0].toNat:=by
   subst d;congr 1;rw[ByteArray.getElem_extract]
  have o:t.toList.isEmpty=false:=JT W;rw[d] at b;have c:=Z b;have h256:t[0].toNat<256:=t[0].toNat_lt
  go_enter func162,ntmps162
  go_wp2_with fail
  have a:=zb h 1;rw[c.U] at a;refine a.mono ?_;rintro e n ⟨rfl,l,m⟩
  go_wp2
  go_ret
  simp_all
 ·have i:x.ei=0:=by
   rw[RD.ei];by_cases f:x.e=0
   ·grind
   ·grind
  rw[i];have b:=aar j;have c:=Z b
  go_enter func162,ntmps162
  go_wp2_with fail
  have a:=zb h 1;rw[c.U] at a;refine a.mono ?_;rintro e n ⟨rfl,l,m⟩
  go_wp2
  go_ret
  simp_all
end
def nR(n c a:Nat):Nat:=n|||((c%128)*2^(7*a))%18446744073709551616
def gF:Nat->List UInt8->Nat->Nat->Except Nat (Nat×Nat)
 |0,_,_,_=> .error 3
 |_+1,[],_,_=> .error 2
 |f+1,c::l,a,n=>
  if 128<=c.toNat then gF f l (a+1) (nR n c.toNat a)
  else if(c.toNat=0/\0<a)\/(a=9/\1<c.toNat) then .error 3
  else .ok (nR n c.toNat a,a+1)
def RD.cx(x:RD):Nat:=if x.e=0 then(match gF 10 x.s.data.toList 0 0 with| .error _=>0| .ok p=>p.1) else 0
def RD.bW(x:RD):RD:=if x.e=0 then(match gF 10 x.s.data.toList 0 0 with| .error e=>{x with e:=e}| .ok p=>{x with s:=x.s.extract p.2 x.s.size}) else x
def Dq(n c a:Nat)(h:n<18446744073709551616):nR n c a<18446744073709551616:=
 F7 (n:=64) h (cy _ zD)
def Wr(a b:Nat)(c:a<18446744073709551616)(d:b<18446744073709551616):bits BinOp.or IntKind.u64 (a:Int) (b:Int)=((a|||b:Nat):Int):=by
 simp only[bits,BitVec.toNat_or,FN];have e1:((a:Int)%((2^IntKind.u64.bits:Nat):Int)).toNat=a:=by
  show((a:Int)%18446744073709551616).toNat=a;omega
 have e2:((b:Int)%((2^IntKind.u64.bits:Nat):Int)).toNat=b:=by
  show((b:Int)%18446744073709551616).toNat=b;omega
 rw[e1,e2];have:a|||b<18446744073709551616:=F7 (n:=64) c d;generalize a|||b=q at this⊢;rw[tV];omega
def Wb(m c k:Nat)(a:m<18446744073709551616):∃b:Nat,IntKind.u64.wrap ((c:Int)%128*2^(7*k))=(b:Int)/\bits BinOp.or IntKind.u64 (m:Int) (b:Int)=((nR m c k:Nat):Int):=by
 refine⟨(c%128)*2^(7*k)%18446744073709551616,?_,?_⟩
 ·rfl
 ·rw[Wr _ _ a (cy _ zD)];rfl
def V9{c:Nat}{R:Except Nat (Nat×Nat)}(d:k<b.length)(e:k<10)(a:b[k].toNat=c)(h:R=gF (10-k) (b.drop k) k n):
 (128<=c->R=gF (10-(k+1)) (b.drop (k+1)) (k+1) (nR n c k))/\(¬128<=c->(c=0/\0<k)\/(k=9/\1<c)->R= .error 3)/\(¬128<=c->¬((c=0/\0<k)\/(k=9/\1<c))->R= .ok (nR n c k,k+1)):=by
 rw[show 10-k=(10-(k+1))+1 by omega,iQ d,gF,a] at h
 grind
section
variable{w w':aa}{g:Nat}{x:RD}
def vV(h:eD w g x)(e:Nat):eD (w.setCell ⟨g,1,none⟩ (O (e:Int))) g {x with e:=e}/\fy g w (w.setCell ⟨g,1,none⟩ (O (e:Int))):=
 h.only (x':={x with e:=e}) (ah.dx h.1 1 _) ((aW.refl _ [g] _).setCell (p:=⟨g,1,none⟩) (.inl zS) _)
def D1(h:eD w g x)(s:af):eD (w.setCell ⟨g,0,none⟩ (ad s)) g {x with s:=s}/\fy g w (w.setCell ⟨g,0,none⟩ (ad s)):=
 h.only (x':={x with s:=s}) (ah.dx h.1 0 _) ((aW.refl _ [g] _).setCell (p:=⟨g,0,none⟩) (.inl zS) _)
def Lf(h:eD w g x):Calls prog 47 #[pV g] w λ r w'=>r=ao (U (x.cx:Int))/\eD w' g x.bW/\fy g w w':=by
 have a4:=h.1.c0;have I:=h.1.c1;have f0:=h.1.fr 0;have f1:=h.1.fr 1;have H:=Z h;by_cases l:x.e=0
 ·rw[l] at I;have C:∀e,gF 10 x.s.data.toList 0 0= .error e->x.cx=0/\x.bW={x with e:=e}:=λ e h=>⟨by rw[RD.cx,au l,h],by rw[RD.bW,au l,h]⟩;have D:∀m k,gF 10 x.s.data.toList 0 0= .ok (m,k)->x.cx=m/\x.bW={x with s:=x.s.extract k x.s.size}:=λ m k h=>⟨by rw[RD.cx,au l,h],by rw[RD.bW,au l,h]⟩;obtain⟨R,Q⟩:∃R,gF 10 x.s.data.toList 0 0=R:=⟨_,rfl⟩;rw[Q] at C D;have p:=Z C;have A:=Z D;obtain⟨G,S⟩:∃G,x.cx=G:=⟨_,rfl⟩;obtain⟨B,T⟩:∃B,x.bW=B:=⟨_,rfl⟩;simp only[S,T] at p A⊢
  go_enter func47,ntmps47
  go_wp2
  go_step3
  go_wp2
  go_step3
  go_wp2
  go_loop [3,4,5] (λ d a b=>∃k m:Nat,k<=10/\k<=x.s.size/\m<18446744073709551616/\a=O (k:Int)/\d=U (m:Int)/\b=O 3/\R=gF (10-k) (x.s.data.toList.drop k) k m) (λ _ a _=>10-(intOf a).toNat)
  case atStart=>exact⟨0,0,by omega,bf _,by decide,rfl,rfl,rfl,by grind⟩
  case round=>
   obtain⟨k,m,a9,b5,F,rfl,rfl,rfl,z⟩:=hrel;have a5:x.s.data.toList.length=x.s.size:=by rw[iO];rfl
   by_cases a0:k=10
   ·subst a0;have a:=Z (show R= .error 3 from z)
    go_wp2
    all_goals
     try rw[kL]
     go_ret
     have f:=vV H.U 3;obtain⟨j,q2⟩:=p.U 3 a.U;simp_all
   focus
    by_cases a1:k=x.s.size
    ·have a:=Z (show R= .error 2 by rw[z,show 10-k=(9-k)+1 by omega,kc W];rfl);subst a1
     go_wp2
     all_goals
      try rw[kL]
      go_ret
      have f:=vV H.U 2;obtain⟨j,q2⟩:=p.U 2 a.U;exact⟨by rw[j];rfl,by rw[q2];exact f.1,f.2⟩
    focus
     have b4:k<x.s.size:=by omega
     have b1:(k:Int)<(x.s.size:Int):=by omega
     have a2:¬(k:Int)=(x.s.size:Int):=by omega
     have b3:(k:Int)<10:=by omega
     obtain⟨c,E⟩:∃c:Nat,x.s[k].toNat=c:=⟨_,rfl⟩;have a8:c<256:=by rw[<-E];exact x.s[k].toNat_lt
     obtain⟨L,N,P⟩:=V9 (c:=c) W W (by rw[<-E];rfl) z;obtain⟨b,a6,a7⟩:=Wb m c k F;have a3:=Dq m c k F;have b0:k+1<=x.s.size:=by omega
     generalize nR m c k=M at*;have r:=Z L;have o:=Z N;have n:=Z P;have X:(128<=c)\/(c=0/\0<k)\/(c=0/\k=0)\/(¬128<=c/\¬c=0/\k=9/\1<c)\/(¬128<=c/\¬c=0/\k=9/\c=1)\/(¬128<=c/\¬c=0/\¬k=9):=by omega
     have b2:((k:Int)==(x.s.size:Int))=false:=by rw[dP];exact a2
     rcases X with d|⟨d,i⟩|⟨d,i⟩|⟨d,i,q,u⟩|⟨d,i,q,u⟩|⟨d,i,q⟩
     ·have v:(128:Int)<=(c:Int):=by omega
      have a:=Z (r.U d)
      go_wp2
      refine⟨⟨k+1,M,by omega,by omega,a3,by simp,rfl,rfl,a.U⟩,?_⟩;simp[intOf];omega
     ·have v:¬(128:Int)<=(c:Int):=by omega
      have t:((c:Int)==0)=true:=by rw[gb];omega
      have J:(1:Int)<(k:Int)+1:=by omega
      have a:=Z (o.U W (.inl ⟨d,i⟩))
      go_wp2
      all_goals
       try rw[kL]
       go_ret
       have f:=vV H.U 3;obtain⟨j,q2⟩:=p.U 3 a.U;exact⟨by rw[j];rfl,by rw[q2];exact f.1,f.2⟩
     rotate_left
     ·have v:¬(128:Int)<=(c:Int):=by omega
      have t:((c:Int)==0)=false:=by rw[dP];omega
      have y:((k:Int)+1==10)=true:=by rw[gb];omega
      have K:(1:Int)<(c:Int):=by omega
      have a:=Z (o.U d (.inr ⟨q,u⟩));clear r o n d i q u
      go_wp2
      all_goals
       try rw[kL]
       go_ret
       have f:=vV H.U 3;obtain⟨j,q2⟩:=p.U 3 a.U;exact⟨by rw[j];rfl,by rw[q2];exact f.1,f.2⟩
   all_goals
    have v:¬(128:Int)<=(c:Int):=by omega
    first
     |have t:((c:Int)==0)=true:=by rw[gb];omega
      have J:¬(1:Int)<(k:Int)+1:=by omega
      have y:((k:Int)+1==10)=false:=by rw[dP];omega
      have a:=Z (n.U W W);clear r o n d i
     |have t:((c:Int)==0)=false:=by rw[dP];omega
      have y:((k:Int)+1==10)=true:=by rw[gb];omega
      have K:¬(1:Int)<(c:Int):=by omega
      have a:=Z (n.U d W);clear r o n d i q u
     |have t:((c:Int)==0)=false:=by rw[dP];omega
      have y:((k:Int)+1==10)=false:=by rw[dP];omega
      have a:=Z (n.U d W)
    go_wp2
    all_goals
     try rw[kL]
     go_ret
     have f:=D1 H.U (x.s.extract (k+1) x.s.size);obtain⟨j,q2⟩:=A.U _ _ a.U;exact⟨by rw[j];rfl,by rw[q2];exact f.1,f.2⟩
 ·have b:¬(x.e:Int)=0:=by omega
  have a:x.cx=0:=by rw[RD.cx,ar l]
  have hx:x.bW=x:=by rw[RD.bW,ar l]
  rw[a,hx]
  go_enter func47,ntmps47
  go_wp2
  go_step3
  go_wp2
  rw[kL]
  go_ret
  exact⟨rfl,H.U,fy.refl _ _⟩
end
def RD.back(z:RD)(s:af):RD:=if z.e=0 then z else{z with s:=s}
def RD.oU(x:RD)(a:Int):af:=if x.bW.e=0/\x.cx<=4096/\(x.cx:Int)<=a then x.bW.cA x.cx else⟨#[]⟩
def RD.oV(x:RD)(a:Int):RD:=if x.bW.e=0 then(if x.cx<=4096/\(x.cx:Int)<=a then(x.bW.bu x.cx).back x.s else{s:=x.s,e:=4}) else x.bW
section
variable{w w':aa}{g:Nat}{x:RD}
def X4(h:eD w g x)(b:Int):Calls prog 12 #[pV g,O b] w λ r w'=>r=ao (ad (x.oU b))/\eD w' g (x.oV b)/\fy g w w':=by
 have S:=h.1.c0;obtain⟨y,v⟩:∃y,x.bW=y:=⟨_,rfl⟩;obtain⟨n,r⟩:∃n,x.cx=n:=⟨_,rfl⟩;obtain⟨d,G⟩:∃d,x.oU b=d:=⟨_,rfl⟩;obtain⟨bx,H⟩:∃bx,x.oV b=bx:=⟨_,rfl⟩;have u:=Lf h;rw[v,r] at u;have I:=G;have hx:=H;rw[RD.oU,v,r] at I;rw[RD.oV,v,r] at hx;rw[G,H];have k:=Z I;have l:=Z hx;have P:(¬y.e=0)\/(y.e=0/\4096<n)\/(y.e=0/\n<=4096/\b<(n:Int))\/(y.e=0/\n<=4096/\(n:Int)<=b):=by omega
 rcases P with a|⟨a,m⟩|⟨a,m,p⟩|⟨a,m,p⟩;focus
  have f:d=⟨#[]⟩:=by rw[<-k.U,ar (λ c=>a c.1)]
  have i:bx=y:=by rw[<-l.U,ar a]
 rotate_left;focus
  have f:d=⟨#[]⟩:=by rw[<-k.U,ar W]
  have i:bx={s:=x.s,e:=4}:=by rw[<-l.U,au a,ar W]
 rotate_left;focus
  have f:d=⟨#[]⟩:=by rw[<-k.U,ar W]
  have i:bx={s:=x.s,e:=4}:=by rw[<-l.U,au a,ar W]
 rotate_left
 ·have F:¬(4096:Int)<(n:Int):=by omega
  have N:IntKind.i64.wrap (n:Int)=(n:Int):=by rw[hh];omega
  have f:d=y.cA n:=by rw[<-k.U,au ⟨a,m,p⟩]
  have i:bx=(y.bu n).back x.s:=by rw[<-l.U,au a,au ⟨m,p⟩]
  obtain⟨z,L⟩:∃z,y.bu (n:Int)=z:=⟨_,rfl⟩;obtain⟨t,J⟩:∃t,y.cA (n:Int)=t:=⟨_,rfl⟩;rw[L] at i;rw[J] at f;rw[f];have K:=λ(j:aa) (hx:eD j g y)=>zb hx (n:Int);rw[L,J] at K;have M:=Z K;have E:=Z i
  go_enter func12,ntmps12
  go_wp2_with fail
  refine u.mono ?_;rintro e R ⟨rfl,k1,k2⟩;have d0:=k1.1.c0;have d1:=k1.1.c1;rw[a] at d1;have j:=Z k2
  go_wp2_with fail
  refine(M.U _ k1).mono ?_;rintro e T ⟨rfl,k3,k4⟩;have d0:=k3.1.c0;have d1:=k3.1.c1;have f0:=k3.1.fr 0;have f1:=k3.1.fr 1;have C:=Z k3;have D:=Z k4;by_cases A:z.e=0
  ·have B:bx=z:=by rw[E.U,RD.back,au A]
   rw[A] at d1;have o:=Z B
   go_wp2
   go_ret
   exact⟨rfl,by rw[o.U];exact C.U,j.U.trans D.U⟩
  ·have B:bx={z with s:=x.s}:=by rw[E.U,RD.back,ar A]
   have Q:¬(z.e:Int)=0:=by omega
   have o:=Z B
   go_wp2
   go_ret
   have q:=D1 C.U x.s;exact⟨rfl,by rw[o.U];exact q.1,j.U.trans (D.U.trans q.2)⟩
 all_goals
  rw[f,i];first
   |have F:¬(4096:Int)<(n:Int):=by omega
    have N:IntKind.i64.wrap (n:Int)=(n:Int):=by rw[hh];omega
   |have F:(4096:Int)<(n:Int):=by omega
   |have Q:¬(y.e:Int)=0:=by omega
  go_enter func12,ntmps12
  go_wp2_with fail
  refine u.mono ?_;rintro e R ⟨rfl,k1,k2⟩;first
   |have d0:=k1.1.c0
   |skip
  have d1:=k1.1.c1;first
   |have f0:=k1.1.fr 0
    have f1:=k1.1.fr 1;rw[a] at d1
   |skip
  have K1:=Z k1;have j:=Z k2
  go_wp2
  go_ret
  first
   |have q:=vV K1.U 4
    have q2:=D1 q.1 x.s;exact⟨rfl,q2.1,j.U.trans (q.2.trans q2.2)⟩
   |exact⟨rfl,K1.U,j.U⟩
end
abbrev Y.rd(g:Nat)(x:RD):Y:=Y.row g 104 [ad x.s,O (x.e:Int)]
section
variable{w w':aa}{g:Nat}{x:RD}
def vU{a:RD}(h:eD w' g a/\fy g w w'):bk (Y.rd g x) w w' (Y.rd g a):=⟨h.2,h.1.1,λ k b=> .inl b⟩
def ux(s:af){a:aa}(b:ae a w m I):Calls prog 10 #[ad s] w λ r w'=>∃g,r=ao (pV g)/\a.heap.size<=g/\ae a w' m (Y.rd g ⟨s,0⟩::I):=
 (X9 s w).mono λ _ _ ⟨c,d⟩=>⟨_,c,b.size,by rw[d];exact b.alloc [ad s,O 0] 104⟩
def uw(h:(Y.rd g x).P w):Calls prog 14 #[pV g] w λ r w'=>r=ao (O (x.ea:Int))/\w=w':=X7 ⟨h,trivial⟩
def xj(h:(Y.rd g x).P w)(e:Nat)(a:Int)(d:(e:Int)=a):Calls prog 151 #[pV g,O a] w λ r w'=>r=ao (aM #[])/\bk (Y.rd g x) w w' (Y.rd g (x.fail e)):=
 (X8 ⟨h,trivial⟩ e a d).mono λ _ _ ⟨b,c⟩=>⟨b,vU c⟩
def se(h:(Y.rd g x).P w)(n:Int):Calls prog 13 #[pV g,O n] w λ r w'=>r=ao (ad (x.cA n))/\bk (Y.rd g x) w w' (Y.rd g (x.bu n)):=
 (Ya ⟨h,trivial⟩ n).mono λ _ _ ⟨a,b⟩=>⟨a,vU b⟩
def uv(h:(Y.rd g x).P w):Calls prog 162 #[pV g] w λ r w'=>r=ao (O (x.ei:Int))/\bk (Y.rd g x) w w' (Y.rd g (x.bu 1)):=
 (X6 ⟨h,trivial⟩).mono λ _ _ ⟨a,b⟩=>⟨a,vU b⟩
def qp(h:(Y.rd g x).P w):Calls prog 47 #[pV g] w λ r w'=>r=ao (U (x.cx:Int))/\bk (Y.rd g x) w w' (Y.rd g x.bW):=
 (Lf ⟨h,trivial⟩).mono λ _ _ ⟨a,b⟩=>⟨a,vU b⟩
def Gf(h:(Y.rd g x).P w)(a:Int):Calls prog 12 #[pV g,O a] w λ r w'=>r=ao (ad (x.oU a))/\bk (Y.rd g x) w w' (Y.rd g (x.oV a)):=
 (X4 ⟨h,trivial⟩ a).mono λ _ _ ⟨b,c⟩=>⟨b,vU c⟩
end
variable{g:Nat}
def ae.drew{w wr:aa}{m:List Nat}{c:List Y}(h:ae w wr m c):ae w wr.drew m c:=
 ⟨h.only.drew,(λ b d=>b.st wr _ (λ k e=>rfl) (h.ok b d)),h.own,h.b⟩
abbrev ba(L:List Y)(w:aa):Prop:=∀b∈L,b.P w
def bg{w:aa}:ba [] w:=λ _ h=>by cases h
def aX{L:List Y}{w:aa}(h:J.P w)(k:ba L w):ba (J::L) w:=λ c b=>by
 grind
section
variable{ops:Array Oper}{op:Oper}{a:Act}{L:List Y}
def Y1(s:Region.wanted op (yielded ops a.tmps)=true)(i:Nat){b:List ab}(p:L[i]?=some (Y.row g t b))(c:TypeId)(q:op.op= .load c X){o:Nat}(hx:a.eval X= .pointer (some ⟨g,o,none⟩))
 (j:kx c=true) {v:ab} (r:b[o]?=some v):YieldsIf prog ops (ba L) op v a:=
 .inl ⟨s,λ w u=>by
  obtain⟨d,e,h⟩:=vH j
  have k:ah w g t b.toArray:=u _ (cX p)
  have m:w.cell? ⟨g,o,none⟩=some v:=by rw[k.cell o];simpa using r
  unfold execOp
  simp only[q,hx,Instr.loadAt,Instr.sureAddr,cO,dN,dd,we w _ c v d m e h]⟩
def Yr(s:Region.wanted op (yielded ops a.tmps)=true)(i:Nat){c:List ab}(q:L[i]?=some (Y.row g t c))(e n:Nat)(r:op.op= .load e X){o:Nat}(hx:a.eval X= .pointer (some ⟨g,o,none⟩))
 (m:hU e n=true) (b:List ab) (A:(c.drop o).take n=b) (z:b.length=n):YieldsIf prog ops (ba L) op (aG b.toArray) a:=by
 obtain⟨⟨d,h,k⟩,x⟩:=pK m
 refine M9 s e X r g o hx b d (λ w u j v y=> ?_) h k (by grind)
 have p:ah w g t c.toArray:=u _ (cX q)
 rw[p.cell]
 grind
end
section
variable{P:Program}{Q:Exit->Act->aa->Prop}{S:aa->Prop}{n:Nat}{l:List Oper}
def fk(a:Act):Operand->Option ab
 | .tmp k=>a.tmps.toList[k]?
 | .const v=>some v
 |_=>none
def xT{a:Act}{v:ab}(h:fk a X=some v):a.eval X=v:=by
 cases X with
 |tmp k=>exact xV h
 |const u=>exact hD h
 |global g=>cases h
 |func f=>cases h
variable{i f:Nat}{o:Oper}{listed:Array Bool}{a:Act}{w:aa}
def ay.Eg(m:Region.ready .any l.toArray listed=[i])(g:i<n)(j:l.toArray[i]?=some o)(e:o.guard=none)(k:Tmp)(hd:o.dst=some k)(v:ab)(b:aa)(p:(execOp a.eval o).run P w= .ok (.value v) b)(d:S b)
 (h:ay P l Q S n f (listed.setIfInBounds i true) {a with tmps:=a.tmps.setIfInBounds k v} b):ay P l Q S n (f+1) listed a w:=by
 refine ay.one m g j (λ r c=> ?_)
 have q:Region.wanted o (yielded l.toArray a.tmps)=true:=by unfold Region.wanted;rw[e]
 rw[au q]
 unfold Oper.wp
 rw[p,jC]
 refine c _ _ d (λ _=> ?_)
 rw[hd]
 exact h
def ay.eL(D:Region.ready .any l.toArray listed=[i])(B:i<n)(C:l.toArray[i]?=some o)(A:o.guard=none)(k:Tmp)(hd:o.dst=some k){c:Call}(t:o.op= .call c)(g:FuncId)(z:c.callee= .value (.func g))
 (y:∀d b,(callFunc g d).run P b= .ok (.enter g d) b) (m:List ab) (I:c.args.toList.mapM (fk a)=some m)
 (h:Calls P g m.toArray w λ e b=>∃v,e=ao v/\S b/\ay P l Q S n f (listed.setIfInBounds i true) {a with tmps:=a.tmps.setIfInBounds k v} b):ay P l Q S n (f+1) listed a w:=by
 refine ay.one D B C (λ G s=> ?_)
 have E:Region.wanted o (yielded l.toArray a.tmps)=true:=by unfold Region.wanted;rw[A]
 rw[au E]
 have H:∀(d:List Operand) (j:List ab),d.mapM (fk a)=some j->d.map a.eval=j:=by
  intro d
  induction d with
  |nil=>simp
  |cons x d F=>
   intro j h
   rw[AG] at h
   cases hx:fk a x with
   |none=>grind
   |some u=>
    rw[hx] at h
    cases p:d.mapM (fk a) with
    |none=>grind
    |some q=>
     rw[p] at h
     have r:u::q=j:=by simpa using h
     rw[<-r,bZ,xT hx,F q p]
 refine tL t z (vs:=m.toArray) ?_ y (h.mono ?_)
 ·grind
 ·rintro e b ⟨v,rfl,p,q⟩
  refine⟨v,rfl,?_⟩
  refine s _ _ p (λ _=> ?_)
  rw[hd]
  exact q
def ae.region{d:aa}{m:List Nat}{c:List Y}{id:Nat}(e:ae d w m c)(n:Nat)(S:aa->Prop)(k:P.follows .mixedOrders=true)(g:(Region.noSelect l.toArray&&decide (n<l.length)&&Region.sinkB .any l.toArray n&&Region.chainB .any l.toArray n)=true)
 (j:∀b,ae d b m c->S b) (h:∀b,ae d b m c->S b->ay P l Q S n n (Array.replicate l.length false) a b):(Code.region id l.toArray true).wp P Q a w:=
 mN n S k g (j _ e.drew) (λ b=>h _ e.drew b)
end
section
section
variable{Q:Exit->Act->aa->Prop}{l:List Oper}{n f:Nat}{S:aa->Prop}{L L':List Bool}{M M':List ab}{d:List Deferred}{w:aa}{oi:Oper}{v:ab}
def L2{m:List ab}(i:Nat)(b:Tmp)(j:Nat)(e:TypeId)(q:ba I w)(h:ay prog l Q (ba I) n f L'.toArray ⟨M'.toArray,d⟩ w)
 (r:l.toArray[i]?=some oi:=by exact rfl) (hd:oi.dst=some b:=by exact rfl)
 (y1:Region.wanted oi (yielded l.toArray M.toArray)=true:=by kernel_rfl) (y2:I[j]?=some (Y.row g t m):=by exact rfl) (y3:oi.op= .load e X:=by exact rfl)
 (y4:(⟨M.toArray,d⟩:Act).eval X= .pointer (some ⟨g,k,none⟩):=by exact rfl) (y5:kx e=true:=by kernel_rfl) (y6:m[k]?=some v:=by exact rfl)
 (o:L.set i true=L':=by first|(simp only[av,ax];exact rfl)|(simp only[ff,hq,av,ax];exact rfl)|exact rfl) (p:M.set b v=M':=by first|(simp only[av,ax,bH,ck,dJ,dr];exact rfl)|exact rfl)
 (h1:i<n:=by decide) (h2:Region.free Region.Mode.any l.toArray L.toArray i=true:=by kernel_rfl) (h3:(Region.ready Region.Mode.any l.toArray L.toArray).contains i=true:=by kernel_rfl)
 (h4:∀(c:List PanicEntry) (a:Act) (w:aa),Q (Exit.panic c) (a.put oi.dst v) w->Q (Exit.panic c) a w:=by exact λ _ _ _ h=>h):
 ay prog l Q (ba I) n (f+1) L.toArray ⟨M.toArray,d⟩ w:=
 ay.fK b r hd h1 h2 h3 h4 (Y1 y1 j y2 e y3 y4 y5 y6) q (by subst o;subst p;simpa only[aS] using h)
end
end
section
section
variable{w wr:aa}{m:List Nat}{aj cJ:List Y}{ops:Array Oper}{Q:Exit->Act->aa->Prop}{op:Oper}{rest:List Oper}{a:Act}{g:Nat}{t:TypeId}{cs vs:List ab}{x y:Operand}{o:Nat}{v:ab}{k:Tmp}
def K7(d:ai (ae w wr m aj))(i:Nat)(c:TypeId)(n:Nat)(h:∀b,ai (ae w b m cJ)->wpList prog ops Q rest (a.put op.dst undef) b)
 (p:aj[i]?=some (Y.row g t cs):=by exact rfl) (l:Region.wanted op (yielded ops a.tmps)=true:=by exact rfl) (s:op.op= .store c x y:=by exact rfl) (hx:a.eval x= .pointer (some ⟨g,o,none⟩):=by exact rfl)
 (u:a.eval y=aG vs.toArray:=by exact rfl) (q:vs.length=n:=by exact rfl) (e:jm c n=true:=by kernel_rfl) (j:decide (o+n<=cs.length)=true:=by exact rfl) (h1:vs.all (·.oneCell')=true:=by exact rfl)
 (f:aj.set i (Y.row g t (fo cs o vs))=cJ:=by simp only[fo,av,ax,bH,ck,dJ,dr];exact rfl):wpList prog ops Q (op::rest) a wr:=
 A6 d.U i p l c n s hx vs u q e j h1 (λ b r=>h b (Z (by subst f;exact r)))
def K1(d:ai (ae w wr m aj))(i:Nat)(c:TypeId)(h:∀b,ai (ae w b m cJ)->wpList prog ops Q rest (a.put op.dst undef) b)
 (n:aj[i]?=some (Y.row g t cs):=by exact rfl) (l:Region.wanted op (yielded ops a.tmps)=true:=by exact rfl) (q:op.op= .store c x (.tmp k):=by exact rfl) (hx:a.eval x= .pointer (some ⟨g,o,none⟩):=by exact rfl)
 (r:a.tmps.toList[k]?=some v:=by exact rfl) (e:jm c 1=true:=by kernel_rfl) (h1:v.oneCell'=true:=by exact rfl) (j:decide (o<cs.length)=true:=by exact rfl)
 (f:aj.set i (Y.row g t (cs.set o v))=cJ:=by simp only[av,ax];exact rfl):wpList prog ops Q (op::rest) a wr:=
 A4 d.U i n l c q hx r e h1 j (λ b p=>h b (Z (by subst f;exact p)))
def KL(c:ai (ae w wr m aj))(i:Nat)(b:TypeId)(h:wpList prog ops Q rest (a.put op.dst v) wr)
 (f:aj[i]?=some (Y.row g t cs):=by exact rfl) (e:Region.wanted op (yielded ops a.tmps)=true:=by exact rfl) (j:op.op= .load b x:=by exact rfl) (hx:a.eval x= .pointer (some ⟨g,o,none⟩):=by exact rfl)
 (d:kx b=true:=by kernel_rfl) (l:cs[o]?=some v:=by exact rfl):wpList prog ops Q (op::rest) a wr:=
 wV c.U i f e b j hx d l h
def KR(c:ai (ae w wr m aj))(i:Nat)(b:TypeId)(n:Nat)(h:wpList prog ops Q rest (a.put op.dst (aG vs.toArray)) wr)
 (f:aj[i]?=some (Y.row g t cs):=by exact rfl) (e:Region.wanted op (yielded ops a.tmps)=true:=by exact rfl) (l:op.op= .load b x:=by exact rfl) (hx:a.eval x= .pointer (some ⟨g,o,none⟩):=by exact rfl)
 (d:hU b n=true:=by kernel_rfl) (p:(cs.drop o).take n=vs:=by simp only[bH,ck,dJ,dr];exact rfl) (j:vs.length=n:=by exact rfl):wpList prog ops Q (op::rest) a wr:=
 AA c.U i f e b n l hx d vs p j h
def KA(d:ai (ae w wr m aj))(b:TypeId)(k:Tmp)(l:eY b cs)(h:∀g c,w.heap.size<=g->ai (ae w c m (Y.row g b cs::aj))->wpList prog ops Q rest (a.put (some k) (pV g)) c)
 (f:Region.wanted op (yielded ops a.tmps)=true:=by exact rfl) (hd:op.dst=some k:=by exact rfl) (j:op.op= .alloc b:=by exact rfl):wpList prog ops Q (op::rest) a wr:=
 Al d.U f b k hd j cs l (λ g c e i=>h g c e (Z i))
def KB(d:ai (ae w wr m aj))(c:TypeId)(k:Tmp)(cs:List ab)(h:∀g b,w.heap.size<=g->ai (ae w b m (Y.row g c cs::aj))->wpList prog ops Q rest (a.put (some k) (pV g)) b)
 (f:Region.wanted op (yielded ops a.tmps)=true:=by exact rfl) (hd:op.dst=some k:=by exact rfl) (j:op.op= .box c x:=by exact rfl) (hx:(a.eval x).cells=cs.toArray:=by exact rfl):wpList prog ops Q (op::rest) a wr:=
 Bx d.U f c k hd j cs hx (λ g b e i=>h g b e (Z i))
end
end
section
section
variable{ops:Array Oper}{rest:List Oper}{op:Oper}{a:Act}{Q:Exit->Act->aa->Prop}{w wr:aa}{m:List Nat}{aj:List Y}
def Cv(h:ae w wr m aj)(i:Nat){d:List ab}(r:aj[i]?=some (Y.row g t d))(q:Region.wanted op (yielded ops a.tmps)=true)(x:op.op= .convert 29 9 X){c:Nat}(hx:a.eval X=ag (some ⟨g,k,none⟩) n c)
 (l:List UInt8) (u:(d.drop k).take n=bB l) (v:l.length=n) (o:wpList prog ops Q rest (a.put op.dst (ad ⟨l.toArray⟩)) wr):wpList prog ops Q (op::rest) a wr:=by
 refine eF q λ K f=> ?_
 have p:=h.row r
 have e:=tz (P:=prog) wr 29 9 5 ⟨g,k,none⟩ c l cP eJ df (λ j s=>by
  rw[Addr.add_mid,p.cell]
  have b:(bB l)[j]?=some (.int .u8 ((l[j]).toNat:Int)):=by simp[bB,s]
  rw[<-u,wZ] at b
  split at b
  ·rw[wY] at b
   simpa using b
  ·cases b)
 rw[v] at e
 unfold Oper.wp execOp
 simp only[x,hx,e,cO,dN,dd,jC]
 exact f _ _ o
end
end
section
section
variable{w wr:aa}{m:List Nat}{aj:List Y}
def ae.ro(h:ae w wr m aj)(b:J.P w)(d:∀k∈J.bs,k∉m):J.P wr:=J.st w wr (λ k c=>h.only.block k (J.lt w b k c) (d k c)) b
def ae.zf(h:ae w wr [] aj)(b:J.P w):J.P wr:=h.ro b (λ _ _=>by simp)
def ba.st{L:List Y}{w c:aa}(h:ba L w)(e:BW w c):ba L c:=λ b d=>b.st w c (λ k g=>e.block k (b.lt w (h b d) k g)) (h b d)
def ae.bT(h:ae w wr [] aj){L:List Y}(b:ba L w):ba L wr:=b.st h.aq
variable{ops:Array Oper}{rest:List Oper}{op:Oper}{a:Act}{Q:Exit->Act->aa->Prop}{L:List Y}
def oI(h:ba L wr)(i:Nat){b:List ab}(x:L[i]?=some (Y.row g t b))(u:Region.wanted op (yielded ops a.tmps)=true)(c:TypeId)(y:op.op= .load c X){o:Nat}(hx:a.eval X= .pointer (some ⟨g,o,none⟩))
 (k:kx c=true) {v:ab} (z:b[o]?=some v) (q:wpList prog ops Q rest (a.put op.dst v) wr):wpList prog ops Q (op::rest) a wr:=by
 obtain⟨d,e,j⟩:=vH k
 have r:ah wr g t b.toArray:=h _ (cX x)
 refine eF u λ K p=> ?_
 have s:wr.cell? ⟨g,o,none⟩=some v:=by rw[r.cell o];simpa using z
 unfold Oper.wp execOp
 simp only[y,hx,Instr.loadAt,Instr.sureAddr,cO,dN,dd,we wr _ c v d s e j]
 exact p _ _ q
def NC(h:ba L wr)(i:Nat){e:List ab}(A:L[i]?=some (Y.row g t e))(z:Region.wanted op (yielded ops a.tmps)=true)(k:TypeId)(n:Nat)(C:op.op= .load k X){o:Nat}(hx:a.eval X= .pointer (some ⟨g,o,none⟩))
 (s:hU k n=true) (c:List ab) (D:(e.drop o).take n=c) (B:c.length=n)
 (x:wpList prog ops Q rest (a.put op.dst (aG c.toArray)) wr):wpList prog ops Q (op::rest) a wr:=by
 obtain⟨⟨d,p,q⟩,r⟩:=pK s
 have y:ah wr g t e.toArray:=h _ (cX A)
 refine eF z λ _ u=>Fo k X C g o hx c d (λ j v b=> ?_) p q (by rw[r,B]) (u _ _ x)
 rw[y.cell]
 subst D
 rw[wZ] at b
 split at b
 ·rw[wY] at b
  simpa using b
 ·cases b
end
section
variable{P:Program}{Q:Exit->Act->aa->Prop}{S:aa->Prop}{n:Nat}{l:List Oper}{i f:Nat}{o:Oper}{listed:Array Bool}{a:Act}{w:aa}
def Ju{b:List Operand}{c:List ab}(h:b.mapM (fk a)=some c):b.map a.eval=c:=by
 induction b generalizing c with
 |nil=>simp at h;simp[h]
 |cons x b g=>
  rw[AG] at h;cases hx:fk a x with
  |none=>rw[hx] at h;cases h
  |some u=>
   rw[hx] at h;cases d:b.mapM (fk a) with
   |none=>rw[d] at h;cases h
   |some j=>
    rw[d] at h;have e:u::j=c:=by simpa using h
    rw[<-e,bZ,xT hx,g d]
def ab5{op:Oper}{K:Act->aa->Prop}{c:Call}{b:FuncId}{first g vs:Array ab}(q:op.op= .call c)(j:c.callee= .value X)(hx:a.eval X= .func (.func b) first g)(s:c.args.map a.eval=vs)
 (k:∀e d,(callFunc b e).run P d= .ok (.enter b e) d) (h:Calls P b (first++vs++g) w λ e d=>∃v,e=ao v/\K (a.put op.dst v) d):op.wp P a w K Q:=by
 have r:(execOp a.eval op).run P w= .ok (.enter b (first++vs++g)) w:=by
  unfold execOp resolve
  simp[q,j,s,hx,Deferred.ofValue,invoke,k]
 unfold Oper.wp
 rw[r,Oper.upon_enter]
 refine h.mono ?_
 rintro e d ⟨v,rfl,p⟩
 exact p
def ay.Pt(A:Region.ready .any l.toArray listed=[i])(y:i<n)(z:l.toArray[i]?=some o)(x:o.guard=none)(k:Tmp)(hd:o.dst=some k){c:Call}(s:o.op= .call c)(u:c.callee= .value X)(d:FuncId){first j:Array ab}(hx:fk a X=some (.func (.func d) first j))
 (t:∀e b,(callFunc d e).run P b= .ok (.enter d e) b) (g:List ab) (B:c.args.toList.mapM (fk a)=some g)
 (h:Calls P d (first++g.toArray++j) w λ e b=>∃v,e=ao v/\S b/\ay P l Q S n f (listed.setIfInBounds i true) {a with tmps:=a.tmps.setIfInBounds k v} b):ay P l Q S n (f+1) listed a w:=by
 refine ay.one A y z (λ D p=> ?_)
 have C:Region.wanted o (yielded l.toArray a.tmps)=true:=by unfold Region.wanted;rw[x]
 rw[au C]
 refine ab5 s u (xT hx) (vs:=g.toArray) ?_ t (h.mono ?_)
 ·apply ju
  simpa using Ju B
 ·rintro e b ⟨v,rfl,q,r⟩
  refine⟨v,rfl,?_⟩
  refine p _ _ q (λ _=> ?_)
  rw[hd]
  exact r
def ay.make{d:aa}{m:List Nat}{aj:List Y}(c:ae d w m aj)(t:Region.ready .any l.toArray listed=[i])(r:i<n)(s:l.toArray[i]?=some o)(q:o.guard=none)(k:Tmp)(hd:o.dst=some k)(p:Option Nat)(e:TypeId)(b:List ab)
 (u:(execOp a.eval o).run P w= .ok (.value (bc p w.heap.size)) (w.alloc (.cells b.toArray e)))
 (h:∀g j,d.heap.size<=g->ae d j m (Y.row g e b::aj)->S j/\ay P l Q S n f (listed.setIfInBounds i true) {a with tmps:=a.tmps.setIfInBounds k (bc p g)} j):ay P l Q S n (f+1) listed a w:=
 ay.Eg t r s q k hd _ _ u (h _ _ c.size (c.alloc b e)).1 (h _ _ c.size (c.alloc b e)).2
end
end
