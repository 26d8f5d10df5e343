import Derived.Shelf.Small.Strs
import Derived.Test.YtncpbkoinennoaaGreatDoorMAJ
set_option linter.all false
set_option maxRecDepth 100000
set_option maxHeartbeats 0
namespace Go.Proofs.YtncpbkoinennoaaGreatDoor
open Go.RowKit Proofs.Tryz
attribute [local irreducible] wpList Calls
variable{I:List Y}{p:List Nat}{i:Nat}
def zs(a:Act)(v:ab):a.put none v=a:=rfl
def zt(t:Array ab)(d:List Deferred)(k:Tmp)(v:ab):Act.put ⟨t,d⟩ (some k) v=⟨t.setIfInBounds k v,d⟩:=rfl
section
variable{ops:Array Oper}{op:Oper}{a:Act}{aj cJ L:List Y}{v:ab}{g o:Nat}{t:TypeId}{cs qN vs:List ab}{x y:Operand}{k:Tmp}{w wr:aa}{m:List Nat}{Q:Exit->Act->aa->Prop}{rest:List Oper}
def mf(ops:Array Oper)(op:Oper)(a:Act)(aj cJ:List Y)(v:ab):Prop:=
 ∀(w wr:aa) (m:List Nat) (Q:Exit->Act->aa->Prop) (rest:List Oper),ae w wr m aj->(∀b,ae w b m cJ->wpList prog ops Q rest (a.put op.dst v) b)->wpList prog ops Q (op::rest) a wr
def mf.s1{b:TypeId}(u:op.op= .store b x (.tmp k):=by exact rfl)(hx:a.eval x= .pointer (some ⟨g,o,none⟩):=by exact rfl)(E:Y.row g t cs∈aj:=by repeat first|with_reducible exact mZ|refine mQ ?_)
 (j:jm b 1=true:=by exact rfl) (C:a.tmps.toList[k]?=some v:=by exact rfl) (s:Region.wanted op (yielded ops a.tmps)=true:=by exact rfl) (h1:v.oneCell'=true:=by exact rfl) (p:decide (o<cs.length)=true:=by exact rfl)
 (q:cs.set o v=qN:=by simp only[av,ax];exact rfl) (z:eh (Y.row g t cs) (Y.row g t qN) aj cJ:=by repeat first|with_reducible exact eh.head _|apply eh.tail):mf ops op a aj cJ undef:=λ _ _ _ _ _ A h=>by
 obtain⟨i,e1,e2⟩:=z.idx
 exact A4 A i e1 s b u hx C j h1 p (λ D e=>h D (by rw[q,<-e2] at e;exact e))
def mf.sc{b:TypeId}(u:op.op= .store b x (.const v):=by exact rfl)(hx:a.eval x= .pointer (some ⟨g,o,none⟩):=by exact rfl)(D:Y.row g t cs∈aj:=by repeat first|with_reducible exact mZ|refine mQ ?_)
 (j:jm b 1=true:=by exact rfl) (s:Region.wanted op (yielded ops a.tmps)=true:=by exact rfl) (h1:v.oneCell'=true:=by exact rfl) (p:decide (o<cs.length)=true:=by exact rfl)
 (q:cs.set o v=qN:=by simp only[av,ax];exact rfl) (z:eh (Y.row g t cs) (Y.row g t qN) aj cJ:=by repeat first|with_reducible exact eh.head _|apply eh.tail):mf ops op a aj cJ undef:=λ _ _ _ _ _ A h=>by
 obtain⟨i,e1,e2⟩:=z.idx
 exact NH A i e1 s b u hx j h1 p (λ C e=>h C (by rw[q,<-e2] at e;exact e))
def mf.sr{b:TypeId}(u:op.op= .store b x y:=by exact rfl)(hx:a.eval x= .pointer (some ⟨g,o,none⟩):=by exact rfl)(D:Y.row g t cs∈aj:=by repeat first|with_reducible exact mZ|refine mQ ?_)
 (A:a.eval y=aG vs.toArray:=by exact rfl) (s:Region.wanted op (yielded ops a.tmps)=true:=by exact rfl) (j:jm b vs.length=true:=by exact rfl) (p:decide (o+vs.length<=cs.length)=true:=by exact rfl) (h1:vs.all (·.oneCell')=true:=by exact rfl)
 (q:fo cs o vs=qN:=by simp only[fo,av,ax,bH,ck,dJ,dr];exact rfl) (z:eh (Y.row g t cs) (Y.row g t qN) aj cJ:=by repeat first|with_reducible exact eh.head _|apply eh.tail):mf ops op a aj cJ undef:=λ _ _ _ _ _ e h=>by
 obtain⟨i,e1,e2⟩:=z.idx
 exact A6 e i e1 s b vs.length u hx vs A rfl j p h1 (λ C e=>h C (by rw[q,<-e2] at e;exact e))
def KS(e:ai (ae w wr m aj))(h:∀b,ai (ae w b m cJ)->wpList prog ops Q rest (a.put op.dst undef) b)(j:mf ops op a aj cJ undef:=by first|exact mf.s1|exact mf.sc|exact mf.sr):wpList prog ops Q (op::rest) a wr:=
 j w wr m Q rest e.U (λ b i=>h b (Z i))
def Kl(e:ai (ae w wr m aj))(h:wpList prog ops Q rest (a.put op.dst v) wr){b:TypeId}(u:op.op= .load b x:=by exact rfl)(hx:a.eval x= .pointer (some ⟨g,o,none⟩):=by exact rfl)(s:Y.row g t cs∈aj:=by repeat first|with_reducible exact mZ|refine mQ ?_)
 (q:Region.wanted op (yielded ops a.tmps)=true:=by exact rfl) (p:kx b=true:=by exact rfl) (z:cs[o]?=some v:=by exact rfl):wpList prog ops Q (op::rest) a wr:=by
 obtain⟨i,j⟩:=sY s
 exact wV e.U i j q b u hx p z h
def KT(e:ai (ae w wr m aj))(n:Nat)(h:wpList prog ops Q rest (a.put op.dst (aG vs.toArray)) wr){b:TypeId}(z:op.op= .load b x:=by exact rfl)(hx:a.eval x= .pointer (some ⟨g,o,none⟩):=by exact rfl)(s:Y.row g t cs∈aj:=by repeat first|with_reducible exact mZ|refine mQ ?_)
 (q:Region.wanted op (yielded ops a.tmps)=true:=by exact rfl) (p:hU b n=true:=by exact rfl) (A:(cs.drop o).take n=vs:=by simp only[bH,ck,dJ,dr];exact rfl) (u:vs.length=n:=by exact rfl):wpList prog ops Q (op::rest) a wr:=by
 obtain⟨i,j⟩:=sY s
 exact AA e.U i j q b n z hx p vs A u h
def KH(e:ba L wr)(h:wpList prog ops Q rest (a.put op.dst v) wr){b:TypeId}(u:op.op= .load b x:=by exact rfl)(hx:a.eval x= .pointer (some ⟨g,o,none⟩):=by exact rfl)(s:Y.row g t cs∈L:=by repeat first|with_reducible exact mZ|refine mQ ?_)
 (q:Region.wanted op (yielded ops a.tmps)=true:=by exact rfl) (p:kx b=true:=by exact rfl) (hv:cs[o]?=some v:=by exact rfl):wpList prog ops Q (op::rest) a wr:=by
 obtain⟨i,j⟩:=sY s
 exact oI e i j q b u hx p hv h
def KI(e:ba L wr)(n:Nat)(h:wpList prog ops Q rest (a.put op.dst (aG vs.toArray)) wr){b:TypeId}(z:op.op= .load b x:=by exact rfl)(hx:a.eval x= .pointer (some ⟨g,o,none⟩):=by exact rfl)(s:Y.row g t cs∈L:=by repeat first|with_reducible exact mZ|refine mQ ?_)
 (q:Region.wanted op (yielded ops a.tmps)=true:=by exact rfl) (p:hU b n=true:=by exact rfl) (A:(cs.drop o).take n=vs:=by simp only[bH,ck,dJ,dr];exact rfl) (u:vs.length=n:=by exact rfl):wpList prog ops Q (op::rest) a wr:=by
 obtain⟨i,j⟩:=sY s
 exact NC e i j q b n z hx p vs A u h
end
section
variable{l l':List Oper}{Q:Exit->Act->aa->Prop}{S:aa->Prop}{n f f':Nat}{B B':List Bool}{M M':List ab}{d:List Deferred}{w w0:aa}{m:List Nat}{aj Li LA:List Y}{oi:Oper}{v:ab}{a:Act}
def ob(aj:List Y):List Nat->Option (List Y)
 |[]=>some []
 |i::t=>match aj[i]?,ob aj t with
  |some A,some r=>some (A::r)
  |_,_=>none
def LR{aj:List Y}:∀{b:List Nat} {Li:List Y},ob aj b=some Li->∀A∈Li,A∈aj
 |[],Li,h=>by unfold ob at h;cases h;intro A b;cases b
 |i::t,Li,h=>by
  unfold ob at h
  split at h
  ·rename_i B r e j
   cases h
   intro A b
   rcases bO.1 b with rfl|b
   ·exact cX e
   ·exact LR j A b
  ·cases h
def zq(e:ob aj p=some Li)(h:ae w0 w m aj):ba Li w:=λ A b=>h.ok A (LR e A b)
def bI(b:ai (ae w0 w m aj))(h:List Nat)(e:ob aj h=some Li:=by exact rfl):ba Li w:=zq e b.U
def tN(e:ai (ae w0 w [] aj))(h:ai (ba LA w0))(q:List Nat)(p:ob aj q=some Li:=by exact rfl)(j:Li++LA=I:=by first|(simp only[lR,jA];done)|(simp only[lR,jA];exact rfl)|exact rfl):ba I w:=λ A i=>by
 subst j;rcases eB.1 i with b|b
 ·exact zq p e.U A b
 ·exact e.U.bT h.U A b
def RG{T:Array ab}{id:Nat}(i:ai (ae w0 w m aj))(n:Nat)(u:List Nat)(h:∀b,ai (ae w0 b m aj)->ba Li b->ay prog l Q (ba Li) n n (Array.replicate l.length false) ⟨T,d⟩ b)(s:ob aj u=some Li:=by exact rfl)
 (hd:a=⟨T,d⟩:=by first|(simp only[zs,zt,aS,av,ax];done)|(simp only[zs,zt,aS,av,ax];exact rfl)|exact rfl) (q:prog.follows .mixedOrders=true:=by kernel_rfl) (p:(Region.noSelect l.toArray&&decide (n<l.length)&&Region.sinkB .any l.toArray n&&Region.chainB .any l.toArray n)=true:=by kernel_rfl):(Code.region id l.toArray true).wp prog Q a w:=hd▸
 ae.region i.U n (ba Li) q p (λ _ e=>zq s e) (λ b e j=>h b (Z e) j)
def ma{T:Array ab}{id:Nat}(q:ai (ae w0 w [] aj))(p:ai (ba LA w0))(n:Nat)(D:List Nat)(h:∀b,ai (ae w0 b [] aj)->ba I b->ay prog l Q (ba I) n n (Array.replicate l.length false) ⟨T,d⟩ b)(C:ob aj D=some Li:=by exact rfl)(u:Li++LA=I:=by first|(simp only[lR,jA];done)|(simp only[lR,jA];exact rfl)|exact rfl)
 (hd:a=⟨T,d⟩:=by first|(simp only[zs,zt,aS,av,ax];done)|(simp only[zs,zt,aS,av,ax];exact rfl)|exact rfl) (z:prog.follows .mixedOrders=true:=by kernel_rfl) (s:(Region.noSelect l.toArray&&decide (n<l.length)&&Region.sinkB .any l.toArray n&&Region.chainB .any l.toArray n)=true:=by kernel_rfl):(Code.region id l.toArray true).wp prog Q a w:=hd▸
 ae.region q.U n (ba I) z s (λ _ e A j=>by
  subst u
  rcases eB.1 j with i|i
  ·exact zq C e A i
  ·exact e.bT p.U A i) (λ b e j=>h b (Z e) j)
def Take.ld{g:Nat}{t:TypeId}{cs:List ab}{x:Operand}{o:Nat}{b:TypeId}(k:Tmp)(s:ba Li w)(h:Take p (ay prog l Q (ba Li) n f B'.toArray ⟨M'.toArray,d⟩ w))
 (u:l.toArray[i]?=some oi:=by exact rfl) (y3:oi.op= .load b x:=by exact rfl) (hd:oi.dst=some k:=by exact rfl)
 (y1:Region.wanted oi (yielded l.toArray M.toArray)=true:=by exact rfl)
 (y4:(⟨M.toArray,d⟩:Act).eval x= .pointer (some ⟨g,o,none⟩):=by exact rfl) (y2:Y.row g t cs∈Li:=by repeat first|with_reducible exact mZ|refine mQ ?_) (y5:kx b=true:=by exact rfl) (y6:cs[o]?=some v:=by exact rfl)
 (e:B.set i true=B':=by first|(simp only[av,ax];exact rfl)|(simp only[ff,hq,av,ax];exact rfl)|exact rfl) (q:M.set k v=M':=by first|(simp only[av,ax,bH,ck,dJ,dr];exact rfl)|exact rfl)
 (h1:i<n:=by decide) (h2:Region.free Region.Mode.any l.toArray B.toArray i=true:=by kernel_rfl) (h3:(Region.ready Region.Mode.any l.toArray B.toArray).contains i=true:=by kernel_rfl)
 (h4:∀(c:List PanicEntry) (a:Act) (w:aa),Q (Exit.panic c) (a.put oi.dst v) w->Q (Exit.panic c) a w:=by exact λ _ _ _ h=>h):
 Take ((i+2000)::p) (ay prog l Q (ba Li) n (f+1) B.toArray ⟨M.toArray,d⟩ w):=by
 obtain⟨j,z⟩:=sY y2
 exact L2 i k j b s h u hd y1 z y3 y4 y5 y6 e q h1 h2 h3 h4
def WR{g:Nat}{t:TypeId}{cs vs:List ab}{x:Operand}{o:Nat}{e:TypeId}{k:Tmp}(i b:Nat)(s:ba Li w)(h:ay prog l Q (ba Li) n f B'.toArray ⟨M'.toArray,d⟩ w)
 (u:l.toArray[i]?=some oi:=by exact rfl) (y3:oi.op= .load e x:=by exact rfl) (hd:oi.dst=some k:=by exact rfl)
 (y1:Region.wanted oi (yielded l.toArray M.toArray)=true:=by exact rfl)
 (y4:(⟨M.toArray,d⟩:Act).eval x= .pointer (some ⟨g,o,none⟩):=by exact rfl) (y2:Y.row g t cs∈Li:=by repeat first|with_reducible exact mZ|refine mQ ?_) (y5:hU e b=true:=by exact rfl)
 (y6:(cs.drop o).take b=vs:=by first|(simp only[bH,ck,dJ,dr];exact rfl)|exact rfl) (y7:vs.length=b:=by exact rfl)
 (p:B.set i true=B':=by first|(simp only[av,ax];exact rfl)|(simp only[ff,hq,av,ax];exact rfl)|exact rfl) (q:M.set k (aG vs.toArray)=M':=by first|(simp only[av,ax,bH,ck,dJ,dr];exact rfl)|exact rfl)
 (h1:i<n:=by decide) (h2:Region.free Region.Mode.any l.toArray B.toArray i=true:=by kernel_rfl) (h3:(Region.ready Region.Mode.any l.toArray B.toArray).contains i=true:=by kernel_rfl)
 (h4:∀(c:List PanicEntry) (a:Act) (w:aa),Q (Exit.panic c) (a.put oi.dst (aG vs.toArray)) w->Q (Exit.panic c) a w:=by exact λ _ _ _ h=>h):
 ay prog l Q (ba Li) n (f+1) B.toArray ⟨M.toArray,d⟩ w:=by
 obtain⟨j,z⟩:=sY y2
 exact W2 i k u hd (Yr y1 j z e b y3 y4 y5 vs y6 y7) s h p q h1 h2 h3 h4
def VV(p:List Nat)(e:ba Li w)(h:ay prog l Q (ba Li) n f' B'.toArray ⟨M'.toArray,d⟩ w)
 (j:ba Li w->ay prog l Q (ba Li) n f' B'.toArray ⟨M'.toArray,d⟩ w->Take p (ay prog l Q (ba Li) n f B.toArray ⟨M.toArray,d⟩ w):=by
  intro b i
  repeat first|refine Take.ld _ b ?_|refine Take.un _ b ?_|refine Take.va _ b ?_
  exact Take.nil i):ay prog l Q (ba Li) n f B.toArray ⟨M.toArray,d⟩ w:=j e h
def WT{b:Array Bool}(h:wpList prog l.toArray Q l' a w)(hd:l.drop n=l':=by simp only[bH,ck];exact rfl)(e:Region.seqB .any l.toArray (l.length-n) n b=true:=by kernel_rfl):ay prog l Q S n 0 b a w:=ay.tail e (hd▸h)
end
section
variable{l:List Oper}{Q:Exit->Act->aa->Prop}{n f:Nat}{B B':List Bool}{M M':List ab}{d:List Deferred}{w w0:aa}{m:List Nat}{aj cJ Li:List Y}{oi:Oper}{v:ab}{fn:FuncId}{vs:List ab}{c:Call}{K:Ending->aa->Prop}{r:Ending}{args:Array ab}
def KC(i:ai (ae w0 w m aj))(p:Calls prog fn args w λ e j=>e=r/\BW w j)(h:∀b,ai (ae w0 b m aj)->K r b):Calls prog fn args w K:=
 p.mono λ e b ⟨e,j⟩=>e▸h b (Z (i.U.below j))
def KV{S:aa->Prop}(i:Nat)(s:ie fn)(k:Tmp)(h:Calls prog fn vs.toArray w λ e b=>∃v,e=ao v/\S b/\ay prog l Q S n f B'.toArray ⟨(M.set k v).toArray,d⟩ b)
 (D:Region.ready .any l.toArray B.toArray=[i]:=by kernel_rfl) (A:i<n:=by decide) (C:l.toArray[i]?=some oi:=by exact rfl) (z:oi.guard=none:=by exact rfl) (hd:oi.dst=some k:=by exact rfl) (q:oi.op= .call c:=by exact rfl) (u:c.callee= .value (.func fn):=by exact rfl)
 (E:c.args.toList.mapM (fk ⟨M.toArray,d⟩)=some vs:=by exact rfl) (p:B.set i true=B':=by first|(simp only[av,ax];exact rfl)|(simp only[ff,hq,av,ax];exact rfl)|exact rfl):ay prog l Q S n (f+1) B.toArray ⟨M.toArray,d⟩ w:=
 ay.eL D A C z k hd q fn u s vs E (h.mono λ e F ⟨v,b,e,j⟩=>⟨v,b,e,by subst p;simpa only[aS] using j⟩)
def KW(p:ai (ae w0 w m aj))(j:ba Li w)(i:Nat)(C:ie fn){k:Tmp}(A:Calls prog fn vs.toArray w λ e q=>e=ao v/\BW w q)(h:∀b,ai (ae w0 b m aj)->ba Li b->ay prog l Q (ba Li) n f B'.toArray ⟨M'.toArray,d⟩ b)
 (H:Region.ready .any l.toArray B.toArray=[i]:=by kernel_rfl) (F:i<n:=by decide) (G:l.toArray[i]?=some oi:=by exact rfl) (E:oi.guard=none:=by exact rfl) (hd:oi.dst=some k:=by exact rfl) (z:oi.op= .call c:=by exact rfl) (D:c.callee= .value (.func fn):=by exact rfl)
 (I:c.args.toList.mapM (fk ⟨M.toArray,d⟩)=some vs:=by exact rfl) (s:B.set i true=B':=by first|(simp only[av,ax];exact rfl)|(simp only[ff,hq,av,ax];exact rfl)|exact rfl) (u:M.set k v=M':=by simp only[av,ax];exact rfl):ay prog l Q (ba Li) n (f+1) B.toArray ⟨M.toArray,d⟩ w:=
 ay.eL H F G E k hd z fn D C vs I (A.mono λ e b ⟨q,e⟩=>⟨v,q,j.st e,by subst s;subst u;simpa only[aS] using h b (Z (p.U.below e)) (j.st e)⟩)
end
section
section
variable{w w0:aa}{m:List Nat}{aj cJ:List Y}{A A':Y}{fn:FuncId}{K:Ending->aa->Prop}{r:Ending}{args:Array ab}
def KQ(g:Calls prog fn args w λ e i=>e=r/\w=i)(h:K r w):Calls prog fn args w K:=g.mono λ e j ⟨b,c⟩=>b▸c▸h
def KP(c:ai (ae w0 w m aj))(i:Calls prog fn args w λ e g=>e=r/\bk A w g A')(h:∀b,ai (ae w0 b m cJ)->K r b)(j:eh A A' aj cJ:=by repeat first|with_reducible exact eh.head _|apply eh.tail):Calls prog fn args w K:=
 i.mono λ e b ⟨e,g⟩=>e▸h b (Z (c.U.rep j g))
end
section
variable{l l':List Oper}{Q:Exit->Act->aa->Prop}{S:aa->Prop}{n f f':Nat}{B B':List Bool}{M M':List ab}{d:List Deferred}{w w0:aa}{m:List Nat}{aj Li LA:List Y}{oi:Oper}{v:ab}{a:Act}
def WB{k:Tmp}(i:Nat)(b:Bool)(j:S w)(h:ay prog l Q S n f B'.toArray ⟨M'.toArray,d⟩ w)
 (p:l.toArray[i]?=some oi:=by exact rfl) (hd:oi.dst=some k:=by exact rfl)
 (o:YieldsIf prog l.toArray S oi (aK b) ⟨M.toArray,d⟩:=by exact Or.inl ⟨by kernel_rfl,by intro s q;go_simp;done⟩)
 (e:B.set i true=B':=by first|(simp only[av,ax];exact rfl)|(simp only[ff,hq,av,ax];exact rfl)|exact rfl) (g:M.set k (aK b)=M':=by first|(simp only[av,ax,bH,ck,dJ,dr];exact rfl)|exact rfl)
 (h1:i<n:=by decide) (h2:Region.free Region.Mode.any l.toArray B.toArray i=true:=by kernel_rfl) (h3:(Region.ready Region.Mode.any l.toArray B.toArray).contains i=true:=by kernel_rfl)
 (h4:∀(c:List PanicEntry) (a:Act) (w:aa),Q (Exit.panic c) (a.put oi.dst (aK b)) w->Q (Exit.panic c) a w:=by exact λ _ _ _ h=>h):
 ay prog l Q S n (f+1) B.toArray ⟨M.toArray,d⟩ w:=W2 i k p hd o j h e g h1 h2 h3 h4
end
end
variable{g n:Nat}
def run_max_int2{P:Program}(w:aa)(b:Array TypeId)(t:TypeId)(k1 k2:IntKind)(x y:Int)(n:Int)(a:max x y=n):(Builtin.max_ b t #[.int k1 x,.int k2 y]).run P w= .ok (.int k1 n) w:=by
 subst a;simp[Builtin.max_,Builtin.max2];have e:∀p q:Int,(if p<q then q else p)=max p q:=λ p q=>by rw[Int.max_def];split<;>split<;>omega
 simp only[e]
def bo(a b:Nat):Nat:=min (a+b) 18446744073709551615
def tC(a b:Nat)(i:a<18446744073709551616)(j:b<18446744073709551616)(w:aa):Calls prog 139 #[U (a:Int),U (b:Int)] w λ e g=>e=ao (U ((bo a b:Nat):Int))/\w=g:=by
 have f:∀d,(callFunc 116 #[U (a:Int),U (b:Int),U 0]).run prog d= .ok (.value (aM #[U (((a+b)%18446744073709551616:Nat):Int),U (((a+b)/18446744073709551616:Nat):Int)])) d:=λ d=>Gu a b 0 zD d;by_cases h:a+b<18446744073709551616
 ·have g:(a+b)%18446744073709551616=a+b:=bY h;have d:(a+b)/18446744073709551616=0:=F4 h;have e:bo a b=a+b:=by unfold bo;omega
  rw[e];simp only[g,d] at f;generalize a+b=c at*
  go_enter func139,ntmps139
  go_wp2
  go_ret
  exact⟨rfl,rfl⟩
 ·have d:(a+b)/18446744073709551616=1:=by omega
  have e:bo a b=18446744073709551615:=by unfold bo;omega
  rw[e];simp only[d] at f;generalize(a+b)%18446744073709551616=c at*
  go_enter func139,ntmps139
  go_wp2
  go_ret
  exact⟨rfl,rfl⟩
def spread(s d:Nat):Nat:=if s=18446744073709551615 then d else d%(s+1)
def ZM(s d:Nat)(f:s<18446744073709551616)(hd:d<18446744073709551616)(w:aa):Calls prog 309 #[U (s:Int),U (d:Int)] w λ e b=>e=ao (U ((spread s d:Nat):Int))/\w=b:=by
 by_cases h:s=18446744073709551615
 ·have a:spread s d=d:=by unfold spread;rw[au h]
  have b:((s:Int)==18446744073709551615)=true:=by rw[gb];omega
  rw[a]
  go_enter func309,ntmps309
  go_wp2
  go_ret
  exact⟨rfl,rfl⟩
 ·have a:spread s d=d%(s+1):=by unfold spread;rw[ar h]
  have b:((s:Int)==18446744073709551615)=false:=by rw[dP];omega
  have c:IntKind.u64.wrap ((s:Int)+1)=(s:Int)+1:=by rw[tV];omega
  have e:(s:Int)+1<=18446744073709551615:=by omega
  rw[a]
  go_enter func309,ntmps309
  go_wp2
  go_ret
  exact⟨rfl,rfl⟩
def lF:Nat->Nat->Nat->Nat
 |n,0,a=>min n a
 |n,k+1,a=>if a<=n\/n=0 then min n a else lF (bo n n) k a
def Zg(b:Nat)(k:Nat)(m:Nat)(l:b<18446744073709551616)(u:k<=1000000)(x:m<18446744073709551616)(w:aa):Calls prog 308 #[U (b:Int),O (k:Int),U (m:Int)] w λ e a=>e=ao (U ((lF b k m:Nat):Int))/\w=a:=by
 obtain⟨R,f⟩:∃R,lF b k m=R:=⟨_,rfl⟩;rw[f];have i:=Z f;have y:∀a,(Builtin.max_ #[3,3] 3 #[O 0,O (k:Int)]).run prog a= .ok (O (k:Int)) a:=λ a=>run_max_int2 a _ _ _ _ _ _ _ W
 go_enter func308,ntmps308
 go_wp2
 go_step3
 go_wp2
 go_step3
 go_wp2
 go_loop [7,11] (λ d c=>∃n j:Nat,j<=k/\n<18446744073709551616/\d=U (n:Int)/\c=O (j:Int)/\lF n (k-j) m=R) (λ _ c=>k-(intOf c).toNat)
 case atStart=>exact⟨b,0,by omega,l,rfl,rfl,i.U⟩
 case round=>
  obtain⟨n,j,t,h,rfl,rfl,c⟩:=hrel;by_cases v:j<k
  ·obtain⟨q,r⟩:∃q,k-j=q+1:=⟨k-j-1,by omega⟩;rw[r,lF] at c;by_cases g:m<=n\/n=0
   ·rw[au g] at c;have d:=Z c;have p:∀a,(Builtin.min_ #[46,46] 46 #[U (n:Int),U (m:Int)]).run prog a= .ok (U (R:Int)) a:=λ a=>run_min_int2 a _ _ _ _ _ _ _ (by rw[<-d.U];omega);by_cases z:m<=n
    ·have e:(m:Int)<=(n:Int):=by omega
     go_wp2
     try rw[kL]
     go_ret
     exact⟨rfl,rfl⟩
    ·obtain rfl:n=0:=by omega
     have e:¬(m:Int)<=0:=by omega
     go_wp2
     try rw[kL]
     go_ret
     exact⟨by rw[show R=0 by rw[<-d.U];omega];rfl,rfl⟩
   ·rw[ar g] at c;have e:¬(m:Int)<=(n:Int):=by omega
    have s:((n:Int)==0)=false:=by rw[dP];omega
    have d:=Z (show lF (bo n n) (k-(j+1)) m=R by rw[show k-(j+1)=q by omega];exact c);have o:bo n n<18446744073709551616:=by unfold bo;omega
    go_wp2_with fail
    refine KQ (tC n n h h _) ?_
    go_wp2
    go_round
    case rel=>exact⟨bo n n,j+1,by omega,o,rfl,by go_num,d.U⟩
    case measure=>simp[intOf];omega
  ·obtain rfl:j=k:=by omega
   rw[qm,lF] at c;have d:=Z c;have p:∀a,(Builtin.min_ #[46,46] 46 #[U (n:Int),U (m:Int)]).run prog a= .ok (U (R:Int)) a:=λ a=>run_min_int2 a _ _ _ _ _ _ _ (by rw[<-d.U];omega)
   go_wp2
   try rw[kL]
   go_ret
   exact⟨rfl,rfl⟩
structure RC where
 base:Nat
 j:Nat
 span:Nat
 i:Nat
 room:Nat
abbrev RC.cells(c:RC):List ab:=[U (c.base:Int),U (c.j:Int),U (c.span:Int),O (c.i:Int),O (c.room:Int)]
abbrev RC.val(c:RC):ab:=aG #[U (c.base:Int),U (c.j:Int),U (c.span:Int),O (c.i:Int),O (c.room:Int)]
structure RC.Ok(c:RC):Prop where
 base:c.base<18446744073709551616
 j:c.j<18446744073709551616
 span:c.span<18446744073709551616
 i:c.i<1000000
 room:c.room<1000000
def LL:∀(k b m:Nat),m<18446744073709551616->lF b k m<18446744073709551616
 |0,b,m,h=>by unfold lF;omega
 |k+1,b,m,h=>by
  unfold lF
  split
  ·omega
  ·exact LL k _ m h
def ZN(hd:n<18446744073709551616):spread g n<18446744073709551616:=by
 unfold spread;split
 ·exact hd
 ·exact ui (Nat.mod_le _ _) hd
def kz(a b:Nat):bo a b<18446744073709551616:=by unfold bo;omega
def lL(c:RC)(k d:Nat):Nat:=bo (lF c.base k c.j) (spread c.span d)
def abT(c:RC)(e:c.Ok)(k:Nat)(n:k<=1000000)(d:Nat)(hd:d<18446744073709551616)(w:aa):CB 288 #[c.val,O (k:Int),U (d:Int)] w (U ((lL c k d:Nat):Int)):=by
 obtain⟨g,h,i,j,l⟩:=e;have a:=Z (ae.start w [])
 go_enter func288,ntmps288
 go_upto_region 1 with((refine KB a 48 3 (c.cells) λ f o m a=>?_))
 refine RG a 11 [0] λ p a b=>?_;refine VV [0,2001,2,3,2004,6,2007,8] b ?_;refine KV 5 (en 308) 12 ?_;refine KQ (Zg _ _ _ W W W _) ?_;refine⟨_,rfl,bI a [0],?_⟩;simp only[av,ax];refine KV 9 (en 309) 16 ?_;refine KQ (ZM _ _ W W _) ?_;refine⟨_,rfl,bI a [0],?_⟩;simp only[av,ax];refine KV 10 (en 139) 17 ?_;refine KQ (tC _ _ (LL _ _ _ W) (ZN W) _) ?_;refine⟨_,rfl,bI a [0],?_⟩;simp only[av,ax];refine WT ?_
 go_wp2
 go_ret
 exact⟨rfl,a.U.aq⟩
def RD.jO(x:RD):HD:=⟨x.cx,x.bW.cx,x.bW.bW.cA 32,(x.bW.bW.bu 32).cA 64⟩
def RD.jP(x:RD):RD:=((x.bW.bW.bu 32).bu 64)
def Gh{w:aa}{x:RD}(h:(Y.rd g x).P w):Calls prog 150 #[pV g] w λ r c=>r=ao (x.jO).val/\bk (Y.rd g x) w c (Y.rd g x.jP):=by
 have a:=Z (ae.self h)
 go_enter func150,ntmps150
 go_wp2_with(first|refine KA a _ 2 oo λ f d j a=>?_|(go_at_call 47;refine(qp (a.U.in (by first|exact mZ|exact mQ mZ|exact mQ (mQ mZ)))).mono ?_;rintro e c ⟨rfl,b⟩;replace a:=Z (a.U.rep (by first|exact .head _|exact .tail _ (.head _)|exact .tail _ (.tail _ (.head _))) b))|refine KA a _ 3 oo λ i d k a=>?_|refine KS a λ d a=>?_|(go_at_call 13;refine(se (a.U.in (by first|exact mZ|exact mQ mZ|exact mQ (mQ mZ))) _).mono ?_;rintro e c ⟨rfl,b⟩;replace a:=Z (a.U.rep (by first|exact .head _|exact .tail _ (.head _)|exact .tail _ (.tail _ (.head _))) b))|refine KT a 4 ?_)
 exact ha a.U 1 rfl 59 4 rfl rfl V rfl rfl ⟨rfl,(a.U.tail.tail).iL⟩
def lf(n k:Nat):Nat:=n/2^k%256
def fp(n:Nat):af:=⟨#[UInt8.ofNat (lf n 56),UInt8.ofNat (lf n 48),UInt8.ofNat (lf n 40),UInt8.ofNat (lf n 32),UInt8.ofNat (lf n 24),UInt8.ofNat (lf n 16),UInt8.ofNat (lf n 8),UInt8.ofNat (lf n 0)]⟩
def LM(n:Nat)(e:n<18446744073709551616)(w:aa):CB 268 #[U (n:Int)] w (ad (fp n)):=by
 have a:=Z (ae.start w [])
 go_enter func268,ntmps268
 go_wp2_with(refine KA a _ 3 Nd λ c b d a=>?_)
 refine M0 9 ?_;rw[gG]
 go_wp2_with(refine KS a λ b a=>?_)
 rw[gG]
 go_wp2_with(refine KS a λ b a=>?_)
 rw[gG]
 go_wp2_with(refine KS a λ b a=>?_)
 rw[gG]
 go_wp2_with(refine KS a λ b a=>?_)
 rw[gG]
 go_wp2_with(refine KS a λ b a=>?_)
 rw[gG]
 go_wp2_with(refine KS a λ b a=>?_)
 rw[gG]
 go_wp2_with(refine KS a λ b a=>?_)
 rw[gG]
 go_wp2_with(refine KS a λ b a=>?_)
 rw[gG]
 go_wp2_with((refine Cv a.U 0 rfl rfl rfl rfl (fp n).data.toList ?_ rfl ?_;·simp only[fp,bB,lf,bZ,eg,bH,dJ,dr];have e0:∀x:Nat,x%256=(UInt8.ofNat (x%256)).toNat:=(λ x=>by simp);simp only[<-e0,Nat.reducePow,rW];congr 1;(congr 1;omega)))
 go_ret
 exact⟨rfl,a.U.aq⟩
def HD.right(h:HD):Bool:=decide (1<=h.size)&&decide (h.size<=1099511627776)&&decide (h.time<=1099511627776)&&decide (h.aE.size=32)&&decide (h.a.size=64)
def vq(h:HD)(w:aa):CB 153 #[h.val] w (aK h.right):=by
 obtain⟨R,b⟩:∃R,h.right=R:=⟨_,rfl⟩;rw[b];unfold HD.right at b;have d1:decide (1<=(h.size:Int))=decide (1<=h.size):=by rw[bw];simp;omega
 have d2:decide ((h.size:Int)<=1099511627776)=decide (h.size<=1099511627776):=by rw[bw];simp;omega
 have d3:decide ((h.time:Int)<=1099511627776)=decide (h.time<=1099511627776):=by rw[bw];simp;omega
 have d4:((h.aE.size:Int)==32)=decide (h.aE.size=32):=by rw[bw];simp;omega
 have d5:((h.a.size:Int)==64)=decide (h.a.size=64):=by rw[bw];simp;omega
 generalize decide (1<=h.size)=e at*;generalize decide (h.size<=1099511627776)=f at*;generalize decide (h.time<=1099511627776)=g at*;generalize decide (h.aE.size=32)=i at*;generalize decide (h.a.size=64)=j at*;have a:=Z (ae.start w []);have d:=Z b
 go_enter func153,ntmps153
 cases e;rotate_left
 cases f;rotate_left
 cases g;rotate_left
 cases i;rotate_left
 cases j
 all_goals
  have c:=d.U;simp only[sB] at c;subst c
  go_wp2_with(first|refine KB a 59 1 (h.cells) λ k m l a=>?_|refine Kl a ?_)
  go_ret
  exact⟨rfl,a.U.aq⟩
def HD.text(h:HD):af:=⟨#[83,84,72]⟩++fp h.size++fp h.time++h.aE
def KE(n:Nat):(fp n).size=8:=rfl
def IQ(h:HD)(l:h.Ok)(t:h.aE.size<=1000000)(w:aa):CB 213 #[h.val] w (ad h.text):=by
 obtain⟨i,j⟩:=l;have s1:=KE h.size;have s2:=KE h.time;have p1:=LM h.size i;have p2:=LM h.time j;have k:h.text=⟨#[83,84,72]⟩++fp h.size++fp h.time++h.aE:=rfl;generalize fp h.size=d at*;generalize fp h.time=q2 at*;have z1:((⟨#[83,84,72]⟩:af)++d).size=11:=by rw[gX,s1];rfl
 have z2:((⟨#[83,84,72]⟩:af)++d++q2).size=19:=by rw[gX,z1,s2]
 have r:(9223372036854775807<19+h.aE.size)=False:=by simp;omega
 have f:=Z p1;have g:=Z p2;have e:=Z k;have a:=Z (ae.start w [])
 go_enter func213,ntmps213
 go_upto_region 1 with(refine KB a 59 1 (h.cells) λ c u s a=>?_)
 refine ae.region a.U (n:=11) (S:=ba [Y.row c 59 h.cells]) V V (λ q o=>(aX (o.in (by first|exact .head _)) bg)) (λ q m b=> ?_);replace a:=Z m;refine VV [0,2001,4,2005,8,2009] b ?_;refine KV 2 (en 268) 5 ?_;refine KC a (f.U _) λ p a=>?_;refine⟨_,rfl,(aX (a.U.in (by first|exact .head _)) bg),?_⟩;simp only[av,ax];have b:ba [Y.row c 59 h.cells] _:=(aX (a.U.in (by first|exact .head _)) bg);refine VV [3] b ?_;refine KV 6 (en 268) 9 ?_;refine KC a (g.U _) λ p a=>?_;refine⟨_,rfl,(aX (a.U.in (by first|exact .head _)) bg),?_⟩;simp only[av,ax];have b:ba [Y.row c 59 h.cells] _:=(aX (a.U.in (by first|exact .head _)) bg);refine VV [7,10] b ?_;refine WT ?_
 go_wp2
 go_ret
 exact⟨by rw[e.U];rfl,a.U.aq⟩
section
open Go.Shelf
def lj(a b:Nat):Int:=if a<b then-1 else if b<a then 1 else 0
def G8(a b:Nat)(w:aa):Calls prog 261 #[U (a:Int),U (b:Int)] w λ e d=>e=ao (O (lj a b))/\w=d:=by
 rcases F6 a b with h|rfl|h
 ·have c:lj a b= -1:=by unfold lj;rw[au h]
  have d:(a:Int)<(b:Int):=by omega
  rw[c]
  go_enter func261,ntmps261
  go_wp2
  go_ret
  exact⟨rfl,rfl⟩
 ·have c:lj a a=0:=by unfold lj;rw[ar W,ar W]
  rw[c]
  go_enter func261,ntmps261
  go_wp2
  go_ret
  exact⟨rfl,rfl⟩
 ·have c:lj a b=1:=by unfold lj;rw[ar W,au h]
  have d:¬(a:Int)<(b:Int):=by omega
  have e:(b:Int)<(a:Int):=by omega
  rw[c]
  go_enter func261,ntmps261
  go_wp2
  go_ret
  exact⟨rfl,rfl⟩
def nS:List Int->Int
 |[]=>0
 |x::l=>if x≠0 then x else nS l
def J7(g:Nat)(a:List Int)(w:aa)(hx:a.length<=100)(k:ah w g 3 (a.map (Value.int .i64)).toArray):Calls prog 259 #[ag (some ⟨g,0,none⟩) a.length a.length] w λ e b=>e=ao (O (nS a))/\w=b:=by
 obtain⟨R,d⟩:∃R,nS a=R:=⟨_,rfl⟩;rw[d];have h:=Z d;have f:=Z k
 go_enter func259,ntmps259
 go_wp2
 go_loop [8] (λ b=>∃j:Nat,j<=a.length/\b=O (j:Int)/\nS (a.drop j)=R) (λ b=>a.length-(intOf b).toNat)
 case atStart=>exact⟨0,by omega,rfl,h.U⟩
 case round=>
  obtain⟨j,n,rfl,b⟩:=hrel;by_cases e:j<a.length
  ·rw[iQ e,nS] at b;have m:w.cell? ⟨g,j,none⟩=some (O a[j]):=by
    rw[f.U.cell];simp[e]
   generalize a[j]=x at*;by_cases c:x=0
   ·subst c;rw[ar zS] at b;have i:=Z b
    go_wp2
    go_round
    case rel=>exact⟨j+1,by omega,by go_num,i.U⟩
    case measure=>simp[intOf];omega
   ·rw[au c] at b;have l:(x==0)=false:=by rw[dP];exact c
    subst b
    go_wp2
    go_ret
    exact⟨rfl,rfl⟩
  ·rw[kc W,nS] at b;subst b
   go_wp2
   go_ret
   exact⟨rfl,rfl⟩
def Tryz.Jc:Go.Shelf.Ren:=⟨λ|106=>260|213=>289|265=>310|n=>n,λ|9=>9|3=>3|n=>n,λ|n=>n⟩
def Tryz.UB:Go.Proofs.Lays.n106 prog Tryz.Jc:=⟨by kernel_rfl,dW func260,dW func289,dW func310,Gk,Tryz.isAgg3,Tryz.sizeOf3,Gn,df,Tryz.isAgg9,Tryz.sizeOf9,Gp⟩
def PH:Tryz.Jc.f 106=260:=by kernel_rfl
def G9(a b:af)(w:aa):Calls prog 260 #[ad a,ad b] w λ e c=>e=ao (O (Lib.compareBytes a.data.toList b.data.toList))/\w=c:=by
 have h:=Any.strings_Compare Tryz.UB a b w;rw[PH] at h;exact h.mono λ _ _ ⟨c,d⟩=>⟨c,d.symm⟩
def HD.texts(a b:HD):Int:=nS [Lib.compareBytes a.aE.data.toList b.aE.data.toList,Lib.compareBytes a.a.data.toList b.a.data.toList]
def aay(a b:HD)(e f:Nat)(w:aa)(h:(Y.row e 59 a.cells).P w)(j:(Y.row f 59 b.cells).P w):CB 258 #[pV e,pV f] w (O (a.texts b)):=by
 have d:=Z (aX h (aX j bg));have c:=Z (ae.start w [])
 go_enter func258,ntmps258
 go_upto_region 1 with fail
 refine ma c d 12 [] λ o c k=>?_;refine VV [0,2001,2,2003,5,2006,7,2008] k ?_;refine KV 4 (en 260) 7 ?_;refine KQ (G9 _ _ _) ?_;refine⟨_,rfl,c.U.bT d.U,?_⟩;simp only[av,ax];refine KV 9 (en 260) 12 ?_;refine KQ (G9 _ _ _) ?_;refine⟨_,rfl,c.U.bT d.U,?_⟩;simp only[av,ax];refine ay.make c.U (i:=10) V zD rfl rfl 13 rfl (some 2) 3 ?adx ?S1 ?_;case S1=>(go_simp;(refine⟨rfl,?_⟩;rfl))
 intro g n m l;replace c:=Z l;refine⟨c.U.bT d.U,?_⟩;simp only[bc];simp only[aS,av,ax];refine KV 11 (en 259) 14 ?_;refine KQ (J7 g [_,_] _ zS (c.U.in (by exact .head _))) ?_;refine⟨_,rfl,c.U.bT d.U,?_⟩;simp only[av,ax];refine WT ?_
 go_wp2
 go_ret
 exact⟨rfl,c.U.aq⟩
end
variable{a:Act}{H h:HD}{o:Oper}{X:Operand}
def uP{a b:af}:a.toList=b.toList↔a=b:=by
 constructor
 ·intro h;rw[kI,kI] at h;exact pZ (ju h)
 grind
def HD.eq_iff:h=H↔((h.size:Int)=(H.size:Int)/\(h.time:Int)=(H.time:Int)/\h.aE.toList=H.aE.toList/\h.a.toList=H.a.toList):=by
 obtain⟨a,b,c,d⟩:=h;obtain⟨e,f,g,i⟩:=H;simp only[HD.mk.injEq,uP];grind
def Y3(p q:HD)(o:Oper)(a:Act)(x y:Operand)(f:o.op= .binOp .eql 59 x y 59)(hx:a.eval x=p.val)(g:a.eval y=q.val)(w:aa):(execOp a.eval o).run prog w= .ok (.value (aK (decide (p=q)))) w:=by
 unfold execOp;simp only[f,hx,g]
 go_simp
 by_cases b:(p.size:Int)=(q.size:Int)
 ·by_cases c:(p.time:Int)=(q.time:Int)
  ·by_cases d:p.aE.toList=q.aE.toList
   ·by_cases e:p.a.toList=q.a.toList
    ·have h:p=q:=HD.eq_iff.2 ⟨b,c,d,e⟩;grind
    ·have h:¬p=q:=by grind
     grind
   ·have h:¬p=q:=by grind
    grind
  ·have h:¬p=q:=by grind
   grind
 ·have h:¬p=q:=by grind
  grind
def rO{ops:Array Oper}{rest:List Oper}{w:aa}{Q:Exit->Act->aa->Prop}(p q:HD)(b:Region.wanted o (yielded ops a.tmps)=true){y:Operand}(c:o.op= .binOp .eql 59 X y 59)(hx:a.eval X=p.val)(d:a.eval y=q.val)
 (f:wpList prog ops Q rest (a.put o.dst (aK (decide (p=q)))) w):wpList prog ops Q (o::rest) a w:=by
 refine eF b λ K e=> ?_
 unfold Oper.wp
 rw[Y3 p q o a X y c hx d w,jC]
 grind
def HD.ahead(a b:HD):Int:=if a=b then 0 else nS [lj a.size b.size,lj a.time b.time,a.texts b]
def SO(a b:HD)(w:aa):CB 211 #[a.val,b.val] w (O (a.ahead b)):=by
 have c:=Z (ae.start w []);by_cases d:a=b
 ·have f:a.ahead b=0:=by unfold HD.ahead;rw[au d]
  rw[f];subst d
  go_enter func211,ntmps211
  go_wp2_with(first|refine KB c 59 2 (a.cells) λ h e m c=>?_|refine KB c 59 3 (a.cells) λ k e n c=>?_|refine KT c 4 ?_|refine rO a a rfl rfl rfl rfl ?_;rw[show decide (a=a)=true by simp])
  go_ret
  exact⟨rfl,c.U.aq⟩
 ·have f:a.ahead b=nS [lj a.size b.size,lj a.time b.time,a.texts b]:=by unfold HD.ahead;rw[ar d]
  rw[f];have g:=Z d
  go_enter func211,ntmps211
  go_upto_region 4 with(first|refine KB c 59 2 (a.cells) λ h e m c=>?_|refine KB c 59 3 (b.cells) λ k e n c=>?_|refine KT c 4 ?_|refine rO a b rfl rfl rfl rfl ?_;rw[bm g.U])
  refine RG c 14 [1,0] λ r c l=>?_;refine VV [0,2001,2,2003,5,2006,7,2008,10] l ?_;refine KV 4 (en 261) 14 ?_;refine KQ (G8 _ _ _) ?_;refine⟨_,rfl,bI c [1,0],?_⟩;simp only[av,ax];refine KV 9 (en 261) 19 ?_;refine KQ (G8 _ _ _) ?_;refine⟨_,rfl,bI c [1,0],?_⟩;simp only[av,ax];refine ay.Pt (i:=11) V zD rfl rfl 21 rfl rfl rfl 258 rfl (en 258) _ rfl ?_;refine KC c (aay a b _ _ _ (c.U.in (by exact .tail _ (.head _))) (c.U.in (by exact .head _))) λ q c=>?_;refine⟨_,rfl,bI c [1,0],?_⟩;simp only[aS,av,ax];refine ay.make c.U (i:=12) V zD rfl rfl 22 rfl (some 3) 3 ?ady ?S2 ?_;case S2=>(go_simp;(refine⟨rfl,?_⟩;rfl))
  intro j e p o;replace c:=Z o;refine⟨bI c [2,1],?_⟩;simp only[bc];simp only[aS,av,ax];refine KV 13 (en 259) 23 ?_;refine KQ (J7 j [_,_,_] _ zS (c.U.in (by exact .head _))) ?_;refine⟨_,rfl,bI c [2,1],?_⟩;simp only[av,ax];refine WT ?_
  go_wp2
  go_ret
  exact⟨rfl,c.U.aq⟩
variable{k:Nat}
def su{a b:af}(h:a.data.toList=b.data.toList):a=b:=pZ (ju h)
def qE{a b:af}(h:a.data.toList=b.data.toList):a=b:=su h
def bh(l:List af):List ab:=l.map Value.string
def aaa(l:List af):(bh l).length=l.length:=by simp[bh]
def zz(a b:List af):bh (a++b)=bh a++bh b:=by simp[bh]
def aab(l:List af):∀u∈bh l,u.oneCell'=true:=by
 intro u a;simp only[bh,eH] at a;obtain⟨_,_,rfl⟩:=a;rfl
def MY:(prog.info? 9).map (λ i=>(i.zero,i.size,i.bytes))=some (some (ad ⟨#[]⟩),1,16):=by kernel_rfl
def bq(w:aa)(v:ab)(L:List af):Prop:=∃(A:Option Addr) (a:Nat),v=ag A L.length a/\L.length<=maxLen/\∀i (h:i<L.length),∃b o,A=some ⟨b,o,none⟩/\(b<w.heap.size/\L.length<=a)/\w.cell? ⟨b,o+i,none⟩=some (ad L[i])
def bq.below{w d:aa}{v:ab}{L:List af}{B:Nat}(h:bq w v L)(c:Below B w d)(j:w.heap.size=B):bq d v L:=by
 obtain⟨A,e,n,m,k⟩:=h;refine⟨A,e,n,m,λ i l=> ?_⟩;obtain⟨b,o,f,a,g⟩:=k i l;exact⟨b,o,f,⟨kS a.1 c.size,a.2⟩,qH c j g⟩
def il(base:Nat)(w:aa)(v:ab)(L:List af):Prop:=w.ownsRow base 9 1 v L.length (bh L)
def il.read{base:Nat}{w:aa}{v:ab}{L:List af}(h:il base w v L)(c:L.length<=maxLen):bq w v L:=by
 rcases h.2 with⟨a,d⟩|⟨g,e,j,a,l,f,d,m,k,n⟩
 ·exact⟨none,0,by grind,c,λ i b=>by omega⟩
 ·refine⟨some ⟨g,0,none⟩,e,a,c,λ i b=>⟨g,0,rfl,⟨(mT.1 f).1,d⟩,?_⟩⟩;subst a;have:=h.cells rfl i (ad L[i]) (by simp[bh,b]);rw[gp] at this;omega
def il.nil(a:Nat)(w:aa):il a w (ag none 0 0) []:=di _ _ _ _
def il.new{w:aa}(a:g<=w.heap.size):il g (w.alloc (.cells #[] 9)) (ag (some ⟨w.heap.size,0,none⟩) 0 0) []:=
 sj w #[] 0 a zD rfl
def bq.src{w:aa}{v:ab}{L:List af}(h:bq w v L):Src prog 1 64 v L.length (bh L) w:=by
 obtain⟨A,i,rfl,k,d⟩:=h;cases L with
 |nil=>
  cases A with
  |none=>exact Src.ofNil w qy _
  |some a=>exact qw w qy _ _ _ _ rfl (λ j u c=>by simp[bh] at c) (by intro u c;simp[bh] at c)
 |cons x l=>
  obtain⟨b,o,rfl,_,_⟩:=d 0 zS;refine qw w qy _ _ _ _ (by simp[bh]) (λ j u c=> ?_) (aab _);have e:j<(x::l).length:=by
   have:=cw.1 c;obtain⟨h,_⟩:=this;rw[aaa] at h;exact h
  obtain⟨g,m,a,_,f⟩:=d j e;injection a with a;injection a with e1 e2 _;subst e1 e2;rw[gp,f];simp only[bh,ef,aU e,A1] at c;exact c
def B1{w:aa}{v:ab}{L:List af}(h:bq w v L)(y:L.length<=20000000):
 Calls prog 80 #[v] w λ e a=>(∃d,e=ao d/\il w.heap.size a d L)/\BW w a:=by
 obtain⟨u,m,r,s,t⟩:=iB MY
 have B:=h.src
 have j:=h
 obtain⟨A,c,rfl,z,g⟩:=h
 cases A with
 |none=>
  have a:L=[]:=by
   cases L with
   |nil=>rfl
   |cons x l=>obtain⟨b,o,f,_⟩:=g 0 zS;cases f
  subst a
  have p:=λ e=>tW (P:=prog) e 64 9 none 0 c 0 0 qy
  go_enter func80,ntmps80
  go_wp2
  go_ret
  exact⟨⟨_,rfl,il.nil _ _⟩,bp _ _⟩
 |some a=>
  have p:=λ e=>tW (P:=prog) e 64 9 (some a) L.length c 0 0 qy
  have q:Src prog 1 64 (ag (some a) L.length c) L.length (bh L) (w.alloc (.cells #[] 9)):=(j.below (bJ w _) rfl).src
  have n:(w.alloc (.cells #[] 9)).ownsRow w.heap.size 9 1 (ag (some ⟨w.heap.size,0,none⟩) 0 0) 0 []:=il.new (aQ w.heap.size)
  go_enter func80,ntmps80
  go_wp2_with(at_builtin;refine mM rfl _ _ 64 64 rfl w.heap.size 9 u _ 1 16 qy m r s t rfl _ _ _ rfl n _ L.length (bh L) rfl q W W zS ?_)
  intro d x o i C
  have f:BW w x:=(bJ w (.cells #[] 9)).grown i zS (by intro k l;simp[Value.ownBlock] at l;omega)
  have b:=Z o;have e:=Z f
  go_wp2
  go_ret
  exact⟨⟨_,rfl,b.U⟩,e.U⟩
def qt(L M:List af)(k:Nat):Prop:=L.take k=M.take k
def qt.succ{L M:List af}(h:qt L M k)(h1:k<L.length)(h2:k<M.length)(e:L[k]=M[k]):qt L M (k+1):=by
 unfold qt at h⊢;rw[eC h1,eC h2,h,e]
def Zd{w:aa}{v u:ab}{L M:List af}(h:bq w v L)(k:bq w u M):
 Calls prog 240 #[v,u] w λ e a=>e=ao (aK (decide (L=M)))/\∃n,a=w.drewN n:=by
 obtain⟨A,H,rfl,d,b⟩:=h
 obtain⟨G,I,rfl,i,c⟩:=k
 have Q:L.length<=9223372036854775807:=d
 have S:M.length<=9223372036854775807:=i
 by_cases f:L.length=M.length
 ·obtain⟨R,a⟩:∃R,decide (L=M)=R:=⟨_,rfl⟩
  rw[a]
  have g:=Z a;have p:=Z b;have q:=Z c;have r:=Z f
  have C:((L.length:Int) !=(M.length:Int))=false:=by rw[sx];omega
  clear a b c d i f
  go_enter func240,ntmps240
  go_wp2
  go_loopw [13] (λ i wr=>∃j:Nat,j<=L.length/\i=O j/\qt L M j/\∃n,wr=w.drewN n) (λ i _=>L.length-(intOf i).toNat)
  case atStart=>exact⟨0,bf _,rfl,rfl,0,rfl⟩
  case round=>
   obtain⟨j,K,rfl,b,n,c⟩:=hrel
   have i:=Z b;have a:=Z c;clear b c
   by_cases l:j<L.length
   ·have m:j<M.length:=by have:=r.U;omega
    obtain⟨b,o,rfl,_,hx⟩:=p.U j l
    obtain⟨B,F,rfl,_,E⟩:=q.U j m
    have T:wr.cell? ⟨b,o+j,none⟩=some (ad L[j]):=by rw[a.U];exact hx
    have X:wr.cell? ⟨B,F+j,none⟩=some (ad M[j]):=by rw[a.U];exact E
    have N:(j:Int)<(L.length:Int):=by omega
    have P:(j:Int)<(M.length:Int):=by omega
    have D:=λ e=>qt.succ i.U l m e
    have t:=Z D
    have s:ai (L[j]≠M[j]->R=false):=Z (λ e=>by rw[<-g.U];grind)
    generalize L[j]=x at*
    generalize M[j]=y at*
    by_cases d:x=y
    ·subst d
     have z:=Z (t.U rfl)
     go_wp2
     go_quiet (fail)
     go_wp2
     go_roundw
     case rel=>exact⟨j+1,by omega,by go_num,z.U,_,by rw[a.U,World.drewN_drewN]⟩
     case measure=>simp[intOf];omega
    ·have c:=Z (s.U d)
     have J:(x.toList==y.toList)=false:=by
      rw[kI,kI,dP]
      intro e;exact d (qE e)
     go_wp2
     go_quiet (fail)
     go_wp2
     go_ret
     exact⟨by rw[c.U];rfl,_,by rw[a.U,World.drewN_drewN]⟩
   ·have c:ai (R=true):=Z (by
     rw[<-g.U];simp
     have z:=i.U
     unfold qt at z
     grind)
    go_wp2
    go_ret
    exact⟨by rw[c.U];rfl,n,a.U⟩
 ·have hd:decide (L=M)=false:=by simp;rintro rfl;exact f rfl
  rw[hd]
  have C:((L.length:Int) !=(M.length:Int))=true:=by rw[ml];omega
  go_enter func240,ntmps240
  go_wp2
  go_ret
  exact⟨rfl,0,rfl⟩
def gm(s:af):Bool:=decide (s.size≠32)
def dj(L:List af):Bool:=L.any gm
def We(s:af)(w:aa):Calls prog 152 #[ad s] w λ e a=>e=ao (aK (gm s))/\w=a:=by
 have c:((s.size:Int) !=32)=gm s:=by unfold gm;rw[bw];simp;omega
 generalize gm s=b at*
 go_enter func152,ntmps152
 go_wp2
 go_ret
 exact⟨rfl,rfl⟩
def TD{w:aa}{v:ab}{L:List af}(h:bq w v L):Calls prog 220 #[v,.func (.func 152) #[] #[]] w λ e a=>(∃i:Int,e=ao (O i)/\decide (0<=i)=dj L)/\w=a:=by
 obtain⟨A,q,rfl,p,n⟩:=h;have u:L.length<=9223372036854775807:=p;obtain⟨R,e⟩:∃R,dj L=R:=⟨_,rfl⟩;rw[e];have i:=Z e;have k:=Z n
 go_enter func220,ntmps220
 go_wp2
 go_loop [8] (λ a=>∃j:Nat,j<=L.length/\a=O (j:Int)/\dj (L.drop j)=R) (λ a=>L.length-(intOf a).toNat)
 case atStart=>exact⟨0,by omega,rfl,i.U⟩
 case round=>
  obtain⟨j,t,rfl,a⟩:=hrel;by_cases g:j<L.length
  ·rw[iQ g] at a;unfold dj at a;rw[AB] at a;obtain⟨b,o,rfl,s,hx⟩:=k.U j g;have r:(j:Int)<(L.length:Int):=by omega
   have c:=Z a;generalize L[j]=x at*;obtain⟨B,m⟩:∃B,gm x=B:=⟨_,rfl⟩;have f:=We x;rw[m] at f c;have l:=Z f
   go_wp2_with fail
   refine KQ (l.U _) ?_;cases B with
   |true=>
    have d:=Z (show R=true by rw[<-c.U];rfl)
    go_wp2
    go_ret
    exact⟨⟨_,rfl,by rw[d.U];simp⟩,rfl⟩
   |false=>
    have d:ai (dj (L.drop (j+1))=R):=Z (by rw[<-c.U];rfl)
    go_wp2
    go_round
    case rel=>exact⟨j+1,by omega,by go_num,d.U⟩
    case measure=>simp[intOf];omega
  ·rw[kc W] at a;have c:=Z (show R=false from a.symm)
   go_wp2
   go_ret
   exact⟨⟨_,rfl,by rw[c.U];rfl⟩,rfl⟩
def PJ{w:aa}{v:ab}{L:List af}(h:bq w v L):Calls prog 154 #[v,.func (.func 152) #[] #[]] w λ e c=>e=ao (aK (dj L))/\w=c:=by
 have a:=Z (TD h);obtain⟨R,b⟩:∃R,dj L=R:=⟨_,rfl⟩;rw[b] at a⊢
 go_enter func154,ntmps154
 go_wp2_with fail
 refine a.U.mono ?_;rintro e d ⟨⟨i,rfl,c⟩,rfl⟩
 go_wp2
 go_ret
 exact⟨rfl,rfl⟩
def Wf(s:af)(w:aa):Calls prog 157 #[ad s] w λ e a=>e=ao (aK (gm s))/\w=a:=by
 have c:((s.size:Int) !=32)=gm s:=by unfold gm;rw[bw];simp;omega
 generalize gm s=b at*
 go_enter func157,ntmps157
 go_wp2
 go_ret
 exact⟨rfl,rfl⟩
def TE{w:aa}{v:ab}{L:List af}(h:bq w v L):Calls prog 220 #[v,.func (.func 157) #[] #[]] w λ e a=>(∃i:Int,e=ao (O i)/\decide (0<=i)=dj L)/\w=a:=by
 obtain⟨A,q,rfl,p,n⟩:=h;have u:L.length<=9223372036854775807:=p;obtain⟨R,e⟩:∃R,dj L=R:=⟨_,rfl⟩;rw[e];have i:=Z e;have k:=Z n
 go_enter func220,ntmps220
 go_wp2
 go_loop [8] (λ a=>∃j:Nat,j<=L.length/\a=O (j:Int)/\dj (L.drop j)=R) (λ a=>L.length-(intOf a).toNat)
 case atStart=>exact⟨0,by omega,rfl,i.U⟩
 case round=>
  obtain⟨j,t,rfl,a⟩:=hrel;by_cases g:j<L.length
  ·rw[iQ g] at a;unfold dj at a;rw[AB] at a;obtain⟨b,o,rfl,s,hx⟩:=k.U j g;have r:(j:Int)<(L.length:Int):=by omega
   have c:=Z a;generalize L[j]=x at*;obtain⟨B,m⟩:∃B,gm x=B:=⟨_,rfl⟩;have f:=Wf x;rw[m] at f c;have l:=Z f
   go_wp2_with fail
   refine KQ (l.U _) ?_;cases B with
   |true=>
    have d:=Z (show R=true by rw[<-c.U];rfl)
    go_wp2
    go_ret
    exact⟨⟨_,rfl,by rw[d.U];simp⟩,rfl⟩
   |false=>
    have d:ai (dj (L.drop (j+1))=R):=Z (by rw[<-c.U];rfl)
    go_wp2
    go_round
    case rel=>exact⟨j+1,by omega,by go_num,d.U⟩
    case measure=>simp[intOf];omega
  ·rw[kc W] at a;have c:=Z (show R=false from a.symm)
   go_wp2
   go_ret
   exact⟨⟨_,rfl,by rw[c.U];rfl⟩,rfl⟩
def PM{w:aa}{v:ab}{L:List af}(h:bq w v L):Calls prog 154 #[v,.func (.func 157) #[] #[]] w λ e c=>e=ao (aK (dj L))/\w=c:=by
 have a:=Z (TE h);obtain⟨R,b⟩:∃R,dj L=R:=⟨_,rfl⟩;rw[b] at a⊢
 go_enter func154,ntmps154
 go_wp2_with fail
 refine a.U.mono ?_;rintro e d ⟨⟨i,rfl,c⟩,rfl⟩
 go_wp2
 go_ret
 exact⟨rfl,rfl⟩
def Wg(s:af)(w:aa):Calls prog 242 #[ad s] w λ e a=>e=ao (aK (gm s))/\w=a:=by
 have c:((s.size:Int) !=32)=gm s:=by unfold gm;rw[bw];simp;omega
 generalize gm s=b at*
 go_enter func242,ntmps242
 go_wp2
 go_ret
 exact⟨rfl,rfl⟩
def TG{w:aa}{v:ab}{L:List af}(h:bq w v L):Calls prog 220 #[v,.func (.func 242) #[] #[]] w λ e a=>(∃i:Int,e=ao (O i)/\decide (0<=i)=dj L)/\w=a:=by
 obtain⟨A,q,rfl,p,n⟩:=h;have u:L.length<=9223372036854775807:=p;obtain⟨R,e⟩:∃R,dj L=R:=⟨_,rfl⟩;rw[e];have i:=Z e;have k:=Z n
 go_enter func220,ntmps220
 go_wp2
 go_loop [8] (λ a=>∃j:Nat,j<=L.length/\a=O (j:Int)/\dj (L.drop j)=R) (λ a=>L.length-(intOf a).toNat)
 case atStart=>exact⟨0,by omega,rfl,i.U⟩
 case round=>
  obtain⟨j,t,rfl,a⟩:=hrel;by_cases g:j<L.length
  ·rw[iQ g] at a;unfold dj at a;rw[AB] at a;obtain⟨b,o,rfl,s,hx⟩:=k.U j g;have r:(j:Int)<(L.length:Int):=by omega
   have c:=Z a;generalize L[j]=x at*;obtain⟨B,m⟩:∃B,gm x=B:=⟨_,rfl⟩;have f:=Wg x;rw[m] at f c;have l:=Z f
   go_wp2_with fail
   refine KQ (l.U _) ?_;cases B with
   |true=>
    have d:=Z (show R=true by rw[<-c.U];rfl)
    go_wp2
    go_ret
    exact⟨⟨_,rfl,by rw[d.U];simp⟩,rfl⟩
   |false=>
    have d:ai (dj (L.drop (j+1))=R):=Z (by rw[<-c.U];rfl)
    go_wp2
    go_round
    case rel=>exact⟨j+1,by omega,by go_num,d.U⟩
    case measure=>simp[intOf];omega
  ·rw[kc W] at a;have c:=Z (show R=false from a.symm)
   go_wp2
   go_ret
   exact⟨⟨_,rfl,by rw[c.U];rfl⟩,rfl⟩
def PO{w:aa}{v:ab}{L:List af}(h:bq w v L):Calls prog 154 #[v,.func (.func 242) #[] #[]] w λ e c=>e=ao (aK (dj L))/\w=c:=by
 have a:=Z (TG h);obtain⟨R,b⟩:∃R,dj L=R:=⟨_,rfl⟩;rw[b] at a⊢
 go_enter func154,ntmps154
 go_wp2_with fail
 refine a.U.mono ?_;rintro e d ⟨⟨i,rfl,c⟩,rfl⟩
 go_wp2
 go_ret
 exact⟨rfl,rfl⟩
structure BD where
 a:HD
 b:HD
 e:List af
 deriving DecidableEq
abbrev BD.cells(x:BD)(a:ab):List ab:=[U (x.a.size:Int),U (x.a.time:Int),ad x.a.aE,ad x.a.a,U (x.b.size:Int),U (x.b.time:Int),ad x.b.aE,ad x.b.a,a]
abbrev BD.val(x:BD)(a:ab):ab:=aG #[U (x.a.size:Int),U (x.a.time:Int),ad x.a.aE,ad x.a.a,U (x.b.size:Int),U (x.b.time:Int),ad x.b.aE,ad x.b.a,a]
structure BD.Ok(x:BD):Prop where
 a:x.a.Ok
 b:x.b.Ok
 e:x.e.length<1000000
def BD.right(x:BD):Bool:=x.a.right&&x.b.right&&decide (x.e.length<=48)&& !dj x.e
def Cq(x:BD)(e:ab)(w:aa)(c:bq w e x.e):CB 76 #[x.val e] w (aK x.right):=by
 obtain⟨R,b⟩:∃R,x.right=R:=⟨_,rfl⟩;rw[b];unfold BD.right at b;have p1:=λ w=>vq x.a w;have p2:=λ w=>vq x.b w;have p4:=λ(a:aa) (h:BW w a)=>PJ (c.below h rfl);have d3:decide ((x.e.length:Int)<=48)=decide (x.e.length<=48):=by rw[bw];simp;omega
 obtain⟨A,o,rfl,r,-⟩:=c;generalize x.a.right=j at*;generalize x.b.right=k at*;generalize decide (x.e.length<=48)=l at*;generalize dj x.e=n at*;have a:=Z (ae.start w []);have f:=Z b;have g:=Z p1;have h:=Z p2;have i:=Z p4
 go_enter func76,ntmps76
 cases j;rotate_left
 cases k;rotate_left
 cases l
 all_goals
  have d:=f.U;simp only[sB] at d;subst d
  go_wp2_with(first|refine KB a 66 1 (x.cells _) λ p s q a=>?_|refine KT a 4 ?_|refine Kl a ?_|go_at_call 153;refine KC a (g.U _) λ m a=>?_|go_at_call 153;refine KC a (h.U _) λ m a=>?_|go_at_call 154;refine KQ (i.U _ a.U.aq) ?_)
  skip;all_goals
   go_ret
   exact⟨rfl,a.U.aq⟩
namespace WD
def og(x y:UInt64):IntKind.u64.wrap ((x.toNat:Int)+(y.toNat:Int))=((x+y).toNat:Int):=by
 rfl
def E7(x y:UInt64):bits .xor .u64 (x.toNat:Int) (y.toNat:Int)=((x^^^y).toNat:Int):=by
 rw[u64_xor_nat _ _ x.toNat_lt y.toNat_lt,UInt64.toNat_xor]
def E5(x y:UInt64):bits .and .u64 (x.toNat:Int) (y.toNat:Int)=((x&&&y).toNat:Int):=by
 rw[u64_and_nat _ _ x.toNat_lt y.toNat_lt,UInt64.toNat_and]
def wD(x:UInt64):(18446744073709551615:Int)-(x.toNat:Int)=((~~~x).toNat:Int):=by
 have:=x.toNat_lt;rw[UInt64.toNat_not];grind
def Cs(n:Nat)(h:n<18446744073709551616):18446744073709551615^^^n=18446744073709551615-n:=by
 have a:(~~~(UInt64.ofNat n)).toNat=18446744073709551615-n:=by
  rw[UInt64.toNat_not,uF];simp only[UInt64.size];omega
 have b:(UInt64.ofNat 18446744073709551615^^^UInt64.ofNat n).toNat=18446744073709551615^^^n:=by
  rw[UInt64.toNat_xor,uF,uF,bY h]
 have c:UInt64.ofNat 18446744073709551615^^^UInt64.ofNat n= ~~~(UInt64.ofNat n):=by
  show(-1:UInt64)^^^_=_;simp
 grind
def E6(x:UInt64):bits .xor .u64 IntKind.u64.max (x.toNat:Int)=((~~~x).toNat:Int):=by
 have h:=u64_xor_nat 18446744073709551615 x.toNat W x.toNat_lt;rw[Cs _ x.toNat_lt] at h;rw[<-wD];have:=x.toNat_lt;rw[show(18446744073709551615:Int)-(x.toNat:Int)=((18446744073709551615-x.toNat:Nat):Int) by omega,<-h];rfl
def cp(x y:UInt64):UInt64:=x^^^y
def dY(x y:UInt64):UInt64:=x&&&y
def jW(x:UInt64):UInt64:= ~~~x
def iU(x y:UInt64):bits .xor .u64 (x.toNat:Int) (y.toNat:Int)=((cp x y).toNat:Int):=E7 x y
def oX(x y:UInt64):bits .and .u64 (x.toNat:Int) (y.toNat:Int)=((dY x y).toNat:Int):=E5 x y
def BR(x:UInt64):bits .xor .u64 IntKind.u64.max (x.toNat:Int)=((jW x).toNat:Int):=E6 x
def xI(a b:UInt64):((a.toNat:Int)+(b.toNat:Int))%18446744073709551616=((a+b).toNat:Int):=by
 rfl
def G3(a b c d:UInt64):((a.toNat:Int)+(b.toNat:Int)+(c.toNat:Int)+(d.toNat:Int))%18446744073709551616=((a+b+c+d).toNat:Int):=by
 simp
end WD
