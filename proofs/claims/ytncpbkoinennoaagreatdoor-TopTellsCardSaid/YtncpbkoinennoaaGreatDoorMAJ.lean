import Derived.Shelf.Small.Strs
import Derived.Test.YtncpbkoinennoaaGreatDoorMAH
set_option linter.all false
set_option maxRecDepth 100000
set_option maxHeartbeats 0
namespace Go.Proofs.YtncpbkoinennoaaGreatDoor
open Go.RowKit Proofs.Tryz
attribute [local irreducible] wpList Calls
variable{I:List Y}{p:List Nat}{i:Nat}
def yi(a:Act)(v:ab):a.put none v=a:=rfl
def yj(t:Array ab)(d:List Deferred)(k:Tmp)(v:ab):Act.put ⟨t,d⟩ (some k) v=⟨t.setIfInBounds k v,d⟩:=rfl
section
variable{ops:Array Oper}{op:Oper}{a:Act}{aq cU L:List Y}{v:ab}{g o:Nat}{t:TypeId}{cs qo vs:List ab}{x y:Operand}{k:Tmp}{w wr:aa}{m:List Nat}{Q:Exit->Act->aa->Prop}{rest:List Oper}
def lT(ops:Array Oper)(op:Oper)(a:Act)(aq cU:List Y)(v:ab):Prop:=
 ∀(w wr:aa) (m:List Nat) (Q:Exit->Act->aa->Prop) (rest:List Oper),af w wr m aq->(∀b,af w b m cU->wpList prog ops Q rest (a.put op.dst v) b)->wpList prog ops Q (op::rest) a wr
def lT.s1{b:TypeId}(u:op.op= .store b x (.tmp k):=by exact rfl)(hx:a.eval x= .pointer (some ⟨g,o,none⟩):=by exact rfl)(E:Y.row g t cs∈aq:=by repeat first|with_reducible exact mZ|refine mQ ?_)
 (j:iB b 1=true:=by exact rfl) (C:a.tmps.toList[k]?=some v:=by exact rfl) (s:Region.wanted op (yielded ops a.tmps)=true:=by exact rfl) (h1:v.oneCell'=true:=by exact rfl) (p:decide (o<cs.length)=true:=by exact rfl)
 (q:cs.set o v=qo:=by simp only[au,ay];exact rfl) (z:eZ (Y.row g t cs) (Y.row g t qo) aq cU:=by repeat first|with_reducible exact eZ.head _|apply eZ.tail):lT ops op a aq cU undef:=λ _ _ _ _ _ A h=>by
 obtain⟨i,e1,e2⟩:=z.idx
 exact EI A i e1 s b u hx C j h1 p (λ D e=>h D (by rw[q,<-e2] at e;exact e))
def lT.sc{b:TypeId}(u:op.op= .store b x (.const v):=by exact rfl)(hx:a.eval x= .pointer (some ⟨g,o,none⟩):=by exact rfl)(D:Y.row g t cs∈aq:=by repeat first|with_reducible exact mZ|refine mQ ?_)
 (j:iB b 1=true:=by exact rfl) (s:Region.wanted op (yielded ops a.tmps)=true:=by exact rfl) (h1:v.oneCell'=true:=by exact rfl) (p:decide (o<cs.length)=true:=by exact rfl)
 (q:cs.set o v=qo:=by simp only[au,ay];exact rfl) (z:eZ (Y.row g t cs) (Y.row g t qo) aq cU:=by repeat first|with_reducible exact eZ.head _|apply eZ.tail):lT ops op a aq cU undef:=λ _ _ _ _ _ A h=>by
 obtain⟨i,e1,e2⟩:=z.idx
 exact EJ A i e1 s b u hx j h1 p (λ C e=>h C (by rw[q,<-e2] at e;exact e))
def lT.sr{b:TypeId}(u:op.op= .store b x y:=by exact rfl)(hx:a.eval x= .pointer (some ⟨g,o,none⟩):=by exact rfl)(D:Y.row g t cs∈aq:=by repeat first|with_reducible exact mZ|refine mQ ?_)
 (A:a.eval y=aG vs.toArray:=by exact rfl) (s:Region.wanted op (yielded ops a.tmps)=true:=by exact rfl) (j:iB b vs.length=true:=by exact rfl) (p:decide (o+vs.length<=cs.length)=true:=by exact rfl) (h1:vs.all (·.oneCell')=true:=by exact rfl)
 (q:eF cs o vs=qo:=by simp only[eF,au,ay,bC,bU,dc,cO];exact rfl) (z:eZ (Y.row g t cs) (Y.row g t qo) aq cU:=by repeat first|with_reducible exact eZ.head _|apply eZ.tail):lT ops op a aq cU undef:=λ _ _ _ _ _ e h=>by
 obtain⟨i,e1,e2⟩:=z.idx
 exact zI e i e1 s b vs.length u hx vs A rfl j p h1 (λ C e=>h C (by rw[q,<-e2] at e;exact e))
def KS(e:ai (af w wr m aq))(h:∀b,ai (af w b m cU)->wpList prog ops Q rest (a.put op.dst undef) b)(j:lT ops op a aq cU undef:=by first|exact lT.s1|exact lT.sc|exact lT.sr):wpList prog ops Q (op::rest) a wr:=
 j w wr m Q rest e.U (λ b i=>h b (Z i))
def Kl(e:ai (af w wr m aq))(h:wpList prog ops Q rest (a.put op.dst v) wr){b:TypeId}(u:op.op= .load b x:=by exact rfl)(hx:a.eval x= .pointer (some ⟨g,o,none⟩):=by exact rfl)(s:Y.row g t cs∈aq:=by repeat first|with_reducible exact mZ|refine mQ ?_)
 (q:Region.wanted op (yielded ops a.tmps)=true:=by exact rfl) (p:jF b=true:=by exact rfl) (z:cs[o]?=some v:=by exact rfl):wpList prog ops Q (op::rest) a wr:=by
 obtain⟨i,j⟩:=sw s
 exact vp e.U i j q b u hx p z h
def KT(e:ai (af w wr m aq))(n:Nat)(h:wpList prog ops Q rest (a.put op.dst (aG vs.toArray)) wr){b:TypeId}(z:op.op= .load b x:=by exact rfl)(hx:a.eval x= .pointer (some ⟨g,o,none⟩):=by exact rfl)(s:Y.row g t cs∈aq:=by repeat first|with_reducible exact mZ|refine mQ ?_)
 (q:Region.wanted op (yielded ops a.tmps)=true:=by exact rfl) (p:ic b n=true:=by exact rfl) (A:(cs.drop o).take n=vs:=by simp only[bC,bU,dc,cO];exact rfl) (u:vs.length=n:=by exact rfl):wpList prog ops Q (op::rest) a wr:=by
 obtain⟨i,j⟩:=sw s
 exact zi e.U i j q b n z hx p vs A u h
def KH(e:bc L wr)(h:wpList prog ops Q rest (a.put op.dst v) wr){b:TypeId}(u:op.op= .load b x:=by exact rfl)(hx:a.eval x= .pointer (some ⟨g,o,none⟩):=by exact rfl)(s:Y.row g t cs∈L:=by repeat first|with_reducible exact mZ|refine mQ ?_)
 (q:Region.wanted op (yielded ops a.tmps)=true:=by exact rfl) (p:jF b=true:=by exact rfl) (z:cs[o]?=some v:=by exact rfl):wpList prog ops Q (op::rest) a wr:=by
 obtain⟨i,j⟩:=sw s
 exact il e i j q b u hx p z h
def KI(e:bc L wr)(n:Nat)(h:wpList prog ops Q rest (a.put op.dst (aG vs.toArray)) wr){b:TypeId}(z:op.op= .load b x:=by exact rfl)(hx:a.eval x= .pointer (some ⟨g,o,none⟩):=by exact rfl)(s:Y.row g t cs∈L:=by repeat first|with_reducible exact mZ|refine mQ ?_)
 (q:Region.wanted op (yielded ops a.tmps)=true:=by exact rfl) (p:ic b n=true:=by exact rfl) (A:(cs.drop o).take n=vs:=by simp only[bC,bU,dc,cO];exact rfl) (u:vs.length=n:=by exact rfl):wpList prog ops Q (op::rest) a wr:=by
 obtain⟨i,j⟩:=sw s
 exact EG e i j q b n z hx p vs A u h
end
section
variable{l l':List Oper}{Q:Exit->Act->aa->Prop}{S:aa->Prop}{n f f':Nat}{B B':List Bool}{M M':List ab}{d:List Deferred}{w w0:aa}{m:List Nat}{aq Li LA:List Y}{oi:Oper}{v:ab}{a:Act}
def nS(aq:List Y):List Nat->Option (List Y)
 |[]=>some []
 |i::t=>match aq[i]?,nS aq t with
  |some A,some r=>some (A::r)
  |_,_=>none
def J8{aq:List Y}:∀{b:List Nat} {Li:List Y},nS aq b=some Li->∀A∈Li,A∈aq
 |[],Li,h=>by unfold nS at h;cases h;intro A b;cases b
 |i::t,Li,h=>by
  unfold nS at h
  split at h
  ·rename_i B r e j
   cases h
   intro A b
   rcases bV.1 b with rfl|b
   ·exact dB e
   ·exact J8 j A b
  ·cases h
def yf(e:nS aq p=some Li)(h:af w0 w m aq):bc Li w:=λ A b=>h.ok A (J8 e A b)
def bo(b:ai (af w0 w m aq))(h:List Nat)(e:nS aq h=some Li:=by exact rfl):bc Li w:=yf e b.U
def sW(e:ai (af w0 w [] aq))(h:ai (bc LA w0))(q:List Nat)(p:nS aq q=some Li:=by exact rfl)(j:Li++LA=I:=by first|(simp only[gD,fV];done)|(simp only[gD,fV];exact rfl)|exact rfl):bc I w:=λ A i=>by
 subst j;rcases eJ.1 i with b|b
 ·exact yf p e.U A b
 ·exact e.U.bH h.U A b
def RG{T:Array ab}{id:Nat}(i:ai (af w0 w m aq))(n:Nat)(u:List Nat)(h:∀b,ai (af w0 b m aq)->bc Li b->az prog l Q (bc Li) n n (Array.replicate l.length false) ⟨T,d⟩ b)(s:nS aq u=some Li:=by exact rfl)
 (hd:a=⟨T,d⟩:=by first|(simp only[yi,yj,aH,au,ay];done)|(simp only[yi,yj,aH,au,ay];exact rfl)|exact rfl) (q:prog.follows .mixedOrders=true:=by kernel_rfl) (p:(Region.noSelect l.toArray&&decide (n<l.length)&&Region.sinkB .any l.toArray n&&Region.chainB .any l.toArray n)=true:=by kernel_rfl):(Code.region id l.toArray true).wp prog Q a w:=hd▸
 af.region i.U n (bc Li) q p (λ _ e=>yf s e) (λ b e j=>h b (Z e) j)
def kJ{T:Array ab}{id:Nat}(q:ai (af w0 w [] aq))(p:ai (bc LA w0))(n:Nat)(D:List Nat)(h:∀b,ai (af w0 b [] aq)->bc I b->az prog l Q (bc I) n n (Array.replicate l.length false) ⟨T,d⟩ b)(C:nS aq D=some Li:=by exact rfl)(u:Li++LA=I:=by first|(simp only[gD,fV];done)|(simp only[gD,fV];exact rfl)|exact rfl)
 (hd:a=⟨T,d⟩:=by first|(simp only[yi,yj,aH,au,ay];done)|(simp only[yi,yj,aH,au,ay];exact rfl)|exact rfl) (z:prog.follows .mixedOrders=true:=by kernel_rfl) (s:(Region.noSelect l.toArray&&decide (n<l.length)&&Region.sinkB .any l.toArray n&&Region.chainB .any l.toArray n)=true:=by kernel_rfl):(Code.region id l.toArray true).wp prog Q a w:=hd▸
 af.region q.U n (bc I) z s (λ _ e A j=>by
  subst u
  rcases eJ.1 j with i|i
  ·exact yf C e A i
  ·exact e.bH p.U A i) (λ b e j=>h b (Z e) j)
def Take.ld{g:Nat}{t:TypeId}{cs:List ab}{x:Operand}{o:Nat}{b:TypeId}(k:Tmp)(s:bc Li w)(h:Take p (az prog l Q (bc Li) n f B'.toArray ⟨M'.toArray,d⟩ w))
 (u:l.toArray[i]?=some oi:=by exact rfl) (y3:oi.op= .load b x:=by exact rfl) (hd:oi.dst=some k:=by exact rfl)
 (y1:Region.wanted oi (yielded l.toArray M.toArray)=true:=by exact rfl)
 (y4:(⟨M.toArray,d⟩:Act).eval x= .pointer (some ⟨g,o,none⟩):=by exact rfl) (y2:Y.row g t cs∈Li:=by repeat first|with_reducible exact mZ|refine mQ ?_) (y5:jF b=true:=by exact rfl) (y6:cs[o]?=some v:=by exact rfl)
 (e:B.set i true=B':=by first|(simp only[au,ay];exact rfl)|(simp only[gF,jh,au,ay];exact rfl)|exact rfl) (q:M.set k v=M':=by first|(simp only[au,ay,bC,bU,dc,cO];exact rfl)|exact rfl)
 (h1:i<n:=by decide) (h2:Region.free Region.Mode.any l.toArray B.toArray i=true:=by kernel_rfl) (h3:(Region.ready Region.Mode.any l.toArray B.toArray).contains i=true:=by kernel_rfl)
 (h4:∀(c:List PanicEntry) (a:Act) (w:aa),Q (Exit.panic c) (a.put oi.dst v) w->Q (Exit.panic c) a w:=by exact λ _ _ _ h=>h):
 Take ((i+2000)::p) (az prog l Q (bc Li) n (f+1) B.toArray ⟨M.toArray,d⟩ w):=by
 obtain⟨j,z⟩:=sw y2
 exact L2 i k j b s h u hd y1 z y3 y4 y5 y6 e q h1 h2 h3 h4
def WR{g:Nat}{t:TypeId}{cs vs:List ab}{x:Operand}{o:Nat}{e:TypeId}{k:Tmp}(i b:Nat)(s:bc Li w)(h:az prog l Q (bc Li) n f B'.toArray ⟨M'.toArray,d⟩ w)
 (u:l.toArray[i]?=some oi:=by exact rfl) (y3:oi.op= .load e x:=by exact rfl) (hd:oi.dst=some k:=by exact rfl)
 (y1:Region.wanted oi (yielded l.toArray M.toArray)=true:=by exact rfl)
 (y4:(⟨M.toArray,d⟩:Act).eval x= .pointer (some ⟨g,o,none⟩):=by exact rfl) (y2:Y.row g t cs∈Li:=by repeat first|with_reducible exact mZ|refine mQ ?_) (y5:ic e b=true:=by exact rfl)
 (y6:(cs.drop o).take b=vs:=by first|(simp only[bC,bU,dc,cO];exact rfl)|exact rfl) (y7:vs.length=b:=by exact rfl)
 (p:B.set i true=B':=by first|(simp only[au,ay];exact rfl)|(simp only[gF,jh,au,ay];exact rfl)|exact rfl) (q:M.set k (aG vs.toArray)=M':=by first|(simp only[au,ay,bC,bU,dc,cO];exact rfl)|exact rfl)
 (h1:i<n:=by decide) (h2:Region.free Region.Mode.any l.toArray B.toArray i=true:=by kernel_rfl) (h3:(Region.ready Region.Mode.any l.toArray B.toArray).contains i=true:=by kernel_rfl)
 (h4:∀(c:List PanicEntry) (a:Act) (w:aa),Q (Exit.panic c) (a.put oi.dst (aG vs.toArray)) w->Q (Exit.panic c) a w:=by exact λ _ _ _ h=>h):
 az prog l Q (bc Li) n (f+1) B.toArray ⟨M.toArray,d⟩ w:=by
 obtain⟨j,z⟩:=sw y2
 exact W2 i k u hd (Yr y1 j z e b y3 y4 y5 vs y6 y7) s h p q h1 h2 h3 h4
def VV(p:List Nat)(e:bc Li w)(h:az prog l Q (bc Li) n f' B'.toArray ⟨M'.toArray,d⟩ w)
 (j:bc Li w->az prog l Q (bc Li) n f' B'.toArray ⟨M'.toArray,d⟩ w->Take p (az prog l Q (bc Li) n f B.toArray ⟨M.toArray,d⟩ w):=by
  intro b i
  repeat first|refine Take.ld _ b ?_|refine Take.un _ b ?_|refine Take.va _ b ?_
  exact Take.nil i):az prog l Q (bc Li) n f B.toArray ⟨M.toArray,d⟩ w:=j e h
def WT{b:Array Bool}(h:wpList prog l.toArray Q l' a w)(hd:l.drop n=l':=by simp only[bC,bU];exact rfl)(e:Region.seqB .any l.toArray (l.length-n) n b=true:=by kernel_rfl):az prog l Q S n 0 b a w:=az.tail e (hd▸h)
end
section
variable{l:List Oper}{Q:Exit->Act->aa->Prop}{n f:Nat}{B B':List Bool}{M M':List ab}{d:List Deferred}{w w0:aa}{m:List Nat}{aq cU Li:List Y}{oi:Oper}{v:ab}{fn:FuncId}{vs:List ab}{c:Call}{K:Ending->aa->Prop}{r:Ending}{args:Array ab}
def KC(i:ai (af w0 w m aq))(p:Calls prog fn args w λ e j=>e=r/\BW w j)(h:∀b,ai (af w0 b m aq)->K r b):Calls prog fn args w K:=
 p.mono λ e b ⟨e,j⟩=>e▸h b (Z (i.U.below j))
def KV{S:aa->Prop}(i:Nat)(s:fR fn)(k:Tmp)(h:Calls prog fn vs.toArray w λ e b=>∃v,e=ao v/\S b/\az prog l Q S n f B'.toArray ⟨(M.set k v).toArray,d⟩ b)
 (D:Region.ready .any l.toArray B.toArray=[i]:=by kernel_rfl) (A:i<n:=by decide) (C:l.toArray[i]?=some oi:=by exact rfl) (z:oi.guard=none:=by exact rfl) (hd:oi.dst=some k:=by exact rfl) (q:oi.op= .call c:=by exact rfl) (u:c.callee= .value (.func fn):=by exact rfl)
 (E:c.args.toList.mapM (fE ⟨M.toArray,d⟩)=some vs:=by exact rfl) (p:B.set i true=B':=by first|(simp only[au,ay];exact rfl)|(simp only[gF,jh,au,ay];exact rfl)|exact rfl):az prog l Q S n (f+1) B.toArray ⟨M.toArray,d⟩ w:=
 az.eM D A C z k hd q fn u s vs E (h.mono λ e F ⟨v,b,e,j⟩=>⟨v,b,e,by subst p;simpa only[aH] using j⟩)
def KW(p:ai (af w0 w m aq))(j:bc Li w)(i:Nat)(C:fR fn){k:Tmp}(A:Calls prog fn vs.toArray w λ e q=>e=ao v/\BW w q)(h:∀b,ai (af w0 b m aq)->bc Li b->az prog l Q (bc Li) n f B'.toArray ⟨M'.toArray,d⟩ b)
 (H:Region.ready .any l.toArray B.toArray=[i]:=by kernel_rfl) (F:i<n:=by decide) (G:l.toArray[i]?=some oi:=by exact rfl) (E:oi.guard=none:=by exact rfl) (hd:oi.dst=some k:=by exact rfl) (z:oi.op= .call c:=by exact rfl) (D:c.callee= .value (.func fn):=by exact rfl)
 (I:c.args.toList.mapM (fE ⟨M.toArray,d⟩)=some vs:=by exact rfl) (s:B.set i true=B':=by first|(simp only[au,ay];exact rfl)|(simp only[gF,jh,au,ay];exact rfl)|exact rfl) (u:M.set k v=M':=by simp only[au,ay];exact rfl):az prog l Q (bc Li) n (f+1) B.toArray ⟨M.toArray,d⟩ w:=
 az.eM H F G E k hd z fn D C vs I (A.mono λ e b ⟨q,e⟩=>⟨v,q,j.st e,by subst s;subst u;simpa only[aH] using h b (Z (p.U.below e)) (j.st e)⟩)
end
section
variable{w w0:aa}{m:List Nat}{aq cU:List Y}{A A':Y}{fn:FuncId}{K:Ending->aa->Prop}{r:Ending}{args:Array ab}
def KQ(g:Calls prog fn args w λ e i=>e=r/\w=i)(h:K r w):Calls prog fn args w K:=g.mono λ e j ⟨b,c⟩=>b▸c▸h
def KP(c:ai (af w0 w m aq))(i:Calls prog fn args w λ e g=>e=r/\bj A w g A')(h:∀b,ai (af w0 b m cU)->K r b)(j:eZ A A' aq cU:=by repeat first|with_reducible exact eZ.head _|apply eZ.tail):Calls prog fn args w K:=
 i.mono λ e b ⟨e,g⟩=>e▸h b (Z (c.U.rep j g))
end
section
variable{l l':List Oper}{Q:Exit->Act->aa->Prop}{S:aa->Prop}{n f f':Nat}{B B':List Bool}{M M':List ab}{d:List Deferred}{w w0:aa}{m:List Nat}{aq Li LA:List Y}{oi:Oper}{v:ab}{a:Act}
def WB{k:Tmp}(i:Nat)(b:Bool)(j:S w)(h:az prog l Q S n f B'.toArray ⟨M'.toArray,d⟩ w)
 (p:l.toArray[i]?=some oi:=by exact rfl) (hd:oi.dst=some k:=by exact rfl)
 (o:YieldsIf prog l.toArray S oi (aF b) ⟨M.toArray,d⟩:=by exact Or.inl ⟨by kernel_rfl,by intro s q;go_simp;done⟩)
 (e:B.set i true=B':=by first|(simp only[au,ay];exact rfl)|(simp only[gF,jh,au,ay];exact rfl)|exact rfl) (g:M.set k (aF b)=M':=by first|(simp only[au,ay,bC,bU,dc,cO];exact rfl)|exact rfl)
 (h1:i<n:=by decide) (h2:Region.free Region.Mode.any l.toArray B.toArray i=true:=by kernel_rfl) (h3:(Region.ready Region.Mode.any l.toArray B.toArray).contains i=true:=by kernel_rfl)
 (h4:∀(c:List PanicEntry) (a:Act) (w:aa),Q (Exit.panic c) (a.put oi.dst (aF b)) w->Q (Exit.panic c) a w:=by exact λ _ _ _ h=>h):
 az prog l Q S n (f+1) B.toArray ⟨M.toArray,d⟩ w:=W2 i k p hd o j h e g h1 h2 h3 h4
end
variable{g n:Nat}
def run_max_int2{P:Program}(w:aa)(b:Array TypeId)(t:TypeId)(k1 k2:IntKind)(x y:Int)(n:Int)(a:max x y=n):(Builtin.max_ b t #[.int k1 x,.int k2 y]).run P w= .ok (.int k1 n) w:=by
 subst a;simp[Builtin.max_,Builtin.max2];have e:∀p q:Int,(if p<q then q else p)=max p q:=λ p q=>by rw[Int.max_def];split<;>split<;>omega
 simp only[e]
def bw(a b:Nat):Nat:=min (a+b) 18446744073709551615
def nR(a b:Nat)(i:a<18446744073709551616)(j:b<18446744073709551616)(w:aa):Calls prog 139 #[U (a:Int),U (b:Int)] w λ e d=>e=ao (U ((bw a b:Nat):Int))/\w=d:=by
 have f:∀c,(callFunc 116 #[U (a:Int),U (b:Int),U 0]).run prog c= .ok (.value (aJ #[U (((a+b)%18446744073709551616:Nat):Int),U (((a+b)/18446744073709551616:Nat):Int)])) c:=λ c=>EZ a b 0 zD c;by_cases h:a+b<18446744073709551616
 ·have g:(a+b)%18446744073709551616=a+b:=ik h;have d:(a+b)/18446744073709551616=0:=Nat.div_eq_of_lt h;have e:bw a b=a+b:=by unfold bw;omega
  rw[e];simp only[g,d] at f;generalize a+b=c at*
  go_enter func139,ntmps139
  go_wp2
  go_ret
  exact⟨rfl,rfl⟩
 ·have d:(a+b)/18446744073709551616=1:=by omega
  have e:bw a b=18446744073709551615:=by unfold bw;omega
  rw[e];simp only[d] at f;generalize(a+b)%18446744073709551616=c at*
  go_enter func139,ntmps139
  go_wp2
  go_ret
  exact⟨rfl,rfl⟩
def spread(s d:Nat):Nat:=if s=18446744073709551615 then d else d%(s+1)
def Yl(s d:Nat)(f:s<18446744073709551616)(hd:d<18446744073709551616)(w:aa):Calls prog 309 #[U (s:Int),U (d:Int)] w λ e b=>e=ao (U ((spread s d:Nat):Int))/\w=b:=by
 by_cases h:s=18446744073709551615
 ·have a:spread s d=d:=by unfold spread;rw[ax h]
  have b:((s:Int)==18446744073709551615)=true:=by rw[fB];omega
  rw[a]
  go_enter func309,ntmps309
  go_wp2
  go_ret
  exact⟨rfl,rfl⟩
 ·have a:spread s d=d%(s+1):=by unfold spread;rw[aj h]
  have b:((s:Int)==18446744073709551615)=false:=by rw[cc];omega
  have c:IntKind.u64.wrap ((s:Int)+1)=(s:Int)+1:=by rw[kB];omega
  have e:(s:Int)+1<=18446744073709551615:=by omega
  rw[a]
  go_enter func309,ntmps309
  go_wp2
  go_ret
  exact⟨rfl,rfl⟩
def lB:Nat->Nat->Nat->Nat
 |n,0,a=>min n a
 |n,k+1,a=>if a<=n\/n=0 then min n a else lB (bw n n) k a
def XJ(b:Nat)(k:Nat)(m:Nat)(l:b<18446744073709551616)(u:k<=1000000)(x:m<18446744073709551616)(w:aa):Calls prog 308 #[U (b:Int),O (k:Int),U (m:Int)] w λ e a=>e=ao (U ((lB b k m:Nat):Int))/\w=a:=by
 obtain⟨R,f⟩:∃R,lB b k m=R:=⟨_,rfl⟩;rw[f];have i:=Z f;have y:∀a,(Builtin.max_ #[3,3] 3 #[O 0,O (k:Int)]).run prog a= .ok (O (k:Int)) a:=λ a=>run_max_int2 a _ _ _ _ _ _ _ W
 go_enter func308,ntmps308
 go_wp2
 go_step3
 go_wp2
 go_step3
 go_wp2
 go_loop [7,11] (λ d c=>∃n j:Nat,j<=k/\n<18446744073709551616/\d=U (n:Int)/\c=O (j:Int)/\lB n (k-j) m=R) (λ _ c=>k-(intOf c).toNat)
 case atStart=>exact⟨b,0,by omega,l,rfl,rfl,i.U⟩
 case round=>
  obtain⟨n,j,t,h,rfl,rfl,c⟩:=hrel;by_cases v:j<k
  ·obtain⟨q,r⟩:∃q,k-j=q+1:=⟨k-j-1,by omega⟩;rw[r,lB] at c;by_cases g:m<=n\/n=0
   ·rw[ax g] at c;have d:=Z c;have p:∀a,(Builtin.min_ #[46,46] 46 #[U (n:Int),U (m:Int)]).run prog a= .ok (U (R:Int)) a:=λ a=>run_min_int2 a _ _ _ _ _ _ _ (by rw[<-d.U];omega);by_cases z:m<=n
    ·have e:(m:Int)<=(n:Int):=by omega
     go_wp2
     try rw[iJ]
     go_ret
     exact⟨rfl,rfl⟩
    ·obtain rfl:n=0:=by omega
     have e:¬(m:Int)<=0:=by omega
     go_wp2
     try rw[iJ]
     go_ret
     exact⟨by rw[show R=0 by rw[<-d.U];omega];rfl,rfl⟩
   ·rw[aj g] at c;have e:¬(m:Int)<=(n:Int):=by omega
    have s:((n:Int)==0)=false:=by rw[cc];omega
    have d:=Z (show lB (bw n n) (k-(j+1)) m=R by rw[show k-(j+1)=q by omega];exact c);have o:bw n n<18446744073709551616:=by unfold bw;omega
    go_wp2_with fail
    refine KQ (nR n n h h _) ?_
    go_wp2
    go_round
    case rel=>exact⟨bw n n,j+1,by omega,o,rfl,by go_num,d.U⟩
    case measure=>simp[intOf];omega
  ·obtain rfl:j=k:=by omega
   rw[qc,lB] at c;have d:=Z c;have p:∀a,(Builtin.min_ #[46,46] 46 #[U (n:Int),U (m:Int)]).run prog a= .ok (U (R:Int)) a:=λ a=>run_min_int2 a _ _ _ _ _ _ _ (by rw[<-d.U];omega)
   go_wp2
   try rw[iJ]
   go_ret
   exact⟨rfl,rfl⟩
structure RC where
 base:Nat
 j:Nat
 span:Nat
 i:Nat
 room:Nat
abbrev RC.cells(c:RC):List ab:=[U (c.base:Int),U (c.j:Int),U (c.span:Int),O (c.i:Int),O (c.room:Int)]
abbrev RC.val(c:RC):ab:=aG #[U (c.base:Int),U (c.j:Int),U (c.span:Int),O (c.i:Int),O (c.room:Int)]
structure RC.Ok(c:RC):Prop where
 base:c.base<18446744073709551616
 j:c.j<18446744073709551616
 span:c.span<18446744073709551616
 i:c.i<1000000
 room:c.room<1000000
def J4:∀(k b m:Nat),m<18446744073709551616->lB b k m<18446744073709551616
 |0,b,m,h=>by unfold lB;omega
 |k+1,b,m,h=>by
  unfold lB
  split
  ·omega
  ·exact J4 k _ m h
def Yn(hd:n<18446744073709551616):spread g n<18446744073709551616:=by
 unfold spread;split
 ·exact hd
 ·exact Nat.lt_of_le_of_lt (Nat.mod_le _ _) hd
def iX(a b:Nat):bw a b<18446744073709551616:=by unfold bw;omega
def gR(c:RC)(k d:Nat):Nat:=bw (lB c.base k c.j) (spread c.span d)
def Lc(c:RC)(e:c.Ok)(k:Nat)(n:k<=1000000)(d:Nat)(hd:d<18446744073709551616)(w:aa):CB 288 #[c.val,O (k:Int),U (d:Int)] w (U ((gR c k d:Nat):Int)):=by
 obtain⟨g,h,i,j,l⟩:=e;have a:=Z (af.start w [])
 go_enter func288,ntmps288
 go_upto_region 1 with((refine KB a 48 3 (c.cells) λ f o m a=>?_))
 refine RG a 11 [0] λ p a b=>?_;refine VV [0,2001,2,3,2004,6,2007,8] b ?_;refine KV 5 (en 308) 12 ?_;refine KQ (XJ _ _ _ W W W _) ?_;refine⟨_,rfl,bo a [0],?_⟩;simp only[au,ay];refine KV 9 (en 309) 16 ?_;refine KQ (Yl _ _ W W _) ?_;refine⟨_,rfl,bo a [0],?_⟩;simp only[au,ay];refine KV 10 (en 139) 17 ?_;refine KQ (nR _ _ (J4 _ _ _ W) (Yn W) _) ?_;refine⟨_,rfl,bo a [0],?_⟩;simp only[au,ay];refine WT ?_
 go_wp2
 go_ret
 exact⟨rfl,a.U.ak⟩
def RD.jx(x:RD):HD:=⟨x.cB,x.cg.cB,x.cg.cg.cK 32,(x.cg.cg.bF 32).cK 64⟩
def RD.jy(x:RD):RD:=((x.cg.cg.bF 32).bF 64)
def EF{w:aa}{x:RD}(h:(Y.rd g x).P w):Calls prog 150 #[pV g] w λ r c=>r=ao (x.jx).val/\bj (Y.rd g x) w c (Y.rd g x.jy):=by
 have a:=Z (af.self h)
 go_enter func150,ntmps150
 go_wp2_with(first|refine KA a _ 2 hy λ f d j a=>?_|(go_at_call 47;refine(qd (a.U.in (by first|exact mZ|exact mQ mZ|exact mQ (mQ mZ)))).mono ?_;rintro e c ⟨rfl,b⟩;replace a:=Z (a.U.rep (by first|exact .head _|exact .tail _ (.head _)|exact .tail _ (.tail _ (.head _))) b))|refine KA a _ 3 hy λ i d k a=>?_|refine KS a λ d a=>?_|(go_at_call 13;refine(tt (a.U.in (by first|exact mZ|exact mQ mZ|exact mQ (mQ mZ))) _).mono ?_;rintro e c ⟨rfl,b⟩;replace a:=Z (a.U.rep (by first|exact .head _|exact .tail _ (.head _)|exact .tail _ (.tail _ (.head _))) b))|refine KT a 4 ?_)
 exact iH a.U 1 rfl 59 4 rfl rfl V rfl rfl ⟨rfl,(a.U.tail.tail).gQ⟩
def kR(n k:Nat):Nat:=n/2^k%256
def fu(n:Nat):ag:=⟨#[UInt8.ofNat (kR n 56),UInt8.ofNat (kR n 48),UInt8.ofNat (kR n 40),UInt8.ofNat (kR n 32),UInt8.ofNat (kR n 24),UInt8.ofNat (kR n 16),UInt8.ofNat (kR n 8),UInt8.ofNat (kR n 0)]⟩
def J5(n:Nat)(e:n<18446744073709551616)(w:aa):CB 268 #[U (n:Int)] w (ae (fu n)):=by
 have a:=Z (af.start w [])
 go_enter func268,ntmps268
 go_wp2_with(refine KA a _ 3 Ly λ c b d a=>?_)
 refine Lg 9 ?_;rw[gO]
 go_wp2_with(refine KS a λ b a=>?_)
 rw[gO]
 go_wp2_with(refine KS a λ b a=>?_)
 rw[gO]
 go_wp2_with(refine KS a λ b a=>?_)
 rw[gO]
 go_wp2_with(refine KS a λ b a=>?_)
 rw[gO]
 go_wp2_with(refine KS a λ b a=>?_)
 rw[gO]
 go_wp2_with(refine KS a λ b a=>?_)
 rw[gO]
 go_wp2_with(refine KS a λ b a=>?_)
 rw[gO]
 go_wp2_with(refine KS a λ b a=>?_)
 rw[gO]
 go_wp2_with((refine Cv a.U 0 rfl rfl rfl rfl (fu n).data.toList ?_ rfl ?_;·simp only[fu,ca,kR,cw,ek,bC,dc,cO];have e0:∀x:Nat,x%256=(UInt8.ofNat (x%256)).toNat:=(λ x=>by simp);simp only[<-e0,Nat.reducePow,tm];congr 1;(congr 1;omega)))
 go_ret
 exact⟨rfl,a.U.ak⟩
def HD.right(h:HD):Bool:=decide (1<=h.size)&&decide (h.size<=1099511627776)&&decide (h.time<=1099511627776)&&decide (h.aE.size=32)&&decide (h.a.size=64)
def tV(h:HD)(w:aa):CB 153 #[h.val] w (aF h.right):=by
 obtain⟨R,b⟩:∃R,h.right=R:=⟨_,rfl⟩;rw[b];unfold HD.right at b;have d1:decide (1<=(h.size:Int))=decide (1<=h.size):=by rw[bI];simp;omega
 have d2:decide ((h.size:Int)<=1099511627776)=decide (h.size<=1099511627776):=by rw[bI];simp;omega
 have d3:decide ((h.time:Int)<=1099511627776)=decide (h.time<=1099511627776):=by rw[bI];simp;omega
 have d4:((h.aE.size:Int)==32)=decide (h.aE.size=32):=by rw[bI];simp;omega
 have d5:((h.a.size:Int)==64)=decide (h.a.size=64):=by rw[bI];simp;omega
 generalize decide (1<=h.size)=e at*;generalize decide (h.size<=1099511627776)=f at*;generalize decide (h.time<=1099511627776)=g at*;generalize decide (h.aE.size=32)=i at*;generalize decide (h.a.size=64)=j at*;have a:=Z (af.start w []);have d:=Z b
 go_enter func153,ntmps153
 cases e;rotate_left
 cases f;rotate_left
 cases g;rotate_left
 cases i;rotate_left
 cases j
 all_goals
  have c:=d.U;simp only[sB] at c;subst c
  go_wp2_with(first|refine KB a 59 1 (h.cells) λ k m l a=>?_|refine Kl a ?_)
  go_ret
  exact⟨rfl,a.U.ak⟩
def HD.text(h:HD):ag:=⟨#[83,84,72]⟩++fu h.size++fu h.time++h.aE
def Jc(n:Nat):(fu n).size=8:=rfl
def Hj(h:HD)(l:h.Ok)(u:h.aE.size<=1000000)(w:aa):CB 213 #[h.val] w (ae h.text):=by
 obtain⟨i,j⟩:=l;have s1:=Jc h.size;have s2:=Jc h.time;have p1:=J5 h.size i;have p2:=J5 h.time j;have k:h.text=⟨#[83,84,72]⟩++fu h.size++fu h.time++h.aE:=rfl;generalize fu h.size=d at*;generalize fu h.time=p at*;have z1:((⟨#[83,84,72]⟩:ag)++d).size=11:=by rw[gU,s1];rfl
 have z2:((⟨#[83,84,72]⟩:ag)++d++p).size=19:=by rw[gU,z1,s2]
 have s:(9223372036854775807<19+h.aE.size)=False:=by simp;omega
 have f:=Z p1;have g:=Z p2;have e:=Z k;have a:=Z (af.start w [])
 go_enter func213,ntmps213
 go_upto_region 1 with(refine KB a 59 1 (h.cells) λ c v t a=>?_)
 refine af.region a.U (n:=11) (S:=bc [Y.row c 59 h.cells]) V V (λ r o=>(aP (o.in (by first|exact .head _)) bf)) (λ r m b=> ?_);replace a:=Z m;refine VV [0,2001,4,2005,8,2009] b ?_;refine KV 2 (en 268) 5 ?_;refine KC a (f.U _) λ q a=>?_;refine⟨_,rfl,(aP (a.U.in (by first|exact .head _)) bf),?_⟩;simp only[au,ay];have b:bc [Y.row c 59 h.cells] _:=(aP (a.U.in (by first|exact .head _)) bf);refine VV [3] b ?_;refine KV 6 (en 268) 9 ?_;refine KC a (g.U _) λ q a=>?_;refine⟨_,rfl,(aP (a.U.in (by first|exact .head _)) bf),?_⟩;simp only[au,ay];have b:bc [Y.row c 59 h.cells] _:=(aP (a.U.in (by first|exact .head _)) bf);refine VV [7,10] b ?_;refine WT ?_
 go_wp2
 go_ret
 exact⟨by rw[e.U];rfl,a.U.ak⟩
section
open Go.Shelf
def kS(a b:Nat):Int:=if a<b then-1 else if b<a then 1 else 0
def FK(a b:Nat)(w:aa):Calls prog 261 #[U (a:Int),U (b:Int)] w λ e d=>e=ao (O (kS a b))/\w=d:=by
 rcases Nat.lt_trichotomy a b with h|rfl|h
 ·have c:kS a b= -1:=by unfold kS;rw[ax h]
  have d:(a:Int)<(b:Int):=by omega
  rw[c]
  go_enter func261,ntmps261
  go_wp2
  go_ret
  exact⟨rfl,rfl⟩
 ·have c:kS a a=0:=by unfold kS;rw[aj W,aj W]
  rw[c]
  go_enter func261,ntmps261
  go_wp2
  go_ret
  exact⟨rfl,rfl⟩
 ·have c:kS a b=1:=by unfold kS;rw[aj W,ax h]
  have d:¬(a:Int)<(b:Int):=by omega
  have e:(b:Int)<(a:Int):=by omega
  rw[c]
  go_enter func261,ntmps261
  go_wp2
  go_ret
  exact⟨rfl,rfl⟩
def nK:List Int->Int
 |[]=>0
 |x::l=>if x≠0 then x else nK l
def IF(g:Nat)(a:List Int)(w:aa)(hx:a.length<=100)(k:ah w g 3 (a.map (Value.int .i64)).toArray):Calls prog 259 #[ad (some ⟨g,0,none⟩) a.length a.length] w λ e b=>e=ao (O (nK a))/\w=b:=by
 obtain⟨R,d⟩:∃R,nK a=R:=⟨_,rfl⟩;rw[d];have h:=Z d;have f:=Z k
 go_enter func259,ntmps259
 go_wp2
 go_loop [8] (λ b=>∃j:Nat,j<=a.length/\b=O (j:Int)/\nK (a.drop j)=R) (λ b=>a.length-(intOf b).toNat)
 case atStart=>exact⟨0,by omega,rfl,h.U⟩
 case round=>
  obtain⟨j,n,rfl,b⟩:=hrel;by_cases e:j<a.length
  ·rw[gE e,nK] at b;have m:w.cell? ⟨g,j,none⟩=some (O a[j]):=by
    rw[f.U.cell];simp[e]
   generalize a[j]=x at*;by_cases c:x=0
   ·subst c;rw[aj zS] at b;have i:=Z b
    go_wp2
    go_round
    case rel=>exact⟨j+1,by omega,by go_num,i.U⟩
    case measure=>simp[intOf];omega
   ·rw[ax c] at b;have l:(x==0)=false:=by rw[cc];exact c
    subst b
    go_wp2
    go_ret
    exact⟨rfl,rfl⟩
  ·rw[jQ W,nK] at b;subst b
   go_wp2
   go_ret
   exact⟨rfl,rfl⟩
def Tryz.HB:Go.Shelf.Ren:=⟨λ|106=>260|213=>289|265=>310|n=>n,λ|9=>9|3=>3|n=>n,λ|n=>n⟩
def Tryz.T6:Go.Proofs.Lays.n106 prog Tryz.HB:=⟨by kernel_rfl,dH func260,dH func289,dH func310,oB,Ad,Ay,AD,dO,Af,AA,AF⟩
def Oc:Tryz.HB.f 106=260:=by kernel_rfl
def FL(a b:ag)(w:aa):Calls prog 260 #[ae a,ae b] w λ e c=>e=ao (O (Lib.compareBytes a.data.toList b.data.toList))/\w=c:=by
 have h:=Any.strings_Compare Tryz.T6 a b w;rw[Oc] at h;exact h.mono λ _ _ ⟨c,d⟩=>⟨c,d.symm⟩
def HD.texts(a b:HD):Int:=nK [Lib.compareBytes a.aE.data.toList b.aE.data.toList,Lib.compareBytes a.a.data.toList b.a.data.toList]
def Zo(a b:HD)(e f:Nat)(w:aa)(h:(Y.row e 59 a.cells).P w)(j:(Y.row f 59 b.cells).P w):CB 258 #[pV e,pV f] w (O (a.texts b)):=by
 have d:=Z (aP h (aP j bf));have c:=Z (af.start w [])
 go_enter func258,ntmps258
 go_upto_region 1 with fail
 refine kJ c d 12 [] λ o c k=>?_;refine VV [0,2001,2,2003,5,2006,7,2008] k ?_;refine KV 4 (en 260) 7 ?_;refine KQ (FL _ _ _) ?_;refine⟨_,rfl,c.U.bH d.U,?_⟩;simp only[au,ay];refine KV 9 (en 260) 12 ?_;refine KQ (FL _ _ _) ?_;refine⟨_,rfl,c.U.bH d.U,?_⟩;simp only[au,ay];refine az.make c.U (i:=10) V zD rfl rfl 13 rfl (some 2) 3 ?ace ?Rv ?_;case Rv=>(go_simp;(refine⟨rfl,?_⟩;rfl))
 intro g n m l;replace c:=Z l;refine⟨c.U.bH d.U,?_⟩;simp only[bk];simp only[aH,au,ay];refine KV 11 (en 259) 14 ?_;refine KQ (IF g [_,_] _ zS (c.U.in (by exact .head _))) ?_;refine⟨_,rfl,c.U.bH d.U,?_⟩;simp only[au,ay];refine WT ?_
 go_wp2
 go_ret
 exact⟨rfl,c.U.ak⟩
end
variable{a:Act}{H h:HD}{o:Oper}{X:Operand}
def tH{a b:ag}:a.toList=b.toList↔a=b:=by
 constructor
 ·intro h;rw[ky,ky] at h;exact vh (kx h)
 grind
def HD.eq_iff:h=H↔((h.size:Int)=(H.size:Int)/\(h.time:Int)=(H.time:Int)/\h.aE.toList=H.aE.toList/\h.a.toList=H.a.toList):=by
 obtain⟨a,b,c,d⟩:=h;obtain⟨e,f,g,i⟩:=H;simp only[HD.mk.injEq,tH];grind
def XA(p q:HD)(o:Oper)(a:Act)(x y:Operand)(f:o.op= .binOp .eql 59 x y 59)(hx:a.eval x=p.val)(g:a.eval y=q.val)(w:aa):(execOp a.eval o).run prog w= .ok (.value (aF (decide (p=q)))) w:=by
 unfold execOp;simp only[f,hx,g]
 go_simp
 by_cases b:(p.size:Int)=(q.size:Int)
 ·by_cases c:(p.time:Int)=(q.time:Int)
  ·by_cases d:p.aE.toList=q.aE.toList
   ·by_cases e:p.a.toList=q.a.toList
    ·have h:p=q:=HD.eq_iff.2 ⟨b,c,d,e⟩;grind
    ·have h:¬p=q:=by grind
     grind
   ·have h:¬p=q:=by grind
    grind
  ·have h:¬p=q:=by grind
   grind
 ·have h:¬p=q:=by grind
  grind
def rn{ops:Array Oper}{rest:List Oper}{w:aa}{Q:Exit->Act->aa->Prop}(p q:HD)(b:Region.wanted o (yielded ops a.tmps)=true){y:Operand}(c:o.op= .binOp .eql 59 X y 59)(hx:a.eval X=p.val)(d:a.eval y=q.val)
 (f:wpList prog ops Q rest (a.put o.dst (aF (decide (p=q)))) w):wpList prog ops Q (o::rest) a w:=by
 refine dW b λ K e=> ?_
 unfold Oper.wp
 rw[XA p q o a X y c hx d w,jV]
 grind
def HD.ahead(a b:HD):Int:=if a=b then 0 else nK [kS a.size b.size,kS a.time b.time,a.texts b]
def Hi(a b:HD)(w:aa):CB 211 #[a.val,b.val] w (O (a.ahead b)):=by
 have c:=Z (af.start w []);by_cases d:a=b
 ·have f:a.ahead b=0:=by unfold HD.ahead;rw[ax d]
  rw[f];subst d
  go_enter func211,ntmps211
  go_wp2_with(first|refine KB c 59 2 (a.cells) λ h e m c=>?_|refine KB c 59 3 (a.cells) λ k e n c=>?_|refine KT c 4 ?_|refine rn a a rfl rfl rfl rfl ?_;rw[show decide (a=a)=true by simp])
  go_ret
  exact⟨rfl,c.U.ak⟩
 ·have f:a.ahead b=nK [kS a.size b.size,kS a.time b.time,a.texts b]:=by unfold HD.ahead;rw[aj d]
  rw[f];have g:=Z d
  go_enter func211,ntmps211
  go_upto_region 4 with(first|refine KB c 59 2 (a.cells) λ h e m c=>?_|refine KB c 59 3 (b.cells) λ k e n c=>?_|refine KT c 4 ?_|refine rn a b rfl rfl rfl rfl ?_;rw[bu g.U])
  refine RG c 14 [1,0] λ r c l=>?_;refine VV [0,2001,2,2003,5,2006,7,2008,10] l ?_;refine KV 4 (en 261) 14 ?_;refine KQ (FK _ _ _) ?_;refine⟨_,rfl,bo c [1,0],?_⟩;simp only[au,ay];refine KV 9 (en 261) 19 ?_;refine KQ (FK _ _ _) ?_;refine⟨_,rfl,bo c [1,0],?_⟩;simp only[au,ay];refine az.NP (i:=11) V zD rfl rfl 21 rfl rfl rfl 258 rfl (en 258) _ rfl ?_;refine KC c (Zo a b _ _ _ (c.U.in (by exact .tail _ (.head _))) (c.U.in (by exact .head _))) λ q c=>?_;refine⟨_,rfl,bo c [1,0],?_⟩;simp only[aH,au,ay];refine az.make c.U (i:=12) V zD rfl rfl 22 rfl (some 3) 3 ?acf ?Rw ?_;case Rw=>(go_simp;(refine⟨rfl,?_⟩;rfl))
  intro j e p o;replace c:=Z o;refine⟨bo c [2,1],?_⟩;simp only[bk];simp only[aH,au,ay];refine KV 13 (en 259) 23 ?_;refine KQ (IF j [_,_,_] _ zS (c.U.in (by exact .head _))) ?_;refine⟨_,rfl,bo c [2,1],?_⟩;simp only[au,ay];refine WT ?_
  go_wp2
  go_ret
  exact⟨rfl,c.U.ak⟩
variable{k:Nat}
def v7{a b:ag}(h:a.data.toList=b.data.toList):a=b:=vh (kx h)
def kP{a b:ag}(h:a.data.toList=b.data.toList):a=b:=v7 h
def aV(l:List ag):List ab:=l.map Value.string
def Kx(l:List ag):(aV l).length=l.length:=by simp[aV]
def pw(a b:List ag):aV (a++b)=aV a++aV b:=by simp[aV]
def YR(l:List ag):∀u∈aV l,u.oneCell'=true:=by
 intro u a;simp only[aV,ep] at a;obtain⟨_,_,rfl⟩:=a;rfl
def DL:(prog.info? 9).map (λ i=>(i.zero,i.size,i.bytes))=some (some (ae ⟨#[]⟩),1,16):=by kernel_rfl
def bg(w:aa)(v:ab)(L:List ag):Prop:=∃(A:Option Addr) (a:Nat),v=ad A L.length a/\L.length<=maxLen/\∀i (h:i<L.length),∃b o,A=some ⟨b,o,none⟩/\(b<w.heap.size/\L.length<=a)/\w.cell? ⟨b,o+i,none⟩=some (ae L[i])
def bg.below{w d:aa}{v:ab}{L:List ag}{B:Nat}(h:bg w v L)(c:Below B w d)(j:w.heap.size=B):bg d v L:=by
 obtain⟨A,e,n,m,k⟩:=h;refine⟨A,e,n,m,λ i l=> ?_⟩;obtain⟨b,o,f,a,g⟩:=k i l;exact⟨b,o,f,⟨lQ a.1 c.size,a.2⟩,fb c j g⟩
def bP(base:Nat)(w:aa)(v:ab)(L:List ag):Prop:=w.ownsRow base 9 1 v L.length (aV L)
def bP.read{base:Nat}{w:aa}{v:ab}{L:List ag}(h:bP base w v L)(c:L.length<=maxLen):bg w v L:=by
 rcases h.2 with⟨a,d⟩|⟨g,e,j,a,l,f,d,m,k,n⟩
 ·exact⟨none,0,by grind,c,λ i b=>by omega⟩
 ·refine⟨some ⟨g,0,none⟩,e,a,c,λ i b=>⟨g,0,rfl,⟨(lG.1 f).1,d⟩,?_⟩⟩;subst a;have:=h.cells rfl i (ae L[i]) (by simp[aV,b]);rw[iF] at this;omega
def bP.nil(a:Nat)(w:aa):bP a w (ad none 0 0) []:=ct _ _ _ _
def bP.new{w:aa}(a:g<=w.heap.size):bP g (w.alloc (.cells #[] 9)) (ad (some ⟨w.heap.size,0,none⟩) 0 0) []:=
 vT w #[] 0 a zD rfl
def bg.src{w:aa}{v:ab}{L:List ag}(h:bg w v L):Src prog 1 64 v L.length (aV L) w:=by
 obtain⟨A,i,rfl,k,d⟩:=h;cases L with
 |nil=>
  cases A with
  |none=>exact Src.ofNil w lU _
  |some a=>exact oy w lU _ _ _ _ rfl (λ j u c=>by simp[aV] at c) (by intro u c;simp[aV] at c)
 |cons x l=>
  obtain⟨b,o,rfl,_,_⟩:=d 0 zS;refine oy w lU _ _ _ _ (by simp[aV]) (λ j u c=> ?_) (YR _);have e:j<(x::l).length:=by
   have:=ed.1 c;obtain⟨h,_⟩:=this;rw[Kx] at h;exact h
  obtain⟨g,m,a,_,f⟩:=d j e;injection a with a;injection a with e1 e2 _;subst e1 e2;rw[iF,f];simp only[aV,eI,ba e,vF] at c;exact c
def wu{w:aa}{v:ab}{L:List ag}(h:bg w v L)(y:L.length<=20000000):
 Calls prog 80 #[v] w λ e a=>(∃d,e=ao d/\bP w.heap.size a d L)/\BW w a:=by
 obtain⟨u,m,r,s,t⟩:=ki DL
 have B:=h.src
 have j:=h
 obtain⟨A,c,rfl,z,g⟩:=h
 cases A with
 |none=>
  have a:L=[]:=by
   cases L with
   |nil=>rfl
   |cons x l=>obtain⟨b,o,f,_⟩:=g 0 zS;cases f
  subst a
  have p:=λ e=>td (P:=prog) e 64 9 none 0 c 0 0 lU
  go_enter func80,ntmps80
  go_wp2
  go_ret
  exact⟨⟨_,rfl,bP.nil _ _⟩,bz _ _⟩
 |some a=>
  have p:=λ e=>td (P:=prog) e 64 9 (some a) L.length c 0 0 lU
  have q:Src prog 1 64 (ad (some a) L.length c) L.length (aV L) (w.alloc (.cells #[] 9)):=(j.below (bJ w _) rfl).src
  have n:(w.alloc (.cells #[] 9)).ownsRow w.heap.size 9 1 (ad (some ⟨w.heap.size,0,none⟩) 0 0) 0 []:=bP.new (aW w.heap.size)
  go_enter func80,ntmps80
  go_wp2_with(at_builtin;refine re rfl _ _ 64 64 rfl w.heap.size 9 u _ 1 16 lU m r s t rfl _ _ _ rfl n _ L.length (aV L) rfl q W W zS ?_)
  intro d x o i C
  have f:BW w x:=(bJ w (.cells #[] 9)).grown i zS (by intro k l;simp[Value.ownBlock] at l;omega)
  have b:=Z o;have e:=Z f
  go_wp2
  go_ret
  exact⟨⟨_,rfl,b.U⟩,e.U⟩
def qf(L M:List ag)(k:Nat):Prop:=L.take k=M.take k
def qf.succ{L M:List ag}(h:qf L M k)(h1:k<L.length)(h2:k<M.length)(e:L[k]=M[k]):qf L M (k+1):=by
 unfold qf at h⊢;rw[dC h1,dC h2,h,e]
def XI{w:aa}{v u:ab}{L M:List ag}(h:bg w v L)(k:bg w u M):
 Calls prog 240 #[v,u] w λ e a=>e=ao (aF (decide (L=M)))/\∃n,a=w.drewN n:=by
 obtain⟨A,H,rfl,d,b⟩:=h
 obtain⟨G,I,rfl,i,c⟩:=k
 have Q:L.length<=9223372036854775807:=d
 have S:M.length<=9223372036854775807:=i
 by_cases f:L.length=M.length
 ·obtain⟨R,a⟩:∃R,decide (L=M)=R:=⟨_,rfl⟩
  rw[a]
  have g:=Z a;have p:=Z b;have q:=Z c;have r:=Z f
  have C:((L.length:Int) !=(M.length:Int))=false:=by rw[AX];omega
  clear a b c d i f
  go_enter func240,ntmps240
  go_wp2
  go_loopw [13] (λ i wr=>∃j:Nat,j<=L.length/\i=O j/\qf L M j/\∃n,wr=w.drewN n) (λ i _=>L.length-(intOf i).toNat)
  case atStart=>exact⟨0,bh _,rfl,rfl,0,rfl⟩
  case round=>
   obtain⟨j,K,rfl,b,n,c⟩:=hrel
   have i:=Z b;have a:=Z c;clear b c
   by_cases l:j<L.length
   ·have m:j<M.length:=by have:=r.U;omega
    obtain⟨b,o,rfl,_,hx⟩:=p.U j l
    obtain⟨B,F,rfl,_,E⟩:=q.U j m
    have T:wr.cell? ⟨b,o+j,none⟩=some (ae L[j]):=by rw[a.U];exact hx
    have X:wr.cell? ⟨B,F+j,none⟩=some (ae M[j]):=by rw[a.U];exact E
    have N:(j:Int)<(L.length:Int):=by omega
    have P:(j:Int)<(M.length:Int):=by omega
    have D:=λ e=>qf.succ i.U l m e
    have t:=Z D
    have s:ai (L[j]≠M[j]->R=false):=Z (λ e=>by rw[<-g.U];grind)
    generalize L[j]=x at*
    generalize M[j]=y at*
    by_cases d:x=y
    ·subst d
     have z:=Z (t.U rfl)
     go_wp2
     go_quiet (fail)
     go_wp2
     go_roundw
     case rel=>exact⟨j+1,by omega,by go_num,z.U,_,by rw[a.U,World.drewN_drewN]⟩
     case measure=>simp[intOf];omega
    ·have c:=Z (s.U d)
     have J:(x.toList==y.toList)=false:=by
      rw[ky,ky,cc]
      intro e;exact d (kP e)
     go_wp2
     go_quiet (fail)
     go_wp2
     go_ret
     exact⟨by rw[c.U];rfl,_,by rw[a.U,World.drewN_drewN]⟩
   ·have c:ai (R=true):=Z (by
     rw[<-g.U];simp
     have z:=i.U
     unfold qf at z
     grind)
    go_wp2
    go_ret
    exact⟨by rw[c.U];rfl,n,a.U⟩
 ·have hd:decide (L=M)=false:=by simp;rintro rfl;exact f rfl
  rw[hd]
  have C:((L.length:Int) !=(M.length:Int))=true:=by rw[nu];omega
  go_enter func240,ntmps240
  go_wp2
  go_ret
  exact⟨rfl,0,rfl⟩
def eE(s:ag):Bool:=decide (s.size≠32)
def cu(L:List ag):Bool:=L.any eE
def VD(s:ag)(w:aa):Calls prog 152 #[ae s] w λ e a=>e=ao (aF (eE s))/\w=a:=by
 have c:((s.size:Int) !=32)=eE s:=by unfold eE;rw[bI];simp;omega
 generalize eE s=b at*
 go_enter func152,ntmps152
 go_wp2
 go_ret
 exact⟨rfl,rfl⟩
def SX{w:aa}{v:ab}{L:List ag}(h:bg w v L):Calls prog 220 #[v,.func (.func 152) #[] #[]] w λ e a=>(∃i:Int,e=ao (O i)/\decide (0<=i)=cu L)/\w=a:=by
 obtain⟨A,q,rfl,p,n⟩:=h;have u:L.length<=9223372036854775807:=p;obtain⟨R,e⟩:∃R,cu L=R:=⟨_,rfl⟩;rw[e];have i:=Z e;have k:=Z n
 go_enter zT,An
 go_wp2
 go_loop [8] (λ a=>∃j:Nat,j<=L.length/\a=O (j:Int)/\cu (L.drop j)=R) (λ a=>L.length-(intOf a).toNat)
 case atStart=>exact⟨0,by omega,rfl,i.U⟩
 case round=>
  obtain⟨j,t,rfl,a⟩:=hrel;by_cases g:j<L.length
  ·rw[gE g] at a;unfold cu at a;rw[tf] at a;obtain⟨b,o,rfl,s,hx⟩:=k.U j g;have r:(j:Int)<(L.length:Int):=by omega
   have c:=Z a;generalize L[j]=x at*;obtain⟨B,m⟩:∃B,eE x=B:=⟨_,rfl⟩;have f:=VD x;rw[m] at f c;have l:=Z f
   go_wp2_with fail
   refine KQ (l.U _) ?_;cases B with
   |true=>
    have d:=Z (show R=true by rw[<-c.U];rfl)
    go_wp2
    go_ret
    exact⟨⟨_,rfl,by rw[d.U];simp⟩,rfl⟩
   |false=>
    have d:ai (cu (L.drop (j+1))=R):=Z (by rw[<-c.U];rfl)
    go_wp2
    go_round
    case rel=>exact⟨j+1,by omega,by go_num,d.U⟩
    case measure=>simp[intOf];omega
  ·rw[jQ W] at a;have c:=Z (show R=false from a.symm)
   go_wp2
   go_ret
   exact⟨⟨_,rfl,by rw[c.U];rfl⟩,rfl⟩
def Oe{w:aa}{v:ab}{L:List ag}(h:bg w v L):Calls prog 154 #[v,.func (.func 152) #[] #[]] w λ e c=>e=ao (aF (cu L))/\w=c:=by
 have a:=Z (SX h);obtain⟨R,b⟩:∃R,cu L=R:=⟨_,rfl⟩;rw[b] at a⊢
 go_enter zJ,Ag
 go_wp2_with fail
 refine a.U.mono ?_;rintro e d ⟨⟨i,rfl,c⟩,rfl⟩
 go_wp2
 go_ret
 exact⟨rfl,rfl⟩
def VE(s:ag)(w:aa):Calls prog 157 #[ae s] w λ e a=>e=ao (aF (eE s))/\w=a:=by
 have c:((s.size:Int) !=32)=eE s:=by unfold eE;rw[bI];simp;omega
 generalize eE s=b at*
 go_enter func157,ntmps157
 go_wp2
 go_ret
 exact⟨rfl,rfl⟩
def SY{w:aa}{v:ab}{L:List ag}(h:bg w v L):Calls prog 220 #[v,.func (.func 157) #[] #[]] w λ e a=>(∃i:Int,e=ao (O i)/\decide (0<=i)=cu L)/\w=a:=by
 obtain⟨A,q,rfl,p,n⟩:=h;have u:L.length<=9223372036854775807:=p;obtain⟨R,e⟩:∃R,cu L=R:=⟨_,rfl⟩;rw[e];have i:=Z e;have k:=Z n
 go_enter zT,An
 go_wp2
 go_loop [8] (λ a=>∃j:Nat,j<=L.length/\a=O (j:Int)/\cu (L.drop j)=R) (λ a=>L.length-(intOf a).toNat)
 case atStart=>exact⟨0,by omega,rfl,i.U⟩
 case round=>
  obtain⟨j,t,rfl,a⟩:=hrel;by_cases g:j<L.length
  ·rw[gE g] at a;unfold cu at a;rw[tf] at a;obtain⟨b,o,rfl,s,hx⟩:=k.U j g;have r:(j:Int)<(L.length:Int):=by omega
   have c:=Z a;generalize L[j]=x at*;obtain⟨B,m⟩:∃B,eE x=B:=⟨_,rfl⟩;have f:=VE x;rw[m] at f c;have l:=Z f
   go_wp2_with fail
   refine KQ (l.U _) ?_;cases B with
   |true=>
    have d:=Z (show R=true by rw[<-c.U];rfl)
    go_wp2
    go_ret
    exact⟨⟨_,rfl,by rw[d.U];simp⟩,rfl⟩
   |false=>
    have d:ai (cu (L.drop (j+1))=R):=Z (by rw[<-c.U];rfl)
    go_wp2
    go_round
    case rel=>exact⟨j+1,by omega,by go_num,d.U⟩
    case measure=>simp[intOf];omega
  ·rw[jQ W] at a;have c:=Z (show R=false from a.symm)
   go_wp2
   go_ret
   exact⟨⟨_,rfl,by rw[c.U];rfl⟩,rfl⟩
def Of{w:aa}{v:ab}{L:List ag}(h:bg w v L):Calls prog 154 #[v,.func (.func 157) #[] #[]] w λ e c=>e=ao (aF (cu L))/\w=c:=by
 have a:=Z (SY h);obtain⟨R,b⟩:∃R,cu L=R:=⟨_,rfl⟩;rw[b] at a⊢
 go_enter zJ,Ag
 go_wp2_with fail
 refine a.U.mono ?_;rintro e d ⟨⟨i,rfl,c⟩,rfl⟩
 go_wp2
 go_ret
 exact⟨rfl,rfl⟩
def VF(s:ag)(w:aa):Calls prog 242 #[ae s] w λ e a=>e=ao (aF (eE s))/\w=a:=by
 have c:((s.size:Int) !=32)=eE s:=by unfold eE;rw[bI];simp;omega
 generalize eE s=b at*
 go_enter func242,ntmps242
 go_wp2
 go_ret
 exact⟨rfl,rfl⟩
def S0{w:aa}{v:ab}{L:List ag}(h:bg w v L):Calls prog 220 #[v,.func (.func 242) #[] #[]] w λ e a=>(∃i:Int,e=ao (O i)/\decide (0<=i)=cu L)/\w=a:=by
 obtain⟨A,q,rfl,p,n⟩:=h;have u:L.length<=9223372036854775807:=p;obtain⟨R,e⟩:∃R,cu L=R:=⟨_,rfl⟩;rw[e];have i:=Z e;have k:=Z n
 go_enter zT,An
 go_wp2
 go_loop [8] (λ a=>∃j:Nat,j<=L.length/\a=O (j:Int)/\cu (L.drop j)=R) (λ a=>L.length-(intOf a).toNat)
 case atStart=>exact⟨0,by omega,rfl,i.U⟩
 case round=>
  obtain⟨j,t,rfl,a⟩:=hrel;by_cases g:j<L.length
  ·rw[gE g] at a;unfold cu at a;rw[tf] at a;obtain⟨b,o,rfl,s,hx⟩:=k.U j g;have r:(j:Int)<(L.length:Int):=by omega
   have c:=Z a;generalize L[j]=x at*;obtain⟨B,m⟩:∃B,eE x=B:=⟨_,rfl⟩;have f:=VF x;rw[m] at f c;have l:=Z f
   go_wp2_with fail
   refine KQ (l.U _) ?_;cases B with
   |true=>
    have d:=Z (show R=true by rw[<-c.U];rfl)
    go_wp2
    go_ret
    exact⟨⟨_,rfl,by rw[d.U];simp⟩,rfl⟩
   |false=>
    have d:ai (cu (L.drop (j+1))=R):=Z (by rw[<-c.U];rfl)
    go_wp2
    go_round
    case rel=>exact⟨j+1,by omega,by go_num,d.U⟩
    case measure=>simp[intOf];omega
  ·rw[jQ W] at a;have c:=Z (show R=false from a.symm)
   go_wp2
   go_ret
   exact⟨⟨_,rfl,by rw[c.U];rfl⟩,rfl⟩
def Og{w:aa}{v:ab}{L:List ag}(h:bg w v L):Calls prog 154 #[v,.func (.func 242) #[] #[]] w λ e c=>e=ao (aF (cu L))/\w=c:=by
 have a:=Z (S0 h);obtain⟨R,b⟩:∃R,cu L=R:=⟨_,rfl⟩;rw[b] at a⊢
 go_enter zJ,Ag
 go_wp2_with fail
 refine a.U.mono ?_;rintro e d ⟨⟨i,rfl,c⟩,rfl⟩
 go_wp2
 go_ret
 exact⟨rfl,rfl⟩
structure BD where
 a:HD
 b:HD
 e:List ag
 deriving DecidableEq
abbrev BD.cells(x:BD)(a:ab):List ab:=[U (x.a.size:Int),U (x.a.time:Int),ae x.a.aE,ae x.a.a,U (x.b.size:Int),U (x.b.time:Int),ae x.b.aE,ae x.b.a,a]
abbrev BD.val(x:BD)(a:ab):ab:=aG #[U (x.a.size:Int),U (x.a.time:Int),ae x.a.aE,ae x.a.a,U (x.b.size:Int),U (x.b.time:Int),ae x.b.aE,ae x.b.a,a]
structure BD.Ok(x:BD):Prop where
 a:x.a.Ok
 b:x.b.Ok
 e:x.e.length<1000000
def BD.right(x:BD):Bool:=x.a.right&&x.b.right&&decide (x.e.length<=48)&& !cu x.e
def By(x:BD)(e:ab)(w:aa)(c:bg w e x.e):CB 76 #[x.val e] w (aF x.right):=by
 obtain⟨R,b⟩:∃R,x.right=R:=⟨_,rfl⟩;rw[b];unfold BD.right at b;have p1:=λ w=>tV x.a w;have p2:=λ w=>tV x.b w;have p4:=λ(a:aa) (h:BW w a)=>Oe (c.below h rfl);have d3:decide ((x.e.length:Int)<=48)=decide (x.e.length<=48):=by rw[bI];simp;omega
 obtain⟨A,o,rfl,r,-⟩:=c;generalize x.a.right=j at*;generalize x.b.right=k at*;generalize decide (x.e.length<=48)=l at*;generalize cu x.e=n at*;have a:=Z (af.start w []);have f:=Z b;have g:=Z p1;have h:=Z p2;have i:=Z p4
 go_enter func76,ntmps76
 cases j;rotate_left
 cases k;rotate_left
 cases l
 all_goals
  have d:=f.U;simp only[sB] at d;subst d
  go_wp2_with(first|refine KB a 66 1 (x.cells _) λ p s q a=>?_|refine KT a 4 ?_|refine Kl a ?_|go_at_call 153;refine KC a (g.U _) λ m a=>?_|go_at_call 153;refine KC a (h.U _) λ m a=>?_|go_at_call 154;refine KQ (i.U _ a.U.ak) ?_)
  skip;all_goals
   go_ret
   exact⟨rfl,a.U.ak⟩
