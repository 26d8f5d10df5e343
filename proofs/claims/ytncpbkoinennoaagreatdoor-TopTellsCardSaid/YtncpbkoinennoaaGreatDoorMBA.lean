import Derived.Lib.AppendZeros
import Derived.Lib.Overlaps
import Derived.Test.YtncpbkoinennoaaGreatDoorMAX
import Derived.Test.YtncpbkoinennoaaGreatDoorMAY
set_option linter.all false
set_option maxRecDepth 100000
set_option maxHeartbeats 0
namespace Go.Proofs.YtncpbkoinennoaaGreatDoor
open Go.RowKit Proofs.Tryz
attribute [local irreducible] wpList Calls
variable{r:Int}{g i k n:Nat}{o:Oper}{X:Operand}{t:TypeId}
def uw(a:Act)(v:ab):a.put none v=a:=rfl
def CP(t:Array ab)(d:List Deferred)(k:Tmp)(v:ab):Act.put ⟨t,d⟩ (some k) v=⟨t.setIfInBounds k v,d⟩:=rfl
def DP(h:i<=100000):IntKind.i64.wrap ((i:Int)+1)=(i:Int)+1:=by
 rw[fS];omega
def CE(b:List ab)(o:Nat)(c:List ab)(h:o+c.length<=b.length):eF b o c=b.take o++(c++b.drop (o+c.length)):=by
 have d:b=b.take o++((b.drop o).take c.length++b.drop (o+c.length)):=by
  rw[<-List.drop_drop,ou,ou]
 have e:(b.take o).length=o:=by simp;omega
 have:=CG c (b.take o) ((b.drop o).take c.length) (b.drop (o+c.length)) (by grind);grind
def Xz(w:aa)(dT B C elem:TypeId)(size:Nat)(g o c l:Nat)(x:Addr)(e A:Nat)(t:TypeId)(f:Array ab)(b:List ab)
 (z:prog.underlying dT=some (.slice elem)) (u:(prog.info? elem).map (·.size)=some size)
 (q:ah w g t f) (s:b.length=Nat.min e c*size)
 (y:∀j v,b[j]?=some v->w.cell? (x.add j)=some v) (p:o+b.length<=f.size) (h1:∀v∈b,v.oneCell'=true):
 (Builtin.copy_ #[dT,B] C #[ad (some ⟨g,o,none⟩) c l,ad (some x) e A]).run prog w=
  .ok (goInt (Nat.min e c)) (w.setCells g o b):=by
 have r:=run_loadCells_list (P:=prog) w x b y
 have k:=q.mH (o:=o) (n:=b.length) p
 have h:=xY (P:=prog) g o b 0 w (λ j d=>by simpa using(k j d).1) (λ j d=>by simpa using(k j d).2) h1
 simp only[hJ] at h
 cases d:prog.info? elem with
 |none=>grind
 |some i=>
  have j:i.size=size:=by simpa[d] using u
  simp[Builtin.copy_,fN z,Builtin.lenOf,Builtin.firstCells,sizeOf,typeInfo,d,j,<-s,r,h]
section
variable{w wr:aa}{m:List Nat}{aq:List Y}{ops:Array Oper}{rest:List Oper}{op:Oper}{a:Act}{Q:Exit->Act->aa->Prop}
def aaO(w:aa){a:Act}{K:Act->aa->Prop}{Q:Exit->Act->aa->Prop}(d s:Operand)(t b:TypeId)
 (f:o.op= .call {callee:= .builtin .copy,args:=#[d,s],argTypes:=#[t,b]}) (v u:ab) (hd:a.eval d=v) (i:a.eval s=u) {c:ab} {e:aa}
 (g:(Builtin.copy_ #[t,b] o.type #[v,u]).run prog w= .ok c e) (h:K (a.put o.dst c) e):o.wp prog a w K Q:=by
 unfold Oper.wp execOp
 simp only[f,resolve,invoke,builtin,cL,dw,cZ,jf,cw,ek,hd,i,g]
 exact h
def aaN(w:aa){a:Act}{K:Act->aa->Prop}{Q:Exit->Act->aa->Prop}(d:Operand)(t:TypeId)
 (e:o.op= .call {callee:= .builtin .clear,args:=#[d],argTypes:=#[t]}) (v:ab) (hd:a.eval d=v) {b:ab} {c:aa}
 (f:(Builtin.clear_ #[t] o.type #[v]).run prog w= .ok b c) (h:K (a.put o.dst b) c):o.wp prog a w K Q:=by
 unfold Oper.wp execOp
 simp only[e,resolve,invoke,builtin,cL,dw,cZ,jf,cw,ek,hd,f]
 exact h
def pJ(h:af w wr m aq)(A:Region.wanted op (yielded ops a.tmps)=true){e:TypeId}{size bytes:Nat}(o:dh t e size bytes){x:Operand}(C:op.op= .call {callee:= .builtin .copy,args:=#[X,x],argTypes:=#[t,t]})
 (l:Nat) {f:TypeId} {d:List ab} (p:aq[l]?=some (Y.row g f d)) {dl:Nat} (hd:a.eval X=ad (some ⟨g,n,none⟩) dl k)
 {y:Addr} {r:Nat} (hx:a.eval x=ad (some y) i r) (b:Nat) (q:b<=i/\b<=dl/\(b=i\/b=dl)) (c:List ab) (E:c.length=b*size) (B:∀j v,c[j]?=some v->wr.cell? (y.add j)=some v) (D:n+b*size<=d.length) (h1:∀v∈c,v.oneCell'=true)
 (u:∀j,af w j m (aq.set l (Y.row g f (d.take n++(c++d.drop (n+c.length)))))->wpList prog ops Q rest (a.put op.dst (goInt b)) j):wpList prog ops Q (op::rest) a wr:=by
 obtain⟨F,z,e1,e2,e3,e4,e5⟩:=o.el
 have v:=h.row p
 have q:Nat.min i dl=b:=by
  show min i dl=b
  omega
 have j:=Xz wr t t op.type e size g n dl k y i r f d.toArray c o.a (by grind) v (by grind) B (by grind) h1
 rw[q] at j
 refine dW A λ _ s=>aaO wr X x t t C _ _ hd hx j (s _ _ (u _ ?_))
 rw[<-CE d n c W]
 exact h.cells l p n c
def qU(h:af w wr m aq)(i:Nat){b:List ab}(d:aq[i]?=some (Y.row g t b))(o n:Nat):∀j v,((b.drop o).take n)[j]?=some v->wr.cell? ((⟨g,o,none⟩:Addr).add j)=some v:=by
 intro j v e;have c:=h.row d;rw[iF,c.cell];grind
def Xy(w:aa)(t g B e:TypeId)(i:TypeInfo)(z:ab)(A:IntKind)(u:prog.underlying t=some (.slice e))(v:prog.underlying g=some (.int A))(l:prog.info? e=some i)(y:i.zero=some z)(d:Option Addr)(b c:Nat)(f:List ab)
 (s:(Builtin.firstCells i.size b (ad d b c)).run prog w.drew= .ok f.toArray w.drew) (n:Nat) (C:0<n) (F:0<i.size)
 (E:c<b+n) (h63:((b+n:Nat):Int)<=9223372036854775807) (h48:n*i.bytes<=281474976710656) (D:Builtin.nextslicecap (b+n) c*i.bytes<=281474976710656):
 (Builtin.append_ #[t,g] B #[ad d b c,O (n:Int)]).run prog w=
  .ok (ad (some ⟨w.heap.size,0,none⟩) (b+n) (grownCap w (b+n) c e))
   (w.drew.alloc (.cells (f.toArray++Builtin.zeroCells z.cells n++Builtin.zeroCells z.cells (grownCap w (b+n) c e-(b+n))) e)):=by
 have p:n≠0:=by omega
 have x:IntKind.i64.wrap (n:Int)=n:=by rw[fS];omega
 have o:¬(b+n<=c):=by omega
 have k:¬(9223372036854775807<((b:Int)+(n:Int))):=by omega
 have h:¬(281474976710656<Builtin.nextslicecap (b+n) c*i.bytes):=by omega
 have j:¬(281474976710656<(n:Int)*(i.bytes:Int)):=by
  rw[<-vm]
  omega
 have q:¬((n:Int)<0):=by omega
 have r:¬(n*i.size=0):=Nat.mul_ne_zero p W
 simp[Builtin.append_,fN u,fN v,sizeOf,typeInfo,zeroValue,l,y,asInt,asIntOf,x,o,q,r,k,h,j,Question.forced,s,newRow,grownCap]
def LD(h:af w wr m aq)(F:Region.wanted op (yielded ops a.tmps)=true){f e:TypeId}{size bytes:Nat}(j:dh t e size bytes){s:IntKind}(P:prog.underlying f=some (.int s)){x:Operand}(J:op.op= .call {callee:= .builtin .append,args:=#[X,x],argTypes:=#[t,f]})
 (i:Nat) {u:TypeId} {c:List ab} (H:aq[i]?=some (Y.row g u c)) (M:a.eval X=ad (some ⟨g,0,none⟩) n k) (hx:a.eval x=O r) (b:Nat) (B:r=(b:Int)) (N:Nat) (A:N=n+b) (v:0<b) (R:n*size<=c.length)
 (p:k<N) (h63:N<=maxLen) (D:N*bytes<=140737488355328)
 (C:∀d q l o,l.length+n*size=q*size->N<=q->q<=maxLen->af w o m (Y.row d e (c.take (n*size)++l)::aq)->wpList prog ops Q rest (a.put op.dst (ad (some ⟨d,0,none⟩) N q)) o):wpList prog ops Q (op::rest) a wr:=by
 subst B A
 obtain⟨l,z,e1,e2,e3,e4,e5⟩:=j.el
 have K:(Builtin.firstCells l.size n (ad (some ⟨g,0,none⟩) n k)).run prog wr.drew= .ok (c.take (n*size)).toArray wr.drew:=by
  have:=qU h.drew i H 0 (n*size)
  rw[jR] at this
  exact run_firstCells_some wr.drew l.size n _ n k _ (by grind) this
 have S:maxLen=9223372036854775807:=rfl
 have L:=Xy wr t f op.type e l z s j.a P e1 e2 (some ⟨g,0,none⟩) n k _ K b v (by rw[e3];exact j.pos) p W
  (by grind) (by rw[e4];exact growslice_fits p D)
 refine dW F λ _ y=>Lib.wp_append_run wr X x t f J _ _ M hx _ _ L (y _ _ ?_)
 have q:=grownCap_ge wr (n+b) k e
 have I:=grownCap_le_maxLen wr (n+b) k e h63
 have o:=h.drew.alloc (c.take (n*size)++(Builtin.zeroCells z.cells b++Builtin.zeroCells z.cells (grownCap wr (n+b) k e-(n+b))).toList) e
 have E:(c.take (n*size)++(Builtin.zeroCells z.cells b++Builtin.zeroCells z.cells (grownCap wr (n+b) k e-(n+b))).toList).toArray=(c.take (n*size)).toArray++Builtin.zeroCells z.cells b++Builtin.zeroCells z.cells (grownCap wr (n+b) k e-(n+b)):=by
  apply kx
  simp
 rw[E] at o
 generalize grownCap wr (n+b) k e=G at*
 refine C wr.heap.size G _ _ ?_ q I o
 obtain⟨d,rfl⟩:∃d,G=n+b+d:=⟨G-(n+b),(Nat.add_sub_cancel' q).symm⟩
 rw[hz,Array.size_append,Da,Da,e5,Ev,kG,kG]
 omega
end
def nL{w wr:aa}{m:List Nat}{aq:List Y}(h:af w wr m aq)(i:Nat){size:Nat}{v:ab}{xs:List ab}(c:aq[i]?=some (Y.ow t size v n xs))(s:n≠0):
 ∃g b d,v=ad (some ⟨g,0,none⟩) n b/\n<=b/\b<=maxLen/\(xs++d).length=b*size/\af w wr m (aq.set i (Y.row g t (xs++d))):=by
 have o:wr.ownsRow 0 t size v n xs:=h.get c
 obtain⟨q,⟨-,r⟩|⟨g,b,d,rfl,-,e,f,l,u,p⟩⟩:=o
 ·grind
 ·refine⟨g,b,d.toList.drop (n*size),rfl,f,l,?_,?_⟩
  ·grind
  ·refine h.at i c ⟨aR.refl _ _ _,?_,λ k j=> .inl ?_⟩
   ·show ah wr g t _
    rw[<-p,ou]
    exact e
   ·have:k=g:=by simpa[Y.row] using j
    subst this
    simp[Y.ow,Value.ownBlock]
def ie{w wr:aa}{m:List Nat}{aq:List Y}(h:af w wr m aq)(i:Nat){c:List ab}(d:aq[i]?=some (Y.row g t c))(n b size:Nat)(p:n<=b)(o:b<=maxLen)(l:c.length=b*size)(e:List ab)(hx:c.take (n*size)=e):
 af w wr m (aq.set i (Y.ow t size (ad (some ⟨g,0,none⟩) n b) n e)):=by
 have f:=h.row d
 refine h.at i d ⟨aR.refl _ _ _,⟨?_,.inr ⟨g,b,c.toArray,rfl,bh _,f,p,o,by omega,by omega⟩⟩,λ k j=> .inl ?_⟩
 ·rw[<-hx,ee,l]
  simp_all
 ·have:k=g:=by simpa[Y.ow,Value.ownBlock] using j
  subst this
  simp[Y.row]
variable{h:HD}{I:List Y}{m:List Nat}
def Km{w wr:aa}(b:af w wr m I)(i:Nat)(c:I[i]?=some (Y.row g 59 h.cells)):Src prog 4 60 (ad (some ⟨g,0,none⟩) 1 1) 1 h.cells wr:=
 oy wr np ⟨g,0,none⟩ 1 1 h.cells rfl (λ j u d=>by
  have:=qU b i c 0 4 j u
  grind) (λ u a=>by
  simp only[HD.cells,bV,rz,sz] at a
  rcases a with rfl|rfl|rfl|rfl<;>rfl)
def Yb(w:aa):(Go.sizeOf 59).run prog w= .ok 4 w:=by
 simp
def V5{p w:aa}{rest:List Y}{a:List ab}(b:af p w m (Y.row n 59 a::Y.row g 59 h.cells::rest))(k:a.length≠0)(o f d:Nat):
 (callFunc 278 #[ad (some ⟨g,0,none⟩) 1 1,ad (some ⟨n,o,none⟩) f d]).run prog w= .ok (.value (aF false)) w:=by
 have l:g≠n:=by
  have:=b.b
  rintro rfl
  simp[blocks,Y.row] at this
 have j:w.heap[n]?=some (.cells a.toArray 59 (0,0)):=b.row (i:=0) rfl
 have c:w.heap[g]?=some (.cells h.cells.toArray 59 (0,0)):=b.row (i:=1) rfl
 rw[run_callFunc_extern func278 zR zR zR (e:=Extern.SlicesOverlaps.overlaps #[60,60] #[4]) V,
  Lib.run_overlaps_apart w 60 4 59 np 4 Yb ⟨g,0,none⟩ ⟨n,o,none⟩ 1 1 f d l 59 59 4 a.length (by simp[World.shape?,c]) (by simp[World.shape?,j]) k (by simp[World.frozen?,c]) (by simp[World.frozen?,c])]
 rfl
def QF(L:List HD)(i:Nat):(bE (L.take i)).flatten=(bE L).flatten.take (i*4):=by
 induction L generalizing i with
 |nil=>simp[bE]
 |cons x l a=>
  cases i with
  |zero=>rfl
  |succ i=>
   rw[List.take_succ_cons];show x.cells++(bE (l.take i)).flatten=(x.cells++(bE l).flatten).take ((i+1)*4);grind
def QE(L:List HD)(i:Nat):(bE (L.drop i)).flatten=(bE L).flatten.drop (i*4):=by
 induction L generalizing i with
 |nil=>simp[bE]
 |cons x l a=>
  cases i with
  |zero=>rfl
  |succ i=>
   rw[rp];show(bE (l.drop i)).flatten=(x.cells++(bE l).flatten).drop ((i+1)*4);grind
def wO(L:List HD):(bE L).flatten.length=L.length*4:=by
 rw[BH (bE L) (Hl L),hi]
def Tl{b D c X a:List ab}(h:b.length=i*4)(f:D.length=(n-i)*4)(j:X.length=4)(l:i<n)(m:n+1<=g)(d:(b++(D++c)).length=g*4)
 (h1:(b++(D++c)).take ((i+1)*4)++(D++(b++(D++c)).drop ((i+1)*4+D.length))=a):
 a.length=g*4/\(a.take (i*4)++(X++a.drop (i*4+X.length))).length=g*4/\(a.take (i*4)++(X++a.drop (i*4+X.length))).take ((n+1)*4)=b++(X++D):=by
 have e:((b++(D++c)).take ((i+1)*4)).length=(i+1)*4:=by rw[ee,d];omega
 have k:a.length=g*4:=by
  rw[<-h1,bA,bA,e,hG,d,f];omega
 have t1:a.take (i*4)=b:=by
  rw[<-h1,vx W,List.take_take,jT W,lN h]
 have d1:a.drop (i*4+4)=D++(b++(D++c)).drop ((i+1)*4+D.length):=by
  rw[<-h1,Em W]
 refine⟨k,?_,?_⟩
 ·grind
 ·rw[t1,j,d1,<-di X,<-di b,lN (by grind)]
def Tk{b D f X d a:List ab}(c:b.length=i*4)(k:D.length=(n-i)*4)(e:X.length=4)(l:i<n)(o:n+1<=g)(m:d.length+i*4=g*4)
 (h1:(((b++(D++f)).take (i*4)++d).take (i*4)++(X++((b++(D++f)).take (i*4)++d).drop (i*4+X.length)))=a):
 a.length=g*4/\(a.take ((i+1)*4)++(D++a.drop ((i+1)*4+D.length))).length=g*4/\(a.take ((i+1)*4)++(D++a.drop ((i+1)*4+D.length))).take ((n+1)*4)=b++(X++D):=by
 rw[lN c,lN c] at h1
 have h:((b++d).drop (i*4+X.length)).length=g*4-(i*4+4):=by rw[hG,bA,c,e];omega
 have j:a.length=g*4:=by rw[<-h1,bA,bA,h,c,e];omega
 have t1:a.take ((i+1)*4)=b++X:=by rw[<-h1,<-di,lN (by grind)]
 refine⟨j,?_,?_⟩
 ·grind
 ·rw[t1,di b,<-di X,<-di b,lN (by grind)]
def JJ{w wr:aa}(a:af w wr m I)(i:Nat)(b:I[i]?=some (Y.row g 59 h.cells)):∀j v,h.cells[j]?=some v->wr.cell? ((⟨g,0,none⟩:Addr).add j)=some v:=λ j u c=>by
 have:=qU a i b 0 4 j u;grind
def GV(L:List HD):∀v∈(bE L).flatten,v.oneCell'=true:=λ v a=>by
 obtain⟨x,hx,a⟩:=Er.1 a;exact B0 L x hx v a
variable{F:List HD}{A:Option Addr}
def Tm{o w:aa}{rest:List Y}(u:af o w m (Y.ho (ad A F.length n) F::Y.row g 59 h.cells::rest))(i:Nat)(a2:i<=F.length)(c1:F.length<=1000):
 Calls prog 233 #[ad A F.length n,O (i:Int),ad (some ⟨g,0,none⟩) 1 1] w λ r c=>∃a b,r=ao (ad a (F.length+1) b)/\af o c m (Y.ho (ad a (F.length+1) b) (F.take i++h::F.drop i)::Y.row g 59 h.cells::rest):=by
 have a6:maxLen=9223372036854775807:=rfl
 have a7:w.ownsRow 0 59 4 (ad A F.length n) F.length (bE F).flatten:=u.get (i:=0) rfl
 obtain⟨b,c⟩:∃b,F.length=b:=⟨_,rfl⟩
 have c4:∀K:List HD,(bE K).flatten++h.cells=(bE (K++[h])).flatten:=λ K=>by simp[bE]
 have b0:=Z c4
 have a:ai (af o w m (Y.ow 59 4 (ad A b n) b (bE F).flatten::Y.row g 59 h.cells::rest)):=Z (by rw[<-c];exact u)
 rw[c] at a2 c1 a7⊢
 have c2:=a7.2
 have t:=Z c
 by_cases a3:i=b
 ·subst a3
  have b5:F.take i++h::F.drop i=F++[h]:=by
   rw[<-t.U,lO,zk]
  rw[b5]
  have s:=Z (λ A q d (r:af o d m (Y.ow 59 4 (ad A (i+1) q) (i+1) ((bE F).flatten++h.cells)::Y.row g 59 h.cells::rest))=>(show af o d m (Y.ow 59 4 (ad A (i+1) q) (F++[h]).length (bE (F++[h])).flatten::Y.row g 59 h.cells::rest) by
   rw[b0.U] at r
   rw[bA,pQ,t.U]
   exact r))
  rcases c2 with⟨J,rfl⟩|⟨p,b2,c6,J,-,-,c0,N,-⟩
  ·injection J with e1 e2 e3
   subst e1 e3
   go_enter zU,Ao
   go_wp2_with((refine sX a.U rfl kc rfl 0 rfl rfl rfl (Km a.U 1 rfl) (by unfold maxLen;omega) W ?_;intro e f d c;simp only[au,ay] at c;replace a:=Z c))
   go_ret
   exact⟨_,_,rfl,s.U _ _ _ a.U⟩
  ·injection J with e1 e2 e3
   subst e1 e3
   rw[a6] at N
   go_enter zU,Ao
   go_wp2_with((refine sX a.U rfl kc rfl 0 rfl rfl rfl (Km a.U 1 rfl) (by unfold maxLen;omega) W ?_;intro e f d c;simp only[au,ay] at c;replace a:=Z c))
   all_goals
    go_ret
    exact⟨_,_,rfl,s.U _ _ _ a.U⟩
 ·have a5:i<b:=by omega
  obtain⟨p,b2,z,E,c0,N,a4,r⟩:=nL a.U 0 rfl W
  injection E with e1 e2 e3
  subst e1 e3
  have a:=Z r
  simp only[au] at a
  rw[a6] at N
  clear e2 a2
  obtain⟨f,L⟩:∃f,(bE (F.take i)).flatten=f:=⟨_,rfl⟩
  obtain⟨D,C⟩:∃D,(bE (F.drop i)).flatten=D:=⟨_,rfl⟩
  have a1:f.length=i*4:=by rw[<-L,wO,ee,t.U,jT W]
  have a0:D.length=(b-i)*4:=by rw[<-C,wO,hG,t.U]
  have b8:(bE F).flatten=f++D:=by rw[<-L,<-C,QF,QE,ou]
  have b4:∀v∈D,v.oneCell'=true:=by rw[<-C];exact GV _
  have b9:∀v∈h.cells,v.oneCell'=true:=λ v E=>by
   simp only[HD.cells,bV,rz,sz] at E
   rcases E with rfl|rfl|rfl|rfl<;>rfl
  have b6:(bE (F.take i++h::F.drop i)).flatten=f++(h.cells++D):=by
   rw[<-L,<-C];simp[bE]
  have b7:(F.take i++h::F.drop i).length=b+1:=by simp[t.U];omega
  rw[b8,di] at a a4
  have s:=Z (λ A q d (r:af o d m (Y.ow 59 4 (ad A (b+1) q) (b+1) (f++(h.cells++D))::Y.row g 59 h.cells::rest))=>(show af o d m (Y.ow 59 4 (ad A (b+1) q) (F.take i++h::F.drop i).length (bE (F.take i++h::F.drop i)).flatten::Y.row g 59 h.cells::rest) by
   rw[b7,b6];exact r))
  have c3:∀l y e (u:af o l y e) (j:Nat) (x:e[j]?=some (Y.row p 59 (f++(D++z)))) (k:Nat) (v:ab),D[k]?=some v->l.cell? ((⟨p,i*4,none⟩:Addr).add k)=some v:=λ l y e u j x k v e=>by
   have:=qU u j x (i*4) ((b-i)*4) k v
   rw[Em a1,lN a0] at this
   exact this e
  have HD:=Z c3
  have T:=Z a1;have B:=Z a0;have S:=Z b4;have X:=Z b9;have j:=Z a4
  have d1:¬(i=b):=a3
  have d2:¬(n=i):=by omega
  have t1:((i:Int)+1).toNat=i+1:=by omega
  have t2:b+1-(i+1)=b-i:=by omega
  by_cases a8:b+1<=n
  ·have d3:¬(n=i+1):=by omega
   have c7:=V5 a.U (by rw[j.U];omega) ((i+1)*4)
   go_enter zU,Ao
   go_upto_region 15 with fail
   refine RG a 8 [1] λ c5 a e=>?_
   refine VV [0,1,2] e ?_
   refine W2 3 72 (v:=O ((i:Int)+1)) rfl rfl (Or.inl ⟨by kernel_rfl,λ l x=>by go_simp;rw[DP W]⟩) e ?_
   refine W2 4 73 (v:=ad (some ⟨p,(i+1)*4,none⟩) (b-i) (n-(i+1))) rfl rfl (Or.inl ⟨by kernel_rfl,λ l x=>by go_simp;(intro M;omega)⟩) e ?_
   refine VV [5,6] e ?_
   refine W2 7 76 (v:=ad (some ⟨p,i*4,none⟩) (b+1-i) (n-i)) rfl rfl (Or.inl ⟨by kernel_rfl,λ l x=>by go_simp;(intro M;omega)⟩) e ?_
   refine WT ?_
   refine pJ a.U rfl kc rfl 0 rfl rfl rfl (b-i) W D B.U (HD.U _ _ _ a.U 0 rfl) (by rw[j.U];omega) S.U ?_
   intro d c
   simp only[au] at c
   have a:=Z c
   obtain⟨k,y⟩:∃k,(f++(D++z)).take ((i+1)*4)++(D++(f++(D++z)).drop ((i+1)*4+D.length))=k:=⟨_,rfl⟩
   rw[y] at a
   obtain⟨P,Q,R⟩:=Tl T.U B.U (rfl:h.cells.length=4) a5 a8 j.U y
   have G:=Z P;have H:=Z Q;have I:=Z R
   go_wp2_with((refine pJ a.U rfl kc rfl 0 rfl rfl rfl 1 W h.cells rfl (JJ a.U 1 rfl) (by rw[G.U];omega) X.U ?_;intro d c;simp only[au] at c;replace a:=Z c))
   go_ret
   exact⟨_,_,rfl,s.U _ _ _ (ie a.U 0 rfl (b+1) n 4 a8 W H.U _ I.U)⟩
  ·have t3:(b:Int)+1-(i:Int)=((b+1-i:Nat):Int):=by omega
   have b1:=Z t3
   clear t3
   go_enter zU,Ao
   go_upto_region 11 with(first|refine LD a.U rfl kc oB rfl 0 rfl rfl rfl (b+1-i) b1.U (b+1) W W (by rw[j.U];omega) W W W ?_;intro b3 q a9 d k1 k2 k3 c;have K1:=Z k1;have d4:¬(q=i):=W;have d5:¬(q=i+1):=W;replace a:=Z c|refine pJ a.U rfl kc rfl 0 rfl rfl rfl 1 W h.cells rfl (JJ a.U 2 rfl) (by rw[bA,ee,j.U];have:=K1.U;omega) X.U ?_;intro d c;simp only[au] at c;replace a:=Z c)
   simp only[CP,aH,au,ay]
   obtain⟨k,y⟩:∃k,((f++(D++z)).take (i*4)++a9).take (i*4)++(h.cells++((f++(D++z)).take (i*4)++a9).drop (i*4+h.cells.length))=k:=⟨_,rfl⟩
   rw[y] at a
   obtain⟨P,Q,R⟩:=Tk T.U B.U (rfl:h.cells.length=4) a5 k2 K1.U y
   have G:=Z P;have H:=Z Q;have I:=Z R
   refine RG a 8 [2] λ c5 a e=>?_
   refine VV [0,1,2] e ?_
   refine W2 3 49 (v:=O ((i:Int)+1)) rfl rfl (Or.inl ⟨by kernel_rfl,λ l x=>by go_simp;rw[DP W]⟩) e ?_
   refine W2 4 50 (v:=ad (some ⟨b3,(i+1)*4,none⟩) (b-i) (q-(i+1))) rfl rfl (Or.inl ⟨by kernel_rfl,λ l x=>by go_simp;(intro M;omega)⟩) e ?_
   refine VV [5,6] e ?_
   refine W2 7 53 (v:=ad (some ⟨p,i*4,none⟩) (b-i) (n-i)) rfl rfl (Or.inl ⟨by kernel_rfl,λ l x=>by go_simp;(intro M;omega)⟩) e ?_
   refine WT ?_
   refine pJ a.U rfl kc rfl 0 rfl rfl rfl (b-i) W D B.U (HD.U _ _ _ a.U 1 rfl) (by rw[G.U];omega) S.U ?_
   intro d c
   simp only[au] at c
   have a:=Z c
   go_wp2
   go_ret
   exact⟨_,_,rfl,s.U _ _ _ (ie (a.U.ft [1,1000]) 0 rfl (b+1) q 4 k2 W H.U _ I.U)⟩
section
section
variable{w wr:aa}{m:List Nat}{aq:List Y}{ops:Array Oper}{rest:List Oper}{op:Oper}{a:Act}{Q:Exit->Act->aa->Prop}
def Ec(h:af w wr m aq)(F:Region.wanted op (yielded ops a.tmps)=true){d e:TypeId}{size bytes:Nat}(q:dh t e size bytes){x:Operand}(G:op.op= .call {callee:= .builtin .append,args:=#[X,x],argTypes:=#[t,d]})
 (l:Nat) {p:TypeId} {c:List ab} (r:aq[l]?=some (Y.row g p c)) (I:a.eval X=ad (some ⟨g,0,none⟩) k i) {u:ab} {b:List ab} (hx:a.eval x=u) (y:Src prog size d u n b wr)
 (N:Nat) (B:N=k+n) (v:N<=i) (E:c.length=i*size)
 (C:∀f,af w f m (aq.set l (Y.row g p (c.take (k*size)++(b++c.drop (k*size+b.length)))))->wpList prog ops Q rest (a.put op.dst (ad (some ⟨g,0,none⟩) N i)) f):wpList prog ops Q (op::rest) a wr:=by
 subst B
 obtain⟨J,z,e1,e2,e3,e4,e5⟩:=q.el
 have D:=h.row r
 have s:k*size+b.length<=c.length:=by
  rw[y.newsLen,E,<-kG]
  exact lR _ v
 have A:=D.mH (o:=k*size) (n:=b.length) (by simpa using s)
 have H:=run_append_room_src wr t d op.type e J q.a e1 g 0 k i u n b (by rw[e3];exact y) v (λ j f=>by rw[e3,eu];exact(A j f).1) (λ j f=>by rw[e3,eu];exact(A j f).2)
 refine dW F λ _ f=>Lib.wp_append_run wr X x t d G _ _ I hx _ _ H (f _ _ (C _ ?_))
 rw[e3,eu,<-CE c _ b s]
 exact h.cells l r _ b
def LG(h:af w wr m aq)(C:Region.wanted op (yielded ops a.tmps)=true){e:TypeId}{size bytes:Nat}(p:dh t e size bytes)(G:∀o z,prog.info? e=some o->o.zero=some z->z.cells.toList.all (·.oneCell')=true)(E:op.op= .call {callee:= .builtin .clear,args:=#[X],argTypes:=#[t]})
 (q:Nat) {r:TypeId} {c:List ab} (u:aq[q]?=some (Y.row g r c)) (hx:a.eval X=ad (some ⟨g,n,none⟩) k i) (f:Nat) (D:k=f) (I:0<f) (s:n+f*size<=c.length)
 (A:∀d b,b.length=f*size->af w d m (aq.set q (Y.row g r (c.take n++(b++c.drop (n+b.length)))))->wpList prog ops Q rest (a.put op.dst (aJ #[])) d):wpList prog ops Q (op::rest) a wr:=by
 subst D
 obtain⟨o,z,e1,e2,e3,e4,e5⟩:=p.el
 have B:=h.row u
 have l:(Builtin.zeroCells z.cells k).toList.length=k*size:=by rw[hz,Da,e5]
 have y:=B.mH (o:=n) (n:=k*size) (by simpa using s)
 have F:∀v∈(Builtin.zeroCells z.cells k).toList,v.oneCell'=true:=by
  intro v x
  have d:=G o z e1 e2
  rw[gC] at d
  simp only[Builtin.zeroCells,yS,ep] at x
  obtain⟨b,H,rfl⟩:=x
  have j:b%z.cells.size<z.cells.size:=pY _ (by rw[e5];exact p.pos)
  apply d
  have e:z.cells[b%z.cells.size]! =z.cells[b%z.cells.size]:=getElem!_pos z.cells (b%z.cells.size) j
  rw[e]
  exact Array.getElem_mem_toList j
 have x:=xY (P:=prog) g n (Builtin.zeroCells z.cells k).toList 0 wr (λ j d=>by rw[l] at d;simpa using(y j d).1) (λ j d=>by rw[l] at d;simpa using(y j d).2) F
 simp only[hJ] at x
 obtain⟨b,rfl⟩:∃b,k=b+1:=⟨k-1,by omega⟩
 have j:(Builtin.clear_ #[t] op.type #[ad (some ⟨g,n,none⟩) (b+1) i]).run prog wr= .ok (aJ #[]) (wr.setCells g n (Builtin.zeroCells z.cells (b+1)).toList):=by
  simp[Builtin.clear_,fN p.a,zeroValue,typeInfo,e1,e2,x]
 refine dW C λ _ d=>aaN wr X t E _ hx j (d _ _ (A _ _ l ?_))
 rw[<-CE c n _ (by rw[l];exact s)]
 exact h.cells q u n _
end
def aaV:∀c z,prog.info? 59=some c->c.zero=some z->z.cells.toList.all (·.oneCell')=true:=by
 have d:((Value.agg #[U 0,U 0,ae ⟨#[]⟩,ae ⟨#[]⟩]).cells.toList.all (·.oneCell'))=true:=by kernel_rfl
 have b:(prog.info? 59).map (λ i=>i.zero)=some (some (aG #[U 0,U 0,ae ⟨#[]⟩,ae ⟨#[]⟩])):=by kernel_rfl
 intro c z e f;rw[e] at b;simp only[vF,Option.some.injEq] at b;rw[f] at b;injection b with b;subst b;exact d
def OT{c X D h:List ab}(f:c.length=i*4)(o:X.length=4)(e:D.length=(n-(i+1))*4)(q:i<n)(p:n<=g)(k:(c++(X++(D++h))).length=g*4){b:List ab}
 (h1:(c++(X++(D++h))).take (i*4)++(D++(c++(X++(D++h))).drop (i*4+D.length))=b):
 b.length=g*4/\∀d,d.length=1*4->(b.take ((n-1)*4)++(d++b.drop ((n-1)*4+d.length))).length=g*4/\(b.take ((n-1)*4)++(d++b.drop ((n-1)*4+d.length))).take ((n-1)*4)=c++D:=by
 have j:b.length=g*4:=by
  rw[<-h1,bA,bA,ee,hG,k,e];omega
 have t1:b.take ((n-1)*4)=c++D:=by
  rw[<-h1,lN f,<-di,lN (by rw[bA,f,e];omega)]
 refine⟨j,λ d l=>⟨?_,?_⟩⟩
 ·rw[bA,bA,ee,hG,j,l];omega
 ·rw[t1,lN (by rw[bA,f,e];omega)]
def Yo{w wr:aa}{m:List Nat}{aq:List Y}(h:af w wr m aq)(j:Nat){b:List ab}(e:aq[j]?=some (Y.row g 59 b))(o n c:Nat)(D:List ab)(d:(b.drop o).take (n*4)=D)(i:D.length=n*4)(h1:∀v∈D,v.oneCell'=true):Src prog 4 60 (ad (some ⟨g,o,none⟩) n c) n D wr:=
 oy wr np ⟨g,o,none⟩ n c D i (λ k u f=>qU h j e o (n*4) k u (by rw[d];exact f)) h1
def Yp{w wr:aa}{m:List Nat}{aq:List Y}(h:af w wr m aq)(g:Nat)(n c:Nat)(d:n=0):Src prog 4 60 (ad (some ⟨g,0,none⟩) n c) n [] wr:=by
 subst d;exact oy wr np ⟨g,0,none⟩ 0 c [] rfl (λ f u b=>by simp at b) (λ v e=>by cases e)
def OU{p w:aa}{m:List Nat}{rest:List Y}(h:af p w m (Y.ho (ad A F.length g) F::rest))(i:Nat)(C:i<F.length)(a3:F.length<=1000):
 Calls prog 235 #[ad A F.length g,O (i:Int),O ((i:Int)+1)] w λ r d=>∃b c,r=ao (ad b (F.length-1) c)/\af p d m (Y.ho (ad b (F.length-1) c) (F.eraseIdx i)::rest):=by
 have a5:maxLen=9223372036854775807:=rfl
 obtain⟨n,d⟩:∃n,F.length=n:=⟨_,rfl⟩
 have c:ai (af p w m (Y.ow 59 4 (ad A n g) n (bE F).flatten::rest)):=Z (by rw[<-d];exact h)
 rw[d] at C a3⊢
 have k:=Z d
 clear h d
 obtain⟨l,a7,E,a6,a2,a4,s,t⟩:=nL c.U 0 rfl W
 injection a6 with e1 e2 e3
 subst e1 e3
 clear c
 have c:=Z t
 clear t
 simp only[au] at c
 rw[a5] at a4
 clear e2
 have M:i<F.length:=by rw[k.U];exact C
 obtain⟨f,r⟩:∃f,(bE (F.take i)).flatten=f:=⟨_,rfl⟩
 obtain⟨D,o⟩:∃D,(bE (F.drop (i+1))).flatten=D:=⟨_,rfl⟩
 obtain⟨X,z⟩:∃X,(F[i]).cells=X:=⟨_,rfl⟩
 have B:X.length=4:=by rw[<-z];rfl
 have x:f.length=i*4:=by rw[<-r,wO,ee,k.U,jT W]
 have j:D.length=(n-(i+1))*4:=by rw[<-o,wO,hG,k.U]
 have K:(bE F).flatten=f++(X++D):=by
  have e:(bE F).flatten=(bE (F.take i++(F[i]::F.drop (i+1)))).flatten:=by rw[<-gE M,ou]
  have e2:∀(a b:List HD) (y:HD),(bE (a++(y::b))).flatten=(bE a).flatten++(y.cells++(bE b).flatten):=λ a b y=>by simp[bE]
  rw[e,e2,r,o,z]
 have H:∀v∈D,v.oneCell'=true:=by rw[<-o];exact GV _
 have I:(bE (F.eraseIdx i)).flatten=f++D:=by
  rw[List.eraseIdx_eq_take_drop_succ,<-r,<-o];simp[bE]
 have J:(F.eraseIdx i).length=n-1:=by rw[List.length_eraseIdx,ax M,k.U]
 rw[K,di,di] at c s
 have y:=Z (λ A q u (t:af p u m (Y.ow 59 4 (ad A (n-1) q) (n-1) (f++D)::rest))=>(show af p u m (Y.ow 59 4 (ad A (n-1) q) (F.eraseIdx i).length (bE (F.eraseIdx i)).flatten::rest) by
  rw[J,I];exact t))
 obtain⟨G,b⟩:∃G,(f++(X++(D++E))).take (i*4)++(D++(f++(X++(D++E))).drop (i*4+D.length))=G:=⟨_,rfl⟩
 obtain⟨N,P⟩:=OT x B j C a2 s b
 have L:((f++(X++(D++E))).drop ((i+1)*4)).take ((n-(i+1))*4)=D:=by
  rw[<-di f X,Em (by rw[bA,x,B];omega),lN j]
 have a0:=Z j;have S:=Z H;have q:=Z s;have R:=Z b;have a1:=Z N;have e:=Z P;have T:=Z L
 clear r o z B x K H I J s b N P L k
 have t1:((i:Int)+1).toNat=i+1:=by omega
 have z:((i:Int)==(i:Int)+1)=false:=by rw[cc];omega
 have d1:¬(g=i):=by omega
 have d4:¬(g=n-1):=by omega
 have B:(i:Int)+1<=(n:Int):=by omega
 have H:(0:Int)<=(i:Int)+1:=by omega
 by_cases d3:g=i+1
 focus
  have r:D=[]:=kC (by rw[j];omega)
  subst r
  clear j
  go_enter func235,ntmps235
  go_upto_region 5 with fail
  refine RG c 6 [0] λ x c b=>?_
  refine VV [0,1] b ?_
  refine W2 2 22 (v:=ad (some ⟨l,0,none⟩) i g) rfl rfl (Or.inl ⟨by kernel_rfl,λ o k=>by go_simp;(intro s;omega)⟩) b ?_
  refine VV [3,4] b ?_
  refine W2 5 25 (v:=ad (some ⟨l,0,none⟩) (n-(i+1)) (g-(i+1))) rfl rfl (Or.inl ⟨by kernel_rfl,λ o k=>by go_simp;(done)⟩) b ?_
  clear b
  refine WT ?_
  refine Ec c.U rfl kc rfl 0 rfl rfl rfl (Yp c.U l _ _ W) (n-1) W W q.U ?_
 rotate_left
 focus
  clear j
  go_enter func235,ntmps235
  go_upto_region 5 with fail
  refine RG c 6 [0] λ x c b=>?_
  refine VV [0,1] b ?_
  refine W2 2 22 (v:=ad (some ⟨l,0,none⟩) i g) rfl rfl (Or.inl ⟨by kernel_rfl,λ o k=>by go_simp;(intro s;omega)⟩) b ?_
  refine VV [3,4] b ?_
  refine W2 5 25 (v:=ad (some ⟨l,(i+1)*4,none⟩) (n-(i+1)) (g-(i+1))) rfl rfl (Or.inl ⟨by kernel_rfl,λ o k=>by go_simp;(done)⟩) b ?_
  clear b
  refine WT ?_
  refine Ec c.U rfl kc rfl 0 rfl rfl rfl (Yo c.U 0 rfl _ _ _ D T.U a0.U S.U) (n-1) W W q.U ?_
 rotate_left
 all_goals
  intro u d
  simp only[au] at d
  rw[R.U] at d
  clear c
  have c:=Z d
  clear d
  go_wp2_with((refine LG c.U rfl kc aaV rfl 0 rfl rfl 1 W W (by rw[a1.U];omega) ?_;intro u k j d;have b:=Z j;clear j;simp only[au] at d;replace c:=Z d;clear d))
  go_ret
 ·subst d3
  exact⟨_,_,rfl,y.U _ _ _ (ie c.U 0 rfl (n-1) (i+1) 4 W W (e.U _ b.U).1 _ (e.U _ b.U).2)⟩
 ·exact⟨_,_,rfl,y.U _ _ _ (ie c.U 0 rfl (n-1) g 4 W W (e.U _ b.U).1 _ (e.U _ b.U).2)⟩
end
variable{D:BD}{H:HD}{S:ST}
def acj:fR 168:=hO func168 zR zR
def uT{a b:ag}(h:a.toList=b.toList):a=b:=by
 rw[ky,ky] at h;exact v7 h
def Ko(w:aa):bg w (ad none 0 0) []:=⟨none,0,rfl,bh _,λ i a=>absurd a (jm i)⟩
def Ix(h:D.bq=true):D.Ok:=by
 have c:D.right=true:=by unfold BD.bq at h;rw[cQ] at h;exact h.1
 obtain⟨a,b,i,j⟩:=uC c;obtain⟨-,d,e,-,-⟩:=ml a;obtain⟨-,f,g,-,-⟩:=ml b;exact⟨⟨by omega,by omega⟩,⟨by omega,by omega⟩,by omega⟩
def Fv{P:List ag}(a:fa h H P=some D):D.bq=true:=by
 unfold fa at a;grind
def Fx{P:List ag}{w:aa}{v:ab}(a:cp w)(c:bg w v P)(b:P.length<=1000)(f:fa h H P=none):CB 229 #[h.val,H.val,v] w (aJ #[mO.val (ad none 0 0),O 13]):=
 (GH a h H c b).mono λ e g d=>by unfold vf at d;grind
def Fy{P:List ag}{w:aa}{v:ab}(f:cp w)(i:bg w v P)(g:P.length<=1000)(b:fa h H P=some D):Calls prog 229 #[h.val,H.val,v] w λ e a=>(∃A c,e=ao (aJ #[D.val (ad A D.e.length c),O 0])/\bg a (ad A D.e.length c) D.e/\(∀k∈(Y.sr (ad A D.e.length c) D.e).bs,w.heap.size<=k))/\BW w a:=
 (GH f h H i g).mono λ e a a=>by
  unfold vf at a;rw[b] at a
  obtain⟨⟨l,e,d,k⟩,j⟩:=a
  obtain⟨A,c,rfl⟩:=d.form
  grind
def XQ(a:¬H.size=h.size):eG h (H::F)=eG h F:=by rw[eG,aj a]
def XO(b:H.size=h.size)(a:H.aE=h.aE):eG h (H::F)=some none:=by rw[eG,ax b,ax a]
def XP(c:H.size=h.size)(b:¬H.aE=h.aE)(a:fa H h []=none):eG h (H::F)=eG h F:=by rw[eG,ax c,aj b,a]
def XR(c:H.size=h.size)(b:¬H.aE=h.aE)(a:fa H h []=some D):eG h (H::F)=some (some D):=by rw[eG,ax c,aj b,a]
def iC{w c:aa}{p q:ST×Nat}(f:p=q){e:Ending}(d:e=ao (aJ #[q.1.val (ad A q.1.f.length g),O (q.2:Int)]))(a:af w c [] I)(i:Nat)(b:I[i]?=some (Y.ho (ad A q.1.f.length g) q.1.f)):tv w p e c:=by
 subst f;exact⟨A,g,d,pa (a.get b) (a.lu (dB b)),a.ak⟩
def Zd{pub:ag}{room:Nat}(a:¬S.aM=⟨#[]⟩):S.take pub h room=(S,9):=by unfold ST.take;grind
def Zj{a:ag}{room:Nat}(b:S.aM=⟨#[]⟩)(c:h.check a=false):S.take a h room=(S,7):=by unfold ST.take;grind
def Zf{a:ag}{room:Nat}(b:S.aM=⟨#[]⟩)(c:h.check a=true)(d:S.aT=false):S.take a h room=({S with aT:=true,ar:=h},1):=by unfold ST.take;grind
def Zi{a:ag}{room:Nat}(b:S.aM=⟨#[]⟩)(c:h.check a=true)(d:S.aT=true)(e:eG h (S.ar::S.f)=some none):S.take a h room=(S,2):=by unfold ST.take;grind
def Zg{a:ag}{room:Nat}(c:S.aM=⟨#[]⟩)(d:h.check a=true)(e:S.aT=true)(f:eG h (S.ar::S.f)=some (some D)):S.take a h room=({S with aM:=D.enc},5):=by unfold ST.take;grind
def Zc{a:ag}(b:S.aM=⟨#[]⟩)(c:h.check a=true)(d:S.aT=true)(e:eG h (S.ar::S.f)=none)(f:g<=S.f.length):S.take a h g=(S,6):=by unfold ST.take;grind
def Zm{a:ag}(b:S.aM=⟨#[]⟩)(c:h.check a=true)(d:S.aT=true)(e:eG h (S.ar::S.f)=none)(f:¬g<=S.f.length):S.take a h g=({S with f:=S.f.take (nM h S.f)++h::S.f.drop (nM h S.f)},3):=by unfold ST.take;grind
def Hv{d w:aa}{rest:List Y}(f:af d w m (Y.ho (ad A F.length n) F::Y.row g 59 h.cells::rest))(i:Nat)(j:i<=F.length)(k:F.length<=1000)(Q:List HD)(a:Q=F.take i++h::F.drop i):
 Calls prog 233 #[ad A F.length n,O (i:Int),ad (some ⟨g,0,none⟩) 1 1] w λ r e=>∃b c,r=ao (ad b Q.length c)/\af d e m (Y.ho (ad b Q.length c) Q::Y.row g 59 h.cells::rest):=by
 have e:F.length+1=Q.length:=by rw[a];simp;omega
 rw[a] at e
 subst a
 have:=Tm f i j k
 rw[e] at this
 exact this
def Zb{w:aa}(a9:bQ w)(s:ST){a3:ab}(h:hE w a3 s.f)(b6:s.f.length<=1000)(z:ag)(c6:z.size<=800000)(k:HD)(q:Nat)(d5:q<=1000000):
 Calls prog 165 #[s.val a3,ae z,k.val,O (q:Int)] w (tv w (s.take z k q)):=by
 have a:=Z (af.start w [])
 have b4:=Z a9
 have y:=λ(m:aa) (d:BW w m)=>BU (a9.below d) z k c6
 have C:=Z (λ m (d:BW w m)=>xF s (h.below d) W)
 have a4:=Z h
 obtain⟨pA,b8,rfl⟩:=h.form
 have a2:=ks s.aM
 have a1:=gn s.aM
 clear a9 h
 by_cases E:s.aM=⟨#[]⟩
 ·rw[aS E] at a2 a1
  have B:=Z E
  clear E
  cases b:k.check z with
  |false=>
   rw[b] at y
   have N:=Z y
   have p:=Z (Zj (room:=q) B.U b)
   clear y b
   go_enter zM,Ai
   go_wp2_with(first|refine Kl a ?_|refine KT a 7 ?_|refine KT a 4 ?_|refine KS a λ f a=>?_|refine KA a _ 8 gT λ L f b3 a=>?_|refine KB a 62 4 (s.cells _) λ K f b1 a=>?_|refine KB a 59 6 (k.cells) λ D f b2 a=>?_|go_at_call 228;(refine(C.U _ a.U.ak).mono ?_);rintro e r ⟨G,H,rfl,n,d⟩;replace a:=Z (a.U.db d n);clear d n|go_at_call 143;(refine(N.U _ a.U.ak).mono ?_);rintro e r ⟨rfl,d⟩;replace a:=Z (a.U.below d);clear d)
   refine cz a.U 1 rfl 62 7 rfl rfl rfl zR rfl rfl ?_
   exact iC p.U rfl a.U 0 rfl
  |true=>
   rw[b] at y
   have N:=Z y
   have I:=Z b
   clear y b
   cases M:s.aT with
   |false=>
    have p:=Z (Zf (room:=q) B.U I.U M)
    obtain⟨o,g,j,b⟩:=s
    simp only at M a2 a1
    subst M
    go_enter zM,Ai
    go_upto_region 7 with(first|refine Kl a ?_|refine KT a 7 ?_|refine KT a 4 ?_|refine KS a λ f a=>?_|refine KA a _ 8 gT λ L f b3 a=>?_|refine KB a 62 4 ((ST.cells ⟨false,g,j,b⟩ _)) λ K f b1 a=>?_|refine KB a 59 6 (k.cells) λ D f b2 a=>?_|go_at_call 228;(refine(C.U _ a.U.ak).mono ?_);rintro e r ⟨G,H,rfl,n,d⟩;replace a:=Z (a.U.db d n);clear d n|go_at_call 143;(refine(N.U _ a.U.ak).mono ?_);rintro e r ⟨rfl,d⟩;replace a:=Z (a.U.below d);clear d)
    refine RG a 3 [2] λ c8 a c=>?_
    refine WR 0 4 c ?_
    refine VV [1] c ?_
    clear c
    refine az.iW (i:=2) V zD rfl ?_
    (refine One.qY a.U V rfl 3 rfl 4 rfl rfl rfl V rfl rfl λ f l=>?_;simp only[eF,au,ay,bC,bU,dc,cO] at l)
    replace a:=Z l;clear l
    refine⟨bo a [2],?_⟩
    refine WT ?_
    go_wp2_with(first|refine KT a 7 ?_|refine KS a λ f a=>?_)
    refine cz a.U 1 rfl 62 7 rfl rfl rfl V rfl rfl ?_
    exact iC p.U rfl a.U 0 rfl
   |true=>
    have g:=Z (λ m (d:BW w m)=>(a4.U.below d).src np zD (B0 s.f))
    have c5:=hi s.f
    have S:=Z M
    go_enter zM,Ai
    go_upto_region 9 with(first|refine Kl a ?_|refine KT a 4 ?_|refine KA a _ 8 gT λ L f b3 a=>?_|refine KB a 62 4 (s.cells _) λ K f b1 a=>?_|refine KB a 59 6 (k.cells) λ D f b2 a=>?_|go_at_call 143;(refine(N.U _ a.U.ak).mono ?_);rintro e r ⟨rfl,d⟩;replace a:=Z (a.U.below d);clear d)
    go_wp2_with(first|refine KT a 4 ?_|refine Kl a ?_|(with_reducible show cH);(refine Mk a.U rfl 40 rfl (some 1) 59 [_,_,_,_] (by go_simp;(exact⟨rfl,rfl⟩)) ?_;intro d1 f d3 l;replace a:=Z l;clear l;simp only[bk])|have l:=a.U.made 0 rfl 1 4 rfl zD;simp only[au,ay] at l;replace a:=Z l;clear l;refine sX a.U rfl kc rfl 0 rfl rfl rfl (g.U _ a.U.ak) (by unfold maxLen;omega) W ?_;intro a6 a7 f l;simp only[au,ay] at l;replace a:=Z l;clear l)
    obtain⟨F,hF⟩:∃F,s.ar::s.f=F:=⟨_,rfl⟩
    obtain⟨R,b5⟩:∃R,eG k F=R:=⟨_,rfl⟩
    have b:1+s.f.length=F.length:=by rw[<-hF];simp[rB]
    have j:(1:Int)+(s.f.length:Int)=(F.length:Int):=by omega
    have l:af w f [] [Y.ho (ad a6 F.length a7) F,Y.row L 62 [aF false,U 0,U 0,ae ⟨#[]⟩,ae ⟨#[]⟩,ad none 0 0,ae ⟨#[]⟩],Y.row D 59 k.cells,Y.row K 62 (s.cells (ad pA s.f.length b8))]:=by
     have l:=a.U
     have e1:1+(bE s.f).length=F.length:=by rw[hi];exact b
     have e2:([U (s.ar.size:Int),U (s.ar.time:Int),ae s.ar.aE,ae s.ar.a]++(bE s.f).flatten)=(bE F).flatten:=by rw[<-hF];rfl
     rw[e1,e2] at l
     exact l
    clear a
    have a:=Z l
    clear l
    rw[b,j]
    have J:=Z b5
    have P:=Z hF
    have d2:F.length<=1001:=by omega
    clear b j hF b5 M a2 a1 c5
    go_loopw [45] (λ b wr=>∃j:Nat,j<=F.length/\b=O (j:Int)/\ai (af w wr [] [Y.ho (ad a6 F.length a7) F,Y.row L 62 [aF false,U 0,U 0,ae ⟨#[]⟩,ae ⟨#[]⟩,ad none 0 0,ae ⟨#[]⟩],Y.row D 59 k.cells,Y.row K 62 (s.cells (ad pA s.f.length b8))])/\ai (eG k (F.drop j)=R)) (λ b _=>F.length-(intOf b).toNat)
    case atStart=>exact⟨0,bh _,rfl,a,J⟩
    case round=>
     clear a g
     obtain⟨j,d4,rfl,a,Q⟩:=hrel
     by_cases A:j<F.length
     ·have g:hE _ (ad a6 F.length a7) F:=oO (a.U.get (i:=0) rfl) W
      obtain⟨bb,o,c2,hx⟩:=g.at (j:=j) (by rw[hi];exact A)
      subst c2
      obtain⟨x,b⟩:∃x,F[j]=x:=⟨_,rfl⟩
      have t:F.drop j=x::F.drop (j+1):=by rw[<-b];exact gE A
      have v:wr.rangeAt bb (o+j*4) x.cells:=by
       have:(bE F)[j]'(by rw[hi];exact A)=x.cells:=by rw[<-b];simp[bE]
       rw[<-this];exact hx
      have X:=Z v
      have u:=Z (show eG k (x::F.drop (j+1))=R by rw[<-t];exact Q.U)
      have c3:(j:Int)<(F.length:Int):=by omega
      have a0:=Z A
      clear hx v g b t Q A
      by_cases g:x.size=k.size
      ·by_cases t:x.aE=k.aE
       ·
        have b7:((x.size:Int)==(k.size:Int))=true:=by rw[g];simp
        have c7:(x.aE.toList==k.aE.toList)=true:=by rw[t];simp
        have p:=Z (Zi (room:=q) B.U I.U S.U (by rw[P.U,J.U,<-u.U,XO g t]))
        clear g t u
        go_wp2_with(first|refine Kl a ?_|refine KT a 7 ?_|refine KS a λ f a=>?_|refine KA a _ 11 hy λ a8 f b0 a=>?_|refine dX rfl 59 4 rfl rfl X.U rfl V ?_|go_at_call 228;(refine(C.U _ a.U.ak).mono ?_);rintro e r ⟨G,H,rfl,n,d⟩;replace a:=Z (a.U.db d n);clear d n)
        refine cz a.U 3 rfl 62 7 rfl rfl rfl V rfl rfl ?_
        exact iC p.U rfl a.U 0 rfl
       ·have b7:((x.size:Int)==(k.size:Int))=true:=by rw[g];simp
        have c7:(x.aE.toList==k.aE.toList)=false:=by rw[cc];intro h;exact t (uT h)
        cases v:fa x k []
        ·have T:=Z (λ m (d:BW w m)=>Fx (b4.U.below d).a (Ko m) (by decide:([]:List ag).length<=1000) v)
         have a5:=Z (show eG k (F.drop (j+1))=R by rw[<-u.U,XP g t v])
         clear g t u v
         go_wp2_with(first|refine KT a 4 ?_|refine Kl a ?_|refine KS a λ f a=>?_|refine KA a _ 11 hy λ a8 f b0 a=>?_|refine KA a _ 12 eW λ c1 f c4 a=>?_|refine dX rfl 59 4 rfl rfl X.U rfl V ?_|go_at_call 229;(refine(T.U _ a.U.ak).mono ?_);rintro e r ⟨rfl,d⟩;replace a:=Z (a.U.below d);clear d)
         exact⟨⟨j+1,by have:=a0.U;omega,by go_num,Z a.U.tail.tail,a5⟩,by have:=a0.U;simp[intOf];omega⟩
        ·rename_i b
         have T:=Z (λ m (d:BW w m)=>Fy (b4.U.below d).a (Ko m) (by decide:([]:List ag).length<=1000) v)
         have b9:=Z (λ m a3 h=>Bw b (Ix (Fv v)) a3 m h)
         have c0:=Z (λ m (d:BW w m)=>BK s (a4.U.below d) W b.enc)
         have p:=Z (Zg (room:=q) B.U I.U S.U (by rw[P.U,J.U,<-u.U,XR g t v]))
         clear g t u v
         go_upto_region 17 with(first|refine KT a 4 ?_|refine Kl a ?_|refine KS a λ f a=>?_|refine KA a _ 11 hy λ a8 f b0 a=>?_|refine KA a _ 12 eW λ c1 f c4 a=>?_|refine dX rfl 59 4 rfl rfl X.U rfl V ?_|go_at_call 229;(refine(T.U _ a.U.ak).mono ?_);rintro e r ⟨⟨c9,d0,rfl,t,v⟩,d⟩;replace a:=Z (a.U.join d (Y.sr _ b.e) t v);clear d v t)
         refine RG a 6 [6,0] λ c8 a c=>?_
         refine WR 0 7 c ?_
         refine WR 1 9 c ?_
         clear c
         refine KV 2 (en 168) 71 ?_
         refine(b9.U _ _ (a.U.get (i:=1) rfl)).mono ?_
         rintro e r ⟨rfl,d⟩
         replace a:=Z (a.U.below d)
         clear d
         refine⟨_,rfl,bo a [6,0],?_⟩
         simp only[aH,au,ay]
         refine KV 3 (en 230) 72 ?_
         refine(c0.U _ a.U.ak).mono ?_
         rintro e r ⟨G,H,rfl,n,d⟩
         replace a:=Z (a.U.db d n)
         clear d n
         refine⟨_,rfl,bo a [7,1],?_⟩
         simp only[aH,au,ay]
         have c:=bo a [7,1]
         refine VV [4,5] c ?_
         clear c
         refine WT ?_
         go_wp2_with(refine KS a λ f a=>?_)
         refine cz a.U 5 rfl 62 7 rfl rfl rfl V rfl rfl ?_
         exact iC p.U rfl a.U 0 rfl
      ·have b7:((x.size:Int)==(k.size:Int))=false:=by rw[cc];omega
       have a5:=Z (show eG k (F.drop (j+1))=R by rw[<-u.U,XQ g])
       clear g u
       go_wp2_with(first|refine Kl a ?_|refine KS a λ f a=>?_|refine KA a _ 11 hy λ a8 f b0 a=>?_|refine dX rfl 59 4 rfl rfl X.U rfl V ?_)
       exact⟨⟨j+1,by have:=a0.U;omega,by go_num,Z a.U.tail,a5⟩,by have:=a0.U;simp[intOf];omega⟩
     ·have c3:decide (j<F.length)=false:=by simp;omega
      have b:F.drop j=[]:=List.drop_of_length_le W
      have u:ai (eG k F=none):=Z (by rw[J.U,<-Q.U,b];rfl)
      clear A Q J b
      by_cases b:q<=s.f.length
      ·have c:decide (q<=s.f.length)=true:=by simp;omega
       have p:=Z (Zc B.U I.U S.U (by rw[P.U,u.U]) b)
       clear b
       go_wp2_with(first|refine Kl a ?_|refine KT a 7 ?_|refine KS a λ f a=>?_|go_at_call 228;(refine(C.U _ a.U.ak).mono ?_);rintro e r ⟨G,H,rfl,n,d⟩;replace a:=Z (a.U.db d n);clear d n)
       refine cz a.U 2 rfl 62 7 rfl rfl rfl V rfl rfl ?_
       exact iC p.U rfl a.U 0 rfl
      focus
       have c:decide (q<=s.f.length)=false:=by simp;omega
       have p:=Z (Zm B.U I.U S.U (by rw[P.U,u.U]) b)
       have T:=Z (IZ k s.f)
       clear b
       cases v:bK (λ x=>decide (0<x.ahead k)) s.f
       focus
        have J:nM k s.f=s.f.length:=by rw[T.U,v]
        rw[J] at p
        obtain⟨Q,b⟩:∃Q,s.f.take s.f.length++k::s.f.drop s.f.length=Q:=⟨_,rfl⟩
       rotate_left
       focus
        rename_i i
        have J:nM k s.f=i:=by rw[T.U,v]
        rw[J] at p
        have a8:i<=s.f.length:=vz (BC v)
        obtain⟨Q,b⟩:∃Q,s.f.take i++k::s.f.drop i=Q:=⟨_,rfl⟩
      all_goals
       rw[b] at p
       have b0:=Z (λ m (d:BW w m) g (t:(Y.row g 59 k.cells).P m)=>by
        have:=S7 (a4.U.below d) t
        rw[v] at this;exact this)
       first|have a5:=Z (λ m g rest A c (h:af w m [] (Y.ho (ad A s.f.length c) s.f::Y.row g 59 k.cells::rest))=>Hv h s.f.length (aW _) b6 Q b.symm)|have a5:=Z (λ m g rest A c (h:af w m [] (Y.ho (ad A s.f.length c) s.f::Y.row g 59 k.cells::rest))=>Hv h i a8 b6 Q b.symm)
       first|clear v J b T|clear v J b T a8
       go_wp2_with(first|refine Kl a ?_|refine KT a 7 ?_|refine KT a 4 ?_|refine KS a λ f a=>?_|(with_reducible show cH);(refine Mk a.U rfl 98 rfl (some 1) 59 [_,_,_,_] (by go_simp;(exact⟨rfl,rfl⟩)) ?_;intro g f m l;replace a:=Z l;clear l;simp only[bk])|go_at_call 228;(refine(C.U _ a.U.ak).mono ?_);rintro e r ⟨G,H,rfl,n,d⟩;replace a:=Z (a.U.db d n);clear d n|go_at_call 231;(refine(b0.U _ a.U.ak D (a.U.get (i:=2) rfl)).mono ?_);rintro e r ⟨rfl,d⟩;replace a:=Z (a.U.below d);clear d;simp only[fY]|go_at_call 233;(refine(a5.U _ _ _ _ _ (a.U.ft [1])).mono ?_);rintro e r ⟨b,c,rfl,l⟩;replace a:=Z l;clear l)
       refine cz a.U 3 rfl 62 7 rfl rfl rfl V rfl rfl ?_
       exact iC p.U rfl a.U 0 rfl
 ·rw[bu E] at a2 a1
  have p:=Z (Zd (pub:=z) (h:=k) (room:=q) E)
  clear E y
  go_enter zM,Ai
  go_wp2_with(first|refine Kl a ?_|refine KT a 7 ?_|refine KS a λ f a=>?_|refine KA a _ 8 gT λ L f b3 a=>?_|refine KB a 62 4 (s.cells _) λ K f b1 a=>?_|refine KB a 59 6 (k.cells) λ D f b2 a=>?_|go_at_call 228;(refine(C.U _ a.U.ak).mono ?_);rintro e r ⟨G,H,rfl,n,d⟩;replace a:=Z (a.U.db d n);clear d n)
  refine cz a.U 1 rfl 62 7 rfl rfl rfl V rfl rfl ?_
  exact iC p.U rfl a.U 0 rfl
variable{G:MG}
section
open TreeM
def xL(x:WS)(s:ag)(n:Nat):(x.raw s (n:Int)).b.length<=x.b.length+n:=by
 unfold WS.raw WS.put;have:s.data.toList.length=s.size:=by rw[hz];rfl
 grind
def pf(x:WS)(n:Nat)(h:n<18446744073709551616):(x.num n).b.length<=x.b.length+10:=by
 have a:=uv x true 0 ⟨(cm n).toArray⟩;have b:=yB h;have e:(⟨(cm n).toArray⟩:ag).size=(cm n).length:=by rfl
 unfold WS.num;omega
def ux(x:WS)(n:Int):(x.byte n).b.length<=x.b.length+4:=by
 have a:=uv x (decide (0<=n/\n<=255)) 1 (jZ n);rw[A5] at a;unfold WS.byte;omega
def CR(x:WS)(a:h.Ok):(x.head h).b.length<=x.b.length+116:=by
 unfold WS.head;have b:=pf x h.size a.size;have c:=pf (x.num h.size) h.time a.time;have d:=xL ((x.num h.size).num h.time) h.aE 32;have e:=xL (((x.num h.size).num h.time).raw h.aE 32) h.a 64;grind
def CQ:∀(L:List ag) (x:WS),(x.fX L).b.length<=x.b.length+32*L.length
 |[],x=>by simp[WS.fX]
 |s::L,x=>by
  have a:=xL x s 32
  have b:=CQ L (x.raw s 32)
  have e:x.fX (s::L)=(x.raw s 32).fX L:=rfl
  grind
def Ji(x:WS)(a:D.Ok)(f:D.e.length<=48):(x.jY D).b.length<=x.b.length+1800:=by
 unfold WS.jY;have b:=CR x a.a;have c:=CR (x.head D.a) a.b;have d:=pf ((x.head D.a).head D.b) D.e.length W;have e:=CQ D.e (((x.head D.a).head D.b).num D.e.length);omega
def Wz(x:WS)(k:MK)(a:k.size<18446744073709551616):(x.mark k).b.length<=x.b.length+50:=by
 unfold WS.mark;have b:=ux x (k.log:Int);have c:=ux (x.byte (k.log:Int)) (qk k.aM);have d:=pf ((x.byte (k.log:Int)).byte (qk k.aM)) k.size a;have e:=xL (((x.byte (k.log:Int)).byte (qk k.aM)).num k.size) k.aE 32;grind
def Jk:∀(L:List MK) (x:WS),(∀k∈L,k.size<18446744073709551616)->(x.aL L).b.length<=x.b.length+50*L.length
 |[],x,_=>by simp[WS.aL]
 |k::L,x,h=>by
  have b:=Wz x k (h k zS)
  have c:=Jk L (x.mark k) (λ z a=>h z (by simp[a]))
  have e:x.aL (k::L)=(x.mark k).aL L:=rfl
  grind
def WA(hx:G.Ok)(a:G.Small)(z:WS)(c:Nat):(G.kq z c).b.length<=z.b.length+2000:=by
 unfold MG.kq;have b:=ux z (G.log:Int);have d:=pf z G.id hx.id;have e:=pf z G.m hx.m;have f:=pf z G.n hx.n;have g:=CR z hx.h;have h:=Ji z hx.b a.b;have i:=pf z G.e.length (by have:=a.p;omega);have j:=CQ G.e (z.num G.e.length);have k:=ux z (G.aL.length:Int);have h10:=Jk G.aL (z.byte (G.aL.length:Int)) hx.aL;have:=a.p;have:=a.m;grind
def Jj{x:MG}(hx:x.Ok)(a:x.Small):∀(L:List Nat) (z:WS),(L.foldl x.kq z).b.length<=z.b.length+2000*L.length
 |[],z=>by simp
 |c::L,z=>by
  have b:=WA hx a z c
  have d:=Jj hx a L (x.kq z c)
  grind
def xo(hx:G.Ok)(b:G.Small):G.enc.size<=20000:=by
 unfold MG.enc;split
 ·have c:=Jj hx b (eC (eQ G.c)) ((⟨[],0⟩:WS).byte (G.c:Int));have a:=ux (⟨[],0⟩:WS) (G.c:Int);have d:=ub (eQ G.c);have f:=Hf G.c;simp only[oo] at a;unfold WS.text;split
  ·have e:∀l:List UInt8,(⟨l.toArray⟩:ag).size=l.length:=λ l=>ji ..;grind
  ·have:(⟨#[]⟩:ag).size=0:=rfl;omega
 ·have:(⟨#[]⟩:ag).size=0:=rfl;omega
end
