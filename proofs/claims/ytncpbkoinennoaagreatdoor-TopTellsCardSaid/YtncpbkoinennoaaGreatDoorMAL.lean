import Derived.Lib.BufferWrite
import Derived.Lib.OthersKept
import Derived.Test.YtncpbkoinennoaaGreatDoorMAJ
import Derived.Test.YtncpbkoinennoaaGreatDoorMAK
set_option linter.all false
set_option maxRecDepth 100000
set_option maxHeartbeats 0
namespace Go.Proofs.YtncpbkoinennoaaGreatDoor
open Go.RowKit Proofs.Tryz
attribute [local irreducible] wpList Calls
variable{J K:Y}{I:List Y}{m:List Nat}{g:Nat}
def Y.sr(v:ab)(L:List ag):Y:=
 ⟨if L=[] then [] else v.ownBlock.toList,λ w=>bg w v L,
  (λ w e h d=>by
   obtain⟨A,n,f,t,j⟩:=d
   refine⟨A,n,f,t,λ i s=> ?_⟩
   obtain⟨b,o,a,c,p⟩:=j i s
   have m:¬L=[]:=by rintro rfl;simp at s
   have r:e.heap[b]?=w.heap[b]?:=h b (by rw[aj m,f,a];simp[Value.ownBlock])
   have u:b<e.heap.size:=by
    have q:w.heap[b]?≠none:=by simp[c.1]
    rw[<-r] at q
    rcases jk b e.heap.size with g|g
    ·exact g
    ·exact absurd (yP g) q
   refine⟨b,o,a,⟨u,c.2⟩,?_⟩
   rw[<-p]
   unfold World.cell?
   rw[r]),
  (λ w d=>by
   split
   ·exact Es
   ·exact Cx _),
  (λ w d k e=>by
   split at e
   ·cases e
   ·rename_i m
    obtain⟨A,n,f,t,j⟩:=d
    obtain⟨b,o,a,c,p⟩:=j 0 (by cases L with|nil=>exact absurd rfl m|cons x l=>simp)
    rw[f,a] at e
    have:k=b:=by simpa[Value.ownBlock] using e
    subst this
    exact c.1)⟩
def af.wL{w wr:aa}(h:af w wr [] I){B:Y}(b:J.P w)(c:B∈I):∀k∈J.bs,k∉B.bs:=λ k d e=>by
 have f:=J.lt w b k d;rcases h.own k (qC c e) with a|a
 ·cases a
 ·omega
def WS.fX(x:WS)(L:List ag):WS:=L.foldl (λ y s=>y.raw s 32) x
def Hg{x:WS}{L:List ag}(h:g<L.length):(x.fX (L.take g)).raw L[g] 32=x.fX (L.take (g+1)):=by
 unfold WS.fX;rw[dC h,ti];rfl
def AM{L:List ag}(h:cu L=false):∀s∈L,s.size=32:=λ s a=>by
 unfold cu at h;rw[List.any_eq_false] at h;have:=h s a;simpa[eE] using this
def WS.jY(x:WS)(b:BD):WS:=(((x.head b.a).head b.b).num b.e.length).fX b.e
def EP{w:aa}{v:ab}{x:WS}{K:Nat}(X:(Y.wr g v x).P w)(d:x.b.length<=K)(b:BD)(N:b.Ok)(R:b.right=true)(a7:K<=5000000)(m:ab)(t:(Y.sr m b.e).P w)(Q:∀k∈(Y.sr m b.e).bs,k∉(Y.wr g v x).bs):
 Calls prog 92 #[pV g,b.val m] w λ r l=>r=ao (aJ #[])/\∃f,bj (Y.wr g v x) w l (Y.wr g f (x.jY b))/\(x.jY b).b.length<=K+500000:=by
 obtain⟨I,J,a6⟩:=N
 have p:=R
 unfold BD.right at p
 simp only[cQ,dx,yU] at p
 obtain⟨⟨⟨z,B⟩,b4⟩,a2⟩:=p
 unfold HD.right at z B
 simp only[cQ,dx] at z B
 have s1:b.a.aE.size<=100000:=by omega
 have s2:b.a.a.size<=100000:=by omega
 have s3:b.b.aE.size<=100000:=by omega
 have s4:b.b.a.size<=100000:=by omega
 have C:=Z I;have D:=Z J;have E:=Z (AM a2)
 have G:=Z t;have F:=Z Q
 have T:∃A k,m=ad A b.e.length k:=by
  obtain⟨A,k,h,-⟩:=t
  exact⟨A,k,h⟩
 obtain⟨A,k,rfl⟩:=T
 have a:=Z (af.self X)
 have c:=Z d
 go_enter func92,ntmps92
 go_wp2_with(first|refine KB a 66 3 (b.cells _) λ H b5 a9 a=>?_|refine KT a 4 ?_|refine Kl a ?_|go_at_call 91;(refine(AH (a.U.in (by exact mQ mZ)) c.U _ C.U W W W).mono ?_);rintro e l ⟨rfl,f,h,d⟩;have i:=a.U.rep (by exact .tail _ (.head _)) h;have a:=Z i;have c:=Z d|go_at_call 91;(refine(AH (a.U.in (by exact mQ mZ)) c.U _ D.U W W W).mono ?_);rintro e l ⟨rfl,f,h,d⟩;have i:=a.U.rep (by exact .tail _ (.head _)) h;have a:=Z i;have c:=Z d|go_at_call 90;(refine(oF (a.U.in (by exact mQ mZ)) c.U _ W W).mono ?_);rintro e l ⟨rfl,f,h,d⟩;have i:=a.U.rep (by exact .tail _ (.head _)) h;have a:=Z i;have c:=Z d)
 obtain⟨y,u⟩:∃y,((x.head b.a).head b.b).num b.e.length=y:=⟨_,rfl⟩
 have r:ai (x.jY b=y.fX b.e):=Z (by unfold WS.jY;rw[u])
 rw[u] at a c
 generalize a8:K+200020+200020+10=a3 at*
 go_loopw [23] (λ n wr=>∃(j:Nat) (f:ab),j<=b.e.length/\n=O (j:Int)/\af w wr (Y.wr g v x).bs [Y.row H 66 (b.cells (ad A b.e.length k)),Y.wr g f (y.fX (b.e.take j))]/\(y.fX (b.e.take j)).b.length<=a3+32*j) (λ n _=>b.e.length-(intOf n).toNat)
 case atStart=>exact⟨0,_,by omega,rfl,a.U,c.U⟩
 case round=>
  obtain⟨j,f,b0,rfl,S,d⟩:=hrel
  have a:=Z S;have c:=Z d
  by_cases n:j<b.e.length
  ·have M:bg wr (ad A b.e.length k) b.e:=a.U.ro G.U F.U
   have q:=Z (Hg (x:=y) n)
   have b2:=E.U _ (cY n)
   obtain⟨bb,o,L,-,hx⟩:∃bb o,A=some ⟨bb,o,none⟩/\True/\wr.cell? ⟨bb,o+j,none⟩=some (ae b.e[j]):=by
    obtain⟨a4,a5,P,b1,s⟩:=M
    injection P with e1 e2 e3
    subst e1
    obtain⟨bb,o,a0,b3,a1⟩:=s j n
    exact⟨bb,o,a0,trivial,a1⟩
   subst L
   have P:(j:Int)<(b.e.length:Int):=by omega
   generalize b.e[j]=s at*
   go_wp2_with((go_at_call 9;(refine(vR (a.U.in (by exact mQ mZ)) c.U _ _ W).mono ?_);rintro e l ⟨rfl,f,h,d⟩;have i:=a.U.rep (by exact .tail _ (.head _)) h;have a:=Z i;have c:=Z d))
   go_roundw
   case rel=>exact⟨j+1,_,by omega,by go_num,by rw[<-q.U];exact a.U,by rw[<-q.U];exact iM c.U W⟩
   case measure=>simp[intOf];omega
  ·obtain rfl:j=b.e.length:=by omega
   rw[lO] at a c
   go_wp2
   go_end0
   exact⟨rfl,_,by rw[r.U];exact(a.U.tail).gQ,by rw[r.U];exact iM c.U W⟩
def af.as{w wr:aa}(h:af w wr m (J::I))(c:K.bs=J.bs)(b:K.P wr):af w wr m (K::I):=by
 have e:blocks (K::I)=blocks (J::I):=by rw[fD,fD,c]
 refine⟨h.only,λ d a=> ?_,by rw[e];exact h.own,by rw[e];exact h.b⟩;rcases bV.1 a with rfl|a
 ·exact b
 ·exact h.ok d (mQ a)
def af.Cu{w wr:aa}(h:af w wr m (Y.row g 31 [ad none 0 0,O 0]::I)):af w wr m (Y.wr g (ad none 0 0) ⟨[],0⟩::I):=
 h.as rfl ⟨h.ok _ mZ,ct _ _ _ _⟩
def BD.enc(x:BD):ag:=if x.right=true then((⟨[],0⟩:WS).jY x).text else⟨#[]⟩
def Bw(x:BD)(hx:x.Ok)(c:ab)(w:aa)(j:bg w c x.e):CB 168 #[x.val c] w (ae x.enc):=by
 have a:=Z (af.start w []);have i:=Z (show(Y.sr c x.e).P w from j);have p1:=λ(d:aa) (h:BW w d)=>By x c d (j.below h rfl);have k:=Z hx;cases b:x.right with
 |false=>
  have f:x.enc=⟨#[]⟩:=by unfold BD.enc;rw[b];rfl
  rw[f];rw[b] at p1;have d:=Z p1
  go_enter func168,ntmps168
  go_wp2_with(first|refine KB a 66 1 (x.cells _) λ m h o a=>?_|refine KT a 9 ?_|go_at_call 76;refine KC a (d.U _ a.U.ak) λ r a=>?_)
  go_ret
  exact⟨rfl,a.U.ak⟩
 |true=>
  have f:x.enc=((⟨[],0⟩:WS).jY x).text:=by unfold BD.enc;rw[b];rfl
  rw[f];have l:=Z b;rw[b] at p1;have d:=Z p1
  go_enter func168,ntmps168
  go_upto_region 4 with(first|refine KB a 66 1 (x.cells _) λ m h o a=>?_|refine KT a 9 ?_|go_at_call 76;refine KC a (d.U _ a.U.ak) λ r a=>?_|refine KA a _ 3 yJ λ s h t a=>?_)
  replace a:=Z (a.U.Cu);have g:ai ((⟨[],0⟩:WS).b.length<=0):=Z zS
  go_wp2_with(first|refine KT a 9 ?_|go_at_call 92;(refine(EP (a.U.in mZ) g.U x k.U l.U W c (a.U.xT i.U) (a.U.wL i.U mZ)).mono ?_);rintro e v ⟨rfl,u,n,p⟩;have q:=a.U.rep (by exact .head _) n;have a:=Z q;have g:=Z p|go_at_call 11;refine KQ (DH (a.U.in mZ)) ?_)
  go_ret
  exact⟨rfl,a.U.ak⟩
variable{X:Operand}{t:TypeId}
def Y.ow(e:TypeId)(size:Nat)(v:ab)(n:Nat)(d:List ab):Y:=
 ⟨v.ownBlock.toList,λ w=>w.ownsRow 0 e size v n d,(λ w g h b=>IN b h),(λ w b=>Cx _),(λ w b k c=>IL b k c)⟩
structure dh(t e:TypeId)(size bytes:Nat):Prop where
 a:prog.underlying t=some (.slice e)
 el:∃(i:TypeInfo) (z:ab),prog.info? e=some i/\i.zero=some z/\i.size=size/\i.bytes=bytes/\z.cells.size=size
 pos:0<size
def dh.mk'{e:TypeId}{size bytes:Nat}{z:ab}(h1:prog.underlying t=some (.slice e))(h2:(prog.info? e).map (λ i=>(i.zero,i.size,i.bytes))=some (some z,size,bytes))(h3:z.cells.size=size)(h4:0<size):dh t e size bytes:=by
 obtain⟨h,b,c,d,g⟩:=ki h2;exact⟨h1,⟨h,z,b,c,d,g,h3⟩,h4⟩
section
variable{w wr:aa}{m:List Nat}{aq:List Y}{ops:Array Oper}{rest:List Oper}{op:Oper}{a:Act}{Q:Exit->Act->aa->Prop}
def af.app(h:af w wr m aq)(I:op.guard=none){e:TypeId}{size bytes:Nat}(p:dh t e size bytes){x:Operand}(N:op.op= .call {callee:= .builtin .append,args:=#[X,x],argTypes:=#[t,t]}){K:Act->aa->Prop}{E:Prop}
 (i:Nat) {v:ab} {n:Nat} {d:List ab} (u:aq[i]?=some (Y.ow e size v n d)) (R:a.eval X=v) (j:Nat) {q:TypeId} {b:List ab} (J:aq[j]?=some (Y.row g q b)) (hx:a.eval x=ad (some ⟨g,0,none⟩) 1 1) (M:b.length=size) (h1:b.all (·.oneCell')=true)
 (h63:n+1<=maxLen) (H:(n+1)*bytes<=140737488355328)
 (G:∀k c r,af w r m (aq.set i (Y.ow e size (ad (some ⟨k,0,none⟩) (n+1) c) (n+1) (d++b)))->K (a.put op.dst (ad (some ⟨k,0,none⟩) (n+1) c)) r):
 if Region.wanted op (yielded ops a.tmps)=true then Oper.wp prog op a wr K Q else E:=by
 obtain⟨a0,z,e1,e2,e3,e4,e5⟩:=p.el
 have P:wr.ownsRow 0 e size v n d:=h.get u
 have T:wr.heap[g]?=some (.cells b.toArray q (0,0)):=h.row J
 refine YD I X x t N 0 e a0 z size bytes p.a e1 e2 e3 e4 e5 p.pos v n d R P g hx b.toArray q (0,0) T (by simp[M]) (by grind) h63 H (bh _) ?_
 intro r y a1 C D F
 refine G r y a1 (h.at i u ⟨?_,?_,?_⟩)
 ·exact(aR.refl wr.heap.size _ wr).grown D (aW _) (λ k c=> .inl (by simp[Y.ow,c]))
 ·exact C
 ·intro k c
  have L:k=r:=by simpa[Y.ow,Value.ownBlock] using c
  rcases F with s|s
  ·exact .inl (by rw[L];simp[Y.ow,s])
  omega
def Ap(h:af w wr m aq)(y:op.guard=none){e:TypeId}{size bytes:Nat}(q:dh t e size bytes){x:Operand}(F:op.op= .call {callee:= .builtin .append,args:=#[X,x],argTypes:=#[t,t]})
 (i:Nat) {v:ab} {n:Nat} {p:List ab} (z:aq[i]?=some (Y.ow e size v n p)) (G:a.eval X=v) (j:Nat) {H:TypeId} {d:List ab} (C:aq[j]?=some (Y.row g H d)) (hx:a.eval x=ad (some ⟨g,0,none⟩) 1 1) (D:d.length=size) (h1:d.all (·.oneCell')=true)
 (h63:n+1<=maxLen) (u:(n+1)*bytes<=140737488355328)
 (s:∀b c k,af w k m (aq.set i (Y.ow e size (ad (some ⟨b,0,none⟩) (n+1) c) (n+1) (p++d)))->wpList prog ops Q rest (a.put op.dst (ad (some ⟨b,0,none⟩) (n+1) c)) k):wpList prog ops Q (op::rest) a wr:=
 wpList_step λ K r=>h.app y q F i z G j C hx D h1 h63 u (λ b c k E=>r _ _ (s b c k E))
end
section
variable{Q:Exit->Act->aa->Prop}{S:aa->Prop}{n:Nat}{l:List Oper}{i f:Nat}{o:Oper}{listed:Array Bool}{a:Act}{w0 w:aa}{m:List Nat}{aq:List Y}
def az.app(h:af w0 w m aq)(P:Region.ready .any l.toArray listed=[i])(I:i<n)(M:l.toArray[i]?=some o)(G:o.guard=none)(k:Tmp)(hd:o.dst=some k){t e:TypeId}{size bytes:Nat}(C:dh t e size bytes){s x:Operand}(N:o.op= .call {callee:= .builtin .append,args:=#[s,x],argTypes:=#[t,t]})
 (p:Nat) {v:ab} {c:Nat} {u:List ab} (H:aq[p]?=some (Y.ow e size v c u)) (R:a.eval s=v) (j:Nat) {r:Nat} {T:TypeId} {d:List ab} (J:aq[j]?=some (Y.row r T d)) (hx:a.eval x=ad (some ⟨r,0,none⟩) 1 1) (K:d.length=size) (h1:d.all (·.oneCell')=true)
 (h63:c+1<=maxLen) (F:(c+1)*bytes<=140737488355328)
 (E:∀g q b,af w0 b m (aq.set p (Y.ow e size (ad (some ⟨g,0,none⟩) (c+1) q) (c+1) (u++d)))->S b/\az prog l Q S n f (listed.setIfInBounds i true) {a with tmps:=a.tmps.setIfInBounds k (ad (some ⟨g,0,none⟩) (c+1) q)} b):az prog l Q S n (f+1) listed a w:=by
 refine az.one P I M (λ X D=> ?_)
 refine h.app G C N p H R j J hx K h1 h63 F (λ g q b L=> ?_)
 obtain⟨y,z⟩:=E g q b L
 refine D _ _ y (λ _=> ?_)
 rw[hd]
 exact z
end
def Y.star(A B:Y):Y:=
 ⟨A.bs++B.bs,λ w=>A.P w/\B.P w/\∀k∈A.bs,k∉B.bs,
  (λ w b h c=>⟨A.st w b (λ k d=>h k (pS _ d)) c.1,B.st w b (λ k d=>h k (rr _ d)) c.2.1,c.2.2⟩),
  (λ w c=>lL.2 ⟨A.b w c.1,B.b w c.2.1,λ a e b g h=>c.2.2 a e (h▸g)⟩),
  (λ w c k d=>by
   rcases eJ.1 d with d|d
   ·exact A.lt w c.1 k d
   ·exact B.lt w c.2.1 k d)⟩
section
variable{w wr wz:aa}{m:List Nat}{aq cU:List Y}{A A' B:Y}
def af.fZ(h:af w wr m (Y.star A B::aq)):af w wr m (A::B::aq):=by
 have e:blocks (A::B::aq)=blocks (Y.star A B::aq):=by simp[blocks,Y.star]
 have d:A.P wr/\B.P wr/\_:=h.ok _ mZ;refine⟨h.only,λ c b=> ?_,by rw[e];exact h.own,by rw[e];exact h.b⟩;rcases bV.1 b with rfl|b
 ·grind
 ·rcases bV.1 b with rfl|b
  ·grind
  ·exact h.ok c (mQ b)
def af.cr(h:af w wr m (A::B::aq)):af w wr m (Y.star A B::aq):=by
 have e:blocks (A::B::aq)=blocks (Y.star A B::aq):=by simp[blocks,Y.star]
 refine⟨h.only,λ d b=> ?_,by rw[<-e];exact h.own,by rw[<-e];exact h.b⟩;rcases bV.1 b with rfl|b
 ·refine⟨h.ok _ mZ,h.ok _ (mQ mZ),λ k c g=> ?_⟩;have:=h.b;rw[fD,lL] at this;exact this.2.2 k c k (by rw[fD];grind) rfl
 ·exact h.ok d (mQ (mQ b))
def af.kt(h:af w wr A.bs (A'::B::aq)):bj A w wr (Y.star A' B):=h.cr.gQ
def af.xS(h:af w wr m aq)(d:eZ A A' aq cU)(e:bj A wr wz (Y.star A' B)):af w wz m (B::cU):=by
 obtain⟨i,b,rfl⟩:=d.idx;obtain⟨p1,p2⟩:=set_perm aq i A A' b;have c:=((h.perm p1).bN e).fZ;exact c.perm ((List.Perm.swap _ _ _).trans (List.Perm.cons _ p2.symm))
def af.dj(h:af w wr m aq)(A:Y)(c:A.P wr)(d:A.bs=[]):af w wr m (A::aq):=by
 have e:blocks (A::aq)=blocks aq:=by rw[fD,d];rfl
 refine⟨h.only,λ g b=> ?_,by rw[e];exact h.own,by rw[e];exact h.b⟩;rcases bV.1 b with rfl|b
 ·exact c
 ·exact h.ok g b
end
def la:dh 64 9 1 16:=dh.mk' lU DL rfl zD
def hn{w:aa}{v:ab}{L:List ag}(h:(Y.ow 9 1 v L.length (aV L)).P w)(b:L.length<=maxLen):bg w v L:=bP.read (base:=0) h b
variable{n:Nat}
def aax(n:Nat):1<=(cm n).length:=by
 by_cases h:n<128
 ·rw[uY h];simp
 ·rw[yA h];simp
def IE(n c a:Nat)(d:n<2^(7*a))(b:(c%128)*2^(7*a)<18446744073709551616):nI n c a=n+2^(7*a)*(c%128):=by
 unfold nI;rw[ik b,vD,jU,<-Nat.two_pow_add_eq_or_of_lt d,rB]
def Ir:∀(f a n:Nat) (L:List UInt8) (v k:Nat),n<18446744073709551616->gM f L a n= .ok (v,k)->v<18446744073709551616
 |0,a,n,L,v,k,b,h=>by rw[gM] at h;cases h
 |f+1,a,n,[],v,k,b,h=>by rw[gM] at h;cases h
 |f+1,a,n,c::l,v,k,b,h=>by
  rw[gM] at h
  split at h
  ·exact Ir f _ _ l v k (Cz _ _ _ b) h
  ·split at h
   ·cases h
   ·injection h with h;injection h with d e
    rw[<-d];exact Cz _ _ _ b
def Is:∀(f a n u:Nat) (rest:List UInt8),a+f=10->n<2^(7*a)->2^(7*a)*u+n<18446744073709551616->(0<a->u≠0)->gM f (cm u++rest) a n= .ok (n+2^(7*a)*u,a+(cm u).length)
 |0,a,n,u,rest,k,g,l,p=>by
  grind
 |f+1,a,n,u,rest,k,g,l,p=>by
  by_cases b:u<128
  ·have c:(UInt8.ofNat u).toNat=u:=by simp[ik (show u<256 by omega)]
   have o:¬((u=0/\0<a)\/(a=9/\1<u)):=by
    rintro(⟨h,e⟩|⟨h,e⟩)
    ·omega
    ·grind
   have d:(u%128)*2^(7*a)<18446744073709551616:=by
    rw[ik b,jU];omega
   rw[uY b,List.singleton_append,gM,c,aj W,aj o,IE n u a g d,ik b]
   simp
  ·have c:(UInt8.ofNat (u%128+128)).toNat=u%128+128:=by simp[ik (show u%128+128<256 by omega)]
   have i:(u%128+128)%128=u%128:=by omega
   have j:(2:Nat)^(7*(a+1))=2^(7*a)*128:=by rw[show 7*(a+1)=7*a+7 by omega,kH]
   have q:2^(7*a)*(u%128)<=2^(7*a)*u:=Nat.mul_le_mul_left _ (Nat.mod_le _ _)
   have d:((u%128+128)%128)*2^(7*a)<18446744073709551616:=by
    rw[i,jU];omega
   have e:=IE n (u%128+128) a g d
   rw[i] at e
   have r:2^(7*a)*u=2^(7*a)*(u%128)+2^(7*(a+1))*(u/128):=by
    rw[j,Nat.mul_assoc,<-Nat.mul_add];congr 1;omega
   have m:n+2^(7*a)*(u%128)<2^(7*(a+1)):=by
    rw[j]
    have h:2^(7*a)*(u%128)<=2^(7*a)*127:=Nat.mul_le_mul_left _ W
    omega
   have h:=Is f (a+1) (n+2^(7*a)*(u%128)) (u/128) rest W m W (λ _=>by omega)
   rw[yA b,gD,gM,c,ax W,e,h,fU]
   grind
def Vu(n:Nat)(rest:List UInt8)(h:n<18446744073709551616):gM 10 (cm n++rest) 0 0= .ok (n,(cm n).length):=by
 have:=Is 10 0 0 n rest rfl (Nat.one_pos) W (λ h=>absurd h zD);grind
def uc(s:ag):s.data.toList.length=s.size:=by rfl
def wK(s:ag)(a b:Nat):(s.extract a b).data.toList=(s.data.toList.drop a).take (b-a):=Lib.extract_data s a b
def KK{y:RD}{l rest:List UInt8}(a:y.e=0)(b:y.s.data.toList=l++rest):y.cK (l.length:Int)=⟨l.toArray⟩/\y.bF (l.length:Int)=⟨⟨rest.toArray⟩,0⟩:=by
 have c:y.s.size=l.length+rest.length:=by rw[<-uc,b,bA]
 constructor
 ·rw[RD.cK,ax ⟨a,by omega,by omega⟩];apply kP;simp_all
 ·rw[RD.bF,ax a,aj W,aj W];have:y.s.extract (l.length:Int).toNat y.s.size=⟨rest.toArray⟩:=by
   apply kP;rw[wK,b,mS,c];simp
  grind
def xw{y:RD}{rest:List UInt8}(c:n<18446744073709551616)(b:y.e=0)(a:y.s.data.toList=cm n++rest):y.cB=n/\y.cg=⟨⟨rest.toArray⟩,0⟩:=by
 have d:y.s.size=(cm n).length+rest.length:=by rw[<-uc,a,bA]
 have h:=Vu n rest c;rw[<-a] at h;constructor
 ·rw[RD.cB,ax b,h]
 ·rw[RD.cg,ax b,h];have:y.s.extract (cm n).length y.s.size=⟨rest.toArray⟩:=by
   apply kP;rw[wK,a,d];simp
  grind
def Nk(s:ag):(fm s).data.toList=cm s.size++s.data.toList:=by
 rfl
def af.ar{w wr:aa}(h:af w wr m I)(i:Nat)(a:I[i]?=some J):af w wr m (J::I.eraseIdx i):=h.perm (set_perm I i J J a).1
def RD.fH:Nat->RD->List ag
 |0,_=>[]
 |k+1,r=>r.cK 32::(r.bF 32).fH k
def RD.gv:Nat->RD->RD
 |0,r=>r
 |k+1,r=>(r.bF 32).gv k
def RD.ir(x:RD):RD:=x.jy.jy
def RD.qn(x:RD):RD:=if 48<x.ir.cB then x.ir.cg.fail 4 else x.ir.cg
def RD.gZ(x:RD):BD:=⟨x.jx,x.jy.jx,x.qn.fH (min x.ir.cB 48)⟩
def RD.mb(x:RD):RD:=x.qn.gv (min x.ir.cB 48)
def xg:∀(k:Nat) (r:RD),(r.fH k).length=k
 |0,_=>rfl
 |k+1,r=>by simp[RD.fH,xg k]
def jC(x:RD):x.cB<18446744073709551616:=by
 unfold RD.cB;split
 ·split
  ·decide
  ·rename_i p h;exact Ir 10 0 0 _ p.1 p.2 zD h
 ·decide
def EE{w:aa}{x:RD}(h:(Y.rd g x).P w):Calls prog 75 #[pV g] w λ r v=>∃k,r=ao (x.gZ.val k)/\bj (Y.rd g x) w v (Y.star (Y.rd g x.mb) (Y.ow 9 1 k x.gZ.e.length (aV x.gZ.e))):=by
 have a:=Z (af.self h);have f:=jC x.ir;obtain⟨N,H⟩:∃N,x.ir.cB=N:=⟨_,rfl⟩;rw[H] at f;have p:=Z H
 go_enter func75,ntmps75
 go_upto_region 4 with(first|refine KS a λ l a=>?_|refine KA a _ 2 eW λ F l a7 a=>?_|refine KA a _ 3 eW λ t l a9 a=>?_|(go_at_call 150;(refine(EF (a.U.in (by first|exact mQ mZ|exact mQ (mQ mZ)))).mono ?_);rintro e v ⟨rfl,J⟩;replace a:=Z (a.U.rep (by first|exact .tail _ (.head _)|exact .tail _ (.tail _ (.head _))) J))|go_at_call 47;refine KP a (qd (a.U.in (by exact mQ (mQ mZ)))) λ v a=>?_)
 obtain⟨d,A⟩:∃d,x.qn=d:=⟨_,rfl⟩;have q:ai ((if 48<N then x.ir.cg.fail 4 else x.ir.cg)=d):=Z (by rw[<-A];unfold RD.qn;rw[p.U]);have z:ai (x.gZ=⟨x.jx,x.jy.jx,d.fH (min N 48)⟩):=Z (by unfold RD.gZ;rw[A,p.U]);have E:ai (x.mb=d.gv (min N 48)):=Z (by unfold RD.mb;rw[A,p.U]);rw[show x.jy.jy=x.ir from rfl] at*;rw[p.U];have R:∀j,(Builtin.min_ #[46,46] 46 #[U (N:Int),U 48]).run prog j= .ok (U ((min N 48:Nat):Int)) j:=λ j=>run_min_int2 j _ _ _ _ _ _ _ W;generalize x.jx=b at*;generalize x.jy.jx=c at*;obtain⟨M,P⟩:∃M,min N 48=M:=⟨_,rfl⟩;rw[P] at R z E;have a6:M<=48:=by omega
 go_upto_if 14 with fail
 go_cut [] from 14 to 16 (λ j=>af w j (Y.rd g x).bs [Y.row t 66 [U (b.size:Int),U (b.time:Int),ae b.aE,ae b.a,U (c.size:Int),U (c.time:Int),ae c.aE,ae c.a,ad none 0 0],Y.row F 66 [U 0,U 0,ae ⟨#[]⟩,ae ⟨#[]⟩,U 0,U 0,ae ⟨#[]⟩,ae ⟨#[]⟩,ad none 0 0],Y.rd g d])
 case first=>
  by_cases j:48<N
  ·have hd:decide ((48:Int)<(N:Int))=true:=by simp;omega
   rw[hd];rw[ax j] at q
   go_wp2_with((go_at_call 151;refine KP a (vG (a.U.in (by exact mQ (mQ mZ))) 4 4 rfl) λ v a=>?_))
   rw[q.U] at a
   go_meet
   exact a.U
  ·have hd:decide ((48:Int)<(N:Int))=false:=by simp;omega
   rw[hd];rw[aj j] at q
   go_wp2_with fail
   rw[q.U] at a
   go_meet
   exact a.U
 case rest=>
  have a:=Z hcut;replace a:=Z (a.U.dj (Y.ow 9 1 (ad none 0 0) 0 (aV [])) (ct _ _ _ _) rfl)
  go_wp2
  go_loopw [19] (λ m wr=>∃(j:Nat) (k:ab) (L:List ag) (r:RD),j<=M/\m=U (j:Int)/\af w wr (Y.rd g x).bs [Y.ow 9 1 k L.length (aV L),Y.row t 66 [U (b.size:Int),U (b.time:Int),ae b.aE,ae b.a,U (c.size:Int),U (c.time:Int),ae c.aE,ae c.a,k],Y.row F 66 [U 0,U 0,ae ⟨#[]⟩,ae ⟨#[]⟩,U 0,U 0,ae ⟨#[]⟩,ae ⟨#[]⟩,ad none 0 0],Y.rd g r]/\L.length=j/\d.fH M=L++r.fH (M-j)/\d.gv M=r.gv (M-j)) (λ m _=>M-(intOf m).toNat)
  case atStart=>exact⟨0,ad none 0 0,[],d,by omega,rfl,a.U,rfl,by simp,by simp⟩
  case round=>
   obtain⟨j,k,L,r,b0,rfl,a0,G,u,hx⟩:=hrel;have a:=Z a0;obtain⟨pA,C,T,-⟩:=cF (show wr.ownsRow 0 9 1 k L.length (aV L) from a.U.get (i:=0) rfl);subst T;by_cases b3:j<M
   ·have K:(j:Int)<(M:Int):=by omega
    rw[show M-j=(M-(j+1))+1 by omega] at u hx;have m:=Z (show d.fH M=(L++[r.cK 32])++(r.bF 32).fH (M-(j+1)) by rw[u,RD.fH,di];rfl);have s:=Z (show d.gv M=(r.bF 32).gv (M-(j+1)) by rw[hx,RD.gv]);have y:=Z (show(L++[r.cK 32]).length=j+1 by rw[bA,G];rfl);have b2:L.length<=48:=by omega
    have b1:IntKind.u64.wrap ((j:Int)+1)=(j:Int)+1:=by rw[kB];omega
    obtain⟨S,Q⟩:∃S,r.cK 32=S:=⟨_,rfl⟩;obtain⟨D,X⟩:∃D,r.bF 32=D:=⟨_,rfl⟩;have B:=λ o (h:(Y.rd g r).P o)=>tt h 32;rw[Q] at m y B;rw[X] at m s B;have I:=Z B
    go_wp2
    refine af.region a.U (n:=7) (S:=bc [Y.row t 66 [U (b.size:Int),U (b.time:Int),ae b.aE,ae b.a,U (c.size:Int),U (c.time:Int),ae c.aE,ae c.a,ad pA L.length C]]) V V (λ a2 a1=>(aP (a1.in (by exact mQ mZ)) bf)) (λ a2 f o=> ?_);replace a:=Z f;refine V2 0 21 o ?_;refine L2 1 22 0 64 o ?_;refine V2 2 23 o ?_;refine az.eM (i:=3) V zD rfl rfl 24 rfl rfl 13 rfl (en 13) _ rfl ?_;refine KP a (I.U _ (a.U.in (by exact mQ (mQ (mQ mZ))))) λ b4 a=>?_;refine⟨_,rfl,(aP (a.U.in (by exact mQ mZ)) bf),?_⟩;simp only[aH,au,ay];refine az.make a.U (i:=4) V zD rfl rfl 25 rfl (some 1) 9 ?acg ?Ry ?Xv;case Ry=>(go_simp;(refine⟨rfl,?_⟩;rfl))
    intro a5 l a8 f;replace a:=Z f;refine⟨(aP (a.U.in (by exact mQ (mQ mZ))) bf),?_⟩;simp only[bk];simp only[aH,au,ay];refine az.app a.U (i:=5) V zD rfl rfl 26 rfl la rfl 1 rfl rfl 0 rfl rfl rfl rfl (by unfold maxLen;omega) W (λ a4 a3 l f=> ?_);simp only[au,ay] at f;replace a:=Z f;refine⟨(aP (a.U.in (by exact mQ (mQ mZ))) bf),?_⟩;simp only[aH,au,ay];have o:bc [Y.row t 66 [U (b.size:Int),U (b.time:Int),ae b.aE,ae b.a,U (c.size:Int),U (c.time:Int),ae c.aE,ae c.a,ad pA L.length C]] _:=(aP (a.U.in (by exact mQ (mQ mZ))) bf);refine V2 6 27 o ?_;refine az.tail V ?_;simp only[bU,bC]
    go_wp2_with(refine KS a λ l a=>?_)
    go_roundw
    case rel=>exact⟨j+1,_,L++[S],D,by omega,by go_num,by rw[pw,bA];exact a.U.tail,y.U,m.U,s.U⟩
    case measure=>simp[intOf];omega
   ·have K:decide (j<M)=false:=by simp;omega
    have e0:M-j=0:=by omega
    rw[e0,RD.fH,pN] at u;rw[e0,RD.gv] at hx;have m:=Z u;have s:=Z hx;have y:=Z G
    go_wp2_with(first|refine KT a 9 ?_|refine KS a λ l a=>?_)
    refine iH a.U 2 rfl 66 9 rfl rfl V rfl rfl ⟨ad pA L.length C,?_,?_⟩
    ·rw[z.U]
    ·rw[z.U,E.U,m.U,s.U];exact(a.U.ar 3 rfl).kt
def eN(s:ag):Except Nat BD:=
 if(⟨s,0⟩:RD).mb.ea=0 then(if(⟨s,0⟩:RD).gZ.right=true then .ok (⟨s,0⟩:RD).gZ else .error 3) else .error (⟨s,0⟩:RD).mb.ea
def mO:BD:=⟨⟨0,0,⟨#[]⟩,⟨#[]⟩⟩,⟨0,0,⟨#[]⟩,⟨#[]⟩⟩,[]⟩
def rl(s:ag)(w:aa)(e:Ending)(c:aa):Prop:=
 (match eN s with
  | .error k=>e=ao (aJ #[mO.val (ad none 0 0),O (k:Int)])/\k≠0
  | .ok b=>∃a,e=ao (aJ #[b.val a,O 0])/\bg c a b.e/\(∀k∈(Y.sr a b.e).bs,w.heap.size<=k))/\BW w c
def V6{w:aa}{b:ab}{L:List ag}(h:∀k∈(Y.ow 9 1 b L.length (aV L)).bs,w.heap.size<=k):∀k∈(Y.sr b L).bs,w.heap.size<=k:=λ k a=>by
 unfold Y.sr at a;simp only at a;split at a
 ·cases a
 ·exact h k a
def af.lu{w wr:aa}(h:af w wr [] I)(c:J∈I):∀k∈J.bs,w.heap.size<=k:=λ k b=>by
 rcases h.own k (qC c b) with a|a
 ·cases a
 omega
def Ch(x:RD):x.gZ.e.length<=48:=by
 unfold RD.gZ;rw[xg];omega
def Nz(x:RD):x.gZ.Ok:=⟨⟨jC _,jC _⟩,⟨jC _,jC _⟩,by have:=Ch x;omega⟩
def GI(s:ag)(w:aa):Calls prog 25 #[ae s] w (rl s w):=by
 have a:=Z (af.start w []);obtain⟨x,hx⟩:∃x:RD,(⟨s,0⟩:RD)=x:=⟨_,rfl⟩;have q:=Z hx
 go_enter func25,ntmps25
 go_upto_region 2 with(first|refine KA a _ 2 eW λ F d J a=>?_|go_at_call 10;(refine(ov s a.U).mono ?_);rintro e p ⟨G,rfl,K,z⟩;replace a:=Z z)
 rw[q.U] at a
 go_wp2_with fail
 refine(EE (a.U.in mZ)).mono ?_;rintro e p ⟨E,rfl,t⟩;replace a:=Z (a.U.xS (by exact .head _) t);have A:=Nz x;have u:=Ch x;obtain⟨b,m⟩:∃b,x.gZ=b:=⟨_,rfl⟩;obtain⟨y,C⟩:∃y,x.mb=y:=⟨_,rfl⟩;rw[m,C] at a;rw[m] at A u⊢;have HD:ai (eN s=if y.ea=0 then(if b.right=true then .ok b else .error 3) else .error y.ea):=Z (by unfold eN;grind);obtain⟨pA,D,B,-⟩:=cF (show p.ownsRow 0 9 1 E b.e.length (aV b.e) from a.U.get (i:=0) rfl);subst B;have p1:=λ(c:aa) (h:bg c (ad pA b.e.length D) b.e)=>By b _ c h;have v:b.e.length<=maxLen:=by unfold maxLen;omega
 have j:=Z v;by_cases g:y.ea=0
 ·cases o:b.right with
  |true=>
   rw[o] at p1;have c:ai (eN s= .ok b):=by grind
   have h:=Z p1;have f:=Z g
   go_wp2_with(first|refine KT a 9 ?_|refine KS a λ d a=>?_|refine KA a _ 5 eW λ l d n a=>?_|go_at_call 14;refine KQ (rF (a.U.in (by exact mQ (mQ mZ)))) ?_;rw[f.U]|go_at_call 76;refine KC a (h.U _ (hn (a.U.in zS) j.U)) λ k a=>?_)
   refine cz a.U 3 rfl 66 9 rfl rfl rfl zR rfl rfl ?_;unfold rl;rw[c.U];exact⟨⟨_,rfl,hn (a.U.get (i:=1) rfl) j.U,V6 (a.U.lu (mQ mZ))⟩,a.U.ak⟩
  |false=>
   rw[o] at p1;have c:ai (eN s= .error 3):=by grind
   have h:=Z p1;have f:=Z g
   go_wp2_with(first|refine KT a 9 ?_|refine KS a λ d a=>?_|refine KA a _ 5 eW λ l d n a=>?_|go_at_call 14;refine KQ (rF (a.U.in (by exact mQ (mQ mZ)))) ?_;rw[f.U]|go_at_call 76;refine KC a (h.U _ (hn (a.U.in (by exact mQ mZ)) j.U)) λ k a=>?_)
   refine cz a.U 3 rfl 66 9 rfl rfl rfl V rfl rfl ?_;unfold rl;rw[c.U];exact⟨⟨rfl,by decide⟩,a.U.ak⟩
 ·have c:ai (eN s= .error y.ea):=Z (by rw[HD.U,aj g]);obtain⟨k,h⟩:∃k,y.ea=k:=⟨_,rfl⟩;rw[h] at c g;have H:((k:Int)==0)=false:=by rw[cc];omega
  have I:((k:Int) !=0)=true:=by rw[nu];omega
  have f:=Z h;have r:=Z g
  go_wp2_with(first|refine KS a λ d a=>?_|refine KA a _ 5 eW λ l d n a=>?_|go_at_call 14;refine KQ (rF (a.U.in (by exact mQ (mQ mZ)))) ?_;rw[f.U])
  refine cz a.U 3 rfl 66 9 rfl rfl rfl V rfl rfl ?_;unfold rl;rw[c.U];exact⟨⟨rfl,r.U⟩,a.U.ak⟩
def J3{w:aa}{v u:ab}{L M:List ag}(h:bg w v L)(k:bg w u M):CB 240 #[v,u] w (aF (decide (L=M))):=
 (XI h k).mono λ _ _ ⟨a,n,b⟩=>⟨a,by rw[b];exact gp (bz _ _) n⟩
def Qj(x y:BD)(i j:ab)(w:aa)(m:bg w i x.e)(n:bg w j y.e):CB 239 #[x.val i,y.val j] w (aF (decide (x=y))):=by
 have p3:=λ(a:aa) (h:BW w a)=>J3 (m.below h rfl) (n.below h rfl);obtain⟨d,d1⟩:∃d,decide (x.a=y.a)=d:=⟨_,rfl⟩;obtain⟨e,d2⟩:∃e,decide (x.b=y.b)=e:=⟨_,rfl⟩;obtain⟨f,d3⟩:∃f,decide (x.e=y.e)=f:=⟨_,rfl⟩;have l:decide (x=y)=(d&&e&&f):=by
  rw[<-d1,<-d2,<-d3,bI];obtain⟨a,b,c⟩:=x;obtain⟨h,k,o⟩:=y;simp[and_assoc]
 rw[l];rw[d3] at p3;obtain⟨R,g⟩:∃R,(d&&e&&f)=R:=⟨_,rfl⟩;rw[g];have h:=Z g;have k:=Z p3;have b:=Z d1;have D2:=Z d2;have a:=Z (af.start w [])
 go_enter func239,ntmps239
 cases d
 rotate_left;focus cases e
 all_goals
  have c:=h.U;simp only[sB] at c;subst c
  go_wp2_with(first|refine KT a 4 ?_|refine Kl a ?_|refine KB a 66 2 (x.cells _) λ p o r a=>?_|refine KB a 66 3 (y.cells _) λ q o s a=>?_|(first|(refine rn x.a y.a rfl rfl rfl rfl ?_;rw[b.U])|(refine rn x.b y.b rfl rfl rfl rfl ?_;rw[D2.U]))|go_at_call 240;refine KC a (k.U _ a.U.ak) λ t a=>?_|refine rn x.a y.a rfl rfl rfl rfl ?_;rw[b.U])
  go_ret
  exact⟨rfl,a.U.ak⟩
def Y.iter(g:Nat)(s:ag)(pos:Nat):Y:=
 ⟨[g],λ w=>w.heap[g]?=some (.stringIter s pos),(λ w d h b=>(h g zS).trans b),(λ _ _=>by simp),(λ w b k c=>by
  grind)⟩
section
variable{w wr:aa}{m:List Nat}{aq:List Y}{ops:Array Oper}{rest:List Oper}{op:Oper}{a:Act}{Q:Exit->Act->aa->Prop}
def af.newObj(h:af w wr m aq)(o:Obj)(A:Y)(c:A.bs=[wr.heap.size])(b:A.P (wr.alloc o)):af w (wr.alloc o) m (A::aq):=
 h.join (bJ wr o) A b (by
  grind)
def Rg(h:af w wr m aq)(d:Region.wanted op (yielded ops a.tmps)=true)(k:Tmp)(hd:op.dst=some k)(e:op.op= .range 9 X)(s:ag)(hx:a.eval X=ae s)
 (c:∀g b,w.heap.size<=g->af w b m (Y.iter g s 0::aq)->wpList prog ops Q rest (a.put (some k) (pV g)) b):wpList prog ops Q (op::rest) a wr:=by
 refine dW d λ K b=> ?_
 have f:(Instr.range 9 (ae s)).run prog wr= .ok (pV wr.heap.size) (wr.alloc (.stringIter s 0)):=by
  unfold Instr.range
  simp only[cL,fN dO,cZ,run_newObj_alloc,dw]
 unfold Oper.wp execOp
 simp only[e,hx,f,cL,dw,cZ,jV]
 rw[hd]
 refine b _ _ (c _ _ h.size (h.newObj _ (Y.iter wr.heap.size s 0) rfl ?_))
 exact lo wr _
def Nx(h:af w wr m aq)(i:Nat){pos:Nat}{s:ag}(d:aq[i]?=some (Y.iter g s pos))(o:Region.wanted op (yielded ops a.tmps)=true){x:Operand}(q:op.op= .next x true)(hx:a.eval x=pV g)(e:pos<s.size)(c:Nat)(n:(s[pos]'e).toNat=c)(h128:c<128)
 (l:∀b,af w b m (aq.set i (Y.iter g s (pos+1)))->wpList prog ops Q rest (a.put op.dst (aJ #[aF true,O (pos:Int),.int .i32 (c:Int)])) b):wpList prog ops Q (op::rest) a wr:=by
 refine dW o λ K j=> ?_
 have b:wr.heap[g]?=some (.stringIter s pos):=h.get d
 have f:=Lib.run_next_ascii_at (P:=prog) wr g s pos op.type b e W
 rw[n] at f
 unfold Oper.wp execOp
 simp only[q,hx,f,cL,dw,cZ,jV]
 refine j _ _ (l _ (h.at i d ⟨?_,?_,λ k b=> .inl b⟩))
 ·refine⟨rfl,rfl,rfl,by simp[World.iterAt],λ k b p=> ?_⟩
  have:k≠g:=by simpa[Y.iter] using p
  simp only[World.iterAt]
  grind
 ·exact Lib.iterAt_heap wr g s pos (pos+1) b
def rE(h:af w wr m aq)(i:Nat){pos:Nat}{s:ag}(c:aq[i]?=some (Y.iter g s pos))(b:Region.wanted op (yielded ops a.tmps)=true)(e:op.op= .next X true)(hx:a.eval X=pV g)(f:¬pos<s.size)
 (l:wpList prog ops Q rest (a.put op.dst (aJ #[aF false])) wr):wpList prog ops Q (op::rest) a wr:=by
 refine dW b λ K k=> ?_
 have d:wr.heap[g]?=some (.stringIter s pos):=h.get c
 have j:=Lib.run_next_end_at (P:=prog) wr g s pos op.type d f
 unfold Oper.wp execOp
 simp only[e,hx,j,cL,dw,cZ,jV]
 grind
def Y.dP(g:Nat)(d:List ab):Y:=
 ⟨[g],λ w=>∃t b,w.heap[g]?=some (.cells d.toArray t b),(λ w e h ⟨t,b,c⟩=>⟨t,b,(h g zS).trans c⟩),(λ _ _=>by simp),(λ w ⟨t,b,c⟩ k b=>by
  grind)⟩
def yq{w:aa}{b:List ab}(h:(Y.dP g b).P w)(i:Nat):w.cell? ⟨g,i,none⟩=b[i]?:=by
 obtain⟨t,c,h⟩:=h;rw[nx w g i _ t c h];simp
def vq(j:Region.wanted op (yielded ops a.tmps)=true)(b:TypeId)(k:op.op= .load b X){p:Addr}(hx:a.eval X= .pointer (some p)){v:ab}(i:wr.cell? p=some v)
 (f:jF b=true) (h:wpList prog ops Q rest (a.put op.dst v) wr):wpList prog ops Q (op::rest) a wr:=by
 obtain⟨d,c,e⟩:=sy f
 refine dW j λ K g=> ?_
 unfold Oper.wp execOp
 simp only[k,hx,Instr.loadAt,Instr.sureAddr,cL,dw,cZ,sK wr _ b v d i c e]
 exact g _ _ h
def dX(o:Region.wanted op (yielded ops a.tmps)=true)(c e:Nat)(p:op.op= .load c X)(hx:a.eval X= .pointer (some ⟨g,n,none⟩)){b:List ab}(l:wr.rangeAt g n b)(r:b.length=e)
 (i:ic c e=true) (k:wpList prog ops Q rest (a.put op.dst (aG b.toArray)) wr):wpList prog ops Q (op::rest) a wr:=by
 obtain⟨⟨d,f,h⟩,q⟩:=pn i
 exact dW o λ _ j=>DN c X p g n hx b d l f h (by grind) (j _ _ k)
end
def Mk{w wr:aa}{m:List Nat}{aq:List Y}{ops:Array Oper}{rest:List Oper}{op:Oper}{a:Act}{Q:Exit->Act->aa->Prop}(h:af w wr m aq)(i:Region.wanted op (yielded ops a.tmps)=true)(k:Tmp)(hd:op.dst=some k)(c:Option Nat)(e:TypeId)(b:List ab)
 (j:(execOp a.eval op).run prog wr= .ok (.value (bk c wr.heap.size)) (wr.alloc (.cells b.toArray e)))
 (f:∀g d,w.heap.size<=g->af w d m (Y.row g e b::aq)->wpList prog ops Q rest (a.put (some k) (bk c g)) d):wpList prog ops Q (op::rest) a wr:=by
 refine dW i λ K d=> ?_
 unfold Oper.wp
 rw[j,jV,hd]
 exact d _ _ (f _ _ h.size (h.alloc b e))
def bD(size:Nat)(w:aa)(v:ab)(xs:List (List ab)):Prop:=
 (∀x∈xs,x.length=size)/\∃(A:Option Addr) (c:Nat),v=ad A xs.length c/\xs.length<=maxLen/\∀i (h:i<xs.length),∃b o,A=some ⟨b,o,none⟩/\b<w.heap.size/\w.rangeAt b (o+i*size) xs[i]
def Y.er(size:Nat)(v:ab)(l:List (List ab)):Y:=
 ⟨if l=[] then [] else v.ownBlock.toList,λ w=>bD size w v l,
  (λ w e h d=>by
   obtain⟨y,A,n,f,u,g⟩:=d
   refine⟨y,A,n,f,u,λ i t=> ?_⟩
   obtain⟨b,o,c,p,q⟩:=g i t
   have x:¬l=[]:=by rintro rfl;simp at t
   have s:e.heap[b]?=w.heap[b]?:=h b (by rw[aj x,f,c];simp[Value.ownBlock])
   have C:b<e.heap.size:=by
    have z:w.heap[b]?≠none:=by simp[p]
    rw[<-s] at z
    rcases jk b e.heap.size with r|r
    ·exact r
    ·grind
   refine⟨b,o,c,C,λ j v B=> ?_⟩
   rw[<-q j v B]
   unfold World.cell?
   rw[s]),
  (λ w d=>by
   grind),
  (λ w d k e=>by
   split at e
   ·cases e
   ·rename_i x
    obtain⟨y,A,n,f,u,g⟩:=d
    obtain⟨b,o,c,p,q⟩:=g 0 (by grind)
    rw[f,c] at e
    have:k=b:=by simpa[Value.ownBlock] using e
    omega)⟩
def bD.below{size:Nat}{w c:aa}{v:ab}{b:List (List ab)}(h:bD size w v b)(d:BW w c):bD size c v b:=
 (Y.er size v b).st w c (λ k e=>d.block k ((Y.er size v b).lt w h k e)) h
def bD.nil(size:Nat)(w:aa):bD size w (ad none 0 0) []:=⟨(λ x hx=>by cases hx),none,0,rfl,zS,(λ i b=>by grind)⟩
def qL{e:TypeId}{size:Nat}{w:aa}{v:ab}{xs:List (List ab)}(d:∀x∈xs,x.length=size)(h:(Y.ow e size v xs.length xs.flatten).P w)(q:xs.length<=maxLen):bD size w v xs:=by
 have o:∀(b:List (List ab)) (i:Nat) (f:i<b.length) (j:Nat) (u:ab),(∀y∈b,y.length=size)->b[i][j]?=some u->b.flatten[i*size+j]?=some u:=by
  intro b;induction b with
  |nil=>simp
  |cons y b g=>
   intro i f j u c k;have n:y.length=size:=by grind
   rw[zm];cases i with
   |zero=>
    grind
   |succ i=>
    have l:=g i (by grind) j u (λ z d=>c z (mQ d)) (by grind);grind
 rcases h.2 with⟨c,r⟩|⟨g,l,s,c,x,p,r,z,t,A⟩
 ·have n:xs=[]:=by grind
  subst n;rw[c];exact bD.nil size w
 ·refine⟨d,some ⟨g,0,none⟩,l,c,q,λ i f=>⟨g,0,rfl,(lG.1 p).1,λ j u k=> ?_⟩⟩;subst c;have:=h.cells rfl (i*size+j) u (o xs i f j u d k);rw[iF] at this;grind
def hY(k:Nat):Bool:=decide (1<=k)&&decide (k<11)
def Iy(k:Nat)(w:aa):Calls prog 163 #[O (k:Int)] w λ e b=>e=ao (aF (hY k))/\w=b:=by
 obtain⟨R,a⟩:∃R,hY k=R:=⟨_,rfl⟩;rw[a];unfold hY at a;have d1:decide (1<=(k:Int))=decide (1<=k):=by rw[bI];simp;omega
 have d2:decide ((k:Int)<11)=decide (k<11):=by rw[bI];simp;omega
 generalize decide (1<=k)=d at*;generalize decide (k<11)=e at*;have c:=Z a
 go_enter func163,ntmps163
 cases d
 all_goals
  have b:=c.U;simp only[sB] at b;subst b
  go_wp2_with(fail)
  go_ret
  exact⟨rfl,rfl⟩
def L4{w:aa}{v:ab}{x:WS}{K:Nat}(I:(Y.wr g v x).P w)(c:x.b.length<=K)(L:List ag)(S:L.length<=48)(h32:∀s∈L,s.size=32)(R:K<=5000000)(i:ab)(p:(Y.sr i L).P w)(F:∀k∈(Y.sr i L).bs,k∉(Y.wr g v x).bs):
 Calls prog 93 #[pV g,i] w λ r m=>r=ao (aJ #[])/\∃d,bj (Y.wr g v x) w m (Y.wr g d ((x.num L.length).fX L))/\((x.num L.length).fX L).b.length<=K+5000:=by
 have r:=Z h32
 have z:=Z p;have u:=Z F
 have H:∃A f,i=ad A L.length f:=by
  obtain⟨A,f,h,-⟩:=p
  exact⟨A,f,h⟩
 obtain⟨A,f,rfl⟩:=H
 have a:=Z (af.self I)
 have b:=Z c
 have a0:L.length<=9223372036854775807:=by omega
 go_enter func93,ntmps93
 go_wp2_with((go_at_call 90;(refine(oF (a.U.in mZ) b.U _ W W).mono ?_);rintro e m ⟨rfl,d,h,c⟩;have l:=a.U.rep (by exact .head _) h;have a:=Z l;have b:=Z c))
 obtain⟨y,q⟩:∃y,x.num L.length=y:=⟨_,rfl⟩
 have t:=Z q
 rw[q] at a b
 generalize T:K+10=N at*
 go_loopw [13] (λ k wr=>∃(j:Nat) (d:ab),j<=L.length/\k=O (j:Int)/\af w wr (Y.wr g v x).bs [Y.wr g d (y.fX (L.take j))]/\(y.fX (L.take j)).b.length<=N+32*j) (λ k _=>L.length-(intOf k).toNat)
 case atStart=>exact⟨0,_,by omega,rfl,a.U,b.U⟩
 case round=>
  obtain⟨j,d,X,rfl,G,c⟩:=hrel
  have a:=Z G;have b:=Z c
  by_cases k:j<L.length
  ·have C:bg wr (ad A L.length f) L:=a.U.ro z.U u.U
   have n:=Z (Hg (x:=y) k)
   have a2:=r.U _ (cY k)
   obtain⟨bb,o,B,-,hx⟩:∃bb o,A=some ⟨bb,o,none⟩/\True/\wr.cell? ⟨bb,o+j,none⟩=some (ae L[j]):=by
    obtain⟨P,Q,E,a1,D⟩:=C
    injection E with e1 e2 e3
    subst e1
    obtain⟨bb,o,J,a3,M⟩:=D j k
    exact⟨bb,o,J,trivial,M⟩
   subst B
   have D:(j:Int)<(L.length:Int):=by omega
   generalize L[j]=s at*
   go_wp2_with((go_at_call 9;(refine(vR (a.U.in mZ) b.U _ _ W).mono ?_);rintro e m ⟨rfl,d,h,c⟩;have l:=a.U.rep (by exact .head _) h;have a:=Z l;have b:=Z c))
   go_roundw
   case rel=>exact⟨j+1,_,by omega,by go_num,by rw[<-n.U];exact a.U,by rw[<-n.U];exact iM b.U W⟩
   case measure=>simp[intOf];omega
  ·obtain rfl:j=L.length:=by omega
   rw[lO] at a b
   go_wp2
   go_end0
   rw[t.U]
   exact⟨rfl,_,a.U.gQ,iM b.U W⟩
def RD.nA(x:RD):List ag:=if 48<x.cB then [] else x.cg.fH x.cB
def RD.sj(x:RD):RD:=if 48<x.cB then x.cg.fail 4 else x.cg.gv x.cB
def LV{w:aa}{x:RD}(h:(Y.rd g x).P w):Calls prog 226 #[pV g] w λ r i=>∃e,r=ao e/\bj (Y.rd g x) w i (Y.star (Y.rd g x.sj) (Y.ow 9 1 e x.nA.length (aV x.nA))):=by
 have a:=Z (af.self h);have c:=jC x;obtain⟨N,d⟩:∃N,x.cB=N:=⟨_,rfl⟩;obtain⟨b,m⟩:∃b,x.cg=b:=⟨_,rfl⟩;have y:=λ t (h:(Y.rd g x).P t)=>qd h;rw[d,m] at y;rw[d] at c;have v:=Z y;by_cases l:48<N
 ·have n:ai (x.nA=[]):=Z (by unfold RD.nA;rw[d,ax l]);have o:ai (x.sj=b.fail 4):=Z (by unfold RD.sj;rw[d,m,ax l]);have hd:decide ((48:Int)<(N:Int))=true:=by simp;omega
  go_enter func226,ntmps226
  go_wp2_with(first|go_at_call 47;refine KP a (v.U _ (a.U.in mZ)) λ i a=>?_|go_at_call 151;refine KP a (vG (a.U.in mZ) 4 4 rfl) λ i a=>?_)
  have c:=a.U.dj (Y.ow 9 1 (ad none 0 0) 0 (aV [])) (ct _ _ _ _) rfl;refine vi rfl rfl rfl ⟨_,rfl,?_⟩;rw[n.U,o.U];exact(c.ar 1 rfl).kt
 ·have n:ai (x.nA=b.fH N):=Z (by unfold RD.nA;rw[d,m,aj l]);have o:ai (x.sj=b.gv N):=Z (by unfold RD.sj;rw[d,m,aj l]);have hd:decide ((48:Int)<(N:Int))=false:=by simp;omega
  have H:N<=48:=by omega
  go_enter func226,ntmps226
  go_wp2_with((go_at_call 47;refine KP a (v.U _ (a.U.in mZ)) λ i a=>?_))
  replace a:=Z (a.U.dj (Y.ow 9 1 (ad none 0 0) 0 (aV [])) (ct _ _ _ _) rfl)
  go_loopw [4,12] (λ e f wr=>∃(j:Nat) (L:List ag) (r:RD) (pA:Option Addr) (q:Nat),e=ad pA L.length q/\j<=N/\f=U (j:Int)/\af w wr (Y.rd g x).bs [Y.ow 9 1 (ad pA L.length q) L.length (aV L),Y.rd g r]/\L.length=j/\b.fH N=L++r.fH (N-j)/\b.gv N=r.gv (N-j)) (λ _ f _=>N-(intOf f).toNat)
  case atStart=>exact⟨0,[],b,none,0,rfl,by omega,rfl,a.U,rfl,by simp,by simp⟩
  case round=>
   obtain⟨j,L,r,pA,q,rfl,J,rfl,C,p,f,hx⟩:=hrel;have a:=Z C;by_cases P:j<N
   ·have z:decide (j<N)=true:=by simp;omega
    rw[show N-j=(N-(j+1))+1 by omega] at f hx;have e:=Z (show b.fH N=(L++[r.cK 32])++(r.bF 32).fH (N-(j+1)) by rw[f,RD.fH,di];rfl);have k:=Z (show b.gv N=(r.bF 32).gv (N-(j+1)) by rw[hx,RD.gv]);have u:=Z (show(L++[r.cK 32]).length=j+1 by rw[bA,p];rfl);have M:L.length<=48:=by omega
    have K:IntKind.u64.wrap ((j:Int)+1)=(j:Int)+1:=by rw[kB];omega
    clear f hx p;obtain⟨S,A⟩:∃S,r.cK 32=S:=⟨_,rfl⟩;obtain⟨s,B⟩:∃s,r.bF 32=s:=⟨_,rfl⟩;have p:=λ t (h:(Y.rd g r).P t)=>tt h 32;rw[A] at e u p;rw[B] at e k p;have t:=Z p
    go_wp2_with(first|(with_reducible show cH);(refine Mk a.U rfl 17 rfl (some 1) 9 [ae S] (by go_simp;(rfl)) ?_;intro F D I c;replace a:=Z c;simp only[bk])|refine Ap a.U rfl la rfl 1 rfl rfl 0 rfl rfl rfl rfl (by unfold maxLen;omega) W ?_;intro G E D c;simp only[au,ay] at c;replace a:=Z c|go_at_call 13;refine KP a (t.U _ (a.U.in (by exact mQ mZ))) λ i a=>?_)
    go_roundw
    case rel=>exact⟨j+1,L++[S],s,_,_,by rw[bA];rfl,by omega,by go_num,by rw[pw,bA];exact a.U.tail,u.U,e.U,k.U⟩
    case measure=>simp[intOf];omega
   ·have z:decide (j<N)=false:=by simp;omega
    have e0:N-j=0:=by omega
    rw[e0,RD.fH,pN] at f;rw[e0,RD.gv] at hx;have e:=Z f;have k:=Z hx
    go_wp2
    refine vi rfl rfl rfl ⟨_,rfl,?_⟩;rw[n.U,o.U,e.U,k.U];exact(a.U.ar 1 rfl).kt
namespace WD
def ady(n:Int):IntKind.u64.wrap n=n%18446744073709551616:=by rfl
def nY(x y:UInt64):IntKind.u64.wrap ((x.toNat:Int)+(y.toNat:Int))=((x+y).toNat:Int):=by
 rfl
def Dv(x y:UInt64):bits .xor .u64 (x.toNat:Int) (y.toNat:Int)=((x^^^y).toNat:Int):=by
 rw[u64_xor_nat _ _ x.toNat_lt y.toNat_lt,UInt64.toNat_xor]
def Dt(x y:UInt64):bits .and .u64 (x.toNat:Int) (y.toNat:Int)=((x&&&y).toNat:Int):=by
 rw[u64_and_nat _ _ x.toNat_lt y.toNat_lt,UInt64.toNat_and]
def yu(x:UInt64):(18446744073709551615:Int)-(x.toNat:Int)=((~~~x).toNat:Int):=by
 have:=x.toNat_lt;rw[UInt64.toNat_not];grind
def BI(n:Nat)(h:n<18446744073709551616):18446744073709551615^^^n=18446744073709551615-n:=by
 have a:(~~~(UInt64.ofNat n)).toNat=18446744073709551615-n:=by
  rw[UInt64.toNat_not,vP];simp only[UInt64.size];omega
 have b:(UInt64.ofNat 18446744073709551615^^^UInt64.ofNat n).toNat=18446744073709551615^^^n:=by
  rw[UInt64.toNat_xor,vP,vP,ik h]
 have c:UInt64.ofNat 18446744073709551615^^^UInt64.ofNat n= ~~~(UInt64.ofNat n):=by
  show(-1:UInt64)^^^_=_;simp
 grind
def Du(x:UInt64):bits .xor .u64 IntKind.u64.max (x.toNat:Int)=((~~~x).toNat:Int):=by
 have h:=u64_xor_nat 18446744073709551615 x.toNat W x.toNat_lt;rw[BI _ x.toNat_lt] at h;rw[<-yu];have:=x.toNat_lt;rw[show(18446744073709551615:Int)-(x.toNat:Int)=((18446744073709551615-x.toNat:Nat):Int) by omega,<-h];rfl
def dz(x y:UInt64):UInt64:=x^^^y
def fh(x y:UInt64):UInt64:=x&&&y
def mI(x:UInt64):UInt64:= ~~~x
def nw(x y:UInt64):bits .xor .u64 (x.toNat:Int) (y.toNat:Int)=((dz x y).toNat:Int):=Dv x y
def rR(x y:UInt64):bits .and .u64 (x.toNat:Int) (y.toNat:Int)=((fh x y).toNat:Int):=Dt x y
def A6(x:UInt64):bits .xor .u64 IntKind.u64.max (x.toNat:Int)=((mI x).toNat:Int):=Du x
def wj(a b:UInt64):((a.toNat:Int)+(b.toNat:Int))%18446744073709551616=((a+b).toNat:Int):=by
 rfl
def FD(a b c d:UInt64):((a.toNat:Int)+(b.toNat:Int)+(c.toNat:Int)+(d.toNat:Int))%18446744073709551616=((a+b+c+d).toNat:Int):=by
 simp
end WD
def XL{s:ag}(h:SC.vW m=g%SC.LQ)(a:g=FM.eB (s.data.toList.take 64)):FM.enc (SC.vW m)=ig s:=by rw[h,a];rfl
def C1{w:aa}(a:kM w)(s:ag):CB 42 #[ae s] w (ae (ig s)):=by
 have j:=Z a;have m:=a.lt;clear a
 go_enter func42,ntmps42
 go_wp2_with fail
 refine(yk (n:=8) zD s w).mono ?_;rintro e u ⟨t,rfl,d,b,o,q,g⟩;have k:=Z g;have c:=Z b;have f:=j.U.below b m;clear b g
 go_wp2_with fail
 refine(J6 f _ t 8 o W d q 8).mono ?_;rintro e v ⟨l,rfl,g,p,r,h⟩;have b:=Z (c.U.trans (g.mono c.U.size));have i:=Z (XL h k.U);clear g f d h
 go_wp2_with fail
 refine(Ku l p r _).mono ?_;rintro e g ⟨rfl,d⟩;have f:=Z (b.U.trans (d.mono b.U.size));rw[i.U];clear d
 go_wp2
 go_ret
 exact⟨rfl,f.U⟩
def XF{w:aa}(b:kM w)(s:ag):CB 118 #[ae s] w (aF (qX s)):=by
 have h:=C1 b s;have a:qX s=(decide (s.size=32)&&decide (ig s=s)):=rfl;obtain⟨c,d⟩:∃c,ig s=c:=⟨_,rfl⟩;rw[d] at h a;have e1:((s.size:Int)==32)=decide (s.size=32):=by rw[bI];simp;omega
 have e2:(c.toList==s.toList)=decide (c=s):=by rw[bI,fB,ju,tH]
 generalize decide (s.size=32)=f at*;generalize decide (c=s)=g at*;have H:=Z h;clear h b d;rw[a];clear a;cases f with
 |false=>
  go_enter func118,ntmps118
  go_wp2_with fail
  go_ret
  exact⟨rfl,bz _ _⟩
 |true=>
  go_enter func118,ntmps118
  go_wp2_with fail
  refine H.U.mono ?_;rintro e h ⟨rfl,a⟩;have d:=Z a;clear a H
  go_wp2_with fail
  go_ret
  exact⟨rfl,d.U⟩
def aay(x:UInt8):bits .and .u8 (x.toNat:Int) 248=((x&&&248).toNat:Int):=by
 have:=Ds x.toNat 248 (by have:=x.toNat_lt;omega) W;rw[UInt8.toNat_and];exact this
def w63(x:UInt8):bits .and .u8 (x.toNat:Int) 63=((x&&&63).toNat:Int):=by
 have:=Ds x.toNat 63 (by have:=x.toNat_lt;omega) W;rw[UInt8.toNat_and];exact this
def w64(x:UInt8):bits .or .u8 (x.toNat:Int) 64=((x|||64).toNat:Int):=by
 have:=u8_or_nat x.toNat 64 (by have:=x.toNat_lt;omega) W;rw[UInt8.toNat_or];exact this
def XD(s:ag)(j:s.size=32)(w:aa):CB 34 #[ae s] w (ae (mE s)):=by
 have d:s.data.toList.length=32:=by rw[hz];exact j
 have l:ah (w.alloc (.cells (b8 (List.replicate 32 0)) 174)) w.heap.size 174 (b8 (List.replicate 32 0)):=ah.new _ _ _;have i:=λ a=>Lib.run_copy_row_string (P:=prog) (w.alloc (.cells (b8 (List.replicate 32 0)) 174)) 29 9 a 5 w.heap.size 0 32 32 s (b8 (List.replicate 32 0)) 174 dZ V l W (by simp[b8,ca];omega);have e1:((b8 (List.replicate 32 0)).toList.take 0++Lib.byteCells s.data.toList++(b8 (List.replicate 32 0)).toList.drop (0+s.size)).toArray=b8 s.data.toList:=by
  rw[pU,fV,jQ (by simp[b8,ca];omega),pN];rfl
 rw[e1,j] at i;have c:=l.setRow (b8 s.data.toList);have u:BW w ((w.alloc (.cells (b8 (List.replicate 32 0)) 174)).setRow w.heap.size (b8 s.data.toList)):=bY ((bz _ _).alloc (aW _) _) (aW _) _;generalize y:(w.alloc (.cells (b8 (List.replicate 32 0)) 174)).setRow w.heap.size (b8 s.data.toList)=m at*;have q:=Z y;obtain⟨a,L,f,E⟩:∃a L,s.data.toList=a::L/\L.length=31:=by
  cases b:s.data.toList with
  |nil=>rw[b] at d;simp at d
  |cons a L=>rw[b] at d;exact⟨a,L,rfl,by simpa using d⟩
 obtain⟨b,h⟩:∃b,(a::L)[31]?=some b:=⟨_,ba (by simp;omega)⟩;have x:mE s=⟨(((a::L).set 0 (a&&&248)).set 31 (b&&&63|||64)).toArray⟩:=by
  unfold mE wq;rw[cS W,f];congr 3;rw[eY,h];rfl
 rw[x];rw[f] at c;have C:=(c.cell 0).trans (vZ (L:=a::L) (k:=0) rfl);have f0:=c.frozen 0;have e:ah (m.setCell ⟨w.heap.size,0,none⟩ (.int .u8 ((a&&&248).toNat:Int))) w.heap.size 174 (b8 ((a::L).set 0 (a&&&248))):=by rw[<-AP];exact c.cN 0 _
 have D:=(e.cell 31).trans (vZ (L:=(a::L).set 0 (a&&&248)) (k:=31) (b:=b) (by rw[iK W];exact h));have f1:=e.frozen 31;have t:ah ((m.setCell ⟨w.heap.size,0,none⟩ (.int .u8 ((a&&&248).toNat:Int))).setCell ⟨w.heap.size,31,none⟩ (.int .u8 ((b&&&63|||64).toNat:Int))) w.heap.size 174 (b8 (((a::L).set 0 (a&&&248)).set 31 (b&&&63|||64))):=by rw[<-AP];exact e.cN 31 _
 have v:=(u.setCell (p:=⟨w.heap.size,0,none⟩) (aW _) (.int .u8 ((a&&&248).toNat:Int))).setCell (p:=⟨w.heap.size,31,none⟩) (aW _) (.int .u8 ((b&&&63|||64).toNat:Int));have F:=Fe t 32 (by rw[hH,hH];simp;omega) 32;have G:=aay a;have H:=w63 b;have I:=w64 (b&&&63);generalize(((a::L).set 0 (a&&&248)).set 31 (b&&&63|||64))=R at*;have o:=Z v;generalize(a&&&248)=z at*;generalize(b&&&63|||64)=A at*;generalize(b&&&63)=B at*;obtain⟨n,g⟩:∃n,b8 (List.replicate 32 0)=n:=⟨_,rfl⟩;rw[g] at i q;have r:=Z g
 go_enter func34,ntmps34
 go_upto_region 2 with fail
 rw[Lt,r.U]
 go_wp2
 go_ret
 exact⟨rfl,o.U⟩
