import Derived.Lib.BufferWrite
import Derived.Lib.OthersKept
import Derived.Test.YtncpbkoinennoaaGreatDoorMAK
import Derived.Test.YtncpbkoinennoaaGreatDoorMAL
set_option linter.all false
set_option maxRecDepth 100000
set_option maxHeartbeats 0
namespace Go.Proofs.YtncpbkoinennoaaGreatDoor
open Go.RowKit Proofs.Tryz
attribute [local irreducible] wpList Calls
variable{J K:Y}{I:List Y}{m:List Nat}{g:Nat}
def Y.sr(v:ab)(L:List af):Y:=
 ⟨if L=[] then [] else v.ownBlock.toList,λ w=>bq w v L,
  (λ w e h d=>by
   obtain⟨A,n,f,t,j⟩:=d
   refine⟨A,n,f,t,λ i s=> ?_⟩
   obtain⟨b,o,a,c,p⟩:=j i s
   have m:¬L=[]:=by rintro rfl;simp at s
   have r:e.heap[b]?=w.heap[b]?:=h b (by rw[ar m,f,a];simp[Value.ownBlock])
   have u:b<e.heap.size:=by
    have q:w.heap[b]?≠none:=by simp[c.1]
    rw[<-r] at q
    rcases lX b e.heap.size with g|g
    ·exact g
    ·exact absurd (FK g) q
   refine⟨b,o,a,⟨u,c.2⟩,?_⟩
   rw[<-p]
   unfold World.cell?
   rw[r]),
  (λ w d=>by
   split
   ·exact F1
   ·exact Dm _),
  (λ w d k e=>by
   split at e
   ·cases e
   ·rename_i m
    obtain⟨A,n,f,t,j⟩:=d
    obtain⟨b,o,a,c,p⟩:=j 0 (by cases L with|nil=>exact absurd rfl m|cons x l=>simp)
    rw[f,a] at e
    have:k=b:=by simpa[Value.ownBlock] using e
    subst this
    exact c.1)⟩
def ae.xW{w wr:aa}(h:ae w wr [] I){B:Y}(b:J.P w)(c:B∈I):∀k∈J.bs,k∉B.bs:=λ k d e=>by
 have f:=J.lt w b k d;rcases h.own k (rh c e) with a|a
 ·cases a
 ·omega
def WS.fQ(x:WS)(L:List af):WS:=L.foldl (λ y s=>y.raw s 32) x
def IP{x:WS}{L:List af}(h:g<L.length):(x.fQ (L.take g)).raw L[g] 32=x.fQ (L.take (g+1)):=by
 unfold WS.fQ;rw[eC h,tZ];rfl
def Bw{L:List af}(h:dj L=false):∀s∈L,s.size=32:=λ s a=>by
 unfold dj at h;rw[List.any_eq_false] at h;have:=h s a;simpa[gm] using this
def WS.lb(x:WS)(b:BD):WS:=(((x.head b.a).head b.b).num b.e.length).fQ b.e
def Gq{w:aa}{v:ab}{x:WS}{K:Nat}(X:(Y.wr g v x).P w)(d:x.b.length<=K)(b:BD)(N:b.Ok)(R:b.right=true)(a6:K<=5000000)(m:ab)(t:(Y.sr m b.e).P w)(Q:∀k∈(Y.sr m b.e).bs,k∉(Y.wr g v x).bs):
 Calls prog 92 #[pV g,b.val m] w λ r l=>r=ao (aM #[])/\∃f,bk (Y.wr g v x) w l (Y.wr g f (x.lb b))/\(x.lb b).b.length<=K+500000:=by
 obtain⟨I,J,a5⟩:=N
 have p:=R
 unfold BD.right at p
 simp only[dL,ej,Ag] at p
 obtain⟨⟨⟨z,B⟩,b2⟩,a1⟩:=p
 unfold HD.right at z B
 simp only[dL,ej] at z B
 have s1:b.a.aE.size<=100000:=by omega
 have s2:b.a.a.size<=100000:=by omega
 have s3:b.b.aE.size<=100000:=by omega
 have s4:b.b.a.size<=100000:=by omega
 have C:=Z I;have D:=Z J;have E:=Z (Bw a1)
 have G:=Z t;have F:=Z Q
 have T:∃A k,m=ag A b.e.length k:=by
  obtain⟨A,k,h,-⟩:=t
  exact⟨A,k,h⟩
 obtain⟨A,k,rfl⟩:=T
 have a:=Z (ae.self X)
 have c:=Z d
 go_enter func92,ntmps92
 go_wp2_with(first|refine KB a 66 3 (b.cells _) λ H b3 a8 a=>?_|refine KT a 4 ?_|refine Kl a ?_|go_at_call 91;(refine(Br (a.U.in (by exact mQ mZ)) c.U _ C.U W W W).mono ?_);rintro e l ⟨rfl,f,h,d⟩;have i:=a.U.rep (by exact .tail _ (.head _)) h;have a:=Z i;have c:=Z d|go_at_call 91;(refine(Br (a.U.in (by exact mQ mZ)) c.U _ D.U W W W).mono ?_);rintro e l ⟨rfl,f,h,d⟩;have i:=a.U.rep (by exact .tail _ (.head _)) h;have a:=Z i;have c:=Z d|go_at_call 90;(refine(oQ (a.U.in (by exact mQ mZ)) c.U _ W W).mono ?_);rintro e l ⟨rfl,f,h,d⟩;have i:=a.U.rep (by exact .tail _ (.head _)) h;have a:=Z i;have c:=Z d)
 obtain⟨y,u⟩:∃y,((x.head b.a).head b.b).num b.e.length=y:=⟨_,rfl⟩
 have r:ai (x.lb b=y.fQ b.e):=Z (by unfold WS.lb;rw[u])
 rw[u] at a c
 generalize a7:K+200020+200020+10=a2 at*
 go_loopw [23] (λ n wr=>∃(j:Nat) (f:ab),j<=b.e.length/\n=O (j:Int)/\ae w wr (Y.wr g v x).bs [Y.row H 66 (b.cells (ag A b.e.length k)),Y.wr g f (y.fQ (b.e.take j))]/\(y.fQ (b.e.take j)).b.length<=a2+32*j) (λ n _=>b.e.length-(intOf n).toNat)
 case atStart=>exact⟨0,_,by omega,rfl,a.U,c.U⟩
 case round=>
  obtain⟨j,f,a9,rfl,S,d⟩:=hrel
  have a:=Z S;have c:=Z d
  by_cases n:j<b.e.length
  ·have M:bq wr (ag A b.e.length k) b.e:=a.U.ro G.U F.U
   have q:=Z (IP (x:=y) n)
   have b1:=E.U _ (eR n)
   obtain⟨bb,o,L,-,hx⟩:∃bb o,A=some ⟨bb,o,none⟩/\True/\wr.cell? ⟨bb,o+j,none⟩=some (ad b.e[j]):=by
    obtain⟨a3,a4,P,b0,s⟩:=M
    injection P with e1 e2 e3
    subst e1
    obtain⟨bb,o,a0,q2,q3⟩:=s j n
    exact⟨bb,o,a0,trivial,q3⟩
   subst L
   have P:(j:Int)<(b.e.length:Int):=by omega
   generalize b.e[j]=s at*
   go_wp2_with((go_at_call 9;(refine(xw (a.U.in (by exact mQ mZ)) c.U _ _ W).mono ?_);rintro e l ⟨rfl,f,h,d⟩;have i:=a.U.rep (by exact .tail _ (.head _)) h;have a:=Z i;have c:=Z d))
   go_roundw
   case rel=>exact⟨j+1,_,by omega,by go_num,by rw[<-q.U];exact a.U,by rw[<-q.U];exact hy c.U W⟩
   case measure=>simp[intOf];omega
  ·obtain rfl:j=b.e.length:=by omega
   rw[AM] at a c
   go_wp2
   go_end0
   exact⟨rfl,_,by rw[r.U];exact(a.U.tail).iL,by rw[r.U];exact hy c.U W⟩
def ae.as{w wr:aa}(h:ae w wr m (J::I))(c:K.bs=J.bs)(b:K.P wr):ae w wr m (K::I):=by
 have e:blocks (K::I)=blocks (J::I):=by rw[fO,fO,c]
 refine⟨h.only,λ d a=> ?_,by rw[e];exact h.own,by rw[e];exact h.b⟩;rcases bO.1 a with rfl|a
 ·exact b
 ·exact h.ok d (mQ a)
def ae.yH{w wr:aa}(h:ae w wr m (Y.row g 31 [ag none 0 0,O 0]::I)):ae w wr m (Y.wr g (ag none 0 0) ⟨[],0⟩::I):=
 h.as rfl ⟨h.ok _ mZ,di _ _ _ _⟩
def BD.enc(x:BD):af:=if x.right=true then((⟨[],0⟩:WS).lb x).text else⟨#[]⟩
def Ih(x:BD)(hx:x.Ok)(c:ab)(w:aa)(j:bq w c x.e):CB 168 #[x.val c] w (ad x.enc):=by
 have a:=Z (ae.start w []);have i:=Z (show(Y.sr c x.e).P w from j);have p1:=λ(d:aa) (h:BW w d)=>Cq x c d (j.below h rfl);have k:=Z hx;cases b:x.right with
 |false=>
  have f:x.enc=⟨#[]⟩:=by unfold BD.enc;rw[b];rfl
  rw[f];rw[b] at p1;have d:=Z p1
  go_enter func168,ntmps168
  go_wp2_with(first|refine KB a 66 1 (x.cells _) λ m h o a=>?_|refine KT a 9 ?_|go_at_call 76;refine KC a (d.U _ a.U.aq) λ r a=>?_)
  go_ret
  exact⟨rfl,a.U.aq⟩
 |true=>
  have f:x.enc=((⟨[],0⟩:WS).lb x).text:=by unfold BD.enc;rw[b];rfl
  rw[f];have l:=Z b;rw[b] at p1;have d:=Z p1
  go_enter func168,ntmps168
  go_upto_region 4 with(first|refine KB a 66 1 (x.cells _) λ m h o a=>?_|refine KT a 9 ?_|go_at_call 76;refine KC a (d.U _ a.U.aq) λ r a=>?_|refine KA a _ 3 zX λ s h t a=>?_)
  replace a:=Z (a.U.yH);have g:ai ((⟨[],0⟩:WS).b.length<=0):=Z zS
  go_wp2_with(first|refine KT a 9 ?_|go_at_call 92;(refine(Gq (a.U.in mZ) g.U x k.U l.U W c (a.U.zf i.U) (a.U.xW i.U mZ)).mono ?_);rintro e v ⟨rfl,u,n,p⟩;have q:=a.U.rep (by exact .head _) n;have a:=Z q;have g:=Z p|go_at_call 11;refine KQ (zN (a.U.in mZ)) ?_)
  go_ret
  exact⟨rfl,a.U.aq⟩
variable{X:Operand}{t:TypeId}
def Y.ow(e:TypeId)(size:Nat)(v:ab)(n:Nat)(d:List ab):Y:=
 ⟨v.ownBlock.toList,λ w=>w.ownsRow 0 e size v n d,(λ w g h b=>Ke b h),(λ w b=>Dm _),(λ w b k c=>Kd b k c)⟩
structure cW(t e:TypeId)(size bytes:Nat):Prop where
 a:prog.underlying t=some (.slice e)
 el:∃(i:TypeInfo) (z:ab),prog.info? e=some i/\i.zero=some z/\i.size=size/\i.bytes=bytes/\z.cells.size=size
 pos:0<size
def cW.mk'{e:TypeId}{size bytes:Nat}{z:ab}(h1:prog.underlying t=some (.slice e))(h2:(prog.info? e).map (λ i=>(i.zero,i.size,i.bytes))=some (some z,size,bytes))(h3:z.cells.size=size)(h4:0<size):cW t e size bytes:=by
 obtain⟨h,b,c,d,g⟩:=iB h2;exact⟨h1,⟨h,z,b,c,d,g,h3⟩,h4⟩
section
variable{w wr:aa}{m:List Nat}{aj:List Y}{ops:Array Oper}{rest:List Oper}{op:Oper}{a:Act}{Q:Exit->Act->aa->Prop}
def ae.app(h:ae w wr m aj)(J:op.guard=none){e:TypeId}{size bytes:Nat}(p:cW t e size bytes){x:Operand}(P:op.op= .call {callee:= .builtin .append,args:=#[X,x],argTypes:=#[t,t]}){K:Act->aa->Prop}{E:Prop}
 (i:Nat) {v:ab} {n:Nat} {d:List ab} (y:aj[i]?=some (Y.ow e size v n d)) (T:a.eval X=v) (j:Nat) {r:TypeId} {b:List ab} (L:aj[j]?=some (Y.row g r b)) (hx:a.eval x=ag (some ⟨g,0,none⟩) 1 1) (N:b.length=size) (h1:b.all (·.oneCell')=true)
 (h63:n+1<=maxLen) (I:(n+1)*bytes<=140737488355328)
 (H:∀k c q,ae w q m (aj.set i (Y.ow e size (ag (some ⟨k,0,none⟩) (n+1) c) (n+1) (d++b)))->K (a.put op.dst (ag (some ⟨k,0,none⟩) (n+1) c)) q):
 if Region.wanted op (yielded ops a.tmps)=true then Oper.wp prog op a wr K Q else E:=by
 obtain⟨a1,z,e1,e2,e3,e4,e5⟩:=p.el
 have R:wr.ownsRow 0 e size v n d:=h.get y
 have a0:wr.heap[g]?=some (.cells b.toArray r (0,0)):=h.row L
 refine ZX J X x t P 0 e a1 z size bytes p.a e1 e2 e3 e4 e5 p.pos v n d T R g hx b.toArray r (0,0) a0 (by simp[N]) (by grind) h63 I (bf _) ?_
 intro s C a2 D F G
 refine H s C a2 (h.at i y ⟨?_,?_,?_⟩)
 ·exact(aW.refl wr.heap.size _ wr).grown F (aQ _) (λ k q=> .inl (by simp[Y.ow,q]))
 ·exact D
 ·intro k q
  have M:k=s:=by simpa[Y.ow,Value.ownBlock] using q
  rcases G with u|u
  ·exact .inl (by rw[M];simp[Y.ow,u])
  omega
def Ap(h:ae w wr m aj)(y:op.guard=none){e:TypeId}{size bytes:Nat}(q:cW t e size bytes){x:Operand}(F:op.op= .call {callee:= .builtin .append,args:=#[X,x],argTypes:=#[t,t]})
 (i:Nat) {v:ab} {n:Nat} {p:List ab} (z:aj[i]?=some (Y.ow e size v n p)) (G:a.eval X=v) (j:Nat) {H:TypeId} {d:List ab} (C:aj[j]?=some (Y.row g H d)) (hx:a.eval x=ag (some ⟨g,0,none⟩) 1 1) (D:d.length=size) (h1:d.all (·.oneCell')=true)
 (h63:n+1<=maxLen) (u:(n+1)*bytes<=140737488355328)
 (s:∀b c k,ae w k m (aj.set i (Y.ow e size (ag (some ⟨b,0,none⟩) (n+1) c) (n+1) (p++d)))->wpList prog ops Q rest (a.put op.dst (ag (some ⟨b,0,none⟩) (n+1) c)) k):wpList prog ops Q (op::rest) a wr:=
 wpList_step λ K r=>h.app y q F i z G j C hx D h1 h63 u (λ b c k E=>r _ _ (s b c k E))
end
section
variable{Q:Exit->Act->aa->Prop}{S:aa->Prop}{n:Nat}{l:List Oper}{i f:Nat}{o:Oper}{listed:Array Bool}{a:Act}{w0 w:aa}{m:List Nat}{aj:List Y}
def ay.app(h:ae w0 w m aj)(P:Region.ready .any l.toArray listed=[i])(I:i<n)(M:l.toArray[i]?=some o)(G:o.guard=none)(k:Tmp)(hd:o.dst=some k){t e:TypeId}{size bytes:Nat}(C:cW t e size bytes){s x:Operand}(N:o.op= .call {callee:= .builtin .append,args:=#[s,x],argTypes:=#[t,t]})
 (p:Nat) {v:ab} {c:Nat} {u:List ab} (H:aj[p]?=some (Y.ow e size v c u)) (R:a.eval s=v) (j:Nat) {r:Nat} {T:TypeId} {d:List ab} (J:aj[j]?=some (Y.row r T d)) (hx:a.eval x=ag (some ⟨r,0,none⟩) 1 1) (K:d.length=size) (h1:d.all (·.oneCell')=true)
 (h63:c+1<=maxLen) (F:(c+1)*bytes<=140737488355328)
 (E:∀g q b,ae w0 b m (aj.set p (Y.ow e size (ag (some ⟨g,0,none⟩) (c+1) q) (c+1) (u++d)))->S b/\ay prog l Q S n f (listed.setIfInBounds i true) {a with tmps:=a.tmps.setIfInBounds k (ag (some ⟨g,0,none⟩) (c+1) q)} b):ay prog l Q S n (f+1) listed a w:=by
 refine ay.one P I M (λ X D=> ?_)
 refine h.app G C N p H R j J hx K h1 h63 F (λ g q b L=> ?_)
 obtain⟨y,z⟩:=E g q b L
 refine D _ _ y (λ _=> ?_)
 rw[hd]
 exact z
end
def Y.star(A B:Y):Y:=
 ⟨A.bs++B.bs,λ w=>A.P w/\B.P w/\∀k∈A.bs,k∉B.bs,
  (λ w b h c=>⟨A.st w b (λ k d=>h k (oB _ d)) c.1,B.st w b (λ k d=>h k (rT _ d)) c.2.1,c.2.2⟩),
  (λ w c=>lV.2 ⟨A.b w c.1,B.b w c.2.1,λ a e b g h=>c.2.2 a e (h▸g)⟩),
  (λ w c k d=>by
   rcases eB.1 d with d|d
   ·exact A.lt w c.1 k d
   ·exact B.lt w c.2.1 k d)⟩
section
variable{w wr wz:aa}{m:List Nat}{aj cJ:List Y}{A A' B:Y}
def ae.kE(h:ae w wr m (Y.star A B::aj)):ae w wr m (A::B::aj):=by
 have e:blocks (A::B::aj)=blocks (Y.star A B::aj):=by simp[blocks,Y.star]
 have d:A.P wr/\B.P wr/\_:=h.ok _ mZ;refine⟨h.only,λ c b=> ?_,by rw[e];exact h.own,by rw[e];exact h.b⟩;rcases bO.1 b with rfl|b
 ·grind
 ·rcases bO.1 b with rfl|b
  ·grind
  ·exact h.ok c (mQ b)
def ae.eX(h:ae w wr m (A::B::aj)):ae w wr m (Y.star A B::aj):=by
 have e:blocks (A::B::aj)=blocks (Y.star A B::aj):=by simp[blocks,Y.star]
 refine⟨h.only,λ d b=> ?_,by rw[<-e];exact h.own,by rw[<-e];exact h.b⟩;rcases bO.1 b with rfl|b
 ·refine⟨h.ok _ mZ,h.ok _ (mQ mZ),λ k c g=> ?_⟩;have:=h.b;rw[fO,lV] at this;exact this.2.2 k c k (by rw[fO];grind) rfl
 ·exact h.ok d (mQ (mQ b))
def ae.oe(h:ae w wr A.bs (A'::B::aj)):bk A w wr (Y.star A' B):=h.eX.iL
def ae.zc(h:ae w wr m aj)(d:eh A A' aj cJ)(e:bk A wr wz (Y.star A' B)):ae w wz m (B::cJ):=by
 obtain⟨i,b,rfl⟩:=d.idx;obtain⟨p1,p2⟩:=set_perm aj i A A' b;have c:=((h.perm p1).cd e).kE;exact c.perm ((List.Perm.swap _ _ _).trans (List.Perm.cons _ p2.symm))
def ae.eM(h:ae w wr m aj)(A:Y)(c:A.P wr)(d:A.bs=[]):ae w wr m (A::aj):=by
 have e:blocks (A::aj)=blocks aj:=by rw[fO,d];rfl
 refine⟨h.only,λ g b=> ?_,by rw[e];exact h.own,by rw[e];exact h.b⟩;rcases bO.1 b with rfl|b
 ·exact c
 ·exact h.ok g b
end
def vc:cW 64 9 1 16:=cW.mk' qy MY rfl zD
def pz{w:aa}{v:ab}{L:List af}(h:(Y.ow 9 1 v L.length (bh L)).P w)(b:L.length<=maxLen):bq w v L:=il.read (base:=0) h b
variable{n:Nat}
def abN(n:Nat):1<=(bU n).length:=by
 by_cases h:n<128
 ·rw[wG h];simp
 ·rw[zL h];simp
def J6(n c a:Nat)(d:n<2^(7*a))(b:(c%128)*2^(7*a)<18446744073709551616):nR n c a=n+2^(7*a)*(c%128):=by
 unfold nR;rw[bY b,uk,fg,<-Nat.two_pow_add_eq_or_of_lt d,qk]
def JX:∀(f a n:Nat) (L:List UInt8) (v k:Nat),n<18446744073709551616->gF f L a n= .ok (v,k)->v<18446744073709551616
 |0,a,n,L,v,k,b,h=>by rw[gF] at h;cases h
 |f+1,a,n,[],v,k,b,h=>by rw[gF] at h;cases h
 |f+1,a,n,c::l,v,k,b,h=>by
  rw[gF] at h
  split at h
  ·exact JX f _ _ l v k (Dq _ _ _ b) h
  ·split at h
   ·cases h
   ·injection h with h;injection h with d e
    rw[<-d];exact Dq _ _ _ b
def JY:∀(f a n u:Nat) (rest:List UInt8),a+f=10->n<2^(7*a)->2^(7*a)*u+n<18446744073709551616->(0<a->u≠0)->gF f (bU u++rest) a n= .ok (n+2^(7*a)*u,a+(bU u).length)
 |0,a,n,u,rest,k,g,l,p=>by
  grind
 |f+1,a,n,u,rest,k,g,l,p=>by
  by_cases b:u<128
  ·have c:(UInt8.ofNat u).toNat=u:=by simp[bY (show u<256 by omega)]
   have o:¬((u=0/\0<a)\/(a=9/\1<u)):=by
    rintro(⟨h,e⟩|⟨h,e⟩)
    ·omega
    ·grind
   have d:(u%128)*2^(7*a)<18446744073709551616:=by
    rw[bY b,fg];omega
   rw[wG b,List.singleton_append,gF,c,ar W,ar o,J6 n u a g d,bY b]
   simp
  ·have c:(UInt8.ofNat (u%128+128)).toNat=u%128+128:=by simp[bY (show u%128+128<256 by omega)]
   have i:(u%128+128)%128=u%128:=by omega
   have j:(2:Nat)^(7*(a+1))=2^(7*a)*128:=by rw[show 7*(a+1)=7*a+7 by omega,eI]
   have q:2^(7*a)*(u%128)<=2^(7*a)*u:=rZ _ (Nat.mod_le _ _)
   have d:((u%128+128)%128)*2^(7*a)<18446744073709551616:=by
    rw[i,fg];omega
   have e:=J6 n (u%128+128) a g d
   rw[i] at e
   have r:2^(7*a)*u=2^(7*a)*(u%128)+2^(7*(a+1))*(u/128):=by
    rw[j,AV,<-xf];congr 1;omega
   have m:n+2^(7*a)*(u%128)<2^(7*(a+1)):=by
    rw[j]
    have h:2^(7*a)*(u%128)<=2^(7*a)*127:=rZ _ W
    omega
   have h:=JY f (a+1) (n+2^(7*a)*(u%128)) (u/128) rest W m W (λ _=>by omega)
   rw[zL b,lR,gF,c,au W,e,h,gq]
   grind
def V7(n:Nat)(rest:List UInt8)(h:n<18446744073709551616):gF 10 (bU n++rest) 0 0= .ok (n,(bU n).length):=by
 have:=JY 10 0 0 n rest rfl (Nat.one_pos) W (λ h=>absurd h zD);grind
def C4(s:af):s.data.toList.length=s.size:=by rfl
def Ij(s:af)(a b:Nat):(s.extract a b).data.toList=(s.data.toList.drop a).take (b-a):=Lib.extract_data s a b
def EX{y:RD}{l rest:List UInt8}(a:y.e=0)(b:y.s.data.toList=l++rest):y.cA (l.length:Int)=⟨l.toArray⟩/\y.bu (l.length:Int)=⟨⟨rest.toArray⟩,0⟩:=by
 have c:y.s.size=l.length+rest.length:=by rw[<-C4,b,bV]
 constructor
 ·rw[RD.cA,au ⟨a,by omega,by omega⟩];apply qE;simp_all
 ·rw[RD.bu,au a,ar W,ar W];have:y.s.extract (l.length:Int).toNat y.s.size=⟨rest.toArray⟩:=by
   apply qE;rw[Ij,b,mW,c];simp
  grind
def yJ{y:RD}{rest:List UInt8}(c:n<18446744073709551616)(b:y.e=0)(a:y.s.data.toList=bU n++rest):y.cx=n/\y.bW=⟨⟨rest.toArray⟩,0⟩:=by
 have d:y.s.size=(bU n).length+rest.length:=by rw[<-C4,a,bV]
 have h:=V7 n rest c;rw[<-a] at h;constructor
 ·rw[RD.cx,au b,h]
 ·rw[RD.bW,au b,h];have:y.s.extract (bU n).length y.s.size=⟨rest.toArray⟩:=by
   apply qE;rw[Ij,a,d];simp
  grind
def OT(s:af):(eT s).data.toList=bU s.size++s.data.toList:=by
 rfl
def ae.az{w wr:aa}(h:ae w wr m I)(i:Nat)(a:I[i]?=some J):ae w wr m (J::I.eraseIdx i):=h.perm (set_perm I i J J a).1
def RD.fF:Nat->RD->List af
 |0,_=>[]
 |k+1,r=>r.cA 32::(r.bu 32).fF k
def RD.gi:Nat->RD->RD
 |0,r=>r
 |k+1,r=>(r.bu 32).gi k
def RD.iA(x:RD):RD:=x.jP.jP
def RD.qK(x:RD):RD:=if 48<x.iA.cx then x.iA.bW.fail 4 else x.iA.bW
def RD.gQ(x:RD):BD:=⟨x.jO,x.jP.jO,x.qK.fF (min x.iA.cx 48)⟩
def RD.mm(x:RD):RD:=x.qK.gi (min x.iA.cx 48)
def yB:∀(k:Nat) (r:RD),(r.fF k).length=k
 |0,_=>rfl
 |k+1,r=>by simp[RD.fF,yB k]
def jS(x:RD):x.cx<18446744073709551616:=by
 unfold RD.cx;split
 ·split
  ·decide
  ·rename_i p h;exact JX 10 0 0 _ p.1 p.2 zD h
 ·decide
def Gg{w:aa}{x:RD}(h:(Y.rd g x).P w):Calls prog 75 #[pV g] w λ r v=>∃k,r=ao (x.gQ.val k)/\bk (Y.rd g x) w v (Y.star (Y.rd g x.mm) (Y.ow 9 1 k x.gQ.e.length (bh x.gQ.e))):=by
 have a:=Z (ae.self h);have f:=jS x.iA;obtain⟨N,H⟩:∃N,x.iA.cx=N:=⟨_,rfl⟩;rw[H] at f;have p:=Z H
 go_enter func75,ntmps75
 go_upto_region 4 with(first|refine KS a λ l a=>?_|refine KA a _ 2 iN λ F l a7 a=>?_|refine KA a _ 3 iN λ t l a9 a=>?_|(go_at_call 150;(refine(Gh (a.U.in (by first|exact mQ mZ|exact mQ (mQ mZ)))).mono ?_);rintro e v ⟨rfl,J⟩;replace a:=Z (a.U.rep (by first|exact .tail _ (.head _)|exact .tail _ (.tail _ (.head _))) J))|go_at_call 47;refine KP a (qp (a.U.in (by exact mQ (mQ mZ)))) λ v a=>?_)
 obtain⟨d,A⟩:∃d,x.qK=d:=⟨_,rfl⟩;have q:ai ((if 48<N then x.iA.bW.fail 4 else x.iA.bW)=d):=Z (by rw[<-A];unfold RD.qK;rw[p.U]);have z:ai (x.gQ=⟨x.jO,x.jP.jO,d.fF (min N 48)⟩):=Z (by unfold RD.gQ;rw[A,p.U]);have E:ai (x.mm=d.gi (min N 48)):=Z (by unfold RD.mm;rw[A,p.U]);rw[show x.jP.jP=x.iA from rfl] at*;rw[p.U];have R:∀j,(Builtin.min_ #[46,46] 46 #[U (N:Int),U 48]).run prog j= .ok (U ((min N 48:Nat):Int)) j:=λ j=>run_min_int2 j _ _ _ _ _ _ _ W;generalize x.jO=b at*;generalize x.jP.jO=c at*;obtain⟨M,P⟩:∃M,min N 48=M:=⟨_,rfl⟩;rw[P] at R z E;have a6:M<=48:=by omega
 go_upto_if 14 with fail
 go_cut [] from 14 to 16 (λ j=>ae w j (Y.rd g x).bs [Y.row t 66 [U (b.size:Int),U (b.time:Int),ad b.aE,ad b.a,U (c.size:Int),U (c.time:Int),ad c.aE,ad c.a,ag none 0 0],Y.row F 66 [U 0,U 0,ad ⟨#[]⟩,ad ⟨#[]⟩,U 0,U 0,ad ⟨#[]⟩,ad ⟨#[]⟩,ag none 0 0],Y.rd g d])
 case first=>
  by_cases j:48<N
  ·have hd:decide ((48:Int)<(N:Int))=true:=by simp;omega
   rw[hd];rw[au j] at q
   go_wp2_with((go_at_call 151;refine KP a (xj (a.U.in (by exact mQ (mQ mZ))) 4 4 rfl) λ v a=>?_))
   rw[q.U] at a
   go_meet
   exact a.U
  ·have hd:decide ((48:Int)<(N:Int))=false:=by simp;omega
   rw[hd];rw[ar j] at q
   go_wp2_with fail
   rw[q.U] at a
   go_meet
   exact a.U
 case rest=>
  have a:=Z hcut;replace a:=Z (a.U.eM (Y.ow 9 1 (ag none 0 0) 0 (bh [])) (di _ _ _ _) rfl)
  go_wp2
  go_loopw [19] (λ m wr=>∃(j:Nat) (k:ab) (L:List af) (r:RD),j<=M/\m=U (j:Int)/\ae w wr (Y.rd g x).bs [Y.ow 9 1 k L.length (bh L),Y.row t 66 [U (b.size:Int),U (b.time:Int),ad b.aE,ad b.a,U (c.size:Int),U (c.time:Int),ad c.aE,ad c.a,k],Y.row F 66 [U 0,U 0,ad ⟨#[]⟩,ad ⟨#[]⟩,U 0,U 0,ad ⟨#[]⟩,ad ⟨#[]⟩,ag none 0 0],Y.rd g r]/\L.length=j/\d.fF M=L++r.fF (M-j)/\d.gi M=r.gi (M-j)) (λ m _=>M-(intOf m).toNat)
  case atStart=>exact⟨0,ag none 0 0,[],d,by omega,rfl,a.U,rfl,by simp,by simp⟩
  case round=>
   obtain⟨j,k,L,r,b0,rfl,a0,G,u,hx⟩:=hrel;have a:=Z a0;obtain⟨pA,C,T,-⟩:=da (show wr.ownsRow 0 9 1 k L.length (bh L) from a.U.get (i:=0) rfl);subst T;by_cases b3:j<M
   ·have K:(j:Int)<(M:Int):=by omega
    rw[show M-j=(M-(j+1))+1 by omega] at u hx;have m:=Z (show d.fF M=(L++[r.cA 32])++(r.bu 32).fF (M-(j+1)) by rw[u,RD.fF,gK];rfl);have s:=Z (show d.gi M=(r.bu 32).gi (M-(j+1)) by rw[hx,RD.gi]);have y:=Z (show(L++[r.cA 32]).length=j+1 by rw[bV,G];rfl);have b2:L.length<=48:=by omega
    have b1:IntKind.u64.wrap ((j:Int)+1)=(j:Int)+1:=by rw[tV];omega
    obtain⟨S,Q⟩:∃S,r.cA 32=S:=⟨_,rfl⟩;obtain⟨D,X⟩:∃D,r.bu 32=D:=⟨_,rfl⟩;have B:=λ o (h:(Y.rd g r).P o)=>se h 32;rw[Q] at m y B;rw[X] at m s B;have I:=Z B
    go_wp2
    refine ae.region a.U (n:=7) (S:=ba [Y.row t 66 [U (b.size:Int),U (b.time:Int),ad b.aE,ad b.a,U (c.size:Int),U (c.time:Int),ad c.aE,ad c.a,ag pA L.length C]]) V V (λ a2 a1=>(aX (a1.in (by exact mQ mZ)) bg)) (λ a2 f o=> ?_);replace a:=Z f;refine V2 0 21 o ?_;refine L2 1 22 0 64 o ?_;refine V2 2 23 o ?_;refine ay.eL (i:=3) V zD rfl rfl 24 rfl rfl 13 rfl (en 13) _ rfl ?_;refine KP a (I.U _ (a.U.in (by exact mQ (mQ (mQ mZ))))) λ b4 a=>?_;refine⟨_,rfl,(aX (a.U.in (by exact mQ mZ)) bg),?_⟩;simp only[aS,av,ax];refine ay.make a.U (i:=4) V zD rfl rfl 25 rfl (some 1) 9 ?adz ?S3 ?rr4;case S3=>(go_simp;(refine⟨rfl,?_⟩;rfl))
    intro a5 l a8 f;replace a:=Z f;refine⟨(aX (a.U.in (by exact mQ (mQ mZ))) bg),?_⟩;simp only[bc];simp only[aS,av,ax];refine ay.app a.U (i:=5) V zD rfl rfl 26 rfl vc rfl 1 rfl rfl 0 rfl rfl rfl rfl (by unfold maxLen;omega) W (λ a4 a3 l f=> ?_);simp only[av,ax] at f;replace a:=Z f;refine⟨(aX (a.U.in (by exact mQ (mQ mZ))) bg),?_⟩;simp only[aS,av,ax];have o:ba [Y.row t 66 [U (b.size:Int),U (b.time:Int),ad b.aE,ad b.a,U (c.size:Int),U (c.time:Int),ad c.aE,ad c.a,ag pA L.length C]] _:=(aX (a.U.in (by exact mQ (mQ mZ))) bg);refine V2 6 27 o ?_;refine ay.tail V ?_;simp only[ck,bH]
    go_wp2_with(refine KS a λ l a=>?_)
    go_roundw
    case rel=>exact⟨j+1,_,L++[S],D,by omega,by go_num,by rw[zz,bV];exact a.U.tail,y.U,m.U,s.U⟩
    case measure=>simp[intOf];omega
   ·have K:decide (j<M)=false:=by simp;omega
    have e0:M-j=0:=by omega
    rw[e0,RD.fF,oz] at u;rw[e0,RD.gi] at hx;have m:=Z u;have s:=Z hx;have y:=Z G
    go_wp2_with(first|refine KT a 9 ?_|refine KS a λ l a=>?_)
    refine ha a.U 2 rfl 66 9 rfl rfl V rfl rfl ⟨ag pA L.length C,?_,?_⟩
    ·rw[z.U]
    ·rw[z.U,E.U,m.U,s.U];exact(a.U.az 3 rfl).oe
def gd(s:af):Except Nat BD:=
 if(⟨s,0⟩:RD).mm.ea=0 then(if(⟨s,0⟩:RD).gQ.right=true then .ok (⟨s,0⟩:RD).gQ else .error 3) else .error (⟨s,0⟩:RD).mm.ea
def pT:BD:=⟨⟨0,0,⟨#[]⟩,⟨#[]⟩⟩,⟨0,0,⟨#[]⟩,⟨#[]⟩⟩,[]⟩
def tR(s:af)(w:aa)(e:Ending)(c:aa):Prop:=
 (match gd s with| .error k=>e=ao (aM #[pT.val (ag none 0 0),O (k:Int)])/\k≠0| .ok b=>∃a,e=ao (aM #[b.val a,O 0])/\bq c a b.e/\(∀k∈(Y.sr a b.e).bs,w.heap.size<=k))/\BW w c
def WG{w:aa}{b:ab}{L:List af}(h:∀k∈(Y.ow 9 1 b L.length (bh L)).bs,w.heap.size<=k):∀k∈(Y.sr b L).bs,w.heap.size<=k:=λ k a=>by
 unfold Y.sr at a;simp only at a;split at a
 ·cases a
 ·exact h k a
def ae.nQ{w wr:aa}(h:ae w wr [] I)(c:J∈I):∀k∈J.bs,w.heap.size<=k:=λ k b=>by
 rcases h.own k (rh c b) with a|a
 ·cases a
 omega
def C2(x:RD):x.gQ.e.length<=48:=by
 unfold RD.gQ;rw[yB];omega
def Pf(x:RD):x.gQ.Ok:=⟨⟨jS _,jS _⟩,⟨jS _,jS _⟩,by have:=C2 x;omega⟩
def RV(s:af)(w:aa):Calls prog 25 #[ad s] w (tR s w):=by
 have a:=Z (ae.start w []);obtain⟨x,hx⟩:∃x:RD,(⟨s,0⟩:RD)=x:=⟨_,rfl⟩;have q:=Z hx
 go_enter func25,ntmps25
 go_upto_region 2 with(first|refine KA a _ 2 iN λ F d J a=>?_|go_at_call 10;(refine(ux s a.U).mono ?_);rintro e p ⟨G,rfl,K,z⟩;replace a:=Z z)
 rw[q.U] at a
 go_wp2_with fail
 refine(Gg (a.U.in mZ)).mono ?_;rintro e p ⟨E,rfl,t⟩;replace a:=Z (a.U.zc (by exact .head _) t);have A:=Pf x;have u:=C2 x;obtain⟨b,m⟩:∃b,x.gQ=b:=⟨_,rfl⟩;obtain⟨y,C⟩:∃y,x.mm=y:=⟨_,rfl⟩;rw[m,C] at a;rw[m] at A u⊢;have HD:ai (gd s=if y.ea=0 then(if b.right=true then .ok b else .error 3) else .error y.ea):=Z (by unfold gd;grind);obtain⟨pA,D,B,-⟩:=da (show p.ownsRow 0 9 1 E b.e.length (bh b.e) from a.U.get (i:=0) rfl);subst B;have p1:=λ(c:aa) (h:bq c (ag pA b.e.length D) b.e)=>Cq b _ c h;have v:b.e.length<=maxLen:=by unfold maxLen;omega
 have j:=Z v;by_cases g:y.ea=0
 ·cases o:b.right with
  |true=>
   rw[o] at p1;have c:ai (gd s= .ok b):=by grind
   have h:=Z p1;have f:=Z g
   go_wp2_with(first|refine KT a 9 ?_|refine KS a λ d a=>?_|refine KA a _ 5 iN λ l d n a=>?_|go_at_call 14;refine KQ (uw (a.U.in (by exact mQ (mQ mZ)))) ?_;rw[f.U]|go_at_call 76;refine KC a (h.U _ (pz (a.U.in zS) j.U)) λ k a=>?_)
   refine fb a.U 3 rfl 66 9 rfl rfl rfl zR rfl rfl ?_;unfold tR;rw[c.U];exact⟨⟨_,rfl,pz (a.U.get (i:=1) rfl) j.U,WG (a.U.nQ (mQ mZ))⟩,a.U.aq⟩
  |false=>
   rw[o] at p1;have c:ai (gd s= .error 3):=by grind
   have h:=Z p1;have f:=Z g
   go_wp2_with(first|refine KT a 9 ?_|refine KS a λ d a=>?_|refine KA a _ 5 iN λ l d n a=>?_|go_at_call 14;refine KQ (uw (a.U.in (by exact mQ (mQ mZ)))) ?_;rw[f.U]|go_at_call 76;refine KC a (h.U _ (pz (a.U.in (by exact mQ mZ)) j.U)) λ k a=>?_)
   refine fb a.U 3 rfl 66 9 rfl rfl rfl V rfl rfl ?_;unfold tR;rw[c.U];exact⟨⟨rfl,by decide⟩,a.U.aq⟩
 ·have c:ai (gd s= .error y.ea):=Z (by rw[HD.U,ar g]);obtain⟨k,h⟩:∃k,y.ea=k:=⟨_,rfl⟩;rw[h] at c g;have H:((k:Int)==0)=false:=by rw[dP];omega
  have I:((k:Int) !=0)=true:=by rw[ml];omega
  have f:=Z h;have r:=Z g
  go_wp2_with(first|refine KS a λ d a=>?_|refine KA a _ 5 iN λ l d n a=>?_|go_at_call 14;refine KQ (uw (a.U.in (by exact mQ (mQ mZ)))) ?_;rw[f.U])
  refine fb a.U 3 rfl 66 9 rfl rfl rfl V rfl rfl ?_;unfold tR;rw[c.U];exact⟨⟨rfl,r.U⟩,a.U.aq⟩
def LI{w:aa}{v u:ab}{L M:List af}(h:bq w v L)(k:bq w u M):CB 240 #[v,u] w (aK (decide (L=M))):=
 (Zd h k).mono λ _ _ ⟨a,n,b⟩=>⟨a,by rw[b];exact gv (bp _ _) n⟩
def RW(x y:BD)(i qv:ab)(w:aa)(m:bq w i x.e)(n:bq w qv y.e):CB 239 #[x.val i,y.val qv] w (aK (decide (x=y))):=by
 have p3:=λ(a:aa) (h:BW w a)=>LI (m.below h rfl) (n.below h rfl);obtain⟨d,d1⟩:∃d,decide (x.a=y.a)=d:=⟨_,rfl⟩;obtain⟨e,d2⟩:∃e,decide (x.b=y.b)=e:=⟨_,rfl⟩;obtain⟨f,d3⟩:∃f,decide (x.e=y.e)=f:=⟨_,rfl⟩;have l:decide (x=y)=(d&&e&&f):=by
  rw[<-d1,<-d2,<-d3,bw];obtain⟨a,b,c⟩:=x;obtain⟨h,j,k⟩:=y;simp[and_assoc]
 rw[l];rw[d3] at p3;obtain⟨R,g⟩:∃R,(d&&e&&f)=R:=⟨_,rfl⟩;rw[g];have j:=Z g;have k:=Z p3;have b:=Z d1;have D2:=Z d2;have a:=Z (ae.start w [])
 go_enter func239,ntmps239
 cases d
 rotate_left;focus cases e
 all_goals
  have h:=j.U;simp only[sB] at h;subst h
  go_wp2_with(first|refine KT a 4 ?_|refine Kl a ?_|refine KB a 66 2 (x.cells _) λ p o r a=>?_|refine KB a 66 3 (y.cells _) λ q o s a=>?_|(first|(refine rO x.a y.a rfl rfl rfl rfl ?_;rw[b.U])|(refine rO x.b y.b rfl rfl rfl rfl ?_;rw[D2.U]))|go_at_call 240;refine KC a (k.U _ a.U.aq) λ t a=>?_|refine rO x.a y.a rfl rfl rfl rfl ?_;rw[b.U])
  go_ret
  exact⟨rfl,a.U.aq⟩
def Y.iter(g:Nat)(s:af)(pos:Nat):Y:=
 ⟨[g],λ w=>w.heap[g]?=some (.stringIter s pos),(λ w d h b=>(h g zS).trans b),(λ _ _=>by simp),(λ w b k c=>by
  grind)⟩
section
variable{w wr:aa}{m:List Nat}{aj:List Y}{ops:Array Oper}{rest:List Oper}{op:Oper}{a:Act}{Q:Exit->Act->aa->Prop}
def ae.newObj(h:ae w wr m aj)(o:Obj)(A:Y)(c:A.bs=[wr.heap.size])(b:A.P (wr.alloc o)):ae w (wr.alloc o) m (A::aj):=
 h.join (bJ wr o) A b (by
  grind)
def Rg(h:ae w wr m aj)(d:Region.wanted op (yielded ops a.tmps)=true)(k:Tmp)(hd:op.dst=some k)(e:op.op= .range 9 X)(s:af)(hx:a.eval X=ad s)
 (c:∀g b,w.heap.size<=g->ae w b m (Y.iter g s 0::aj)->wpList prog ops Q rest (a.put (some k) (pV g)) b):wpList prog ops Q (op::rest) a wr:=by
 refine eF d λ K b=> ?_
 have f:(Instr.range 9 (ad s)).run prog wr= .ok (pV wr.heap.size) (wr.alloc (.stringIter s 0)):=by
  unfold Instr.range
  simp only[cO,hX df,dd,run_newObj_alloc,dN]
 unfold Oper.wp execOp
 simp only[e,hx,f,cO,dN,dd,jC]
 rw[hd]
 refine b _ _ (c _ _ h.size (h.newObj _ (Y.iter wr.heap.size s 0) rfl ?_))
 exact pg wr _
def Nx(h:ae w wr m aj)(i:Nat){pos:Nat}{s:af}(d:aj[i]?=some (Y.iter g s pos))(o:Region.wanted op (yielded ops a.tmps)=true){x:Operand}(q:op.op= .next x true)(hx:a.eval x=pV g)(e:pos<s.size)(c:Nat)(n:(s[pos]'e).toNat=c)(h128:c<128)
 (l:∀b,ae w b m (aj.set i (Y.iter g s (pos+1)))->wpList prog ops Q rest (a.put op.dst (aM #[aK true,O (pos:Int),.int .i32 (c:Int)])) b):wpList prog ops Q (op::rest) a wr:=by
 refine eF o λ K j=> ?_
 have b:wr.heap[g]?=some (.stringIter s pos):=h.get d
 have f:=Lib.run_next_ascii_at (P:=prog) wr g s pos op.type b e W
 rw[n] at f
 unfold Oper.wp execOp
 simp only[q,hx,f,cO,dN,dd,jC]
 refine j _ _ (l _ (h.at i d ⟨?_,?_,λ k b=> .inl b⟩))
 ·refine⟨rfl,rfl,rfl,by simp[World.iterAt],λ k b p=> ?_⟩
  have:k≠g:=by simpa[Y.iter] using p
  simp only[World.iterAt]
  grind
 ·exact Lib.iterAt_heap wr g s pos (pos+1) b
def xh(h:ae w wr m aj)(i:Nat){pos:Nat}{s:af}(c:aj[i]?=some (Y.iter g s pos))(b:Region.wanted op (yielded ops a.tmps)=true)(e:op.op= .next X true)(hx:a.eval X=pV g)(f:¬pos<s.size)
 (l:wpList prog ops Q rest (a.put op.dst (aM #[aK false])) wr):wpList prog ops Q (op::rest) a wr:=by
 refine eF b λ K k=> ?_
 have d:wr.heap[g]?=some (.stringIter s pos):=h.get c
 have j:=Lib.run_next_end_at (P:=prog) wr g s pos op.type d f
 unfold Oper.wp execOp
 simp only[e,hx,j,cO,dN,dd,jC]
 grind
def Y.dQ(g:Nat)(d:List ab):Y:=
 ⟨[g],λ w=>∃t b,w.heap[g]?=some (.cells d.toArray t b),(λ w e h ⟨t,b,c⟩=>⟨t,b,(h g zS).trans c⟩),(λ _ _=>by simp),(λ w ⟨t,b,c⟩ k b=>by
  grind)⟩
def zB{w:aa}{b:List ab}(h:(Y.dQ g b).P w)(i:Nat):w.cell? ⟨g,i,none⟩=b[i]?:=by
 obtain⟨t,c,h⟩:=h;rw[nD w g i _ t c h];simp
def wW(j:Region.wanted op (yielded ops a.tmps)=true)(b:TypeId)(k:op.op= .load b X){p:Addr}(hx:a.eval X= .pointer (some p)){v:ab}(i:wr.cell? p=some v)
 (f:kx b=true) (h:wpList prog ops Q rest (a.put op.dst v) wr):wpList prog ops Q (op::rest) a wr:=by
 obtain⟨d,c,e⟩:=vH f
 refine eF j λ K g=> ?_
 unfold Oper.wp execOp
 simp only[k,hx,Instr.loadAt,Instr.sureAddr,cO,dN,dd,we wr _ b v d i c e]
 exact g _ _ h
def hj(o:Region.wanted op (yielded ops a.tmps)=true)(c e:Nat)(p:op.op= .load c X)(hx:a.eval X= .pointer (some ⟨g,n,none⟩)){b:List ab}(l:wr.rangeAt g n b)(r:b.length=e)
 (i:hU c e=true) (k:wpList prog ops Q rest (a.put op.dst (aG b.toArray)) wr):wpList prog ops Q (op::rest) a wr:=by
 obtain⟨⟨d,f,h⟩,q⟩:=pK i
 exact eF o λ _ j=>Fo c X p g n hx b d l f h (by grind) (j _ _ k)
end
def Mk{w wr:aa}{m:List Nat}{aj:List Y}{ops:Array Oper}{rest:List Oper}{op:Oper}{a:Act}{Q:Exit->Act->aa->Prop}(h:ae w wr m aj)(i:Region.wanted op (yielded ops a.tmps)=true)(k:Tmp)(hd:op.dst=some k)(c:Option Nat)(e:TypeId)(b:List ab)
 (j:(execOp a.eval op).run prog wr= .ok (.value (bc c wr.heap.size)) (wr.alloc (.cells b.toArray e)))
 (f:∀g d,w.heap.size<=g->ae w d m (Y.row g e b::aj)->wpList prog ops Q rest (a.put (some k) (bc c g)) d):wpList prog ops Q (op::rest) a wr:=by
 refine eF i λ K d=> ?_
 unfold Oper.wp
 rw[j,jC,hd]
 exact d _ _ (f _ _ h.size (h.alloc b e))
def bN(size:Nat)(w:aa)(v:ab)(xs:List (List ab)):Prop:=
 (∀x∈xs,x.length=size)/\∃(A:Option Addr) (c:Nat),v=ag A xs.length c/\xs.length<=maxLen/\∀i (h:i<xs.length),∃b o,A=some ⟨b,o,none⟩/\b<w.heap.size/\w.rangeAt b (o+i*size) xs[i]
def Y.er(size:Nat)(v:ab)(l:List (List ab)):Y:=
 ⟨if l=[] then [] else v.ownBlock.toList,λ w=>bN size w v l,
  (λ w e h d=>by
   obtain⟨y,A,n,f,u,g⟩:=d
   refine⟨y,A,n,f,u,λ i t=> ?_⟩
   obtain⟨b,o,c,p,q⟩:=g i t
   have x:¬l=[]:=by rintro rfl;simp at t
   have s:e.heap[b]?=w.heap[b]?:=h b (by rw[ar x,f,c];simp[Value.ownBlock])
   have C:b<e.heap.size:=by
    have z:w.heap[b]?≠none:=by simp[p]
    rw[<-s] at z
    rcases lX b e.heap.size with r|r
    ·exact r
    ·grind
   refine⟨b,o,c,C,λ j v B=> ?_⟩
   rw[<-q j v B]
   unfold World.cell?
   rw[s]),
  (λ w d=>by
   grind),
  (λ w d k e=>by
   split at e
   ·cases e
   ·rename_i x
    obtain⟨y,A,n,f,u,g⟩:=d
    obtain⟨b,o,c,p,q⟩:=g 0 (by grind)
    rw[f,c] at e
    have:k=b:=by simpa[Value.ownBlock] using e
    omega)⟩
def bN.below{size:Nat}{w c:aa}{v:ab}{b:List (List ab)}(h:bN size w v b)(d:BW w c):bN size c v b:=
 (Y.er size v b).st w c (λ k e=>d.block k ((Y.er size v b).lt w h k e)) h
def bN.nil(size:Nat)(w:aa):bN size w (ag none 0 0) []:=⟨(λ x hx=>by cases hx),none,0,rfl,zS,(λ i b=>by grind)⟩
def tf{e:TypeId}{size:Nat}{w:aa}{v:ab}{xs:List (List ab)}(d:∀x∈xs,x.length=size)(h:(Y.ow e size v xs.length xs.flatten).P w)(q:xs.length<=maxLen):bN size w v xs:=by
 have o:∀(b:List (List ab)) (i:Nat) (f:i<b.length) (j:Nat) (u:ab),(∀y∈b,y.length=size)->b[i][j]?=some u->b.flatten[i*size+j]?=some u:=by
  intro b;induction b with
  |nil=>simp
  |cons y b g=>
   intro i f j u c k;have n:y.length=size:=by grind
   rw[AD];cases i with
   |zero=>
    grind
   |succ i=>
    have l:=g i (by grind) j u (λ z d=>c z (mQ d)) (by grind);grind
 rcases h.2 with⟨c,r⟩|⟨g,l,s,c,x,p,r,z,t,A⟩
 ·have n:xs=[]:=by grind
  subst n;rw[c];exact bN.nil size w
 ·refine⟨d,some ⟨g,0,none⟩,l,c,q,λ i f=>⟨g,0,rfl,(mT.1 p).1,λ j u k=> ?_⟩⟩;subst c;have:=h.cells rfl (i*size+j) u (o xs i f j u d k);rw[gp] at this;grind
def jf(k:Nat):Bool:=decide (1<=k)&&decide (k<11)
def J1(k:Nat)(w:aa):Calls prog 163 #[O (k:Int)] w λ e b=>e=ao (aK (jf k))/\w=b:=by
 obtain⟨R,a⟩:∃R,jf k=R:=⟨_,rfl⟩;rw[a];unfold jf at a;have d1:decide (1<=(k:Int))=decide (1<=k):=by rw[bw];simp;omega
 have d2:decide ((k:Int)<11)=decide (k<11):=by rw[bw];simp;omega
 generalize decide (1<=k)=d at*;generalize decide (k<11)=e at*;have c:=Z a
 go_enter func163,ntmps163
 cases d
 all_goals
  have b:=c.U;simp only[sB] at b;subst b
  go_wp2_with(fail)
  go_ret
  exact⟨rfl,rfl⟩
def NK{w:aa}{v:ab}{x:WS}{K:Nat}(I:(Y.wr g v x).P w)(c:x.b.length<=K)(L:List af)(R:L.length<=48)(h32:∀s∈L,s.size=32)(Q:K<=5000000)(i:ab)(p:(Y.sr i L).P w)(F:∀k∈(Y.sr i L).bs,k∉(Y.wr g v x).bs):
 Calls prog 93 #[pV g,i] w λ r m=>r=ao (aM #[])/\∃d,bk (Y.wr g v x) w m (Y.wr g d ((x.num L.length).fQ L))/\((x.num L.length).fQ L).b.length<=K+5000:=by
 have r:=Z h32
 have z:=Z p;have u:=Z F
 have H:∃A f,i=ag A L.length f:=by
  obtain⟨A,f,h,-⟩:=p
  exact⟨A,f,h⟩
 obtain⟨A,f,rfl⟩:=H
 have a:=Z (ae.self I)
 have b:=Z c
 have X:L.length<=9223372036854775807:=by omega
 go_enter func93,ntmps93
 go_wp2_with((go_at_call 90;(refine(oQ (a.U.in mZ) b.U _ W W).mono ?_);rintro e m ⟨rfl,d,h,c⟩;have l:=a.U.rep (by exact .head _) h;have a:=Z l;have b:=Z c))
 obtain⟨y,q⟩:∃y,x.num L.length=y:=⟨_,rfl⟩
 have t:=Z q
 rw[q] at a b
 generalize S:K+10=M at*
 go_loopw [13] (λ k wr=>∃(j:Nat) (d:ab),j<=L.length/\k=O (j:Int)/\ae w wr (Y.wr g v x).bs [Y.wr g d (y.fQ (L.take j))]/\(y.fQ (L.take j)).b.length<=M+32*j) (λ k _=>L.length-(intOf k).toNat)
 case atStart=>exact⟨0,_,by omega,rfl,a.U,b.U⟩
 case round=>
  obtain⟨j,d,T,rfl,G,c⟩:=hrel
  have a:=Z G;have b:=Z c
  by_cases k:j<L.length
  ·have C:bq wr (ag A L.length f) L:=a.U.ro z.U u.U
   have n:=Z (IP (x:=y) k)
   have a1:=r.U _ (eR k)
   obtain⟨bb,o,B,-,hx⟩:∃bb o,A=some ⟨bb,o,none⟩/\True/\wr.cell? ⟨bb,o+j,none⟩=some (ad L[j]):=by
    obtain⟨N,P,E,a0,D⟩:=C
    injection E with e1 e2 e3
    subst e1
    obtain⟨bb,o,J,q2,q3⟩:=D j k
    exact⟨bb,o,J,trivial,q3⟩
   subst B
   have D:(j:Int)<(L.length:Int):=by omega
   generalize L[j]=s at*
   go_wp2_with((go_at_call 9;(refine(xw (a.U.in mZ) b.U _ _ W).mono ?_);rintro e m ⟨rfl,d,h,c⟩;have l:=a.U.rep (by exact .head _) h;have a:=Z l;have b:=Z c))
   go_roundw
   case rel=>exact⟨j+1,_,by omega,by go_num,by rw[<-n.U];exact a.U,by rw[<-n.U];exact hy b.U W⟩
   case measure=>simp[intOf];omega
  ·obtain rfl:j=L.length:=by omega
   rw[AM] at a b
   go_wp2
   go_end0
   rw[t.U]
   exact⟨rfl,_,a.U.iL,hy b.U W⟩
def RD.nJ(x:RD):List af:=if 48<x.cx then [] else x.bW.fF x.cx
def RD.sP(x:RD):RD:=if 48<x.cx then x.bW.fail 4 else x.bW.gi x.cx
def Nz{w:aa}{x:RD}(h:(Y.rd g x).P w):Calls prog 226 #[pV g] w λ r i=>∃e,r=ao e/\bk (Y.rd g x) w i (Y.star (Y.rd g x.sP) (Y.ow 9 1 e x.nJ.length (bh x.nJ))):=by
 have a:=Z (ae.self h);have c:=jS x;obtain⟨N,d⟩:∃N,x.cx=N:=⟨_,rfl⟩;obtain⟨b,m⟩:∃b,x.bW=b:=⟨_,rfl⟩;have y:=λ t (h:(Y.rd g x).P t)=>qp h;rw[d,m] at y;rw[d] at c;have v:=Z y;by_cases l:48<N
 ·have n:ai (x.nJ=[]):=Z (by unfold RD.nJ;rw[d,au l]);have o:ai (x.sP=b.fail 4):=Z (by unfold RD.sP;rw[d,m,au l]);have hd:decide ((48:Int)<(N:Int))=true:=by simp;omega
  go_enter func226,ntmps226
  go_wp2_with(first|go_at_call 47;refine KP a (v.U _ (a.U.in mZ)) λ i a=>?_|go_at_call 151;refine KP a (xj (a.U.in mZ) 4 4 rfl) λ i a=>?_)
  have c:=a.U.eM (Y.ow 9 1 (ag none 0 0) 0 (bh [])) (di _ _ _ _) rfl;refine lP rfl rfl rfl ⟨_,rfl,?_⟩;rw[n.U,o.U];exact(c.az 1 rfl).oe
 ·have n:ai (x.nJ=b.fF N):=Z (by unfold RD.nJ;rw[d,m,ar l]);have o:ai (x.sP=b.gi N):=Z (by unfold RD.sP;rw[d,m,ar l]);have hd:decide ((48:Int)<(N:Int))=false:=by simp;omega
  have H:N<=48:=by omega
  go_enter func226,ntmps226
  go_wp2_with((go_at_call 47;refine KP a (v.U _ (a.U.in mZ)) λ i a=>?_))
  replace a:=Z (a.U.eM (Y.ow 9 1 (ag none 0 0) 0 (bh [])) (di _ _ _ _) rfl)
  go_loopw [4,12] (λ e f wr=>∃(j:Nat) (L:List af) (r:RD) (pA:Option Addr) (q:Nat),e=ag pA L.length q/\j<=N/\f=U (j:Int)/\ae w wr (Y.rd g x).bs [Y.ow 9 1 (ag pA L.length q) L.length (bh L),Y.rd g r]/\L.length=j/\b.fF N=L++r.fF (N-j)/\b.gi N=r.gi (N-j)) (λ _ f _=>N-(intOf f).toNat)
  case atStart=>exact⟨0,[],b,none,0,rfl,by omega,rfl,a.U,rfl,by simp,by simp⟩
  case round=>
   obtain⟨j,L,r,pA,q,rfl,J,rfl,C,p,f,hx⟩:=hrel;have a:=Z C;by_cases P:j<N
   ·have z:decide (j<N)=true:=by simp;omega
    rw[show N-j=(N-(j+1))+1 by omega] at f hx;have e:=Z (show b.fF N=(L++[r.cA 32])++(r.bu 32).fF (N-(j+1)) by rw[f,RD.fF,gK];rfl);have k:=Z (show b.gi N=(r.bu 32).gi (N-(j+1)) by rw[hx,RD.gi]);have u:=Z (show(L++[r.cA 32]).length=j+1 by rw[bV,p];rfl);have M:L.length<=48:=by omega
    have K:IntKind.u64.wrap ((j:Int)+1)=(j:Int)+1:=by rw[tV];omega
    clear f hx p;obtain⟨S,A⟩:∃S,r.cA 32=S:=⟨_,rfl⟩;obtain⟨s,B⟩:∃s,r.bu 32=s:=⟨_,rfl⟩;have p:=λ t (h:(Y.rd g r).P t)=>se h 32;rw[A] at e u p;rw[B] at e k p;have t:=Z p
    go_wp2_with(first|(with_reducible show cn);(refine Mk a.U rfl 17 rfl (some 1) 9 [ad S] (by go_simp;(rfl)) ?_;intro F D I c;replace a:=Z c;simp only[bc])|refine Ap a.U rfl vc rfl 1 rfl rfl 0 rfl rfl rfl rfl (by unfold maxLen;omega) W ?_;intro G E D c;simp only[av,ax] at c;replace a:=Z c|go_at_call 13;refine KP a (t.U _ (a.U.in (by exact mQ mZ))) λ i a=>?_)
    go_roundw
    case rel=>exact⟨j+1,L++[S],s,_,_,by rw[bV];rfl,by omega,by go_num,by rw[zz,bV];exact a.U.tail,u.U,e.U,k.U⟩
    case measure=>simp[intOf];omega
   ·have z:decide (j<N)=false:=by simp;omega
    have e0:N-j=0:=by omega
    rw[e0,RD.fF,oz] at f;rw[e0,RD.gi] at hx;have e:=Z f;have k:=Z hx
    go_wp2
    refine lP rfl rfl rfl ⟨_,rfl,?_⟩;rw[n.U,o.U,e.U,k.U];exact(a.U.az 1 rfl).oe
def rJ(x:WS)(s:af):WS:=x.put (decide (s.size<=4096)) 4 (eT s)
def wH(x:WS)(s:af):WS:=x.put (decide ((s.size:Int)=64)) 1 s
def abP{t:af}(a:t.size<=100):rJ ⟨[],0⟩ t=⟨bU t.size++t.data.toList,0⟩:=by
 unfold rJ WS.put;rw[au rfl,au (aT W),OT];rfl
def abQ{s:af}(a:s.size=64)(l:List UInt8):wH ⟨l,0⟩ s=⟨l++s.data.toList,0⟩:=by
 unfold wH WS.put;rw[au rfl,au (aT W)]
def abX{t s:af}(d:t.size<=100)(c:s.size=64):∃T Y1 a,(wH (rJ ⟨[],0⟩ t) s).text=T/\(⟨T,0⟩:RD).oU 100=t/\(⟨T,0⟩:RD).oV 100=Y1/\Y1.cA 64=s/\Y1.bu 64=a/\a.ea=0:=by
 refine⟨_,_,_,rfl,?_,rfl,?_,rfl,?_⟩;all_goals
  rw[abP d,abQ c];have e0:(⟨bU t.size++t.data.toList++s.data.toList,0⟩:WS).text=⟨(bU t.size++t.data.toList++s.data.toList).toArray⟩:=rfl;rw[e0];obtain⟨a,b⟩:=yJ (y:=⟨⟨(bU t.size++t.data.toList++s.data.toList).toArray⟩,0⟩) (n:=t.size) (rest:=t.data.toList++s.data.toList) W rfl zS;obtain⟨k1,k2⟩:=EX (y:=⟨⟨(t.data.toList++s.data.toList).toArray⟩,0⟩) (l:=t.data.toList) (rest:=s.data.toList) rfl zS;obtain⟨m1,m2⟩:=EX (y:=⟨⟨s.data.toList.toArray⟩,0⟩) (l:=s.data.toList) (rest:=[]) rfl zS;rw[C4] at k1 k2 m1 m2;rw[c] at m1 m2
 ·unfold RD.oU;rw[b,a,au ⟨rfl,by omega,by omega⟩];exact k1
 ·unfold RD.oV;rw[b,a,au rfl,au ⟨by omega,by omega⟩,k2];exact m1
 ·unfold RD.oV;rw[b,a,au rfl,au ⟨by omega,by omega⟩,k2];show((⟨⟨s.data.toList.toArray⟩,0⟩:RD).bu 64).ea=0;have h:(⟨⟨s.data.toList.toArray⟩,0⟩:RD).bu 64=⟨⟨([]:List UInt8).toArray⟩,0⟩:=m2;rw[h];rfl
def Db(s:af):∃n:Nat,n<=s.size/\n<=100/\min s.size 100=n/\(s.extract 0 n).size=n:=⟨min s.size 100,by omega,by omega,rfl,by simp⟩
def Zh{s:af}(h:SC.vW m=g%SC.LQ)(a:g=FM.aH (s.data.toList.take 64)):FM.enc (SC.vW m)=db s:=by rw[h,a];rfl
def EB{w:aa}(a:la w)(s:af):CB 42 #[ad s] w (ad (db s)):=by
 have j:=Z a;have m:=a.lt;clear a
 go_enter func42,ntmps42
 go_wp2_with fail
 refine(zu (n:=8) zD s w).mono ?_;rintro e u ⟨t,rfl,d,b,o,q,g⟩;have k:=Z g;have c:=Z b;have f:=j.U.below b m;clear b g
 go_wp2_with fail
 refine(LN f _ t 8 o W d q 8).mono ?_;rintro e v ⟨l,rfl,g,p,r,h⟩;have b:=Z (c.U.trans (g.mono c.U.size));have i:=Z (Zh h k.U);clear g f d h
 go_wp2_with fail
 refine(Ml l p r _).mono ?_;rintro e g ⟨rfl,d⟩;have f:=Z (b.U.trans (d.mono b.U.size));rw[i.U];clear d
 go_wp2
 go_ret
 exact⟨rfl,f.U⟩
def Za{w:aa}(b:la w)(s:af):CB 118 #[ad s] w (aK (hY s)):=by
 have h:=EB b s;have a:hY s=(decide (s.size=32)&&decide (db s=s)):=rfl;obtain⟨c,d⟩:∃c,db s=c:=⟨_,rfl⟩;rw[d] at h a;have e1:((s.size:Int)==32)=decide (s.size=32):=by rw[bw];simp;omega
 have e2:(c.toList==s.toList)=decide (c=s):=by rw[bw,gb,jL,uP]
 generalize decide (s.size=32)=f at*;generalize decide (c=s)=g at*;have H:=Z h;clear h b d;rw[a];clear a;cases f with
 |false=>
  go_enter func118,ntmps118
  go_wp2_with fail
  go_ret
  exact⟨rfl,bp _ _⟩
 |true=>
  go_enter func118,ntmps118
  go_wp2_with fail
  refine H.U.mono ?_;rintro e h ⟨rfl,a⟩;have d:=Z a;clear a H
  go_wp2_with fail
  go_ret
  exact⟨rfl,d.U⟩
def abO(x:UInt8):bits .and .u8 (x.toNat:Int) 248=((x&&&248).toNat:Int):=by
 have:=zE x.toNat 248 (by have:=x.toNat_lt;omega) W;rw[UInt8.toNat_and];exact this
def w63(x:UInt8):bits .and .u8 (x.toNat:Int) 63=((x&&&63).toNat:Int):=by
 have:=zE x.toNat 63 (by have:=x.toNat_lt;omega) W;rw[UInt8.toNat_and];exact this
def w64(x:UInt8):bits .or .u8 (x.toNat:Int) 64=((x|||64).toNat:Int):=by
 have:=u8_or_nat x.toNat 64 (by have:=x.toNat_lt;omega) W;rw[UInt8.toNat_or];exact this
def Y8(s:af)(j:s.size=32)(w:aa):CB 34 #[ad s] w (ad (lG s)):=by
 have d:s.data.toList.length=32:=by rw[iO];exact j
 have l:ah (w.alloc (.cells (b8 (List.replicate 32 0)) 174)) w.heap.size 174 (b8 (List.replicate 32 0)):=ah.new _ _ _;have i:=λ a=>Lib.run_copy_row_string (P:=prog) (w.alloc (.cells (b8 (List.replicate 32 0)) 174)) 29 9 a 5 w.heap.size 0 32 32 s (b8 (List.replicate 32 0)) 174 cP V l W (by simp[b8,bB];omega);have e1:((b8 (List.replicate 32 0)).toList.take 0++Lib.byteCells s.data.toList++(b8 (List.replicate 32 0)).toList.drop (0+s.size)).toArray=b8 s.data.toList:=by
  rw[oE,jA,kc (by simp[b8,bB];omega),oz];rfl
 rw[e1,j] at i;have c:=l.setRow (b8 s.data.toList);have u:BW w ((w.alloc (.cells (b8 (List.replicate 32 0)) 174)).setRow w.heap.size (b8 s.data.toList)):=bL ((bp _ _).alloc (aQ _) _) (aQ _) _;generalize y:(w.alloc (.cells (b8 (List.replicate 32 0)) 174)).setRow w.heap.size (b8 s.data.toList)=m at*;have q:=Z y;obtain⟨a,L,f,E⟩:∃a L,s.data.toList=a::L/\L.length=31:=by
  cases b:s.data.toList with
  |nil=>rw[b] at d;simp at d
  |cons a L=>rw[b] at d;exact⟨a,L,rfl,by simpa using d⟩
 obtain⟨b,h⟩:∃b,(a::L)[31]?=some b:=⟨_,aU (by simp;omega)⟩;have x:lG s=⟨(((a::L).set 0 (a&&&248)).set 31 (b&&&63|||64)).toArray⟩:=by
  unfold lG sy;rw[bK W,f];congr 3;rw[dc,h];rfl
 rw[x];rw[f] at c;have C:=(c.cell 0).trans (xz (L:=a::L) (k:=0) rfl);have f0:=c.frozen 0;have e:ah (m.setCell ⟨w.heap.size,0,none⟩ (.int .u8 ((a&&&248).toNat:Int))) w.heap.size 174 (b8 ((a::L).set 0 (a&&&248))):=by rw[<-BA];exact c.dx 0 _
 have D:=(e.cell 31).trans (xz (L:=(a::L).set 0 (a&&&248)) (k:=31) (b:=b) (by rw[hn W];exact h));have f1:=e.frozen 31;have t:ah ((m.setCell ⟨w.heap.size,0,none⟩ (.int .u8 ((a&&&248).toNat:Int))).setCell ⟨w.heap.size,31,none⟩ (.int .u8 ((b&&&63|||64).toNat:Int))) w.heap.size 174 (b8 (((a::L).set 0 (a&&&248)).set 31 (b&&&63|||64))):=by rw[<-BA];exact e.dx 31 _
 have v:=(u.setCell (p:=⟨w.heap.size,0,none⟩) (aQ _) (.int .u8 ((a&&&248).toNat:Int))).setCell (p:=⟨w.heap.size,31,none⟩) (aQ _) (.int .u8 ((b&&&63|||64).toNat:Int));have F:=GM t 32 (by rw[fc,fc];simp;omega) 32;have G:=abO a;have H:=w63 b;have I:=w64 (b&&&63);generalize(((a::L).set 0 (a&&&248)).set 31 (b&&&63|||64))=R at*;have o:=Z v;generalize(a&&&248)=z at*;generalize(b&&&63|||64)=A at*;generalize(b&&&63)=B at*;obtain⟨n,g⟩:∃n,b8 (List.replicate 32 0)=n:=⟨_,rfl⟩;rw[g] at i q;have r:=Z g
 go_enter func34,ntmps34
 go_upto_region 2 with fail
 rw[Na,r.U]
 go_wp2
 go_ret
 exact⟨rfl,o.U⟩
