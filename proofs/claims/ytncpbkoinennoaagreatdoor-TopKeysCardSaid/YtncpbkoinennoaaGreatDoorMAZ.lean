import Derived.Lib.AppendZeros
import Derived.Lib.Overlaps
import Derived.Test.YtncpbkoinennoaaGreatDoorMAX
import Derived.Test.YtncpbkoinennoaaGreatDoorMAY
set_option linter.all false
set_option maxRecDepth 100000
set_option maxHeartbeats 0
namespace Go.Proofs.YtncpbkoinennoaaGreatDoor
open Go.RowKit Proofs.Tryz
attribute [local irreducible] wpList Calls
variable{I:List Y}{m:List Nat}{g n:Nat}{t:TypeId}
def HX:ie 80:=ln func80 V V
def TH(a v1 v2 v3 v4 v5 v6 b c E d e f g h i j k l m n o p q r s t u v x y z A B C D:ab)(w:aa):(Instr.index 341 (aG #[a,v1,v2,v3,v4,v5,v6,b,c,E,d,e,f,g,h,i,j,k,l,m,n,o,p,q,r,s,t,u,v,x,y,z,A,B,C,D]) (O 0)).run prog w= .ok (aG #[a,v1,v2,v3,v4,v5,v6,b,c]) w:=by kernel_rfl
def TI(j v1 v2 v3 v4 v5 v6 D E i a b c d e f g h k l m n o p q r s t u v x y z A B C:ab)(w:aa):(Instr.index 341 (aG #[j,v1,v2,v3,v4,v5,v6,D,E,i,a,b,c,d,e,f,g,h,k,l,m,n,o,p,q,r,s,t,u,v,x,y,z,A,B,C]) (O 1)).run prog w= .ok (aG #[i,a,b,c,d,e,f,g,h]) w:=by kernel_rfl
def ae.gT{w wr a:aa}{size:Nat}{v:ab}{b:List ab}(h:ae w wr m I)(e:BW wr a)(d:a.ownsRow wr.heap.size t size v n b):ae w a m (Y.ow t size v n b::I):=
 h.join e (Y.ow t size v n b) (Kc d) (λ k f=>by
  have c:k∈v.ownBlock.toList:=f
  rcases d.2 with⟨rfl,-⟩|⟨g,i,j,rfl,l,-⟩
  ·simp[Value.ownBlock] at c
  ·simp[Value.ownBlock] at c
   omega)
def il.form{w:aa}{v:ab}{L:List af}(h:il g w v L):∃A c,v=ag A L.length c:=by
 rcases h.2 with⟨rfl,a⟩|⟨e,b,d,rfl,-⟩
 ·exact⟨none,0,by rw[a]⟩
 ·exact⟨_,_,rfl⟩
def L9(v:ab)(n:Nat):∀k∈(Y.sr v []).bs,n<=k:=λ k b=>by
 have a:k∈(if([]:List af)=[] then [] else v.ownBlock.toList):=b;rw[au rfl] at a;cases a
def Ao(a b:HD)(P:List af)(w:aa)(e:Ending)(d:aa):Prop:=
 (match gz a b P with|none=>e=ao (aM #[pT.val (ag none 0 0),O 13])|some x=>∃c,e=ao (aM #[x.val c,O 0])/\bq d c x.e/\(∀k∈(Y.sr c x.e).bs,w.heap.size<=k))/\BW w d
def RU{w:aa}(a b:HD){v:ab}{P:List af}(m:bq w v P)(b2:P.length<=1000)(y:a.size=b.size)(F:(⟨a,b,[]⟩:BD).bX=true\/(⟨b,a,[]⟩:BD).bX=true):Calls prog 229 #[a.val,b.val,v] w (Ao a b P w):=by
 have c:=Z (ae.start w []);have H:=Z F;have B:=Z (λ f d (m:bq f d [])=>yL ⟨a,b,[]⟩ d f y m);have I:=Z (λ f d (m:bq f d [])=>yL ⟨b,a,[]⟩ d f y.symm m);clear F y;have a5:=Z m;have N:=λ(f:aa) (s:BW w f)=>B1 (m.below s rfl) W;have R:∀e n,((match gz a b P with|none=>e=ao (aM #[pT.val (ag none 0 0),O 13])|some x=>∃d,e=ao (aM #[x.val d,O 0])/\bq n d x.e/\(∀k∈(Y.sr d x.e).bs,w.heap.size<=k))/\BW w n)->Ao a b P w e n:=λ e n h=>h;have M:gz a b P=if(⟨a,b,[]⟩:BD).bX=true then some ⟨a,b,[]⟩ else if(⟨b,a,[]⟩:BD).bX=true then some ⟨b,a,[]⟩
  else if(⟨a,b,P⟩:BD).bX=true then some ⟨a,b,P⟩ else if(⟨b,a,P⟩:BD).bX=true then some ⟨b,a,P⟩ else none:=rfl
 have X:∀f:aa,bq f (ag none 0 0) []:=λ f=>⟨none,0,rfl,bf _,λ i d=>absurd d (ij i)⟩;obtain⟨b5,b6,rfl⟩:=m.form;have A:=Z N;have z:=Z M;have C:=Z R;have o:=Z X;have a6:ai (P.length<=maxLen):=Z (by unfold maxLen;omega)
 go_enter func229,ntmps229
 go_wp2_with(first|(refine KA c 66 6 iN λ J g a9 c=>?_)|(first|(refine Bx c.U rfl 59 3 rfl rfl (a.cells) rfl λ q g a7 j=>?_;replace c:=Z j)|(refine Bx c.U rfl 59 4 rfl rfl (b.cells) rfl λ r g a8 j=>?_;replace c:=Z j)))
 go_step3
 go_wp2_with((refine KA c 66 8 iN λ K g b0 c=>?_))
 go_step3
 go_upto_region 3 with(fail)
 refine ae.Ye c.U (S:=ba [Y.row q 59 a.cells,Y.row r 59 b.cells]) V V (λ b7 j=> ?_);replace c:=Z j;have d:ba [Y.row q 59 a.cells,Y.row r 59 b.cells] _:=(aX (c.U.in (by exact mQ (mQ (mQ mZ)))) (aX (c.U.in (by exact mQ (mQ mZ))) bg))
 (refine dh.fK (i:=0) (oi:=_) (v:=_) 12 rfl rfl V V (λ _ _ _ h=>h) (Yr V 0 rfl 59 4 rfl rfl V _ rfl rfl) d ?_)
 simp only[aS,av,ax,bH,dJ,dr]
 (refine dh.fK (i:=1) (oi:=_) (v:=_) 13 rfl rfl V V (λ _ _ _ h=>h) (Yr V 1 rfl 59 4 rfl rfl V _ rfl rfl) d ?_)
 simp only[aS,av,ax,bH,dJ,dr];refine dh.fK (i:=2) (oi:=_) (v:=?va2) 14 rfl rfl V V (λ _ _ _ h=>h) (Or.inl ⟨by kernel_rfl,?SJ⟩) d ?ra2;case SJ=>(intro f l;go_simp;try(with_reducible rfl))
 simp only[aS,av,ax]
 (refine dh.fK (i:=3) (oi:=_) (v:=_) 15 rfl rfl V V (λ _ _ _ h=>h) (Yr V 1 rfl 59 4 rfl rfl V _ rfl rfl) d ?_)
 simp only[aS,av,ax,bH,dJ,dr]
 (refine dh.fK (i:=4) (oi:=_) (v:=_) 16 rfl rfl V V (λ _ _ _ h=>h) (Yr V 0 rfl 59 4 rfl rfl V _ rfl rfl) d ?_)
 simp only[aS,av,ax,bH,dJ,dr];refine dh.fK (i:=5) (oi:=_) (v:=?va5) 17 rfl rfl V V (λ _ _ _ h=>h) (Or.inl ⟨by kernel_rfl,?SK⟩) d ?ra5;case SK=>(intro f l;go_simp;try(with_reducible rfl))
 simp only[aS,av,ax]
 (refine dh.fK (i:=6) (oi:=_) (v:=_) 18 rfl rfl V V (λ _ _ _ h=>h) (Yr V 0 rfl 59 4 rfl rfl V _ rfl rfl) d ?_)
 simp only[aS,av,ax,bH,dJ,dr]
 (refine dh.fK (i:=7) (oi:=_) (v:=_) 19 rfl rfl V V (λ _ _ _ h=>h) (Yr V 1 rfl 59 4 rfl rfl V _ rfl rfl) d ?_)
 simp only[aS,av,ax,bH,dJ,dr];refine dh.fK (i:=8) (oi:=_) (v:=?va8) 20 rfl rfl V V (λ _ _ _ h=>h) (Or.inl ⟨by kernel_rfl,?SL⟩) d ?K8;case SL=>(intro f l;go_simp;try(with_reducible rfl))
 simp only[aS,av,ax]
 (refine dh.fK (i:=11) (oi:=_) (v:=_) 23 rfl rfl V V (λ _ _ _ h=>h) (Yr V 1 rfl 59 4 rfl rfl V _ rfl rfl) d ?_)
 simp only[aS,av,ax,bH,dJ,dr]
 (refine dh.fK (i:=12) (oi:=_) (v:=_) 24 rfl rfl V V (λ _ _ _ h=>h) (Yr V 0 rfl 59 4 rfl rfl V _ rfl rfl) d ?_)
 simp only[aS,av,ax,bH,dJ,dr];refine dh.fK (i:=13) (oi:=_) (v:=?aeh) 25 rfl rfl V V (λ _ _ _ h=>h) (Or.inl ⟨by kernel_rfl,?SF⟩) d ?aeb;case SF=>(intro f l;go_simp;try(with_reducible rfl))
 simp only[aS,av,ax];refine dh.fK (i:=17) (oi:=_) (v:=?aek) 29 rfl rfl V V (λ _ _ _ h=>h) (Or.inl ⟨by kernel_rfl,?SI⟩) d ?aee;case SI=>(intro f l;go_simp;try(with_reducible rfl))
 simp only[aS,av,ax];refine dh.eL (i:=9) V rfl rfl 21 rfl rfl 80 rfl HX _ rfl ?_;refine(A.U _ c.U.aq).mono ?_;rintro e a4 ⟨⟨b3,rfl,t⟩,s⟩;obtain⟨a0,a1,rfl⟩:=t.form;have j:=c.U.gT s t;replace c:=Z j;refine⟨_,rfl,(aX (c.U.in (by exact mQ (mQ (mQ (mQ mZ))))) (aX (c.U.in (by exact mQ (mQ (mQ mZ)))) bg)),?_⟩;simp only[aS,av,ax];have d:ba [Y.row q 59 a.cells,Y.row r 59 b.cells] _:=(aX (c.U.in (by exact mQ (mQ (mQ (mQ mZ))))) (aX (c.U.in (by exact mQ (mQ (mQ mZ)))) bg));refine dh.fK (i:=10) (oi:=_) (v:=?aeg) 22 rfl rfl V V (λ _ _ _ h=>h) (Or.inl ⟨by kernel_rfl,?SE⟩) d ?aea;case SE=>(intro f l;go_simp;try(with_reducible rfl))
 simp only[aS,av,ax];refine dh.eL (i:=14) V rfl rfl 26 rfl rfl 80 rfl HX _ rfl ?_;refine(A.U _ c.U.aq).mono ?_;rintro e a4 ⟨⟨b4,rfl,t⟩,s⟩;obtain⟨a2,a3,rfl⟩:=t.form;have j:=c.U.gT s t;replace c:=Z j;refine⟨_,rfl,(aX (c.U.in (by exact mQ (mQ (mQ (mQ (mQ mZ)))))) (aX (c.U.in (by exact mQ (mQ (mQ (mQ mZ))))) bg)),?_⟩;simp only[aS,av,ax];have d:ba [Y.row q 59 a.cells,Y.row r 59 b.cells] _:=(aX (c.U.in (by exact mQ (mQ (mQ (mQ (mQ mZ)))))) (aX (c.U.in (by exact mQ (mQ (mQ (mQ mZ))))) bg));refine dh.fK (i:=15) (oi:=_) (v:=?aei) 27 rfl rfl V V (λ _ _ _ h=>h) (Or.inl ⟨by kernel_rfl,?SG⟩) d ?aec;case SG=>(intro f l;go_simp;try(with_reducible rfl))
 simp only[aS,av,ax];refine dh.fK (i:=16) (oi:=_) (v:=?aej) 28 rfl rfl V V (λ _ _ _ h=>h) (Or.inl ⟨by kernel_rfl,?SH⟩) d ?aed;case SH=>(intro f l;go_simp;try(with_reducible rfl))
 simp only[aS,av,ax];refine dh.done V ?_
 go_wp2
 go_loopw [9,29] (λ p i wr=>∃k:Nat,k<=1/\p=O 13/\i=O (k:Int)/\ae w wr [] [Y.ow 9 1 (ag a2 P.length a3) P.length (bh P),Y.ow 9 1 (ag a0 P.length a1) P.length (bh P),Y.row K 66 [U 0,U 0,ad ⟨#[]⟩,ad ⟨#[]⟩,U 0,U 0,ad ⟨#[]⟩,ad ⟨#[]⟩,ag none 0 0],Y.row J 66 [U 0,U 0,ad ⟨#[]⟩,ad ⟨#[]⟩,U 0,U 0,ad ⟨#[]⟩,ad ⟨#[]⟩,ag none 0 0],Y.row r 59 b.cells,Y.row q 59 a.cells]/\(0<k->(⟨a,b,[]⟩:BD).bX=false)) (λ _ i _=>1-(intOf i).toNat)
 case atStart=>exact⟨0,by omega,rfl,rfl,c.U,by omega⟩
 case round=>
  obtain⟨k,b1,rfl,rfl,T,L⟩:=hrel;have c:=Z T;rcases k with _|_|k
  ·have Q:=TH;cases i:(⟨a,b,[]⟩:BD).bX with
   |true=>
    have p:=Z i;have u:ai (gz a b P=some ⟨a,b,[]⟩):=Z (by rw[z.U,au i])
    go_wp2_with(first|(first|(refine KR c 0 66 9 ?_)|(refine KR c 3 66 9 ?_))|(first|(refine K7 c 0 66 9 λ g c=>?_)|(refine K7 c 3 66 9 λ g c=>?_)|(refine K7 c 4 66 9 λ g c=>?_))|(refine KA c 66 11 iN λ E g G c=>?_)|(go_at_call 142;refine KC c (B.U _ _ (o.U _)) λ n c=>?_;rw[p.U]))
    try rw[kL]
    refine fb c.U 4 rfl 66 9 rfl rfl rfl V rfl rfl ?_;apply C.U;rw[u.U];exact⟨⟨ag none 0 0,rfl,(o.U _),L9 _ _⟩,c.U.aq⟩
   |false=>
    have p:=Z i
    go_wp2_with(first|(refine KR c 0 66 9 ?_)|(refine K7 c 0 66 9 λ g c=>?_)|(refine KA c 66 11 iN λ E g G c=>?_)|(go_at_call 142;refine KC c (B.U _ _ (o.U _)) λ n c=>?_;rw[p.U]))
    refine⟨⟨1,by omega,rfl,rfl,c.U.tail,(λ _=>(by trivial))⟩,by simp[intOf]⟩
  ·have Q:=TI;have D:=Z (L W);have i:(⟨b,a,[]⟩:BD).bX=true:=H.U.resolve_left (by rw[D.U];decide);have p:=Z i;have u:ai (gz a b P=some ⟨b,a,[]⟩):=Z (by rw[z.U,ar (by rw[D.U];decide),au i])
   go_wp2_with(first|(first|(refine KR c 0 66 9 ?_)|(refine KR c 3 66 9 ?_))|(first|(refine K7 c 0 66 9 λ g c=>?_)|(refine K7 c 3 66 9 λ g c=>?_)|(refine K7 c 4 66 9 λ g c=>?_))|(refine KA c 66 11 iN λ E g G c=>?_)|(go_at_call 142;refine KC c (I.U _ _ (o.U _)) λ n c=>?_;rw[p.U]))
   try rw[kL]
   refine fb c.U 4 rfl 66 9 rfl rfl rfl V rfl rfl ?_;apply C.U;rw[u.U];exact⟨⟨ag none 0 0,rfl,(o.U _),L9 _ _⟩,c.U.aq⟩
  ·omega
variable{D:BD}
def B3{s:af}(h:gd s= .ok D)(w:aa):Calls prog 25 #[ad s] w λ e b=>∃a,e=ao (aM #[D.val a,O 0])/\bq b a D.e/\(∀k∈(Y.sr a D.e).bs,w.heap.size<=k)/\BW w b:=
 (RV s w).mono λ e b b=>by unfold tR at b;rw[h] at b;obtain⟨⟨a,c,d,e⟩,f⟩:=b;exact⟨a,c,d,e,f⟩
def Ig{w:aa}(j:cq w)(f s:af)(g:f.size<=800000)(v:wL f s):CB 61 #[ad f,ad s] w (aK true):=by
 have a:=Z (ae.start w []);obtain⟨b,q,p,o,m,n⟩:=v;have e:=λ(c:aa) (d:BW w c)=>vp (j.below d) f b.a g;have k:=λ(c:aa) (d:BW w c)=>vp (j.below d) f b.b g;have HD:=Z (λ c=>B3 q c);have l:=λ(c:aa) h (g:bq c h b.e)=>yL b h c o g;rw[m] at e;rw[n] at k;rw[p] at l;have r:=Z e;have t:=Z k;have u:=Z l;clear e k l q j p m n o
 go_enter func61,ntmps61
 go_wp2_with(first|refine KT a 9 ?_|refine KT a 4 ?_|refine KS a λ m a=>?_|refine KA a _ 5 iN λ n m o a=>?_|go_at_call 25;(refine(HD.U _).mono ?_);rintro e c ⟨h,rfl,k,l,d⟩;replace a:=Z (a.U.join d (Y.sr h b.e) k l);obtain⟨pA,p,rfl⟩:=k.form|go_at_call 142;refine KC a (u.U _ _ (a.U.get (i:=1) rfl)) λ c a=>?_|go_at_call 143;refine KC a (r.U _ a.U.aq) λ c a=>?_|go_at_call 143;refine KC a (t.U _ a.U.aq) λ c a=>?_)
 go_ret
 exact⟨rfl,a.U.aq⟩
variable{X:Operand}
def Iu{size:Nat}(d:0<size):∀(b:List (List ab)) (q:Nat) (u:ab),(∀x∈b,x.length=size)->b.flatten[q]?=some u->∃(i j:Nat) (h:i<b.length),q=i*size+j/\b[i][j]?=some u
 |[],q,u,_,h=>by simp at h
 |x::b,q,u,c,h=>by
  have hx:x.length=size:=c x mZ
  rw[AD] at h
  rcases lX q size with e|e
  ·rw[kO W] at h
   exact⟨0,q,by simp,by simp,h⟩
  ·rw[iR W] at h
   obtain⟨i,j,g,e1,e2⟩:=Iu d b _ u (λ y f=>c y (mQ f)) h
   exact⟨i+1,j,by grind,by grind,by grind⟩
def Iv{size:Nat}:∀(b:List (List ab)),(∀x∈b,x.length=size)->b.flatten.length=b.length*size
 |[],_=>by simp
 |x::b,h=>by
  rw[AD,bV,h x mZ,Iv b (λ y c=>h y (mQ c)),gq,Nat.succ_mul];omega
def bN.src{e:TypeId}{size:Nat}{w:aa}{v:ab}{xs:List (List ab)}(c:prog.underlying t=some (.slice e))(p:0<size)(h1:∀x∈xs,∀u∈x,u.oneCell'=true)(h:bN size w v xs):Src prog size t v xs.length xs.flatten w:=by
 obtain⟨k,A,B,rfl,C,f⟩:=h;have g:∀u∈xs.flatten,u.oneCell'=true:=λ u c=>by
  obtain⟨x,hx,b⟩:=List.mem_flatten.1 c;grind
 cases xs with
 |nil=>
  cases A with
  |none=>exact Src.ofNil w c _
  |some a=>exact qw w c _ _ _ _ (show(List.flatten ([]:List (List ab))).length=0*size by simp) (λ j u d=>by cases d) g
 |cons x l=>
  obtain⟨b,o,rfl,_,_⟩:=f 0 zS;refine qw w c _ _ _ _ (Iv _ k) (λ q u r=> ?_) g;obtain⟨i,j,n,rfl,y⟩:=Iu p _ q u k r;obtain⟨z,D,d,_,s⟩:=f i n;injection d with d;injection d with e1 e2 _;subst e1 e2;have:=s j u y;rw[gp,<-xb];omega
section
variable{w wr:aa}{m:List Nat}{aj:List Y}{ops:Array Oper}{rest:List Oper}{op:Oper}{a:Act}{Q:Exit->Act->aa->Prop}
def Ac(h:ae w wr m aj)(C:op.guard=none){f e:TypeId}{size bytes:Nat}(l:cW t e size bytes){x:Operand}(D:op.op= .call {callee:= .builtin .append,args:=#[X,x],argTypes:=#[t,f]})
 (i:Nat) {v:ab} {b:List ab} (o:aj[i]?=some (Y.ow e size v n b)) (F:a.eval X=v) {u:ab} {c:Nat} {g:List ab} (hx:a.eval x=u) (G:Src prog size f u c g wr)
 (h63:n+c<=maxLen) (B:(n+c)*bytes<=140737488355328)
 (y:∀A q d,ae w d m (aj.set i (Y.ow e size (ag A (n+c) q) (n+c) (b++g)))->wpList prog ops Q rest (a.put op.dst (ag A (n+c) q)) d):wpList prog ops Q (op::rest) a wr:=by
 obtain⟨H,z,e1,e2,e3,e4,e5⟩:=l.el
 have E:wr.ownsRow 0 e size v n b:=h.get o
 refine mM C X x t f D 0 e H z size bytes l.a e1 e2 e3 e4 e5 v n b F E u c g hx G h63 B (bf _) ?_
 intro K I j p r
 obtain⟨A,q,rfl,-⟩:=da j
 refine y A q I (h.at i o ⟨?_,?_,?_⟩)
 ·exact(aW.refl wr.heap.size _ wr).grown p (aQ _) (λ k d=> .inl (by simp[Y.ow,d]))
 ·exact j
 ·intro k d
  have J:k∈(Value.slice A (n+c) q).ownBlock.toList:=d
  rcases r with s|s
  ·exact .inl (by show k∈v.ownBlock.toList;grind)
  grind
end
def ae.made{w wr:aa}{m:List Nat}{aj:List Y}(h:ae w wr m aj)(i:Nat){b:List ab}(c:aj[i]?=some (Y.row g t b))(n size:Nat)(d:b.length=n*size)(j:n<=maxLen):ae w wr m (aj.set i (Y.ow t size (ag (some ⟨g,0,none⟩) n n) n b)):=by
 have e:=h.row c;refine h.at i c ⟨aW.refl _ _ _,⟨d,.inr ⟨g,n,b.toArray,rfl,bf _,e,aQ _,j,by simp[d],by grind⟩⟩,λ k f=> .inl ?_⟩;have:k=g:=by simpa[Y.ow,Value.ownBlock] using f
 subst this;simp[Y.row]
def HO:cW 60 59 4 48:=cW.mk' uD (z:= .agg #[U 0,U 0,.string ⟨#[]⟩,.string ⟨#[]⟩]) V rfl zD
def PE{w:aa}{v:ab}{d:List (List ab)}(h:bN 4 w v d)(h1:∀x∈d,∀u∈x,u.oneCell'=true)(I:d.length<=1000000):
 Calls prog 74 #[v] w λ r b=>(∃A c,r=ao (ag A d.length c)/\b.ownsRow w.heap.size 59 4 (ag A d.length c) d.length d.flatten)/\BW w b:=by
 obtain⟨D,z,q,u,y,B,C⟩:=HO.el
 have p:=h
 obtain⟨M,A,f,rfl,J,n⟩:=h
 cases A with
 |none=>
  have g:d=[]:=by
   cases d with
   |nil=>rfl
   |cons x l=>obtain⟨b,o,i,_⟩:=n 0 zS;cases i
  subst g
  have s:=λ e=>tW (P:=prog) e 60 59 none 0 f 0 0 uD
  go_enter func74,ntmps74
  go_wp2
  go_ret
  exact⟨⟨none,0,rfl,di _ _ _ _⟩,bp _ _⟩
 |some a=>
  have s:=λ e=>tW (P:=prog) e 60 59 (some a) d.length f 0 0 uD
  have t:=(p.below (bJ w (.cells #[] 59))).src uD zD h1
  have r:(w.alloc (.cells #[] 59)).ownsRow w.heap.size 59 4 (ag (some ⟨w.heap.size,0,none⟩) 0 0) 0 []:=sj w #[] 0 (aQ _) zD rfl
  have K:d.length<=maxLen:=by unfold maxLen;omega
  generalize H:d.flatten=i at*
  go_enter func74,ntmps74
  go_wp2_with(at_builtin;refine mM rfl _ _ 60 60 rfl w.heap.size 59 D _ 4 48 uD q u y B C _ _ _ rfl r _ d.length i rfl t W W zS ?_)
  intro N E b l L
  have j:BW w E:=(bJ w (.cells #[] 59)).grown l zS (by intro k o;simp[Value.ownBlock] at o;omega)
  try rw[dz,jA] at b
  obtain⟨F,G,rfl,-⟩:=da b
  have e:=Z b;have g:=Z j
  go_wp2
  go_ret
  exact⟨⟨_,_,rfl,e.U⟩,g.U⟩
def vb:cW 118 210 3 32:=cW.mk' xp (z:= .agg #[O 0,O 0,.string ⟨#[]⟩]) V rfl zD
variable{F:List HD}{k:Nat}
abbrev ST.cells(s:ST)(a:ab):List ab:=[aK s.bz,U (s.az.size:Int),U (s.az.time:Int),ad s.az.aE,ad s.az.a,a,ad s.aR]
abbrev ST.val(s:ST)(a:ab):ab:=aG #[aK s.bz,U (s.az.size:Int),U (s.az.time:Int),ad s.az.aE,ad s.az.a,a,ad s.aR]
def hN(L:List HD):List (List ab):=L.map HD.cells
def my(L:List HD):(hN L).length=L.length:=by simp[hN]
def IT(L:List HD):∀x∈hN L,∀u∈x,u.oneCell'=true:=by
 intro x hx u a;obtain⟨h,-,rfl⟩:=eH.1 hx;simp only[HD.cells,bO,uf,vK] at a;rcases a with rfl|rfl|rfl|rfl<;>rfl
def Tq(L:List HD):∀x∈hN L,x.length=4:=by
 intro x hx;obtain⟨h,-,rfl⟩:=eH.1 hx;rfl
def qb(a:Nat)(w:aa)(v:ab)(L:List HD):Prop:=w.ownsRow a 59 4 v L.length (hN L).flatten
abbrev Y.ho(v:ab)(L:List HD):Y:=Y.ow 59 4 v L.length (hN L).flatten
abbrev jw(w:aa)(v:ab)(L:List HD):Prop:=bN 4 w v (hN L)
def sS{w:aa}{v:ab}(h:(Y.ho v F).P w)(a:F.length<=1000000):jw w v F:=by
 refine tf (e:=59) (Tq F) ?_ (by rw[my];unfold maxLen;omega);rw[my];exact h
def jw.form{w:aa}{v:ab}{L:List HD}(h:jw w v L):∃A c,v=ag A L.length c:=by
 obtain⟨A,c,a,-⟩:=bN.form h;rw[my] at a;grind
def G7{w:aa}{v:ab}(h:jw w v F)(e:F.length<=1000000):Calls prog 74 #[v] w λ r a=>∃A c,r=ao (ag A F.length c)/\qb w.heap.size a (ag A F.length c) F/\BW w a:=
 (PE h (IT F) (by rw[my];exact e)).mono λ r a ⟨⟨A,c,b,a⟩,d⟩=>⟨A,c,by rw[b,my],by unfold qb;rw[my] at a;exact a,d⟩
def ru{w:aa}{size:Nat}{v:ab}{b:List ab}(h:w.ownsRow g t size v n b)(e:∀d∈v.ownBlock.toList,k<=d):w.ownsRow k t size v n b:=by
 refine⟨h.1,?_⟩;rcases h.2 with i|⟨a,c,d,rfl,-,f,r⟩
 ·grind
 ·exact .inr ⟨a,c,d,rfl,e a (by simp[Value.ownBlock]),f,r⟩
def Dz{w:aa}(s:ST){d:ab}(h:jw w d s.f)(j:s.f.length<=1000000):Calls prog 228 #[s.val d] w λ r a=>∃A c,r=ao (s.val (ag A s.f.length c))/\qb w.heap.size a (ag A s.f.length c) s.f/\BW w a:=by
 have a:=Z (ae.start w []);have g:=Z (λ l (b:BW w l)=>G7 (h.below b) j);obtain⟨pA,q,rfl⟩:=h.form
 go_enter func228,ntmps228
 go_wp2_with(first|refine Kl a ?_|refine KT a 7 ?_|refine KS a λ f a=>?_|refine KA a _ 2 mR λ n f p a=>?_|refine KB a 62 1 (s.cells _) λ m f o a=>?_|go_at_call 74;(refine(g.U _ a.U.aq).mono ?_);rintro e u ⟨r,t,rfl,k,b⟩;replace a:=Z (a.U.gT b k))
 refine ha a.U 1 rfl 62 7 rfl rfl zR rfl rfl ?_;exact⟨_,_,rfl,ru (a.U.get (i:=0) rfl) (a.U.nQ mZ),a.U.aq⟩
def Sp{w:aa}(s:ST){f:ab}(h:jw w f s.f)(k:s.f.length<=1000000)(b:af):Calls prog 230 #[s.val f,ad b] w λ r a=>∃A c,r=ao (aM #[({s with aR:=b}:ST).val (ag A s.f.length c),O 5])/\qb w.heap.size a (ag A s.f.length c) s.f/\BW w a:=by
 have a:=Z (ae.start w []);have j:=Z (λ m (d:BW w m)=>Dz s (h.below d) k);obtain⟨pA,r,rfl⟩:=h.form
 go_enter func230,ntmps230
 go_wp2_with(first|refine KT a 7 ?_|refine KS a λ g a=>?_|refine KA a _ 4 mR λ o g q a=>?_|refine KB a 62 2 (s.cells _) λ n g p a=>?_|go_at_call 228;(refine(j.U _ a.U.aq).mono ?_);rintro e v ⟨t,u,rfl,l,d⟩;replace a:=Z (a.U.gT d l))
 refine fb a.U 1 rfl 62 7 rfl rfl rfl zR rfl rfl ?_;exact⟨_,_,rfl,ru (a.U.get (i:=0) rfl) (a.U.nQ mZ),a.U.aq⟩
def xk(w:aa)(p:ST×Nat)(e:Ending)(a:aa):Prop:=
 ∃A c,e=ao (aM #[p.1.val (ag A p.1.f.length c),O (p.2:Int)])/\qb w.heap.size a (ag A p.1.f.length c) p.1.f/\BW w a
def mJ(s:af):(!s.toList.isEmpty)=!decide (s=⟨#[]⟩):=by rw[ir]
def Ux{w:aa}(s:ST){g:ab}(h:jw w g s.f)(m:s.f.length<=1000000)(f b:af)(d:¬s.aR=⟨#[]⟩):Calls prog 167 #[s.val g,ad f,ad b] w (xk w (s.lay f b)):=by
 have a:=Z (ae.start w []);have k:=Z (λ j (c:BW w j)=>Dz s (h.below c) m);obtain⟨pA,u,rfl⟩:=h.form;have e:s.lay f b=(s,9):=ar d;have n:=mJ s.aR;have l:=ir s.aR;rw[bm d] at n l;rw[e];clear e d;unfold xk
 go_enter func167,ntmps167
 go_wp2_with(first|refine Kl a ?_|refine KT a 7 ?_|refine KS a λ j a=>?_|refine KA a _ 6 mR λ q j t a=>?_|refine KB a 62 3 (s.cells _) λ p j r a=>?_|go_at_call 228;(refine(k.U _ a.U.aq).mono ?_);rintro e y ⟨v,x,rfl,o,c⟩;replace a:=Z (a.U.gT c o))
 refine fb a.U 1 rfl 62 7 rfl rfl rfl zR rfl rfl ?_;exact⟨_,_,rfl,ru (a.U.get (i:=0) rfl) (a.U.nQ mZ),a.U.aq⟩
def cv{α:Type}(p:α->Bool):List α->Option Nat
 |[]=>none
 |x::l=>if p x=true then some 0 else(cv p l).map (·+1)
def jT:Option Nat->Int
 |none=> -1
 |some i=>i
def xX{α:Type}{p:α->Bool}:∀{L:List α} {j:Nat} (h:j<L.length),(∀i (e:i<j),p (L[i]'W)=false)->p L[j]=true->cv p L=some j
 |x::l,0,h,_,a=>by have b:p x=true:=a;rw[cv,au b]
 |x::l,j+1,h,c,a=>by
  have d:p x=false:=c 0 W
  have f:j<l.length:=by simpa using h
  have b:p l[j]=true:=a
  rw[cv,ar (by rw[d];decide),xX (L:=l) (j:=j) f (λ i e=>c (i+1) W) b]
  rfl
def xZ{α:Type}{p:α->Bool}:∀{L:List α},(∀i (a:i<L.length),p L[i]=false)->cv p L=none
 |[],_=>rfl
 |x::l,h=>by
  have b:p x=false:=h 0 zS
  rw[cv,ar (by rw[b];decide),xZ (L:=l) (λ i a=>h (i+1) (by simpa using a))]
  rfl
def xY{α β:Type}(f:α->β)(p:β->Bool):∀(L:List α),cv p (L.map f)=cv (λ x=>p (f x)) L
 |[]=>rfl
 |x::l=>by simp only[bZ,cv,xY f p l]
def Iq{α:Type}(p:α->Bool):∀(L:List α),decide (0<=jT (cv p L))=L.any p
 |[]=>rfl
 |x::l=>by
  have a:=Iq p l
  rw[cv,AB]
  by_cases h:p x=true
  ·rw[au h,h];rfl
  ·rw[ar h,Bool.eq_false_iff.2 h,wN,<-a]
   cases cv p l with
   |none=>rfl
   |some k=>rw[aT (by simp[jT]:(0:Int)<=jT (some k)),aT];simp[jT];omega
def TK{w:aa}{v:ab}{a:List (List ab)}(h:bN 4 w v a)(q:ab)(p:List ab->Bool)
 (I:∀b x0 x1 x2 x3,BW w b->[x0,x1,x2,x3]∈a->CB 282 #[aG #[x0,x1,x2,x3],q] b (aK (p [x0,x1,x2,x3]))):
 CB 231 #[v,.func (.func 282) #[] #[q]] w (O (jT (cv p a))):=by
 have b:=Z (ae.start w [])
 have D:=Z h
 obtain⟨A,N,rfl,J⟩:=bN.form h
 have L:=h.1
 have R:a.length<=9223372036854775807:=J
 have C:=Z I
 have E:=Z L
 go_enter func231,ntmps231
 go_wp2
 go_loopw [8] (λ d wr=>∃j:Nat,j<=a.length/\d=O (j:Int)/\ae w wr [] []/\ai (∀i (c:i<a.length),i<j->p a[i]=false)) (λ d _=>a.length-(intOf d).toNat)
 case atStart=>exact⟨0,bf _,rfl,b.U,Z (by intro i c h;omega)⟩
 case round=>
  obtain⟨j,Q,rfl,K,f⟩:=hrel
  have b:=Z K
  by_cases e:j<a.length
  ·have G:=D.U.below b.U.aq
   obtain⟨bb,o,F,hx⟩:=G.at (j:=j) e
   subst F
   have y:=E.U _ (eR e)
   have x:=eR e
   obtain⟨X,t⟩:∃X,a[j]=X:=⟨_,rfl⟩
   rw[t] at hx y x
   obtain⟨x0,x1,x2,x3,rfl⟩:∃x0 x1 x2 x3,X=[x0,x1,x2,x3]:=by
    match X,y with
    |[x0,x1,x2,x3],_=>exact⟨x0,x1,x2,x3,rfl⟩
   have u:=C.U wr x0 x1 x2 x3 b.U.aq x
   have m:=Z hx
   have H:(j:Int)<(a.length:Int):=by omega
   obtain⟨B,s⟩:∃B,p [x0,x1,x2,x3]=B:=⟨_,rfl⟩
   rw[s] at u
   have n:=Z t;have l:=Z s
   have d:=Z e
   have k:=Z u
   cases B with
   |true=>
    have g:ai (cv p a=some j):=Z (xX d.U (λ i c=>f.U i (by have:=d.U;omega) c) (by rw[n.U];exact l.U))
    go_wp2_with(first|refine hj rfl 59 4 rfl rfl m.U rfl V ?_|go_at_call 282;refine KC b k.U λ M b=>?_)
    go_ret
    exact⟨by rw[g.U];rfl,b.U.aq⟩
   |false=>
    have z:ai (∀i (c:i<a.length),i<j+1->p a[i]=false):=Z (λ i c P=>by
     rcases lX i j with r|r
     ·exact f.U i c r
     ·obtain rfl:i=j:=by omega
      rw[n.U];exact l.U)
    go_wp2_with(first|refine hj rfl 59 4 rfl rfl m.U rfl V ?_|go_at_call 282;refine KC b k.U λ M b=>?_)
    go_roundw
    case rel=>exact⟨j+1,by have:=d.U;omega,by go_num,b.U,z⟩
    case measure=>(have:=d.U;simp[intOf];omega)
  ·have g:ai (cv p a=none):=Z (xZ (λ i c=>f.U i c W))
   have H:decide (j<a.length)=false:=by simp;omega
   go_wp2
   go_ret
   exact⟨by rw[g.U];rfl,b.U.aq⟩
def TL{w:aa}{v:ab}{a:List (List ab)}(h:bN 4 w v a)(q:ab)(p:List ab->Bool)
 (I:∀b x0 x1 x2 x3,BW w b->[x0,x1,x2,x3]∈a->CB 281 #[aG #[x0,x1,x2,x3],q] b (aK (p [x0,x1,x2,x3]))):
 CB 280 #[v,.func (.func 281) #[] #[q]] w (O (jT (cv p a))):=by
 have b:=Z (ae.start w [])
 have D:=Z h
 obtain⟨A,N,rfl,J⟩:=bN.form h
 have L:=h.1
 have R:a.length<=9223372036854775807:=J
 have C:=Z I
 have E:=Z L
 go_enter func280,ntmps280
 go_wp2
 go_loopw [8] (λ d wr=>∃j:Nat,j<=a.length/\d=O (j:Int)/\ae w wr [] []/\ai (∀i (c:i<a.length),i<j->p a[i]=false)) (λ d _=>a.length-(intOf d).toNat)
 case atStart=>exact⟨0,bf _,rfl,b.U,Z (by intro i c h;omega)⟩
 case round=>
  obtain⟨j,Q,rfl,K,f⟩:=hrel
  have b:=Z K
  by_cases e:j<a.length
  ·have G:=D.U.below b.U.aq
   obtain⟨bb,o,F,hx⟩:=G.at (j:=j) e
   subst F
   have y:=E.U _ (eR e)
   have x:=eR e
   obtain⟨X,t⟩:∃X,a[j]=X:=⟨_,rfl⟩
   rw[t] at hx y x
   obtain⟨x0,x1,x2,x3,rfl⟩:∃x0 x1 x2 x3,X=[x0,x1,x2,x3]:=by
    match X,y with
    |[x0,x1,x2,x3],_=>exact⟨x0,x1,x2,x3,rfl⟩
   have u:=C.U wr x0 x1 x2 x3 b.U.aq x
   have m:=Z hx
   have H:(j:Int)<(a.length:Int):=by omega
   obtain⟨B,s⟩:∃B,p [x0,x1,x2,x3]=B:=⟨_,rfl⟩
   rw[s] at u
   have n:=Z t;have l:=Z s
   have d:=Z e
   have k:=Z u
   cases B with
   |true=>
    have g:ai (cv p a=some j):=Z (xX d.U (λ i c=>f.U i (by have:=d.U;omega) c) (by rw[n.U];exact l.U))
    go_wp2_with(first|refine hj rfl 240 4 rfl rfl m.U rfl V ?_|go_at_call 281;refine KC b k.U λ M b=>?_)
    go_ret
    exact⟨by rw[g.U];rfl,b.U.aq⟩
   |false=>
    have z:ai (∀i (c:i<a.length),i<j+1->p a[i]=false):=Z (λ i c P=>by
     rcases lX i j with r|r
     ·exact f.U i c r
     ·obtain rfl:i=j:=by omega
      rw[n.U];exact l.U)
    go_wp2_with(first|refine hj rfl 240 4 rfl rfl m.U rfl V ?_|go_at_call 281;refine KC b k.U λ M b=>?_)
    go_roundw
    case rel=>exact⟨j+1,by have:=d.U;omega,by go_num,b.U,z⟩
    case measure=>(have:=d.U;simp[intOf];omega)
  ·have g:ai (cv p a=none):=Z (xZ (λ i c=>f.U i c W))
   have H:decide (j<a.length)=false:=by simp;omega
   go_wp2
   go_ret
   exact⟨by rw[g.U];rfl,b.U.aq⟩
def TJ{w:aa}{v:ab}{a:List (List ab)}(h:bN 2 w v a)(q:ab)(p:List ab->Bool)
 (I:∀b x0 x1,BW w b->[x0,x1]∈a->CB 318 #[aG #[x0,x1],q] b (aK (p [x0,x1]))):
 CB 317 #[v,.func (.func 318) #[] #[q]] w (O (jT (cv p a))):=by
 have b:=Z (ae.start w [])
 have D:=Z h
 obtain⟨A,N,rfl,J⟩:=bN.form h
 have L:=h.1
 have R:a.length<=9223372036854775807:=J
 have C:=Z I
 have E:=Z L
 go_enter func317,ntmps317
 go_wp2
 go_loopw [8] (λ d wr=>∃j:Nat,j<=a.length/\d=O (j:Int)/\ae w wr [] []/\ai (∀i (c:i<a.length),i<j->p a[i]=false)) (λ d _=>a.length-(intOf d).toNat)
 case atStart=>exact⟨0,bf _,rfl,b.U,Z (by intro i c h;omega)⟩
 case round=>
  obtain⟨j,Q,rfl,K,f⟩:=hrel
  have b:=Z K
  by_cases e:j<a.length
  ·have G:=D.U.below b.U.aq
   obtain⟨bb,o,F,hx⟩:=G.at (j:=j) e
   subst F
   have y:=E.U _ (eR e)
   have x:=eR e
   obtain⟨X,t⟩:∃X,a[j]=X:=⟨_,rfl⟩
   rw[t] at hx y x
   obtain⟨x0,x1,rfl⟩:∃x0 x1,X=[x0,x1]:=by
    match X,y with
    |[x0,x1],_=>exact⟨x0,x1,rfl⟩
   have u:=C.U wr x0 x1 b.U.aq x
   have m:=Z hx
   have H:(j:Int)<(a.length:Int):=by omega
   obtain⟨B,s⟩:∃B,p [x0,x1]=B:=⟨_,rfl⟩
   rw[s] at u
   have n:=Z t;have l:=Z s
   have d:=Z e
   have k:=Z u
   cases B with
   |true=>
    have g:ai (cv p a=some j):=Z (xX d.U (λ i c=>f.U i (by have:=d.U;omega) c) (by rw[n.U];exact l.U))
    go_wp2_with(first|refine hj rfl 368 2 rfl rfl m.U rfl V ?_|go_at_call 318;refine KC b k.U λ M b=>?_)
    go_ret
    exact⟨by rw[g.U];rfl,b.U.aq⟩
   |false=>
    have z:ai (∀i (c:i<a.length),i<j+1->p a[i]=false):=Z (λ i c P=>by
     rcases lX i j with r|r
     ·exact f.U i c r
     ·obtain rfl:i=j:=by omega
      rw[n.U];exact l.U)
    go_wp2_with(first|refine hj rfl 368 2 rfl rfl m.U rfl V ?_|go_at_call 318;refine KC b k.U λ M b=>?_)
    go_roundw
    case rel=>exact⟨j+1,by have:=d.U;omega,by go_num,b.U,z⟩
    case measure=>(have:=d.U;simp[intOf];omega)
  ·have g:ai (cv p a=none):=Z (xZ (λ i c=>f.U i c W))
   have H:decide (j<a.length)=false:=by simp;omega
   go_wp2
   go_ret
   exact⟨by rw[g.U];rfl,b.U.aq⟩
section
section
variable{ops:Array Oper}{rest:List Oper}{op:Oper}{a:Act}{Q:Exit->Act->aa->Prop}{w0 w:aa}{fn:Func}{R:Ending->aa->Prop}
def Nl(m:Region.wanted op (yielded ops a.tmps)=true)(b:TypeId)(o:op.op= .load b X)(hx:a.eval X= .pointer (some ⟨g,n,none⟩))(j:BW w0 w){v:ab}(k:w0.cell? ⟨g,n,none⟩=some v)
 (f:kx b=true) (i:wpList prog ops Q rest (a.put op.dst v) w):wpList prog ops Q (op::rest) a w:=by
 obtain⟨d,c,e⟩:=vH f
 refine eF m λ K h=> ?_
 have l:w.cell? ⟨g,n,none⟩=some v:=qH j rfl k
 unfold Oper.wp execOp
 simp only[o,hx,Instr.loadAt,Instr.sureAddr,cO,dN,dd,we w _ b v d l c e]
 exact h _ _ i
def wQ{p q s:Tmp}(h:fn.results=#[.tmp p,.tmp q,.tmp s]){u v x:ab}(f:a.tmps.toList[p]?=some u)(g:a.tmps.toList[q]?=some v)(i:a.tmps.toList[s]?=some x)(hd:a.defers=[])(e:R (ao (aM #[u,v,x])) w):bodyPost prog fn R .ret a w:=by
 refine cr (v:=aM #[u,v,x]) ?_ hd e;have b:a.tmps[p]?.getD undef=u:=by rw[<-tO];exact pa f
 have c:a.tmps[q]?.getD undef=v:=by rw[<-tO];exact pa g
 have d:a.tmps[s]?.getD undef=x:=by rw[<-tO];exact pa i
 simp[results,h,b,c,d]
end
def pH(p:HD->Bool)(x:List ab):Bool:=match x with
 |[.int .u64 a,.int .u64 b,.string r,.string s]=>p ⟨a.toNat,b.toNat,r,s⟩
 |_=>false
def Kf(p:HD->Bool)(h:HD):pH p h.cells=p h:=by
 rfl
def R6(p:HD->Bool)(L:List HD):cv (pH p) (hN L)=cv p L:=by
 unfold hN;rw[xY,show(λ x=>pH p (HD.cells x))=p from funext (Kf p)]
def Vv{a b c d:ab}(h:[a,b,c,d]∈hN F):∃x∈F,a=U (x.size:Int)/\b=U (x.time:Int)/\c=ad x.aE/\d=ad x.a:=by
 obtain⟨x,hx,e⟩:=eH.1 h;grind
def Vy(x y:Nat)(w:aa):(Builtin.min_ #[46,46] 46 #[U (x:Int),U (y:Int)]).run prog w= .ok (U ((min x y:Nat):Int)) w:=run_min_int2 w _ _ _ _ _ _ _ W
def Vu(x y:Nat)(w:aa):(Builtin.max_ #[46,46] 46 #[U (x:Int),U (y:Int)]).run prog w= .ok (U ((max x y:Nat):Int)) w:=run_max_int2 w _ _ _ _ _ _ _ W
def VY(s:ST){A:ab}{w:aa}(h:jw w A s.f):Calls prog 256 #[s.val A] w λ r b=>(match s.iE with|none=>r=ao (aM #[U 0,U 0,aK false])|some p=>r=ao (aM #[U (p.1:Int),U (p.2:Int),aK true]))/\BW w b:=by
 have b:=Z (ae.start w []);have t:=Z h;obtain⟨pA,I,rfl⟩:=h.form;have y:=mJ s.aR;have u:=ir s.aR;have f3:((s.f.length:Int)==0)=decide (s.f.length=0):=by rw[bw];simp
 by_cases f:s.aR=⟨#[]⟩
 ·rw[aT f] at y u;by_cases q:s.bz=true
  ·cases k:s.f with
   |nil=>
    have e:s.iE=none:=by unfold ST.iE;rw[au ⟨f,q⟩,k]
    rw[e];rw[k] at f3;have f4:((0:Nat):Int)=0:=rfl;simp only[ub]
    go_enter Bc,Bk
    go_wp2_with(first|(first|(refine KL b 0 9 ?_)|(refine KL b 0 4 ?_)|(refine KL b 0 60 ?_))|(refine Bx b.U rfl 62 1 rfl rfl (s.cells _) rfl λ i r m d=>?_;replace b:=Z d))
    refine wQ rfl rfl rfl rfl rfl ?_;exact⟨rfl,b.U.aq⟩
   |cons x l=>
    have e:s.iE=some (min x.size s.az.size,max x.size s.az.size):=by unfold ST.iE;rw[au ⟨f,q⟩,k]
    rw[e];rw[k] at f3 t;have E:=t.U;obtain⟨bb,o,C,hx⟩:=E.at (j:=0) (by simp[hN]);subst C;have F:w.rangeAt bb (o+0*4) x.cells:=hx;have f5:decide ((x::l).length=0)=false:=by simp
    rw[f5] at f3;have N:(0:Int)<((x::l).length:Int):=by simp
    have L:=λ g=>Vy x.size s.az.size g;have K:=λ g=>Vu x.size s.az.size g;generalize M:(x::l).length=H at*;have z:=F 0 _ rfl;simp only[qn,fA] at z;have B:=Z z
    go_enter Bc,Bk
    go_upto_region 4 with(first|(first|(refine KL b 0 9 ?_)|(refine KL b 0 4 ?_)|(refine KL b 0 60 ?_))|(refine Bx b.U rfl 62 1 rfl rfl (s.cells _) rfl λ i r m d=>?_;replace b:=Z d)|((with_reducible show wpList _ _ _ (⟨_,.load 46 _,_,_,_,_⟩::_) _ _);(refine Nl rfl 46 rfl rfl b.U.aq B.U V ?_)))
    refine ae.region b.U (n:=12) (S:=ba [Y.row i 62 (s.cells (ag (some ⟨bb,o,none⟩) H I))]) V V (λ J G=>(aX (G.in mZ) bg)) (λ J d c=> ?_);replace b:=Z d;refine V2 0 25 c ?_;refine V2 1 26 c ?_;refine V2 2 27 c ?_;refine L2 3 28 0 46 c ?_;refine W2 4 29 (v:=U ((min x.size s.az.size:Nat):Int)) rfl rfl (Or.inl ⟨by kernel_rfl,λ g D=>by go_simp⟩) c ?_;refine V2 5 30 c ?_;refine V2 6 31 c ?_;refine V2 7 32 c ?_;refine L2 8 33 0 46 c ?_;refine W2 9 34 (v:=U ((max x.size s.az.size:Nat):Int)) rfl rfl (Or.inl ⟨by kernel_rfl,λ g D=>by go_simp⟩) c ?_;refine V2 10 2 c ?_;refine V2 11 3 c ?_;refine ay.tail V ?_;simp only[ck,bH]
    go_wp2
    refine wQ rfl rfl rfl rfl rfl ?_;exact⟨rfl,b.U.aq⟩
  ·have e:s.iE=none:=by unfold ST.iE;rw[ar (λ h=>q h.2)]
   rw[e]
   go_enter Bc,Bk
   go_wp2_with(first|(first|(refine KL b 0 9 ?_)|(refine KL b 0 4 ?_))|(refine Bx b.U rfl 62 1 rfl rfl (s.cells _) rfl λ i r m d=>?_;replace b:=Z d))
   refine wQ rfl rfl rfl rfl rfl ?_;exact⟨rfl,b.U.aq⟩
 ·have e:s.iE=none:=by unfold ST.iE;rw[ar (λ h=>f h.1)]
  rw[e];rw[bm f] at y u
  go_enter Bc,Bk
  go_wp2_with(first|(refine KL b 0 9 ?_)|(refine Bx b.U rfl 62 1 rfl rfl (s.cells _) rfl λ i r m d=>?_;replace b:=Z d))
  refine wQ rfl rfl rfl rfl rfl ?_;exact⟨rfl,b.U.aq⟩
end
variable{i:Nat}{o:Oper}
def yW(a:Act)(v:ab):a.put none v=a:=rfl
def KJ(t:Array ab)(d:List Deferred)(k:Tmp)(v:ab):Act.put ⟨t,d⟩ (some k) v=⟨t.setIfInBounds k v,d⟩:=rfl
def WE(b:List ab)(o:Nat)(c:List ab)(h:o+c.length<=b.length):fo b o c=b.take o++(c++b.drop (o+c.length)):=by
 have d:b=b.take o++((b.drop o).take c.length++b.drop (o+c.length)):=by
  rw[<-List.drop_drop,nf,nf]
 have e:(b.take o).length=o:=by simp;omega
 have:=Dw c (b.take o) ((b.drop o).take c.length) (b.drop (o+c.length)) (by grind);grind
def Y2(w:aa)(h C D elem:TypeId)(size:Nat)(g o c p:Nat)(x:Addr)(e B:Nat)(t:TypeId)(f:Array ab)(b:List ab)
 (A:prog.underlying h=some (.slice elem)) (y:(prog.info? elem).map (·.size)=some size)
 (r:ah w g t f) (u:b.length=Nat.min e c*size)
 (z:∀j v,b[j]?=some v->w.cell? (x.add j)=some v) (q:o+b.length<=f.size) (h1:∀v∈b,v.oneCell'=true):
 (Builtin.copy_ #[h,C] D #[ag (some ⟨g,o,none⟩) c p,ag (some x) e B]).run prog w=
  .ok (goInt (Nat.min e c)) (w.setCells g o b):=by
 have s:=run_loadCells_list (P:=prog) w x b z
 have l:=r.rH (o:=o) (n:=b.length) q
 have k:=LH (P:=prog) g o b 0 w (λ j d=>by simpa using(l j d).1) (λ j d=>by simpa using(l j d).2) h1
 simp only[fA] at k
 cases d:prog.info? elem with
 |none=>grind
 |some i=>
  have j:i.size=size:=by simpa[d] using y
  simp[Builtin.copy_,hX A,Builtin.lenOf,Builtin.firstCells,sizeOf,typeInfo,d,j,<-u,s,k]
section
variable{w wr:aa}{m:List Nat}{aj:List Y}{ops:Array Oper}{rest:List Oper}{op:Oper}{a:Act}{Q:Exit->Act->aa->Prop}
def ab6(w:aa){a:Act}{K:Act->aa->Prop}{Q:Exit->Act->aa->Prop}(d s:Operand)(t b:TypeId)
 (f:o.op= .call {callee:= .builtin .copy,args:=#[d,s],argTypes:=#[t,b]}) (v u:ab) (hd:a.eval d=v) (i:a.eval s=u) {c:ab} {e:aa}
 (g:(Builtin.copy_ #[t,b] o.type #[v,u]).run prog w= .ok c e) (h:K (a.put o.dst c) e):o.wp prog a w K Q:=by
 unfold Oper.wp execOp
 simp only[f,resolve,invoke,builtin,cO,dN,dd,ke,bZ,eg,hd,i,g]
 exact h
def As(h:ae w wr m aj)(A:Region.wanted op (yielded ops a.tmps)=true){e:TypeId}{size bytes:Nat}(o:cW t e size bytes){x:Operand}(C:op.op= .call {callee:= .builtin .copy,args:=#[X,x],argTypes:=#[t,t]})
 (l:Nat) {f:TypeId} {d:List ab} (p:aj[l]?=some (Y.row g f d)) {dl:Nat} (hd:a.eval X=ag (some ⟨g,n,none⟩) dl k)
 {y:Addr} {r:Nat} (hx:a.eval x=ag (some y) i r) (b:Nat) (q:b<=i/\b<=dl/\(b=i\/b=dl)) (c:List ab) (E:c.length=b*size) (B:∀j v,c[j]?=some v->wr.cell? (y.add j)=some v) (D:n+b*size<=d.length) (h1:∀v∈c,v.oneCell'=true)
 (u:∀j,ae w j m (aj.set l (Y.row g f (d.take n++(c++d.drop (n+c.length)))))->wpList prog ops Q rest (a.put op.dst (goInt b)) j):wpList prog ops Q (op::rest) a wr:=by
 obtain⟨F,z,e1,e2,e3,e4,e5⟩:=o.el
 have v:=h.row p
 have q:Nat.min i dl=b:=by
  show min i dl=b
  omega
 have j:=Y2 wr t t op.type e size g n dl k y i r f d.toArray c o.a (by grind) v (by grind) B (by grind) h1
 rw[q] at j
 refine eF A λ _ s=>ab6 wr X x t t C _ _ hd hx j (s _ _ (u _ ?_))
 rw[<-WE d n c W]
 exact h.cells l p n c
def LB(h:ae w wr m aj)(i:Nat){b:List ab}(d:aj[i]?=some (Y.row g t b))(o n:Nat):∀j v,((b.drop o).take n)[j]?=some v->wr.cell? ((⟨g,o,none⟩:Addr).add j)=some v:=by
 intro j v e;have c:=h.row d;rw[gp,c.cell];grind
end
def vN{w wr:aa}{m:List Nat}{aj:List Y}(h:ae w wr m aj)(i:Nat){size:Nat}{v:ab}{xs:List ab}(c:aj[i]?=some (Y.ow t size v n xs))(s:n≠0):
 ∃g b d,v=ag (some ⟨g,0,none⟩) n b/\n<=b/\b<=maxLen/\(xs++d).length=b*size/\ae w wr m (aj.set i (Y.row g t (xs++d))):=by
 have o:wr.ownsRow 0 t size v n xs:=h.get c
 obtain⟨q,⟨-,r⟩|⟨g,b,d,rfl,-,e,f,l,u,p⟩⟩:=o
 ·grind
 ·refine⟨g,b,d.toList.drop (n*size),rfl,f,l,?_,?_⟩
  ·grind
  ·refine h.at i c ⟨aW.refl _ _ _,?_,λ k j=> .inl ?_⟩
   ·show ah wr g t _
    rw[<-p,nf]
    exact e
   ·have:k=g:=by simpa[Y.row] using j
    subst this
    simp[Y.ow,Value.ownBlock]
def v8{w wr:aa}{m:List Nat}{aj:List Y}(h:ae w wr m aj)(i:Nat){c:List ab}(d:aj[i]?=some (Y.row g t c))(n b size:Nat)(p:n<=b)(o:b<=maxLen)(l:c.length=b*size)(e:List ab)(hx:c.take (n*size)=e):
 ae w wr m (aj.set i (Y.ow t size (ag (some ⟨g,0,none⟩) n b) n e)):=by
 have f:=h.row d
 refine h.at i d ⟨aW.refl _ _ _,⟨?_,.inr ⟨g,b,c.toArray,rfl,bf _,f,p,o,by omega,by omega⟩⟩,λ k j=> .inl ?_⟩
 ·rw[<-hx,eA,l]
  simp_all
 ·have:k=g:=by simpa[Y.ow,Value.ownBlock] using j
  subst this
  simp[Y.row]
def pO(a:af):af:=⟨(ShaM.sum (a.extract 0 (min a.size 100)).data.toList).toArray⟩
abbrev BZ(a:af):ab:=aG #[ad a,O 2,O 4,U 1,U 3,U 2,U 8,U 0,O 3,O 2]
def W7(a:af)(w:aa):CB 20 #[ad a,O 2] w (BZ (pO a)):=by
 have b:=Z (ae.start w []);have h:(a.extract 0 (min a.size 100)).size<=100000000:=by rw[ib];omega
 have d:=Z (λ c=>wb (a.extract 0 (min a.size 100)) h c);have g:(⟨(ShaM.sum (a.extract 0 (min a.size 100)).data.toList).toArray⟩:af)=pO a:=rfl;rw[g] at d;generalize pO a=n at*;have e:min (a.size:Int) 100=((min a.size 100:Nat):Int):=by omega
 obtain⟨c,f⟩:∃c,min a.size 100=c:=⟨_,rfl⟩;rw[f] at e d;have l:(c:Int)<=(a.size:Int):=by omega
 have m:(0:Int)<=(c:Int):=by omega
 go_enter func20,ntmps20
 go_wp2_with(first|refine KS b λ i b=>?_|refine KA b _ 4 acf λ j i k b=>?_|go_at_call 6;refine KC b (d.U _) λ o b=>?_)
 refine ha b.U 0 rfl 50 10 rfl rfl V rfl rfl ?_;exact⟨rfl,b.U.aq⟩
abbrev AC.cells(a:AC):List ab:=[O a.c,O a.a,O a.b,U (a.n:Int),ad a.s]
variable{H h:HD}{A:Option Addr}{S:ST}
def ML{a b:af}(h:a.toList=b.toList):a=b:=by
 rw[kI,kI] at h;exact su h
def ZR(w:aa):bq w (ag none 0 0) []:=⟨none,0,rfl,bf _,λ i a=>absurd a (ij i)⟩
def Wh(h:D.bX=true):D.Ok:=by
 have c:D.right=true:=by unfold BD.bX at h;rw[dL] at h;exact h.1
 obtain⟨a,b,i,j⟩:=vZ c;obtain⟨-,d,e,-,-⟩:=mx a;obtain⟨-,f,g,-,-⟩:=mx b;exact⟨⟨by omega,by omega⟩,⟨by omega,by omega⟩,by omega⟩
def GZ{P:List af}(a:gz h H P=some D):D.bX=true:=by
 unfold gz at a;grind
def Pc{w:aa}{v:ab}(f:bq w v [])(g:h.size=H.size)(b:gz h H []=some D):Calls prog 229 #[h.val,H.val,v] w λ e a=>(∃A c,e=ao (aM #[D.val (ag A D.e.length c),O 0])/\bq a (ag A D.e.length c) D.e/\(∀k∈(Y.sr (ag A D.e.length c) D.e).bs,w.heap.size<=k))/\BW w a:=
 (RU h H f (bf _) g (by unfold gz at b;grind)).mono λ e a a=>by
  unfold Ao at a;rw[b] at a
  obtain⟨⟨k,e,d,j⟩,i⟩:=a
  obtain⟨A,c,rfl⟩:=d.form
  grind
def So(b:h.size=H.size)(a:gz h H []=some D):D.a.size=D.b.size:=by unfold gz at a;grind
def LO(b:H.size=h.size)(a:H.aE=h.aE):lH h (H::F)=some none:=by rw[lH,au b,au a]
def LP(c:H.size=h.size)(b:¬H.aE=h.aE)(a:gz H h []=some D):lH h (H::F)=some (some D):=by rw[lH,au c,ar b,a]
def ET{w d:aa}{p q:ST×Nat}(g:p=q){c:Nat}{e:Ending}(f:e=ao (aM #[q.1.val (ag A q.1.f.length c),O (q.2:Int)]))(a:ae w d [] I)(i:Nat)(b:I[i]?=some (Y.ho (ag A q.1.f.length c) q.1.f)):xk w p e d:=by
 subst g;exact⟨A,c,f,ru (a.get b) (a.nQ (cX b)),a.aq⟩
def Mx{a:af}{room:Nat}(b:S.aR=⟨#[]⟩)(c:h.check a=true)(d:S.bz=false):S.take a h room=({S with bz:=true,az:=h},1):=by unfold ST.take;grind
def Mz{a:af}{room:Nat}(b:S.aR=⟨#[]⟩)(c:h.check a=true)(d:S.bz=true)(e:lH h (S.az::S.f)=some none):S.take a h room=(S,2):=by unfold ST.take;grind
def My{a:af}{room:Nat}(c:S.aR=⟨#[]⟩)(d:h.check a=true)(e:S.bz=true)(f:lH h (S.az::S.f)=some (some D)):S.take a h room=({S with aR:=D.enc},5):=by unfold ST.take;grind
def aat{w:aa}(G:cq w)(s:ST){x:ab}(h:jw w x s.f)(c2:s.f.length<=1000)(t:af)(b1:t.size<=800000)(k:HD)(m:Nat)(c3:m<=1000000)(a5:A7 s t k):
 Calls prog 165 #[s.val x,ad t,k.val,O (m:Int)] w (xk w (s.take t k m)):=by
 have a:=Z (ae.start w [])
 have b4:=Z G
 have d:=λ(f:aa) (c:BW w f)=>vp (G.below c) t k b1
 have M:=Z (λ f (c:BW w f)=>Dz s (h.below c) W)
 have N:=Z h
 obtain⟨pA,S,rfl⟩:=h.form
 have I:=mJ s.aR
 have H:=ir s.aR
 clear G h
 obtain⟨b,e,j⟩:=a5
 rw[aT b] at I H
 rw[e] at d
 have y:=Z b
 have J:=Z d
 have z:=Z e
 clear d e b
 cases p:s.bz with
 |false=>
  have r:=Z (Mx (room:=m) y.U z.U p)
  obtain⟨v,o,u,l⟩:=s
  simp only at p I H
  subst p
  clear j
  go_enter func165,ntmps165
  go_upto_region 7 with(first|refine Kl a ?_|refine KT a 7 ?_|refine KT a 4 ?_|refine KS a λ d a=>?_|refine KA a _ 8 mR λ E d a9 a=>?_|refine KB a 62 4 ((ST.cells ⟨false,o,u,l⟩ _)) λ C d a7 a=>?_|refine KB a 59 6 (k.cells) λ D d a8 a=>?_|go_at_call 228;(refine(M.U _ a.U.aq).mono ?_);rintro e q ⟨T,X,rfl,n,c⟩;replace a:=Z (a.U.gT c n);clear c n|go_at_call 143;(refine(J.U _ a.U.aq).mono ?_);rintro e q ⟨rfl,c⟩;replace a:=Z (a.U.below c);clear c)
  refine RG a 3 [2] λ b3 a g=>?_
  refine WR 0 4 g ?_
  refine VV [1] g ?_
  clear g
  refine ay.mE (i:=2) V zD rfl ?_
  (refine One.wo a.U V rfl 3 rfl 4 rfl rfl rfl V rfl rfl λ d b=>?_;simp only[fo,av,ax,bH,ck,dJ,dr] at b)
  replace a:=Z b;clear b
  refine⟨bI a [2],?_⟩
  refine WT ?_
  go_wp2_with(first|refine KT a 7 ?_|refine KS a λ d a=>?_)
  refine fb a.U 1 rfl 62 7 rfl rfl rfl V rfl rfl ?_
  exact ET r.U rfl a.U 0 rfl
 |true=>
  have l:=Z (λ f (c:BW w f)=>(N.U.below c).src uD zD (IT s.f))
  have b0:=my s.f
  have K:=Z p
  obtain⟨v,o⟩:=j p
  have a2:=Z o
  have u:=Z v
  clear j v o
  go_enter func165,ntmps165
  go_upto_region 9 with(first|refine Kl a ?_|refine KT a 4 ?_|refine KA a _ 8 mR λ E d a9 a=>?_|refine KB a 62 4 (s.cells _) λ C d a7 a=>?_|refine KB a 59 6 (k.cells) λ D d a8 a=>?_|go_at_call 143;(refine(J.U _ a.U.aq).mono ?_);rintro e q ⟨rfl,c⟩;replace a:=Z (a.U.below c);clear c)
  go_wp2_with(first|refine KT a 4 ?_|refine Kl a ?_|(with_reducible show cn);(refine Mk a.U rfl 40 rfl (some 1) 59 [_,_,_,_] (by go_simp;(exact⟨rfl,rfl⟩)) ?_;intro b7 d c1 b;replace a:=Z b;clear b;simp only[bc])|have b:=a.U.made 0 rfl 1 4 rfl zD;simp only[av,ax] at b;replace a:=Z b;clear b;refine Ac a.U rfl HO rfl 0 rfl rfl rfl (l.U _ a.U.aq) (by unfold maxLen;omega) W ?_;intro A B d b;simp only[av,ax] at b;replace a:=Z b;clear b)
  obtain⟨F,hF⟩:∃F,s.az::s.f=F:=⟨_,rfl⟩
  have j:1+s.f.length=F.length:=by rw[<-hF];simp[qk]
  have o:(1:Int)+(s.f.length:Int)=(F.length:Int):=by omega
  have b:ae w d [] [Y.ho (ag A F.length B) F,Y.row E 62 [aK false,U 0,U 0,ad ⟨#[]⟩,ad ⟨#[]⟩,ag none 0 0,ad ⟨#[]⟩],Y.row D 59 k.cells,Y.row C 62 (s.cells (ag pA s.f.length S))]:=by
   have b:=a.U
   have e1:1+(hN s.f).length=F.length:=by rw[my];exact j
   have e2:([U (s.az.size:Int),U (s.az.time:Int),ad s.az.aE,ad s.az.a]++(hN s.f).flatten)=(hN F).flatten:=by rw[<-hF];rfl
   rw[e1,e2] at b
   exact b
  clear a
  have a:=Z b
  clear b
  rw[j,o]
  have a0:=Z hF
  have b8:F.length<=1001:=by omega
  have v:0<F.length:=by omega
  clear j o hF p I H b0
  go_loopw [45] (λ b wr=>∃j:Nat,ai (j=0)/\b=O (j:Int)/\ai (ae w wr [] [Y.ho (ag A F.length B) F,Y.row E 62 [aK false,U 0,U 0,ad ⟨#[]⟩,ad ⟨#[]⟩,ag none 0 0,ad ⟨#[]⟩],Y.row D 59 k.cells,Y.row C 62 (s.cells (ag pA s.f.length S))])) (λ b _=>0)
  case atStart=>exact⟨0,Z rfl,rfl,a⟩
  case round=>
   clear a l
   obtain⟨j,L,rfl,a⟩:=hrel
   have b:j<F.length:=by rw[L.U];exact v
   have l:jw _ (ag A F.length B) F:=sS (a.U.get (i:=0) rfl) W
   obtain⟨bb,o,a4,hx⟩:=l.at (j:=j) (by rw[my];exact b)
   subst a4
   have Q:F[j]=s.az:=by have e:=a0.U;have e2:=L.U;subst e e2;rfl
   have R:wr.rangeAt bb (o+j*4) s.az.cells:=by
    have:(hN F)[j]'(by rw[my];exact b)=s.az.cells:=by rw[<-Q];simp[hN]
    rw[<-this];exact hx
   have P:=Z R
   have b9:(j:Int)<(F.length:Int):=by omega
   have c4:((s.az.size:Int)==(k.size:Int))=true:=by rw[u.U];simp
   clear hx R l Q b v
   by_cases l:s.az.aE=k.aE
   ·have b2:(s.az.aE.toList==k.aE.toList)=true:=by rw[l];simp
    have r:=Z (Mz (room:=m) y.U z.U K.U (LO u.U l))
    clear l
    go_wp2_with(first|refine Kl a ?_|refine KT a 7 ?_|refine KS a λ d a=>?_|refine KA a _ 11 oo λ a3 d a6 a=>?_|refine hj rfl 59 4 rfl rfl P.U rfl V ?_|go_at_call 228;(refine(M.U _ a.U.aq).mono ?_);rintro e q ⟨T,X,rfl,n,c⟩;replace a:=Z (a.U.gT c n);clear c n)
    refine fb a.U 3 rfl 62 7 rfl rfl rfl V rfl rfl ?_
    exact ET r.U rfl a.U 0 rfl
   ·have b2:(s.az.aE.toList==k.aE.toList)=false:=by rw[dP];intro h;exact l (ML h)
    obtain⟨b,v⟩:=Gc.1 (a2.U.resolve_left l)
    have a1:=Z (λ f (c:BW w f)=>Pc (ZR f) u.U v)
    have Q:=Z (λ f x h=>Ih b (Wh (GZ v)) x f h)
    have R:=Z (λ f (c:BW w f)=>Sp s (N.U.below c) W b.enc)
    have r:=Z (My (room:=m) y.U z.U K.U (LP u.U l v))
    clear l v
    go_upto_region 17 with(first|refine KT a 4 ?_|refine Kl a ?_|refine KS a λ d a=>?_|refine KA a _ 11 oo λ a3 d a6 a=>?_|refine KA a _ 12 iN λ b6 d c0 a=>?_|refine hj rfl 59 4 rfl rfl P.U rfl V ?_|go_at_call 229;(refine(a1.U _ a.U.aq).mono ?_);rintro e q ⟨⟨v,b5,rfl,l,f⟩,c⟩;replace a:=Z (a.U.join c (Y.sr _ b.e) l f);clear c f l)
    refine RG a 6 [6,0] λ b3 a g=>?_
    refine WR 0 7 g ?_
    refine WR 1 9 g ?_
    clear g
    refine KV 2 (en 168) 71 ?_
    refine(Q.U _ _ (a.U.get (i:=1) rfl)).mono ?_
    rintro e q ⟨rfl,c⟩
    replace a:=Z (a.U.below c)
    clear c
    refine⟨_,rfl,bI a [6,0],?_⟩
    simp only[aS,av,ax]
    refine KV 3 (en 230) 72 ?_
    refine(R.U _ a.U.aq).mono ?_
    rintro e q ⟨T,X,rfl,n,c⟩
    replace a:=Z (a.U.gT c n)
    clear c n
    refine⟨_,rfl,bI a [7,1],?_⟩
    simp only[aS,av,ax]
    have g:=bI a [7,1]
    refine VV [4,5] g ?_
    clear g
    refine WT ?_
    go_wp2_with(refine KS a λ d a=>?_)
    refine fb a.U 5 rfl 62 7 rfl rfl rfl V rfl rfl ?_
    exact ET r.U rfl a.U 0 rfl
