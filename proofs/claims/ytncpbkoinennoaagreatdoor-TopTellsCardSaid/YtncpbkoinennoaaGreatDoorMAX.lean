import Derived.Test.YtncpbkoinennoaaGreatDoorMAV
set_option linter.all false
set_option maxRecDepth 100000
set_option maxHeartbeats 0
namespace Go.Proofs.YtncpbkoinennoaaGreatDoor
open Go.RowKit Proofs.Tryz
attribute [local irreducible] wpList Calls
variable{I:List Y}{m:List Nat}{g n:Nat}{t:TypeId}
def Gr:fR 80:=hO func80 V V
def S2(a v1 v2 v3 v4 v5 v6 b c E d e f g h i j k l m n o p q r s t u v x y z A B C D:ab)(w:aa):(Instr.index 341 (aG #[a,v1,v2,v3,v4,v5,v6,b,c,E,d,e,f,g,h,i,j,k,l,m,n,o,p,q,r,s,t,u,v,x,y,z,A,B,C,D]) (O 0)).run prog w= .ok (aG #[a,v1,v2,v3,v4,v5,v6,b,c]) w:=by kernel_rfl
def S3(j v1 v2 v3 v4 v5 v6 D E i a b c d e f g h k l m n o p q r s t u v x y z A B C:ab)(w:aa):(Instr.index 341 (aG #[j,v1,v2,v3,v4,v5,v6,D,E,i,a,b,c,d,e,f,g,h,k,l,m,n,o,p,q,r,s,t,u,v,x,y,z,A,B,C]) (O 1)).run prog w= .ok (aG #[i,a,b,c,d,e,f,g,h]) w:=by kernel_rfl
def S4(j v1 v2 v3 v4 v5 v6 C D E k l m n o p q r a b c d e f g h i s t u v x y z A B:ab)(w:aa):(Instr.index 341 (aG #[j,v1,v2,v3,v4,v5,v6,C,D,E,k,l,m,n,o,p,q,r,a,b,c,d,e,f,g,h,i,s,t,u,v,x,y,z,A,B]) (O 2)).run prog w= .ok (aG #[a,b,c,d,e,f,g,h,i]) w:=by kernel_rfl
def S5(j v1 v2 v3 v4 v5 v6 C D E k l m n o p q r s t u v x y z A B a b c d e f g h i:ab)(w:aa):(Instr.index 341 (aG #[j,v1,v2,v3,v4,v5,v6,C,D,E,k,l,m,n,o,p,q,r,s,t,u,v,x,y,z,A,B,a,b,c,d,e,f,g,h,i]) (O 3)).run prog w= .ok (aG #[a,b,c,d,e,f,g,h,i]) w:=by kernel_rfl
def af.db{w wr a:aa}{size:Nat}{v:ab}{b:List ab}(h:af w wr m I)(e:BW wr a)(d:a.ownsRow wr.heap.size t size v n b):af w a m (Y.ow t size v n b::I):=
 h.join e (Y.ow t size v n b) (Wa d) (λ k f=>by
  have c:k∈v.ownBlock.toList:=f
  rcases d.2 with⟨rfl,-⟩|⟨g,i,j,rfl,l,-⟩
  ·simp[Value.ownBlock] at c
  ·simp[Value.ownBlock] at c
   omega)
def bP.form{w:aa}{v:ab}{L:List ag}(h:bP g w v L):∃A c,v=ad A L.length c:=by
 rcases h.2 with⟨rfl,a⟩|⟨e,b,d,rfl,-⟩
 ·exact⟨none,0,by rw[a]⟩
 ·exact⟨_,_,rfl⟩
def Kj{w wr:aa}(h:af w wr [] I){size:Nat}{v:ab}{d:List ab}{L:List ag}(i:Nat)(b:I[i]?=some (Y.ow t size v n d)):∀k∈(Y.sr v L).bs,w.heap.size<=k:=λ k c=>
 h.lu (dB b) k (by
  have a:k∈(if L=[] then [] else v.ownBlock.toList):=c
  split at a
  ·cases a
  ·exact a)
def Kk(v:ab)(n:Nat):∀k∈(Y.sr v []).bs,n<=k:=λ k b=>by
 have a:k∈(if([]:List ag)=[] then [] else v.ownBlock.toList):=b;rw[ax rfl] at a;cases a
def vf(a b:HD)(P:List ag)(w:aa)(e:Ending)(d:aa):Prop:=
 (match fa a b P with|none=>e=ao (aJ #[mO.val (ad none 0 0),O 13])|some x=>∃c,e=ao (aJ #[x.val c,O 0])/\bg d c x.e/\(∀k∈(Y.sr c x.e).bs,w.heap.size<=k))/\BW w d
def GH{w:aa}(a2:cp w)(a b:HD){v:ab}{P:List ag}(J:bg w v P)(b5:P.length<=1000):Calls prog 229 #[a.val,b.val,v] w (vf a b P w):=by
 have c:=Z (af.start w []);have q:=Z a2;have a9:=Z J;have a4:=λ(m:aa) (E:BW w m)=>wu (J.below E rfl) W;have a5:∀e l,((match fa a b P with|none=>e=ao (aJ #[mO.val (ad none 0 0),O 13])|some x=>∃d,e=ao (aJ #[x.val d,O 0])/\bg l d x.e/\(∀k∈(Y.sr d x.e).bs,w.heap.size<=k))/\BW w l)->vf a b P w e l:=λ e l h=>h;have a3:fa a b P=if(⟨a,b,[]⟩:BD).bq=true then some ⟨a,b,[]⟩ else if(⟨b,a,[]⟩:BD).bq=true then some ⟨b,a,[]⟩
  else if(⟨a,b,P⟩:BD).bq=true then some ⟨a,b,P⟩ else if(⟨b,a,P⟩:BD).bq=true then some ⟨b,a,P⟩ else none:=rfl
 have a7:∀m:aa,bg m (ad none 0 0) []:=λ m=>⟨none,0,rfl,bh _,λ i d=>absurd d (jm i)⟩;obtain⟨b8,b9,rfl⟩:=J.form;have K:=Z a4;have z:=Z a3;have A:=Z a5;have u:=Z a7;have y:ai (P.length<=maxLen):=Z (by unfold maxLen;omega)
 go_enter func229,ntmps229
 go_wp2_with(first|(refine KA c 66 6 eW λ X d b2 c=>?_)|(first|(refine Bx c.U rfl 59 3 rfl rfl (a.cells) rfl λ C d b0 o=>?_;replace c:=Z o)|(refine Bx c.U rfl 59 4 rfl rfl (b.cells) rfl λ D d b1 o=>?_;replace c:=Z o)))
 go_step3
 go_wp2_with((refine KA c 66 8 eW λ a0 d b3 c=>?_))
 go_step3
 go_upto_region 3 with(fail)
 refine af.Jz c.U (S:=bc [Y.row C 59 a.cells,Y.row D 59 b.cells]) V V (λ c0 o=> ?_);replace c:=Z o;have f:bc [Y.row C 59 a.cells,Y.row D 59 b.cells] _:=(aP (c.U.in (by exact mQ (mQ (mQ mZ)))) (aP (c.U.in (by exact mQ (mQ mZ))) bf))
 (refine bX.dt (i:=0) (oi:=_) (v:=_) 12 rfl rfl V V (λ _ _ _ h=>h) (Yr V 0 rfl 59 4 rfl rfl V _ rfl rfl) f ?_)
 simp only[aH,au,ay,bC,dc,cO]
 (refine bX.dt (i:=1) (oi:=_) (v:=_) 13 rfl rfl V V (λ _ _ _ h=>h) (Yr V 1 rfl 59 4 rfl rfl V _ rfl rfl) f ?_)
 simp only[aH,au,ay,bC,dc,cO];refine bX.dt (i:=2) (oi:=_) (v:=?va2) 14 rfl rfl V V (λ _ _ _ h=>h) (Or.inl ⟨by kernel_rfl,?Q6⟩) f ?ra2;case Q6=>(intro m s;go_simp;try(with_reducible rfl))
 simp only[aH,au,ay]
 (refine bX.dt (i:=3) (oi:=_) (v:=_) 15 rfl rfl V V (λ _ _ _ h=>h) (Yr V 1 rfl 59 4 rfl rfl V _ rfl rfl) f ?_)
 simp only[aH,au,ay,bC,dc,cO]
 (refine bX.dt (i:=4) (oi:=_) (v:=_) 16 rfl rfl V V (λ _ _ _ h=>h) (Yr V 0 rfl 59 4 rfl rfl V _ rfl rfl) f ?_)
 simp only[aH,au,ay,bC,dc,cO];refine bX.dt (i:=5) (oi:=_) (v:=?va5) 17 rfl rfl V V (λ _ _ _ h=>h) (Or.inl ⟨by kernel_rfl,?Q7⟩) f ?ra5;case Q7=>(intro m s;go_simp;try(with_reducible rfl))
 simp only[aH,au,ay]
 (refine bX.dt (i:=6) (oi:=_) (v:=_) 18 rfl rfl V V (λ _ _ _ h=>h) (Yr V 0 rfl 59 4 rfl rfl V _ rfl rfl) f ?_)
 simp only[aH,au,ay,bC,dc,cO]
 (refine bX.dt (i:=7) (oi:=_) (v:=_) 19 rfl rfl V V (λ _ _ _ h=>h) (Yr V 1 rfl 59 4 rfl rfl V _ rfl rfl) f ?_)
 simp only[aH,au,ay,bC,dc,cO];refine bX.dt (i:=8) (oi:=_) (v:=?va8) 20 rfl rfl V V (λ _ _ _ h=>h) (Or.inl ⟨by kernel_rfl,?Q8⟩) f ?ra8;case Q8=>(intro m s;go_simp;try(with_reducible rfl))
 simp only[aH,au,ay]
 (refine bX.dt (i:=11) (oi:=_) (v:=_) 23 rfl rfl V V (λ _ _ _ h=>h) (Yr V 1 rfl 59 4 rfl rfl V _ rfl rfl) f ?_)
 simp only[aH,au,ay,bC,dc,cO]
 (refine bX.dt (i:=12) (oi:=_) (v:=_) 24 rfl rfl V V (λ _ _ _ h=>h) (Yr V 0 rfl 59 4 rfl rfl V _ rfl rfl) f ?_)
 simp only[aH,au,ay,bC,dc,cO];refine bX.dt (i:=13) (oi:=_) (v:=?ads) 25 rfl rfl V V (λ _ _ _ h=>h) (Or.inl ⟨by kernel_rfl,?Q1⟩) f ?adk;case Q1=>(intro m s;go_simp;try(with_reducible rfl))
 simp only[aH,au,ay];refine bX.dt (i:=17) (oi:=_) (v:=?adv) 29 rfl rfl V V (λ _ _ _ h=>h) (Or.inl ⟨by kernel_rfl,?Q5⟩) f ?adn;case Q5=>(intro m s;go_simp;try(with_reducible rfl))
 simp only[aH,au,ay];refine bX.eM (i:=9) V rfl rfl 21 rfl rfl 80 rfl Gr _ rfl ?_;refine(K.U _ c.U.ak).mono ?_;rintro e a8 ⟨⟨b6,rfl,F⟩,E⟩;obtain⟨N,Q,rfl⟩:=F.form;have o:=c.U.db E F;replace c:=Z o;refine⟨_,rfl,(aP (c.U.in (by exact mQ (mQ (mQ (mQ mZ))))) (aP (c.U.in (by exact mQ (mQ (mQ mZ)))) bf)),?_⟩;simp only[aH,au,ay];have f:bc [Y.row C 59 a.cells,Y.row D 59 b.cells] _:=(aP (c.U.in (by exact mQ (mQ (mQ (mQ mZ))))) (aP (c.U.in (by exact mQ (mQ (mQ mZ)))) bf));refine bX.dt (i:=10) (oi:=_) (v:=?adr) 22 rfl rfl V V (λ _ _ _ h=>h) (Or.inl ⟨by kernel_rfl,?Q0⟩) f ?adj;case Q0=>(intro m s;go_simp;try(with_reducible rfl))
 simp only[aH,au,ay];refine bX.eM (i:=14) V rfl rfl 26 rfl rfl 80 rfl Gr _ rfl ?_;refine(K.U _ c.U.ak).mono ?_;rintro e a8 ⟨⟨b7,rfl,F⟩,E⟩;obtain⟨R,T,rfl⟩:=F.form;have o:=c.U.db E F;replace c:=Z o;refine⟨_,rfl,(aP (c.U.in (by exact mQ (mQ (mQ (mQ (mQ mZ)))))) (aP (c.U.in (by exact mQ (mQ (mQ (mQ mZ))))) bf)),?_⟩;simp only[aH,au,ay];have f:bc [Y.row C 59 a.cells,Y.row D 59 b.cells] _:=(aP (c.U.in (by exact mQ (mQ (mQ (mQ (mQ mZ)))))) (aP (c.U.in (by exact mQ (mQ (mQ (mQ mZ))))) bf));refine bX.dt (i:=15) (oi:=_) (v:=?adt) 27 rfl rfl V V (λ _ _ _ h=>h) (Or.inl ⟨by kernel_rfl,?Q2⟩) f ?adl;case Q2=>(intro m s;go_simp;try(with_reducible rfl))
 simp only[aH,au,ay];refine bX.dt (i:=16) (oi:=_) (v:=?adu) 28 rfl rfl V V (λ _ _ _ h=>h) (Or.inl ⟨by kernel_rfl,?Q3⟩) f ?adm;case Q3=>(intro m s;go_simp;try(with_reducible rfl))
 simp only[aH,au,ay];refine bX.done V ?_
 go_wp2
 go_loopw [9,29] (λ j g wr=>∃k:Nat,k<=4/\j=O 13/\g=O (k:Int)/\af w wr [] [Y.ow 9 1 (ad R P.length T) P.length (aV P),Y.ow 9 1 (ad N P.length Q) P.length (aV P),Y.row a0 66 [U 0,U 0,ae ⟨#[]⟩,ae ⟨#[]⟩,U 0,U 0,ae ⟨#[]⟩,ae ⟨#[]⟩,ad none 0 0],Y.row X 66 [U 0,U 0,ae ⟨#[]⟩,ae ⟨#[]⟩,U 0,U 0,ae ⟨#[]⟩,ae ⟨#[]⟩,ad none 0 0],Y.row D 59 b.cells,Y.row C 59 a.cells]/\(0<k->(⟨a,b,[]⟩:BD).bq=false)/\(1<k->(⟨b,a,[]⟩:BD).bq=false)/\(2<k->(⟨a,b,P⟩:BD).bq=false)/\(3<k->(⟨b,a,P⟩:BD).bq=false)) (λ _ g _=>4-(intOf g).toNat)
 case atStart=>exact⟨0,by omega,rfl,rfl,c.U,by omega,by omega,by omega,by omega⟩
 case round=>
  obtain⟨k,b4,rfl,rfl,a6,G,H,M,a1⟩:=hrel;have c:=Z a6;rcases k with _|_|_|_|_|k
  ·have I:=S2;cases j:(⟨a,b,[]⟩:BD).bq with
   |true=>
    have g:=Z j;have n:ai (fa a b P=some ⟨a,b,[]⟩):=Z (by rw[z.U,ax j])
    go_wp2_with(first|(first|(refine KR c 0 66 9 ?_)|(refine KR c 3 66 9 ?_))|(first|(refine K7 c 0 66 9 λ d c=>?_)|(refine K7 c 3 66 9 λ d c=>?_)|(refine K7 c 4 66 9 λ d c=>?_))|(refine KA c 66 11 eW λ r d t c=>?_)|(go_at_call 142;refine KC c (mx ⟨a,b,[]⟩ _ _ (q.U.below c.U.ak) (u.U _)) λ l c=>?_;rw[g.U]))
    try rw[iJ]
    refine cz c.U 4 rfl 66 9 rfl rfl rfl V rfl rfl ?_;apply A.U;rw[n.U];exact⟨⟨ad none 0 0,rfl,(u.U _),Kk _ _⟩,c.U.ak⟩
   |false=>
    have g:=Z j
    go_wp2_with(first|(refine KR c 0 66 9 ?_)|(refine K7 c 0 66 9 λ d c=>?_)|(refine KA c 66 11 eW λ r d t c=>?_)|(go_at_call 142;refine KC c (mx ⟨a,b,[]⟩ _ _ (q.U.below c.U.ak) (u.U _)) λ l c=>?_;rw[g.U]))
    refine⟨⟨1,by omega,rfl,rfl,c.U.tail,(λ _=>(by trivial)),W,W,W⟩,by simp[intOf]⟩
  ·have I:=S3;have p:=Z (G W);cases j:(⟨b,a,[]⟩:BD).bq with
   |true=>
    have g:=Z j;have n:ai (fa a b P=some ⟨b,a,[]⟩):=Z (by rw[z.U,aj (by rw[p.U];decide),ax j])
    go_wp2_with(first|(first|(refine KR c 0 66 9 ?_)|(refine KR c 3 66 9 ?_))|(first|(refine K7 c 0 66 9 λ d c=>?_)|(refine K7 c 3 66 9 λ d c=>?_)|(refine K7 c 4 66 9 λ d c=>?_))|(refine KA c 66 11 eW λ r d t c=>?_)|(go_at_call 142;refine KC c (mx ⟨b,a,[]⟩ _ _ (q.U.below c.U.ak) (u.U _)) λ l c=>?_;rw[g.U]))
    try rw[iJ]
    refine cz c.U 4 rfl 66 9 rfl rfl rfl V rfl rfl ?_;apply A.U;rw[n.U];exact⟨⟨ad none 0 0,rfl,(u.U _),Kk _ _⟩,c.U.ak⟩
   |false=>
    have g:=Z j
    go_wp2_with(first|(refine KR c 0 66 9 ?_)|(refine K7 c 0 66 9 λ d c=>?_)|(refine KA c 66 11 eW λ r d t c=>?_)|(go_at_call 142;refine KC c (mx ⟨b,a,[]⟩ _ _ (q.U.below c.U.ak) (u.U _)) λ l c=>?_;rw[g.U]))
    refine⟨⟨2,by omega,rfl,rfl,c.U.tail,(λ _=>(by exact p.U)),(λ _=>(by trivial)),W,W⟩,by simp[intOf]⟩
  ·have I:=S4;have p:=Z (G W);have B:=Z (H W);cases j:(⟨a,b,P⟩:BD).bq with
   |true=>
    have g:=Z j;have n:ai (fa a b P=some ⟨a,b,P⟩):=Z (by rw[z.U,aj (by rw[p.U];decide),aj (by rw[B.U];decide),ax j])
    go_wp2_with(first|(first|(refine KR c 0 66 9 ?_)|(refine KR c 3 66 9 ?_))|(first|(refine K7 c 0 66 9 λ d c=>?_)|(refine K7 c 3 66 9 λ d c=>?_)|(refine K7 c 4 66 9 λ d c=>?_))|(refine KA c 66 11 eW λ r d t c=>?_)|(go_at_call 142;refine KC c (mx ⟨a,b,P⟩ _ _ (q.U.below c.U.ak) (hn (c.U.get (i:=2) rfl) y.U)) λ l c=>?_;rw[g.U]))
    try rw[iJ]
    refine cz c.U 4 rfl 66 9 rfl rfl rfl V rfl rfl ?_;apply A.U;rw[n.U];exact⟨⟨ad N P.length Q,rfl,(hn (c.U.get (i:=2) rfl) y.U),Kj c.U 2 rfl⟩,c.U.ak⟩
   |false=>
    have g:=Z j
    go_wp2_with(first|(refine KR c 0 66 9 ?_)|(refine K7 c 0 66 9 λ d c=>?_)|(refine KA c 66 11 eW λ r d t c=>?_)|(go_at_call 142;refine KC c (mx ⟨a,b,P⟩ _ _ (q.U.below c.U.ak) (hn (c.U.get (i:=2) rfl) y.U)) λ l c=>?_;rw[g.U]))
    refine⟨⟨3,by omega,rfl,rfl,c.U.tail,(λ _=>(by exact p.U)),(λ _=>(by exact B.U)),(λ _=>(by trivial)),W⟩,by simp[intOf]⟩
  ·have I:=S5;have p:=Z (G W);have B:=Z (H W);have L:=Z (M W);cases j:(⟨b,a,P⟩:BD).bq with
   |true=>
    have g:=Z j;have n:ai (fa a b P=some ⟨b,a,P⟩):=Z (by rw[z.U,aj (by rw[p.U];decide),aj (by rw[B.U];decide),aj (by rw[L.U];decide),ax j])
    go_wp2_with(first|(first|(refine KR c 0 66 9 ?_)|(refine KR c 3 66 9 ?_))|(first|(refine K7 c 0 66 9 λ d c=>?_)|(refine K7 c 3 66 9 λ d c=>?_)|(refine K7 c 4 66 9 λ d c=>?_))|(refine KA c 66 11 eW λ r d t c=>?_)|(go_at_call 142;refine KC c (mx ⟨b,a,P⟩ _ _ (q.U.below c.U.ak) (hn (c.U.get (i:=1) rfl) y.U)) λ l c=>?_;rw[g.U]))
    try rw[iJ]
    refine cz c.U 4 rfl 66 9 rfl rfl rfl V rfl rfl ?_;apply A.U;rw[n.U];exact⟨⟨ad R P.length T,rfl,(hn (c.U.get (i:=1) rfl) y.U),Kj c.U 1 rfl⟩,c.U.ak⟩
   |false=>
    have g:=Z j
    go_wp2_with(first|(refine KR c 0 66 9 ?_)|(refine K7 c 0 66 9 λ d c=>?_)|(refine KA c 66 11 eW λ r d t c=>?_)|(go_at_call 142;refine KC c (mx ⟨b,a,P⟩ _ _ (q.U.below c.U.ak) (hn (c.U.get (i:=1) rfl) y.U)) λ l c=>?_;rw[g.U]))
    refine⟨⟨4,by omega,rfl,rfl,c.U.tail,(λ _=>(by exact p.U)),(λ _=>(by exact B.U)),(λ _=>(by exact L.U)),(λ _=>(by trivial))⟩,by simp[intOf]⟩
  ·have n:ai (fa a b P=none):=Z (by rw[z.U,aj (by rw[G W];decide),aj (by rw[H W];decide),aj (by rw[M W];decide),aj (by rw[a1 W];decide)])
   go_wp2_with(first|(refine KR c 2 66 9 ?_)|(refine K7 c 3 66 9 λ d c=>?_))
   try rw[iJ]
   refine cz c.U 3 rfl 66 9 rfl rfl rfl V rfl rfl ?_;apply A.U;rw[n.U];exact⟨rfl,c.U.ak⟩
  ·omega
variable{D:BD}{k:Nat}
def N4{a s:ag}(h:eN s= .error k):fc a s=false:=by unfold fc;rw[h]
def N5{pub s:ag}(h:eN s= .ok D):fc pub s=(D.bq&&(D.a.check pub&&D.b.check pub)):=by unfold fc;rw[h]
def F2{s:ag}(h:eN s= .error k)(w:aa):Calls prog 25 #[ae s] w λ e a=>e=ao (aJ #[mO.val (ad none 0 0),O (k:Int)])/\k≠0/\BW w a:=
 (GI s w).mono λ e a a=>by unfold rl at a;rw[h] at a;exact⟨a.1.1,a.1.2,a.2⟩
def Be{s:ag}(h:eN s= .ok D)(w:aa):Calls prog 25 #[ae s] w λ e b=>∃a,e=ao (aJ #[D.val a,O 0])/\bg b a D.e/\(∀k∈(Y.sr a D.e).bs,w.heap.size<=k)/\BW w b:=
 (GI s w).mono λ e b b=>by unfold rl at b;rw[h] at b;obtain⟨⟨a,c,d,e⟩,f⟩:=b;exact⟨a,c,d,e,f⟩
def Bv{w:aa}(l:bQ w)(c s:ag)(t:c.size<=800000):CB 61 #[ae c,ae s] w (aF (fc c s)):=by
 have a:=Z (af.start w []);have v:=Z l;cases h:eN s
 ·rename_i k;have b:fc c s=false:=N4 h;rw[b];have HD:=Z (λ d=>F2 h d)
  go_enter func61,ntmps61
  go_wp2_with(first|refine KS a λ p a=>?_|refine KA a _ 5 eW λ x p y a=>?_|go_at_call 25;(refine(HD.U _).mono ?_);rintro e n ⟨rfl,j,f⟩;replace a:=Z (a.U.below f);have g:¬(k:Int)=0:=W;have m:((k:Int)==0)=false:=(by rw[cc];exact g))
  go_ret
  exact⟨rfl,a.U.ak⟩
 focus
  rename_i b;have k:=N5 (pub:=c) h;have g:=λ(d:aa) (f:BW w d)=>BU (l.below f) c b.a t;have m:=λ(d:aa) (f:BW w d)=>BU (l.below f) c b.b t;have HD:=Z (λ d=>Be h d);cases d:b.bq
  focus
   have r:=Z d;have o:ai (fc c s=false):=Z (by rw[k,d];rfl);clear k h l g m d
  rotate_left;focus
   have r:=Z d;cases j:b.a.check c
   focus
    rw[j] at g;have q:=Z g;have o:ai (fc c s=false):=Z (by rw[k,d,j];rfl);clear k h l g m d j
   rotate_left;focus
    rw[j] at g;have q:=Z g;have o:ai (fc c s=b.b.check c):=Z (by rw[k,d,j];simp);generalize b.b.check c=z at*;have u:=Z m;clear k h l g m d j
 all_goals
  go_enter func61,ntmps61
  go_wp2_with(first|refine KT a 9 ?_|refine KT a 4 ?_|refine KS a λ p a=>?_|refine KA a _ 5 eW λ x p y a=>?_|go_at_call 25;(refine(HD.U _).mono ?_);rintro e n ⟨h,rfl,d,g,f⟩;replace a:=Z (a.U.join f (Y.sr h b.e) d g);obtain⟨pA,j,rfl⟩:=d.form|go_at_call 142;refine KC a (mx b _ _ (v.U.below a.U.ak).a (a.U.get (i:=1) rfl)) λ n a=>?_;rw[r.U]|go_at_call 143;refine KC a (q.U _ a.U.ak) λ n a=>?_|go_at_call 143;refine KC a (u.U _ a.U.ak) λ n a=>?_)
  go_ret
  exact⟨by rw[o.U];rfl,a.U.ak⟩
variable{X:Operand}
def GW{size:Nat}(d:0<size):∀(b:List (List ab)) (q:Nat) (u:ab),(∀x∈b,x.length=size)->b.flatten[q]?=some u->∃(i j:Nat) (h:i<b.length),q=i*size+j/\b[i][j]?=some u
 |[],q,u,_,h=>by simp at h
 |x::b,q,u,c,h=>by
  have hx:x.length=size:=c x mZ
  rw[zm] at h
  rcases jk q size with e|e
  ·rw[pO W] at h
   exact⟨0,q,by simp,by simp,h⟩
  ·rw[kD W] at h
   obtain⟨i,j,g,e1,e2⟩:=GW d b _ u (λ y f=>c y (mQ f)) h
   exact⟨i+1,j,by grind,by grind,by grind⟩
def BH{size:Nat}:∀(b:List (List ab)),(∀x∈b,x.length=size)->b.flatten.length=b.length*size
 |[],_=>by simp
 |x::b,h=>by
  rw[zm,bA,h x mZ,BH b (λ y c=>h y (mQ c)),fU,Nat.succ_mul];omega
def bD.src{e:TypeId}{size:Nat}{w:aa}{v:ab}{xs:List (List ab)}(c:prog.underlying t=some (.slice e))(p:0<size)(h1:∀x∈xs,∀u∈x,u.oneCell'=true)(h:bD size w v xs):Src prog size t v xs.length xs.flatten w:=by
 obtain⟨k,A,B,rfl,C,f⟩:=h;have g:∀u∈xs.flatten,u.oneCell'=true:=λ u c=>by
  obtain⟨x,hx,b⟩:=Er.1 c;grind
 cases xs with
 |nil=>
  cases A with
  |none=>exact Src.ofNil w c _
  |some a=>exact oy w c _ _ _ _ (show(List.flatten ([]:List (List ab))).length=0*size by simp) (λ j u d=>by cases d) g
 |cons x l=>
  obtain⟨b,o,rfl,_,_⟩:=f 0 zS;refine oy w c _ _ _ _ (BH _ k) (λ q u r=> ?_) g;obtain⟨i,j,n,rfl,y⟩:=GW p _ q u k r;obtain⟨z,D,d,_,s⟩:=f i n;injection d with d;injection d with e1 e2 _;subst e1 e2;have:=s j u y;rw[iF,<-zx];omega
section
variable{w wr:aa}{m:List Nat}{aq:List Y}{ops:Array Oper}{rest:List Oper}{op:Oper}{a:Act}{Q:Exit->Act->aa->Prop}
def sX(h:af w wr m aq)(C:op.guard=none){d e:TypeId}{size bytes:Nat}(l:dh t e size bytes){x:Operand}(D:op.op= .call {callee:= .builtin .append,args:=#[X,x],argTypes:=#[t,d]})
 (i:Nat) {v:ab} {b:List ab} (o:aq[i]?=some (Y.ow e size v n b)) (F:a.eval X=v) {u:ab} {f:List ab} (hx:a.eval x=u) (G:Src prog size d u g f wr)
 (h63:n+g<=maxLen) (B:(n+g)*bytes<=140737488355328)
 (y:∀A q c,af w c m (aq.set i (Y.ow e size (ad A (n+g) q) (n+g) (b++f)))->wpList prog ops Q rest (a.put op.dst (ad A (n+g) q)) c):wpList prog ops Q (op::rest) a wr:=by
 obtain⟨H,z,e1,e2,e3,e4,e5⟩:=l.el
 have E:wr.ownsRow 0 e size v n b:=h.get o
 refine re C X x t d D 0 e H z size bytes l.a e1 e2 e3 e4 e5 v n b F E u g f hx G h63 B (bh _) ?_
 intro K I j p r
 obtain⟨A,q,rfl,-⟩:=cF j
 refine y A q I (h.at i o ⟨?_,?_,?_⟩)
 ·exact(aR.refl wr.heap.size _ wr).grown p (aW _) (λ k c=> .inl (by simp[Y.ow,c]))
 ·exact j
 ·intro k c
  have J:k∈(Value.slice A (n+g) q).ownBlock.toList:=c
  rcases r with s|s
  ·exact .inl (by show k∈v.ownBlock.toList;grind)
  grind
end
def af.made{w wr:aa}{m:List Nat}{aq:List Y}(h:af w wr m aq)(i:Nat){b:List ab}(c:aq[i]?=some (Y.row g t b))(n size:Nat)(d:b.length=n*size)(j:n<=maxLen):af w wr m (aq.set i (Y.ow t size (ad (some ⟨g,0,none⟩) n n) n b)):=by
 have e:=h.row c;refine h.at i c ⟨aR.refl _ _ _,⟨d,.inr ⟨g,n,b.toArray,rfl,bh _,e,aW _,j,by simp[d],by grind⟩⟩,λ k f=> .inl ?_⟩;have:k=g:=by simpa[Y.ow,Value.ownBlock] using f
 subst this;simp[Y.row]
def kc:dh 60 59 4 48:=dh.mk' np (z:= .agg #[U 0,U 0,.string ⟨#[]⟩,.string ⟨#[]⟩]) V rfl zD
def N9{w:aa}{v:ab}{d:List (List ab)}(h:bD 4 w v d)(h1:∀x∈d,∀u∈x,u.oneCell'=true)(H:d.length<=1000000):
 Calls prog 74 #[v] w λ r b=>(∃A c,r=ao (ad A d.length c)/\b.ownsRow w.heap.size 59 4 (ad A d.length c) d.length d.flatten)/\BW w b:=by
 obtain⟨C,z,p,t,u,y,B⟩:=kc.el
 have n:=h
 obtain⟨L,A,e,rfl,I,j⟩:=h
 cases A with
 |none=>
  have f:d=[]:=by
   cases d with
   |nil=>rfl
   |cons x l=>obtain⟨b,o,g,_⟩:=j 0 zS;cases g
  subst f
  have r:=λ c=>td (P:=prog) c 60 59 none 0 e 0 0 np
  go_enter func74,ntmps74
  go_wp2
  go_ret
  exact⟨⟨none,0,rfl,ct _ _ _ _⟩,bz _ _⟩
 |some a=>
  have r:=λ c=>td (P:=prog) c 60 59 (some a) d.length e 0 0 np
  have s:=(n.below (bJ w (.cells #[] 59))).src np zD h1
  have q:(w.alloc (.cells #[] 59)).ownsRow w.heap.size 59 4 (ad (some ⟨w.heap.size,0,none⟩) 0 0) 0 []:=vT w #[] 0 (aW _) zD rfl
  have J:d.length<=maxLen:=by unfold maxLen;omega
  generalize G:d.flatten=g at*
  go_enter func74,ntmps74
  go_wp2_with(at_builtin;refine re rfl _ _ 60 60 rfl w.heap.size 59 C _ 4 48 np p t u y B _ _ _ rfl q _ d.length g rfl s W W zS ?_)
  intro M D b l K
  have i:BW w D:=(bJ w (.cells #[] 59)).grown l zS (by intro k o;simp[Value.ownBlock] at o;omega)
  try rw[eu,fV] at b
  obtain⟨E,F,rfl,-⟩:=cF b
  have c:=Z b;have f:=Z i
  go_wp2
  go_ret
  exact⟨⟨_,_,rfl,c.U⟩,f.U⟩
def tN:dh 118 210 3 32:=dh.mk' vL (z:= .agg #[O 0,O 0,.string ⟨#[]⟩]) V rfl zD
variable{F:List HD}
abbrev ST.cells(s:ST)(a:ab):List ab:=[aF s.aT,U (s.ar.size:Int),U (s.ar.time:Int),ae s.ar.aE,ae s.ar.a,a,ae s.aM]
abbrev ST.val(s:ST)(a:ab):ab:=aG #[aF s.aT,U (s.ar.size:Int),U (s.ar.time:Int),ae s.ar.aE,ae s.ar.a,a,ae s.aM]
def bE(L:List HD):List (List ab):=L.map HD.cells
def hi(L:List HD):(bE L).length=L.length:=by simp[bE]
def B0(L:List HD):∀x∈bE L,∀u∈x,u.oneCell'=true:=by
 intro x hx u a;obtain⟨h,-,rfl⟩:=ep.1 hx;simp only[HD.cells,bV,rz,sz] at a;rcases a with rfl|rfl|rfl|rfl<;>rfl
def Hl(L:List HD):∀x∈bE L,x.length=4:=by
 intro x hx;obtain⟨h,-,rfl⟩:=ep.1 hx;rfl
def oe(a:Nat)(w:aa)(v:ab)(L:List HD):Prop:=w.ownsRow a 59 4 v L.length (bE L).flatten
abbrev Y.ho(v:ab)(L:List HD):Y:=Y.ow 59 4 v L.length (bE L).flatten
abbrev hE(w:aa)(v:ab)(L:List HD):Prop:=bD 4 w v (bE L)
def oO{w:aa}{v:ab}(h:(Y.ho v F).P w)(a:F.length<=1000000):hE w v F:=by
 refine qL (e:=59) (Hl F) ?_ (by rw[hi];unfold maxLen;omega);rw[hi];exact h
def hE.form{w:aa}{v:ab}{L:List HD}(h:hE w v L):∃A c,v=ad A L.length c:=by
 obtain⟨A,c,a,-⟩:=bD.form h;rw[hi] at a;grind
def FJ{w:aa}{v:ab}(h:hE w v F)(e:F.length<=1000000):Calls prog 74 #[v] w λ r a=>∃A c,r=ao (ad A F.length c)/\oe w.heap.size a (ad A F.length c) F/\BW w a:=
 (N9 h (B0 F) (by rw[hi];exact e)).mono λ r a ⟨⟨A,c,b,a⟩,d⟩=>⟨A,c,by rw[b,hi],by unfold oe;rw[hi] at a;exact a,d⟩
def pa{w:aa}{size:Nat}{v:ab}{b:List ab}(h:w.ownsRow g t size v n b)(e:∀d∈v.ownBlock.toList,k<=d):w.ownsRow k t size v n b:=by
 refine⟨h.1,?_⟩;rcases h.2 with i|⟨a,c,d,rfl,-,f,r⟩
 ·grind
 ·exact .inr ⟨a,c,d,rfl,e a (by simp[Value.ownBlock]),f,r⟩
def xF{w:aa}(s:ST){d:ab}(h:hE w d s.f)(g:s.f.length<=1000000):Calls prog 228 #[s.val d] w λ r a=>∃A c,r=ao (s.val (ad A s.f.length c))/\oe w.heap.size a (ad A s.f.length c) s.f/\BW w a:=by
 have a:=Z (af.start w []);have f:=Z (λ k (b:BW w k)=>FJ (h.below b) g);obtain⟨pA,p,rfl⟩:=h.form
 go_enter func228,ntmps228
 go_wp2_with(first|refine Kl a ?_|refine KT a 7 ?_|refine KS a λ c a=>?_|refine KA a _ 2 gT λ m c o a=>?_|refine KB a 62 1 (s.cells _) λ l c n a=>?_|go_at_call 74;(refine(f.U _ a.U.ak).mono ?_);rintro e t ⟨q,r,rfl,j,b⟩;replace a:=Z (a.U.db b j))
 refine iH a.U 1 rfl 62 7 rfl rfl zR rfl rfl ?_;exact⟨_,_,rfl,pa (a.U.get (i:=0) rfl) (a.U.lu mZ),a.U.ak⟩
def BK{w:aa}(s:ST){d:ab}(h:hE w d s.f)(j:s.f.length<=1000000)(b:ag):Calls prog 230 #[s.val d,ae b] w λ r a=>∃A c,r=ao (aJ #[({s with aM:=b}:ST).val (ad A s.f.length c),O 5])/\oe w.heap.size a (ad A s.f.length c) s.f/\BW w a:=by
 have a:=Z (af.start w []);have g:=Z (λ l (c:BW w l)=>xF s (h.below c) j);obtain⟨pA,q,rfl⟩:=h.form
 go_enter func230,ntmps230
 go_wp2_with(first|refine KT a 7 ?_|refine KS a λ f a=>?_|refine KA a _ 4 gT λ n f p a=>?_|refine KB a 62 2 (s.cells _) λ m f o a=>?_|go_at_call 228;(refine(g.U _ a.U.ak).mono ?_);rintro e u ⟨r,t,rfl,k,c⟩;replace a:=Z (a.U.db c k))
 refine cz a.U 1 rfl 62 7 rfl rfl rfl zR rfl rfl ?_;exact⟨_,_,rfl,pa (a.U.get (i:=0) rfl) (a.U.lu mZ),a.U.ak⟩
def tv(w:aa)(p:ST×Nat)(e:Ending)(a:aa):Prop:=
 ∃A c,e=ao (aJ #[p.1.val (ad A p.1.f.length c),O (p.2:Int)])/\oe w.heap.size a (ad A p.1.f.length c) p.1.f/\BW w a
def ks(s:ag):(!s.toList.isEmpty)=!decide (s=⟨#[]⟩):=by rw[gn]
def T0{w:aa}(r:bQ w)(s:ST){n:ab}(h:hE w n s.f)(l:s.f.length<=1000000)(f b:ag)(t:f.size<=800000):Calls prog 167 #[s.val n,ae f,ae b] w (tv w (s.lay f b)):=by
 have a:=Z (af.start w []);have g:=λ(d:aa) (c:BW w d)=>Bv (r.below c) f b t;have q:=Z (λ d (c:BW w d)=>xF s (h.below c) l);have p:=Z (λ d (c:BW w d)=>BK s (h.below c) l b);obtain⟨pA,B,rfl⟩:=h.form;have d:s.lay f b=if s.aM=⟨#[]⟩ then(if fc f b=true then({s with aM:=b},5) else(s,7)) else(s,9):=rfl
 have m:=ks s.aM;have k:=gn s.aM;by_cases e:s.aM=⟨#[]⟩;focus
  rw[ax e] at d;rw[aS e] at m k;cases j:fc f b
  focus
   rw[j] at g;rw[aj (by grind)] at d
  rotate_left;focus
   rw[j] at g;rw[ax j] at d
 rotate_left 2;focus
  rw[aj e] at d;rw[bu e] at m k
 all_goals
  rw[d];first
   |have o:=Z g
    clear d g j e
   |clear d g e
  unfold tv
  go_enter func167,ntmps167
  go_wp2_with(first|refine Kl a ?_|refine KT a 7 ?_|refine KS a λ j a=>?_|refine KA a _ 6 gT λ y j A a=>?_|refine KB a 62 3 (s.cells _) λ x j z a=>?_|go_at_call 230;(refine(p.U _ a.U.ak).mono ?_);rintro e g ⟨u,v,rfl,d,c⟩;replace a:=Z (a.U.db c d)|go_at_call 228;(refine(q.U _ a.U.ak).mono ?_);rintro e g ⟨u,v,rfl,d,c⟩;replace a:=Z (a.U.db c d)|go_at_call 61;refine KC a (o.U _ a.U.ak) λ g a=>?_)
  refine cz a.U 1 rfl 62 7 rfl rfl rfl zR rfl rfl ?_;exact⟨_,_,rfl,pa (a.U.get (i:=0) rfl) (a.U.lu mZ),a.U.ak⟩
def bK{α:Type}(p:α->Bool):List α->Option Nat
 |[]=>none
 |x::l=>if p x=true then some 0 else(bK p l).map (·+1)
def fY:Option Nat->Int
 |none=> -1
 |some i=>i
def sb{α:Type}{p:α->Bool}:∀{L:List α} {j:Nat} (h:j<L.length),(∀i (e:i<j),p (L[i]'W)=false)->p L[j]=true->bK p L=some j
 |x::l,0,h,_,a=>by have b:p x=true:=a;rw[bK,ax b]
 |x::l,j+1,h,c,a=>by
  have d:p x=false:=c 0 W
  have f:j<l.length:=by simpa using h
  have b:p l[j]=true:=a
  rw[bK,aj (by rw[d];decide),sb (L:=l) (j:=j) f (λ i e=>c (i+1) W) b]
  rfl
def sd{α:Type}{p:α->Bool}:∀{L:List α},(∀i (a:i<L.length),p L[i]=false)->bK p L=none
 |[],_=>rfl
 |x::l,h=>by
  have b:p x=false:=h 0 zS
  rw[bK,aj (by rw[b];decide),sd (L:=l) (λ i a=>h (i+1) (by simpa using a))]
  rfl
def wM{α β:Type}(f:α->β)(p:β->Bool):∀(L:List α),bK p (L.map f)=bK (λ x=>p (f x)) L
 |[]=>rfl
 |x::l=>by simp only[cw,bK,wM f p l]
def BC{α:Type}{p:α->Bool}:∀{L:List α} {i:Nat},bK p L=some i->i<L.length
 |[],i,h=>by cases h
 |x::l,i,h=>by
  rw[bK] at h
  split at h
  ·injection h with h;subst h;simp
  ·cases a:bK p l with
   |none=>rw[a] at h;cases h
   |some k=>rw[a] at h;injection h with h;subst h;have:=BC a;simp;omega
def GR{α:Type}(p:α->Bool):∀(L:List α),decide (0<=fY (bK p L))=L.any p
 |[]=>rfl
 |x::l=>by
  have a:=GR p l
  rw[bK,tf]
  by_cases h:p x=true
  ·rw[ax h,h];rfl
  ·rw[aj h,Bool.eq_false_iff.2 h,ve,<-a]
   cases bK p l with
   |none=>rfl
   |some k=>rw[aS (by simp[fY]:(0:Int)<=fY (some k)),aS];simp[fY];omega
def S9{w:aa}{v:ab}{a:List (List ab)}(h:bD 4 w v a)(q:ab)(p:List ab->Bool)
 (I:∀b x0 x1 x2 x3,BW w b->[x0,x1,x2,x3]∈a->CB 232 #[aG #[x0,x1,x2,x3],q] b (aF (p [x0,x1,x2,x3]))):
 CB 231 #[v,.func (.func 232) #[] #[q]] w (O (fY (bK p a))):=by
 have b:=Z (af.start w [])
 have D:=Z h
 obtain⟨A,N,rfl,J⟩:=bD.form h
 have L:=h.1
 have R:a.length<=9223372036854775807:=J
 have C:=Z I
 have E:=Z L
 go_enter func231,ntmps231
 go_wp2
 go_loopw [8] (λ d wr=>∃j:Nat,j<=a.length/\d=O (j:Int)/\af w wr [] []/\ai (∀i (c:i<a.length),i<j->p a[i]=false)) (λ d _=>a.length-(intOf d).toNat)
 case atStart=>exact⟨0,bh _,rfl,b.U,Z (by intro i c h;omega)⟩
 case round=>
  obtain⟨j,Q,rfl,K,f⟩:=hrel
  have b:=Z K
  by_cases e:j<a.length
  ·have G:=D.U.below b.U.ak
   obtain⟨bb,o,F,hx⟩:=G.at (j:=j) e
   subst F
   have y:=E.U _ (cY e)
   have x:=cY e
   obtain⟨X,t⟩:∃X,a[j]=X:=⟨_,rfl⟩
   rw[t] at hx y x
   obtain⟨x0,x1,x2,x3,rfl⟩:∃x0 x1 x2 x3,X=[x0,x1,x2,x3]:=by
    match X,y with
    |[x0,x1,x2,x3],_=>exact⟨x0,x1,x2,x3,rfl⟩
   have u:=C.U wr x0 x1 x2 x3 b.U.ak x
   have m:=Z hx
   have H:(j:Int)<(a.length:Int):=by omega
   obtain⟨B,s⟩:∃B,p [x0,x1,x2,x3]=B:=⟨_,rfl⟩
   rw[s] at u
   have n:=Z t;have l:=Z s
   have d:=Z e
   have k:=Z u
   cases B with
   |true=>
    have g:ai (bK p a=some j):=Z (sb d.U (λ i c=>f.U i (by have:=d.U;omega) c) (by rw[n.U];exact l.U))
    go_wp2_with(first|refine dX rfl 59 4 rfl rfl m.U rfl V ?_|go_at_call 232;refine KC b k.U λ M b=>?_)
    go_ret
    exact⟨by rw[g.U];rfl,b.U.ak⟩
   |false=>
    have z:ai (∀i (c:i<a.length),i<j+1->p a[i]=false):=Z (λ i c P=>by
     rcases jk i j with r|r
     ·exact f.U i c r
     ·obtain rfl:i=j:=by omega
      rw[n.U];exact l.U)
    go_wp2_with(first|refine dX rfl 59 4 rfl rfl m.U rfl V ?_|go_at_call 232;refine KC b k.U λ M b=>?_)
    go_roundw
    case rel=>exact⟨j+1,by have:=d.U;omega,by go_num,b.U,z⟩
    case measure=>(have:=d.U;simp[intOf];omega)
  ·have g:ai (bK p a=none):=Z (sd (λ i c=>f.U i c W))
   have H:decide (j<a.length)=false:=by simp;omega
   go_wp2
   go_ret
   exact⟨by rw[g.U];rfl,b.U.ak⟩
def Ta{w:aa}{v:ab}{a:List (List ab)}(h:bD 4 w v a)(q r s:ab)(p:List ab->Bool)
 (K:∀b x0 x1 x2 x3,BW w b->[x0,x1,x2,x3]∈a->CB 234 #[aG #[x0,x1,x2,x3],q,r,s] b (aF (p [x0,x1,x2,x3]))):
 CB 231 #[v,.func (.func 234) #[] #[q,r,s]] w (O (fY (bK p a))):=by
 have b:=Z (af.start w [])
 have F:=Z h
 obtain⟨A,Q,rfl,L⟩:=bD.form h
 have N:=h.1
 have T:a.length<=9223372036854775807:=L
 have E:=Z K
 have G:=Z N
 go_enter func231,ntmps231
 go_wp2
 go_loopw [8] (λ d wr=>∃j:Nat,j<=a.length/\d=O (j:Int)/\af w wr [] []/\ai (∀i (c:i<a.length),i<j->p a[i]=false)) (λ d _=>a.length-(intOf d).toNat)
 case atStart=>exact⟨0,bh _,rfl,b.U,Z (by intro i c h;omega)⟩
 case round=>
  obtain⟨j,S,rfl,M,f⟩:=hrel
  have b:=Z M
  by_cases e:j<a.length
  ·have I:=F.U.below b.U.ak
   obtain⟨bb,o,H,hx⟩:=I.at (j:=j) e
   subst H
   have C:=G.U _ (cY e)
   have z:=cY e
   obtain⟨X,x⟩:∃X,a[j]=X:=⟨_,rfl⟩
   rw[x] at hx C z
   obtain⟨x0,x1,x2,x3,rfl⟩:∃x0 x1 x2 x3,X=[x0,x1,x2,x3]:=by
    match X,C with
    |[x0,x1,x2,x3],_=>exact⟨x0,x1,x2,x3,rfl⟩
   have y:=E.U wr x0 x1 x2 x3 b.U.ak z
   have m:=Z hx
   have J:(j:Int)<(a.length:Int):=by omega
   obtain⟨B,u⟩:∃B,p [x0,x1,x2,x3]=B:=⟨_,rfl⟩
   rw[u] at y
   have n:=Z x;have l:=Z u
   have d:=Z e
   have k:=Z y
   cases B with
   |true=>
    have g:ai (bK p a=some j):=Z (sb d.U (λ i c=>f.U i (by have:=d.U;omega) c) (by rw[n.U];exact l.U))
    go_wp2_with(first|refine dX rfl 59 4 rfl rfl m.U rfl V ?_|go_at_call 234;refine KC b k.U λ P b=>?_)
    go_ret
    exact⟨by rw[g.U];rfl,b.U.ak⟩
   |false=>
    have D:ai (∀i (c:i<a.length),i<j+1->p a[i]=false):=Z (λ i c R=>by
     rcases jk i j with t|t
     ·exact f.U i c t
     ·obtain rfl:i=j:=by omega
      rw[n.U];exact l.U)
    go_wp2_with(first|refine dX rfl 59 4 rfl rfl m.U rfl V ?_|go_at_call 234;refine KC b k.U λ P b=>?_)
    go_roundw
    case rel=>exact⟨j+1,by have:=d.U;omega,by go_num,b.U,D⟩
    case measure=>(have:=d.U;simp[intOf];omega)
  ·have g:ai (bK p a=none):=Z (sd (λ i c=>f.U i c W))
   have J:decide (j<a.length)=false:=by simp;omega
   go_wp2
   go_ret
   exact⟨by rw[g.U];rfl,b.U.ak⟩
def Tb{w:aa}{v:ab}{a:List (List ab)}(h:bD 4 w v a)(q:ab)(p:List ab->Bool)
 (I:∀b x0 x1 x2 x3,BW w b->[x0,x1,x2,x3]∈a->CB 282 #[aG #[x0,x1,x2,x3],q] b (aF (p [x0,x1,x2,x3]))):
 CB 231 #[v,.func (.func 282) #[] #[q]] w (O (fY (bK p a))):=by
 have b:=Z (af.start w [])
 have D:=Z h
 obtain⟨A,N,rfl,J⟩:=bD.form h
 have L:=h.1
 have R:a.length<=9223372036854775807:=J
 have C:=Z I
 have E:=Z L
 go_enter func231,ntmps231
 go_wp2
 go_loopw [8] (λ d wr=>∃j:Nat,j<=a.length/\d=O (j:Int)/\af w wr [] []/\ai (∀i (c:i<a.length),i<j->p a[i]=false)) (λ d _=>a.length-(intOf d).toNat)
 case atStart=>exact⟨0,bh _,rfl,b.U,Z (by intro i c h;omega)⟩
 case round=>
  obtain⟨j,Q,rfl,K,f⟩:=hrel
  have b:=Z K
  by_cases e:j<a.length
  ·have G:=D.U.below b.U.ak
   obtain⟨bb,o,F,hx⟩:=G.at (j:=j) e
   subst F
   have y:=E.U _ (cY e)
   have x:=cY e
   obtain⟨X,t⟩:∃X,a[j]=X:=⟨_,rfl⟩
   rw[t] at hx y x
   obtain⟨x0,x1,x2,x3,rfl⟩:∃x0 x1 x2 x3,X=[x0,x1,x2,x3]:=by
    match X,y with
    |[x0,x1,x2,x3],_=>exact⟨x0,x1,x2,x3,rfl⟩
   have u:=C.U wr x0 x1 x2 x3 b.U.ak x
   have m:=Z hx
   have H:(j:Int)<(a.length:Int):=by omega
   obtain⟨B,s⟩:∃B,p [x0,x1,x2,x3]=B:=⟨_,rfl⟩
   rw[s] at u
   have n:=Z t;have l:=Z s
   have d:=Z e
   have k:=Z u
   cases B with
   |true=>
    have g:ai (bK p a=some j):=Z (sb d.U (λ i c=>f.U i (by have:=d.U;omega) c) (by rw[n.U];exact l.U))
    go_wp2_with(first|refine dX rfl 59 4 rfl rfl m.U rfl V ?_|go_at_call 282;refine KC b k.U λ M b=>?_)
    go_ret
    exact⟨by rw[g.U];rfl,b.U.ak⟩
   |false=>
    have z:ai (∀i (c:i<a.length),i<j+1->p a[i]=false):=Z (λ i c P=>by
     rcases jk i j with r|r
     ·exact f.U i c r
     ·obtain rfl:i=j:=by omega
      rw[n.U];exact l.U)
    go_wp2_with(first|refine dX rfl 59 4 rfl rfl m.U rfl V ?_|go_at_call 282;refine KC b k.U λ M b=>?_)
    go_roundw
    case rel=>exact⟨j+1,by have:=d.U;omega,by go_num,b.U,z⟩
    case measure=>(have:=d.U;simp[intOf];omega)
  ·have g:ai (bK p a=none):=Z (sd (λ i c=>f.U i c W))
   have H:decide (j<a.length)=false:=by simp;omega
   go_wp2
   go_ret
   exact⟨by rw[g.U];rfl,b.U.ak⟩
def Tc{w:aa}{v:ab}{a:List (List ab)}(h:bD 4 w v a)(q:ab)(p:List ab->Bool)
 (I:∀b x0 x1 x2 x3,BW w b->[x0,x1,x2,x3]∈a->CB 281 #[aG #[x0,x1,x2,x3],q] b (aF (p [x0,x1,x2,x3]))):
 CB 280 #[v,.func (.func 281) #[] #[q]] w (O (fY (bK p a))):=by
 have b:=Z (af.start w [])
 have D:=Z h
 obtain⟨A,N,rfl,J⟩:=bD.form h
 have L:=h.1
 have R:a.length<=9223372036854775807:=J
 have C:=Z I
 have E:=Z L
 go_enter func280,ntmps280
 go_wp2
 go_loopw [8] (λ d wr=>∃j:Nat,j<=a.length/\d=O (j:Int)/\af w wr [] []/\ai (∀i (c:i<a.length),i<j->p a[i]=false)) (λ d _=>a.length-(intOf d).toNat)
 case atStart=>exact⟨0,bh _,rfl,b.U,Z (by intro i c h;omega)⟩
 case round=>
  obtain⟨j,Q,rfl,K,f⟩:=hrel
  have b:=Z K
  by_cases e:j<a.length
  ·have G:=D.U.below b.U.ak
   obtain⟨bb,o,F,hx⟩:=G.at (j:=j) e
   subst F
   have y:=E.U _ (cY e)
   have x:=cY e
   obtain⟨X,t⟩:∃X,a[j]=X:=⟨_,rfl⟩
   rw[t] at hx y x
   obtain⟨x0,x1,x2,x3,rfl⟩:∃x0 x1 x2 x3,X=[x0,x1,x2,x3]:=by
    match X,y with
    |[x0,x1,x2,x3],_=>exact⟨x0,x1,x2,x3,rfl⟩
   have u:=C.U wr x0 x1 x2 x3 b.U.ak x
   have m:=Z hx
   have H:(j:Int)<(a.length:Int):=by omega
   obtain⟨B,s⟩:∃B,p [x0,x1,x2,x3]=B:=⟨_,rfl⟩
   rw[s] at u
   have n:=Z t;have l:=Z s
   have d:=Z e
   have k:=Z u
   cases B with
   |true=>
    have g:ai (bK p a=some j):=Z (sb d.U (λ i c=>f.U i (by have:=d.U;omega) c) (by rw[n.U];exact l.U))
    go_wp2_with(first|refine dX rfl 240 4 rfl rfl m.U rfl V ?_|go_at_call 281;refine KC b k.U λ M b=>?_)
    go_ret
    exact⟨by rw[g.U];rfl,b.U.ak⟩
   |false=>
    have z:ai (∀i (c:i<a.length),i<j+1->p a[i]=false):=Z (λ i c P=>by
     rcases jk i j with r|r
     ·exact f.U i c r
     ·obtain rfl:i=j:=by omega
      rw[n.U];exact l.U)
    go_wp2_with(first|refine dX rfl 240 4 rfl rfl m.U rfl V ?_|go_at_call 281;refine KC b k.U λ M b=>?_)
    go_roundw
    case rel=>exact⟨j+1,by have:=d.U;omega,by go_num,b.U,z⟩
    case measure=>(have:=d.U;simp[intOf];omega)
  ·have g:ai (bK p a=none):=Z (sd (λ i c=>f.U i c W))
   have H:decide (j<a.length)=false:=by simp;omega
   go_wp2
   go_ret
   exact⟨by rw[g.U];rfl,b.U.ak⟩
def S6{w:aa}{v:ab}{a:List (List ab)}(h:bD 2 w v a)(q:ab)(p:List ab->Bool)
 (I:∀b x0 x1,BW w b->[x0,x1]∈a->CB 318 #[aG #[x0,x1],q] b (aF (p [x0,x1]))):
 CB 317 #[v,.func (.func 318) #[] #[q]] w (O (fY (bK p a))):=by
 have b:=Z (af.start w [])
 have D:=Z h
 obtain⟨A,N,rfl,J⟩:=bD.form h
 have L:=h.1
 have R:a.length<=9223372036854775807:=J
 have C:=Z I
 have E:=Z L
 go_enter func317,ntmps317
 go_wp2
 go_loopw [8] (λ d wr=>∃j:Nat,j<=a.length/\d=O (j:Int)/\af w wr [] []/\ai (∀i (c:i<a.length),i<j->p a[i]=false)) (λ d _=>a.length-(intOf d).toNat)
 case atStart=>exact⟨0,bh _,rfl,b.U,Z (by intro i c h;omega)⟩
 case round=>
  obtain⟨j,Q,rfl,K,f⟩:=hrel
  have b:=Z K
  by_cases e:j<a.length
  ·have G:=D.U.below b.U.ak
   obtain⟨bb,o,F,hx⟩:=G.at (j:=j) e
   subst F
   have y:=E.U _ (cY e)
   have x:=cY e
   obtain⟨X,t⟩:∃X,a[j]=X:=⟨_,rfl⟩
   rw[t] at hx y x
   obtain⟨x0,x1,rfl⟩:∃x0 x1,X=[x0,x1]:=by
    match X,y with
    |[x0,x1],_=>exact⟨x0,x1,rfl⟩
   have u:=C.U wr x0 x1 b.U.ak x
   have m:=Z hx
   have H:(j:Int)<(a.length:Int):=by omega
   obtain⟨B,s⟩:∃B,p [x0,x1]=B:=⟨_,rfl⟩
   rw[s] at u
   have n:=Z t;have l:=Z s
   have d:=Z e
   have k:=Z u
   cases B with
   |true=>
    have g:ai (bK p a=some j):=Z (sb d.U (λ i c=>f.U i (by have:=d.U;omega) c) (by rw[n.U];exact l.U))
    go_wp2_with(first|refine dX rfl 368 2 rfl rfl m.U rfl V ?_|go_at_call 318;refine KC b k.U λ M b=>?_)
    go_ret
    exact⟨by rw[g.U];rfl,b.U.ak⟩
   |false=>
    have z:ai (∀i (c:i<a.length),i<j+1->p a[i]=false):=Z (λ i c P=>by
     rcases jk i j with r|r
     ·exact f.U i c r
     ·obtain rfl:i=j:=by omega
      rw[n.U];exact l.U)
    go_wp2_with(first|refine dX rfl 368 2 rfl rfl m.U rfl V ?_|go_at_call 318;refine KC b k.U λ M b=>?_)
    go_roundw
    case rel=>exact⟨j+1,by have:=d.U;omega,by go_num,b.U,z⟩
    case measure=>(have:=d.U;simp[intOf];omega)
  ·have g:ai (bK p a=none):=Z (sd (λ i c=>f.U i c W))
   have H:decide (j<a.length)=false:=by simp;omega
   go_wp2
   go_ret
   exact⟨by rw[g.U];rfl,b.U.ak⟩
variable{h:HD}
section
section
variable{ops:Array Oper}{rest:List Oper}{op:Oper}{a:Act}{Q:Exit->Act->aa->Prop}{w0 w:aa}{fn:Func}{R:Ending->aa->Prop}
def tc(m:Region.wanted op (yielded ops a.tmps)=true)(b:TypeId)(o:op.op= .load b X)(hx:a.eval X= .pointer (some ⟨g,n,none⟩))(j:BW w0 w){v:ab}(k:w0.cell? ⟨g,n,none⟩=some v)
 (f:jF b=true) (i:wpList prog ops Q rest (a.put op.dst v) w):wpList prog ops Q (op::rest) a w:=by
 obtain⟨d,c,e⟩:=sy f
 refine dW m λ K h=> ?_
 have l:w.cell? ⟨g,n,none⟩=some v:=fb j rfl k
 unfold Oper.wp execOp
 simp only[o,hx,Instr.loadAt,Instr.sureAddr,cL,dw,cZ,sK w _ b v d l c e]
 exact h _ _ i
def vj{p q s:Tmp}(h:fn.results=#[.tmp p,.tmp q,.tmp s]){u v x:ab}(f:a.tmps.toList[p]?=some u)(g:a.tmps.toList[q]?=some v)(i:a.tmps.toList[s]?=some x)(hd:a.defers=[])(e:R (ao (aJ #[u,v,x])) w):bodyPost prog fn R .ret a w:=by
 refine cq (v:=aJ #[u,v,x]) ?_ hd e;have b:a.tmps[p]?.getD undef=u:=by rw[<-sY];exact oM f
 have c:a.tmps[q]?.getD undef=v:=by rw[<-sY];exact oM g
 have d:a.tmps[s]?.getD undef=x:=by rw[<-sY];exact oM i
 simp[results,h,b,c,d]
end
def pH(p:HD->Bool)(x:List ab):Bool:=match x with
 |[.int .u64 a,.int .u64 b,.string r,.string s]=>p ⟨a.toNat,b.toNat,r,s⟩
 |_=>false
def xI(p:HD->Bool)(h:HD):pH p h.cells=p h:=by
 rfl
def BB(p:HD->Bool)(L:List HD):bK (pH p) (bE L)=bK p L:=by
 unfold bE;rw[wM,show(λ x=>pH p (HD.cells x))=p from funext (xI p)]
def Cl{a b c d:ab}(h:[a,b,c,d]∈bE F):∃x∈F,a=U (x.size:Int)/\b=U (x.time:Int)/\c=ae x.aE/\d=ae x.a:=by
 obtain⟨x,hx,e⟩:=ep.1 h;grind
def Mr(x h:HD){w:aa}(i:(Y.row g 59 h.cells).P w):CB 232 #[x.val,pV g] w (aF (decide (0<x.ahead h))):=by
 have b:=Z (af.start w []);have c:=Z (aP i bf);have e:=λ j=>Hi x h j;generalize x.ahead h=q at*;have d:=Z e
 go_enter func232,ntmps232
 go_wp2_with(first|(first|(refine KR b 0 59 4 ?_)|(refine EG (b.U.bH c.U) 0 rfl rfl 59 4 rfl rfl zR _ rfl rfl ?_;simp only[bC,dc,cO]))|(refine Bx b.U rfl 59 2 rfl rfl (x.cells) rfl λ k n l f=>?_;replace b:=Z f)|(go_at_call 211;refine KC b (d.U _) λ m b=>?_))
 go_ret
 exact⟨rfl,b.U.ak⟩
def S7{w:aa}{v:ab}(j:hE w v F)(f:(Y.row g 59 h.cells).P w):CB 231 #[v,.func (.func 232) #[] #[pV g]] w (O (fY (bK (λ x=>decide (0<x.ahead h)) F))):=by
 have:=S9 j (pV g) (pH λ x=>decide (0<x.ahead h)) (λ n a b c d k m=>by
  obtain⟨x,hx,rfl,rfl,rfl,rfl⟩:=Cl m;have e:=Mr x h ((Y.row g 59 h.cells).st w n (λ i l=>k.block i ((Y.row g 59 h.cells).lt w f i l)) f);rw[<-xI (λ x=>decide (0<x.ahead h)) x] at e;exact e)
 rw[BB] at this;exact this
def H4(x y:Nat)(w:aa):(Builtin.min_ #[46,46] 46 #[U (x:Int),U (y:Int)]).run prog w= .ok (U ((min x y:Nat):Int)) w:=run_min_int2 w _ _ _ _ _ _ _ W
def H2(x y:Nat)(w:aa):(Builtin.max_ #[46,46] 46 #[U (x:Int),U (y:Int)]).run prog w= .ok (U ((max x y:Nat):Int)) w:=run_max_int2 w _ _ _ _ _ _ _ W
def QA(x:HD)(s:ST)(i:ab)(m d:Nat){w:aa}(h4:(Y.row g 62 (s.cells i)).P w)(h5:(Y.row n 46 [U (m:Int)]).P w)(h6:(Y.row k 46 [U (d:Int)]).P w):
 CB 234 #[x.val,pV g,pV n,pV k] w (aF (decide (min x.size s.ar.size=m)&&decide (max x.size s.ar.size=d))):=by
 have b:=Z (af.start w [])
 have c:=Z (aP h4 (aP h5 (aP h6 bf)))
 have r:=λ e=>H4 x.size s.ar.size e
 have q:=λ e=>H2 x.size s.ar.size e
 have e1:=js (min x.size s.ar.size) m
 have e2:=js (max x.size s.ar.size) d
 generalize min x.size s.ar.size=j at*
 generalize max x.size s.ar.size=l at*
 generalize decide (j=m)=f at*
 generalize decide (l=d)=p at*
 cases f with
 |true=>
  go_enter func234,ntmps234
  go_wp2_with(first|(first|(refine KL b 0 46 ?_)|(refine il (b.U.bH c.U) 0 rfl rfl 46 rfl rfl zR rfl ?_)|(refine il (b.U.bH c.U) 1 rfl rfl 46 rfl rfl zR rfl ?_)|(refine il (b.U.bH c.U) 2 rfl rfl 46 rfl rfl zR rfl ?_))|(refine Bx b.U rfl 59 4 rfl rfl (x.cells) rfl λ g o h e=>?_;replace b:=Z e))
  go_ret
  exact⟨by simp,b.U.ak⟩
 |false=>
  go_enter func234,ntmps234
  go_wp2_with(first|(first|(refine KL b 0 46 ?_)|(refine il (b.U.bH c.U) 0 rfl rfl 46 rfl rfl zR rfl ?_)|(refine il (b.U.bH c.U) 1 rfl rfl 46 rfl rfl zR rfl ?_))|(refine Bx b.U rfl 59 4 rfl rfl (x.cells) rfl λ g o h e=>?_;replace b:=Z e))
  go_ret
  exact⟨by simp,b.U.ak⟩
def S8{w:aa}{v:ab}(h:hE w v F)(s:ST)(k:ab)(m n:Nat){g4 g5 g6:Nat}(h4:(Y.row g4 62 (s.cells k)).P w)(h5:(Y.row g5 46 [U (m:Int)]).P w)(h6:(Y.row g6 46 [U (n:Int)]).P w):
 CB 231 #[v,.func (.func 234) #[] #[pV g4,pV g5,pV g6]] w (O (fY (bK (λ x=>decide (min x.size s.ar.size=m)&&decide (max x.size s.ar.size=n)) F))):=by
 have:=Ta h (pV g4) (pV g5) (pV g6) (pH λ x=>decide (min x.size s.ar.size=m)&&decide (max x.size s.ar.size=n)) (λ q a b c d l p=>by
  obtain⟨x,hx,rfl,rfl,rfl,rfl⟩:=Cl p
  have e:=λ(f:Y) (j:f.P w)=>f.st w q (λ i o=>l.block i (f.lt w j i o)) j
  have g:=QA x s k m n (e _ h4) (e _ h5) (e _ h6)
  rw[<-xI (λ x=>decide (min x.size s.ar.size=m)&&decide (max x.size s.ar.size=n)) x] at g
  exact g)
 rw[BB] at this
 exact this
def GU(f m n:Nat):∀L:List HD,kf f m n L=bK (λ x=>decide (min x.size f=m)&&decide (max x.size f=n)) L
 |[]=>rfl
 |x::l=>by
  rw[kf,bK,GU f m n l]
  simp
def IZ(h:HD):∀L:List HD,nM h L=match bK (λ x=>decide (0<x.ahead h)) L with|none=>L.length|some i=>i
 |[]=>rfl
 |x::l=>by
  rw[nM,bK,IZ h l]
  grind
def Vo(s:ST){A:ab}{w:aa}(h:hE w A s.f):Calls prog 256 #[s.val A] w λ r b=>(match s.gK with|none=>r=ao (aJ #[U 0,U 0,aF false])|some p=>r=ao (aJ #[U (p.1:Int),U (p.2:Int),aF true]))/\BW w b:=by
 have b:=Z (af.start w []);have t:=Z h;obtain⟨pA,I,rfl⟩:=h.form;have y:=ks s.aM;have u:=gn s.aM;have f3:((s.f.length:Int)==0)=decide (s.f.length=0):=by rw[bI];simp
 by_cases f:s.aM=⟨#[]⟩
 ·rw[aS f] at y u;by_cases q:s.aT=true
  ·cases k:s.f with
   |nil=>
    have e:s.gK=none:=by unfold ST.gK;rw[ax ⟨f,q⟩,k]
    rw[e];rw[k] at f3;have f4:((0:Nat):Int)=0:=rfl;simp only[oo]
    go_enter zX,As
    go_wp2_with(first|(first|(refine KL b 0 9 ?_)|(refine KL b 0 4 ?_)|(refine KL b 0 60 ?_))|(refine Bx b.U rfl 62 1 rfl rfl (s.cells _) rfl λ i r m d=>?_;replace b:=Z d))
    refine vj rfl rfl rfl rfl rfl ?_;exact⟨rfl,b.U.ak⟩
   |cons x l=>
    have e:s.gK=some (min x.size s.ar.size,max x.size s.ar.size):=by unfold ST.gK;rw[ax ⟨f,q⟩,k]
    rw[e];rw[k] at f3 t;have E:=t.U;obtain⟨bb,o,C,hx⟩:=E.at (j:=0) (by simp[bE]);subst C;have F:w.rangeAt bb (o+0*4) x.cells:=hx;have f5:decide ((x::l).length=0)=false:=by simp
    rw[f5] at f3;have N:(0:Int)<((x::l).length:Int):=by simp
    have L:=λ g=>H4 x.size s.ar.size g;have K:=λ g=>H2 x.size s.ar.size g;generalize M:(x::l).length=H at*;have z:=F 0 _ rfl;simp only[tn,hJ] at z;have B:=Z z
    go_enter zX,As
    go_upto_region 4 with(first|(first|(refine KL b 0 9 ?_)|(refine KL b 0 4 ?_)|(refine KL b 0 60 ?_))|(refine Bx b.U rfl 62 1 rfl rfl (s.cells _) rfl λ i r m d=>?_;replace b:=Z d)|((with_reducible show wpList _ _ _ (⟨_,.load 46 _,_,_,_,_⟩::_) _ _);(refine tc rfl 46 rfl rfl b.U.ak B.U V ?_)))
    refine af.region b.U (n:=12) (S:=bc [Y.row i 62 (s.cells (ad (some ⟨bb,o,none⟩) H I))]) V V (λ J G=>(aP (G.in mZ) bf)) (λ J d c=> ?_);replace b:=Z d;refine V2 0 25 c ?_;refine V2 1 26 c ?_;refine V2 2 27 c ?_;refine L2 3 28 0 46 c ?_;refine W2 4 29 (v:=U ((min x.size s.ar.size:Nat):Int)) rfl rfl (Or.inl ⟨by kernel_rfl,λ g D=>by go_simp⟩) c ?_;refine V2 5 30 c ?_;refine V2 6 31 c ?_;refine V2 7 32 c ?_;refine L2 8 33 0 46 c ?_;refine W2 9 34 (v:=U ((max x.size s.ar.size:Nat):Int)) rfl rfl (Or.inl ⟨by kernel_rfl,λ g D=>by go_simp⟩) c ?_;refine V2 10 2 c ?_;refine V2 11 3 c ?_;refine az.tail V ?_;simp only[bU,bC]
    go_wp2
    refine vj rfl rfl rfl rfl rfl ?_;exact⟨rfl,b.U.ak⟩
  ·have e:s.gK=none:=by unfold ST.gK;rw[aj (λ h=>q h.2)]
   rw[e]
   go_enter zX,As
   go_wp2_with(first|(first|(refine KL b 0 9 ?_)|(refine KL b 0 4 ?_))|(refine Bx b.U rfl 62 1 rfl rfl (s.cells _) rfl λ i r m d=>?_;replace b:=Z d))
   refine vj rfl rfl rfl rfl rfl ?_;exact⟨rfl,b.U.ak⟩
 ·have e:s.gK=none:=by unfold ST.gK;rw[aj (λ h=>f h.1)]
  rw[e];rw[bu f] at y u
  go_enter zX,As
  go_wp2_with(first|(refine KL b 0 9 ?_)|(refine Bx b.U rfl 62 1 rfl rfl (s.cells _) rfl λ i r m d=>?_;replace b:=Z d))
  refine vj rfl rfl rfl rfl rfl ?_;exact⟨rfl,b.U.ak⟩
end
