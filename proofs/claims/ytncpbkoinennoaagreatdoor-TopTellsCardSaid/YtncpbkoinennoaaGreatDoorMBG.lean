import Derived.Test.YtncpbkoinennoaaGreatDoorMBF
set_option linter.all false
set_option maxRecDepth 100000
set_option maxHeartbeats 0
namespace Go.Proofs.YtncpbkoinennoaaGreatDoor
open Go.RowKit Proofs.Tryz
attribute [local irreducible] wpList Calls
variable{m:List Nat}{T:NA}{N:ND}
def O9{g w:aa}{rest:List Y}{x:NV}(i:TM m g)(h:af g w m (Y.aQ T x N::rest))(j:N.Ok)(a b:Nat)(l:a<18446744073709551616)(k:b<18446744073709551616):
 Calls prog 207 #[pV T.g,U (a:Int),U (b:Int)] w (rm g m rest T (N.cx a b,N.hh a b)):=by
 cases c:N.g with
 |none=>
  obtain⟨e1,e2⟩:=Gj N a b c
  rw[e1,e2]
  refine Gf h a b (λ n f=> ?_)
  rw[c] at f⊢
  exact(WI f a b).mono λ r o ⟨d,e⟩=>⟨d,_,e⟩
 |some r=>
  by_cases d:r.bt<=a
  ·by_cases e:N.c.rc.i<=r.k
   ·obtain⟨e1,e2⟩:=Gi N a b c d e
    rw[e1,e2]
    exact O8 i h j c a b d e
   ·obtain⟨e1,e2⟩:=Gh N a b c d e
    rw[e1,e2]
    exact O7 i h j c a b l k d W
  ·obtain⟨e1,e2⟩:=Gk N a b c W
   rw[e1,e2]
   refine Gf h a b (λ n f=> ?_)
   rw[c] at f⊢
   exact WL f a b W
def Bi(n:ND)(b a:Nat):(n.cx b a).c=n.c/\(n.cx b a).st=n.st/\(n.cx b a).tell=n.tell/\(n.cx b a).bN=n.bN/\(n.cx b a).j=n.j/\(n.cx b a).d=n.d/\(n.cx b a).bq=n.bq/\(n.cx b a).id=n.id:=by
 unfold ND.cx;grind
def AO(n:ND)(b a:Nat):(n.eL b a).c=n.c/\(n.eL b a).st=n.st/\(n.eL b a).tell=n.tell/\(n.eL b a).bN=n.bN/\(n.eL b a).j=n.j/\(n.eL b a).d=n.d/\(n.eL b a).bq=n.bq/\(n.eL b a).id<=n.id+1:=by
 unfold ND.eL;grind
def Gl(a:N.Ok)(b c:Nat):(N.cx b c).Ok:=by
 cases d:N.g with
 |none=>rw[(Gj N b c d).1];exact a
 |some r=>
  have e:=a.g r d;by_cases f:r.bt<=b
  ·by_cases g:N.c.rc.i<=r.k
   ·rw[(Gi N b c d f g).1];exact{a with l:=iX _ _,g:=(λ i h=>by cases h)}
   ·rw[(Gh N b c d f g).1];have:=a.c.rc.t2;exact{a with g:=(λ i h=>by cases h;exact⟨e.s,e.t,(by grind),iX _ _,e.m⟩)}
  ·rw[(Gk N b c d W).1];exact a
def MQ(d:N.Ok)(Z:N.id<1000000)(f e:Nat):(N.eL f e).Ok:=by
 cases c:N.iN f with
 |none=>rw[(Fb e c).1];exact d
 |some y=>
  rw[(Fc e c).1];have g:y=jW N.id\/∃a b,a<18446744073709551616/\b<18446744073709551616/\y=jX N.id a b:=by
   unfold ND.iN at c;split at c
   ·cases c
   ·split at c
    ·rename_i p b;cases c
     obtain⟨h,i⟩:=Ij d.ar d.f b;grind
    grind
  have a:=d.s;exact{d with next:=(by show(if y.c=5 then bw f N.c.every else N.next)<_;split;exact iX _ _;exact d.next),s:=zS,t:=(by grind),g:=(λ j h=>by cases h;exact⟨a,(by grind),(show 1<=1000 by decide),iX _ _,g⟩)}
def Yi{w:aa}{v:ab}{L:List SD}(h:(Y.so v L).P w)(c:L.length<=1000000):Src prog 2 76 v L.length (fv L) w:=by
 have b:bD 2 w v (L.map λ p=>[Value.int .i64 p.1,ae p.2]):=qL (e:=272) (λ x hx=>by
  grind) (by rw[cR];exact h) (by rw[cR];unfold maxLen;omega)
 have:=bD.src (t:=76) (e:=272) underlying76 zD (λ x hx u a=>by
  obtain⟨p,-,rfl⟩:=ep.1 hx;simp only[bV,rz,sz] at a;rcases a with rfl|rfl<;>rfl) b
 rw[cR] at this;exact this
def F5{w:aa}{v:ab}{L:List MK}(y:MG)(h1:y.e=[])(h3:y.b.e=[])(h2:y.aL=L)(h:(Y.ow 240 4 v L.length (cy L)).P w)(b:L.length<=1000000):y.Rd w (ad none 0 0) (ad none 0 0) v:=by
 refine⟨?_,?_,?_⟩
 ·rw[h3];exact⟨none,0,rfl,bh _,λ i a=>absurd a (jm i)⟩
 ·rw[h1];exact⟨none,0,rfl,bh _,λ i a=>absurd a (jm i)⟩
 ·rw[h2];exact qL (e:=240) (λ x hx=>by
   grind) (by rw[cR];exact h) (by rw[cR];unfold maxLen;omega)
def H0{n:ND}(b:n.st.ar.Ok):n.aL.length<=1/\∀k∈n.aL,k.size<18446744073709551616:=by
 unfold ND.aL;split
 ·refine⟨aW _,λ k a=> ?_⟩;rw[ot] at a;rw[a];exact b.size
 simp
def Gg(n:ND)(b a:Nat):(n.hh b a).length<=1:=by
 unfold ND.hh;grind
def Fa(n:ND)(a:Nat):(n.jo a).length<=1:=by
 unfold ND.jo;grind
def KZ{n:ND}{a draw:Nat}(h:a<n.tell):n.fP a draw=(n.cx a draw).eL a draw/\n.gA a draw=n.hh a draw++(n.cx a draw).jo a:=by
 unfold ND.fP ND.gA;grind
def K0{n:ND}{a draw:Nat}(b:n.c.bG=1)(c:n.bN=0)(h:¬a<n.tell):n.fP a draw={(n.cx a draw).eL a draw with bN:=0,tell:=bw a n.c.a}/\n.gA a draw=(n.hh a draw++(n.cx a draw).jo a)++[(0,(rU n.aL).enc)]:=by
 unfold ND.fP ND.gA;grind
def Di{B w:aa}{rest:List Y}{x:NV}(M:TM m B)(h:af B w m (Y.aQ T x N::rest))(c:N.Ok)(Q:N.c.bG=1)(a7:N.bN=0)(b f:Nat)(P:b<18446744073709551616)(a0:f<18446744073709551616):
 Calls prog 141 #[pV T.g,U (b:Int),U (f:Int)] w (rm B m rest T (N.fP b f,N.gA b f)):=by
 have a:=Z h
 have b4:=Z M
 have a9:=Z (λ o (n:List Y) (h:af B o m (Y.aQ T x N::n))=>O9 M h c b f P a0)
 have a8:=Z (λ o (n:List Y) (v:NV) (h:af B o m (Y.aQ T v (N.cx b f)::n))=>MR M h (Gl c b f) b f P a0)
 obtain⟨s1,s2,s3,s4,-⟩:=Bi N b f
 obtain⟨g,d,j,q4,-⟩:=AO (N.cx b f) b f
 have X:=Gg N b f
 have a1:=Fa (N.cx b f) b
 have I:= @KZ N b f
 have G:= @K0 N b f Q a7
 have k:N.aL=((N.cx b f).eL b f).aL:=by unfold ND.aL;rw[d,s2]
 have e:=c.ar
 have C:=c.o
 have D:=c.c.b
 have J:=Z (λ o=>nR b N.c.a P W o)
 rw[<-s2,<-d] at e C
 have e1:((N.cx b f).eL b f).c=N.c:=g.trans s1
 have e3:((N.cx b f).eL b f).tell=N.tell:=j.trans s3
 have e4:((N.cx b f).eL b f).bN=0:=by omega
 clear h M c s1 s2 s3 s4 g d j q4
 generalize N.fP b f=T1 at*
 generalize N.gA b f=T2 at*
 generalize N.hh b f=g at*
 generalize(N.cx b f).jo b=L2 at*
 generalize q:(N.cx b f).eL b f=b5 at*
 generalize N.cx b f=a4 at*
 rw[k] at G
 rw[<-e3] at I G
 rw[<-e1] at Q G D J
 obtain⟨⟨z,c3,u,s,r,l⟩,y,A,next,n,j,d,id,t,p,c4⟩:=b5
 simp only at Q e4 I G e C D J
 subst Q e4
 clear a7 e1 e3 k q
 have F:=H0 (n:=(⟨⟨z,1,u,s,r,l⟩,y,A,next,n,j,d,id,t,p,0⟩:ND)) e
 generalize R:ND.aL (⟨⟨z,1,u,s,r,l⟩,y,A,next,n,j,d,id,t,p,0⟩:ND)=q at*
 have a2:q.length<=1:=F.1
 have S:∀k∈q,k.size<18446744073709551616:=F.2
 have b1:ai (∀(o:aa) (v:NV),(Y.aQ T v (⟨⟨z,1,u,s,r,l⟩,y,A,next,n,j,d,id,t,p,0⟩:ND)).P o->Calls prog 210 #[pV T.g] o (vy o q)):=Z (λ o v E=>by rw[<-R];exact Ib E C)
 have k:(rU q).Ok:=⟨ck _,ck _,ck _,jN,yK,S,by show q.length<=1000000;omega⟩
 have b2:=Z (λ o (E:bQ o) v (H:(Y.ow 240 4 v q.length (cy q)).P o)=>mG E 0 (rU q) k (F5 (L:=q) (rU q) rfl rfl rfl H W))
 generalize(rU q).enc=E at*
 have K:=Z X;have H:=Z a1
 clear R k a2 S F e C X a1 D P a0
 go_enter func141,ntmps141
 go_upto_region 2 with((go_at_call 207;(refine(a9.U _ _ a.U).mono ?_);rintro e R ⟨a3,a5,x1,rfl,a6⟩;have c:=a6.fs [1];clear a6;replace a:=Z c;clear c))
 replace a:=Z (fo a.U)
 go_wp2_with(refine Kl a ?_)
 replace a:=Z (eR T x1 a4 a.U)
 go_loopw [7,18] (λ C k wr=>(C=ad a3 g.length a5/\k=O 0/\ai (af B wr m (Y.aQ T x1 a4::Y.so (ad a3 g.length a5) g::rest)))
  \/∃(D:Option Addr) (F:Nat) (x2:NV),C=ad D (g.length+L2.length) F/\k=O 1/\ai (af B wr m (Y.aQ T x2 (⟨⟨z,1,u,s,r,l⟩,y,A,next,n,j,d,id,t,p,0⟩:ND)::Y.ow 272 2 (ad D (g.length+L2.length) F) (g.length+L2.length) (fv g++fv L2)::rest))) (λ _ k _=>1-(intOf k).toNat)
 case atStart=>grind
 case round=>
  clear a
  obtain⟨rfl,rfl,a⟩|⟨D,F,x2,rfl,rfl,a⟩:=hrel
  ·go_wp2_with(first|refine sX a.U rfl rW rfl 2 rfl rfl rfl (Yi (a.U.get (i:=0) rfl) (by have:=H.U;omega)) (by unfold maxLen;have:=K.U;have:=H.U;omega) (by have:=K.U;have:=H.U;omega) ?_;intro D F S c;simp only[au,ay] at c;replace a:=Z c;clear c|go_at_call 208;(refine(a8.U _ _ _ a.U).mono ?_);rintro e R ⟨b7,b8,x2,rfl,c⟩;replace a:=Z c;clear c)
   exact⟨.inr ⟨_,_,x2,rfl,rfl,Z a.U.tail⟩,by decide⟩
  ·have k:ai (af B wr m (Y.row T.g 139 [T.h,O 1,O (u:Int),U (s:Int),U (r:Int),U (l.base:Int),U (l.j:Int),U (l.span:Int),O (l.i:Int),O (l.room:Int),ad (some ⟨T.b,0,none⟩) 1 T.lc,pV T.f,pV T.c,.map (some T.rg),O (id:Int),U (t:Int),U (p:Int),O 0]::Y.row T.b 133 (ND.hq (⟨⟨z,1,u,s,r,l⟩,y,A,next,n,j,d,id,t,p,0⟩:ND) x2)::Y.ho x2.pv y.f::Y.jr T.f T.a x2.a j::Y.rt T.c T.d T.e x2.b l (lA n)::Y.mp T.rg (nQ n)::Y.ow 272 2 (ad D (g.length+L2.length) F) (g.length+L2.length) (fv g++fv L2)::rest)):=Z (fo a.U)
   clear a
   have a:=k
   clear k
   have b3:ai (fv g++fv L2=fv (g++L2)):=Z (ye _ _).symm
   have b0:ai (g.length+L2.length=(g++L2).length):=Z zS
   by_cases k:b<p
   ·have C:=Z (I k)
    have d1:decide ((b:Int)<(p:Int))=true:=by grind
    have d2:decide (b<p)=true:=by grind
    clear I G k
    go_wp2_with(refine Kl a ?_)
    go_ret
    rw[C.U.1,C.U.2]
    have c:=(eR T x2 (⟨⟨z,1,u,s,r,l⟩,y,A,next,n,j,d,id,t,p,0⟩:ND) a.U).fs [1]
    rw[b3.U,b0.U] at c
    refine⟨D,F,x2,?_,?_⟩
    ·simp
    ·show af B _ m (Y.so (.slice D (g++L2).length F) (g++L2)::Y.aQ T x2 (⟨⟨z,1,u,s,r,l⟩,y,A,next,n,j,d,id,t,p,0⟩:ND)::rest)
     exact c
   ·have C:=Z (G k)
    have d1:decide ((b:Int)<(p:Int))=false:=by grind
    have d2:decide (b<p)=false:=by grind
    obtain⟨a2,a1⟩:∃a2,bw b r=a2:=⟨_,rfl⟩
    rw[a1] at J
    have X:=C.U
    rw[a1] at X
    clear C a1
    have C:=Z X
    clear X
    clear I G k
    go_upto_region 9 with(refine Kl a ?_)
    refine RG a 10 [0] λ b6 a k=>?_
    refine VV [0,1,2,3,2004,5] k ?_
    clear k
    refine KV 6 (en 210) 50 ?_
    refine(b1.U _ x2 ((eR T x2 (⟨⟨z,1,u,s,r,l⟩,y,A,next,n,j,d,id,t,p,0⟩:ND) a.U).get (i:=0) rfl)).mono ?_
    rintro e R ⟨c1,c2,rfl,I,G⟩
    replace a:=Z (a.U.db G I);clear G I
    refine⟨_,rfl,bo a [1],?_⟩
    simp only[aH,au,ay]
    have k:=bo a [1]
    refine VV [7] k ?_
    refine KW a k 8 (en 209) (b2.U _ (b4.U.at a.U) _ (a.U.get (i:=0) rfl)) ?_;clear a k;intro R a k
    refine az.make a.U (i:=9) V zD rfl rfl 53 rfl (some 1) 272 [O 0,ae E] ?RF ?_
    case RF=>(go_simp;(rfl))
    intro b9 S c0 c
    replace a:=Z c;clear c
    refine⟨bo a [2],?_⟩
    simp only[bk]
    simp only[aH,au,ay]
    refine WT ?_
    go_upto_region 10 with((refine Ap a.U rfl rW rfl 8 rfl rfl 0 rfl rfl rfl rfl (by unfold maxLen;have:=K.U;have:=H.U;omega) (by have:=K.U;have:=H.U;omega) ?_;intro I G S c;simp only[au,ay] at c;replace a:=Z c;clear c))
    refine RG a 25 [2] λ b6 a k=>?_
    refine VV [0,1,2,3,4,2005] k ?_
    refine W2 6 61 (v:=O 1) rfl rfl (Or.inl ⟨by kernel_rfl,λ o X=>by(go_simp;rfl)⟩) k ?_
    refine VV [7,8,9,10,2011] k ?_
    refine W2 12 67 (v:=O 0) rfl rfl (Or.inl ⟨by kernel_rfl,λ o X=>by(go_simp;done)⟩) k ?_
    refine VV [13,14,15,16,17,2018] k ?_
    clear k
    refine KV 19 (en 139) 74 ?_
    refine(J.U _).mono ?_
    rintro e R ⟨rfl,rfl⟩
    refine⟨_,rfl,bo a [2],?_⟩
    simp only[aH,au,ay]
    have k:=bo a [2]
    refine VV [20,21] k ?_
    clear k
    refine az.iW (i:=22) V zD rfl ?_
    (refine One.qY a.U V rfl 2 rfl 3 rfl rfl rfl V rfl rfl λ S c=>?_;simp only[eF,au,ay,bC,bU,dc,cO] at c)
    replace a:=Z c;clear c
    refine⟨bo a [2],?_⟩
    try simp only[aH,au,ay]
    have k:=bo a [2]
    refine VV [23,24] k ?_
    clear k
    refine WT ?_
    go_wp2_with(refine KS a λ S a=>?_)
    go_ret
    rw[C.U.1,C.U.2]
    have c:=a.U.tail.tail
    have v:=(eR T x2 (⟨⟨z,1,u,s,r,l⟩,y,A,next,n,j,d,id,t,a2,0⟩:ND) c).ft [1]
    have k:g.length+L2.length+1=((g++L2)++[((0:Int),E)]).length:=by rw[bA,bA];rfl
    have a1:fv g++fv L2++[Value.int .i64 0,ae E]=fv ((g++L2)++[((0:Int),E)]):=by rw[ye,ye];rfl
    rw[a1,k] at v
    refine⟨some ⟨I,0,none⟩,G,x2,?_,?_⟩
    ·show Ending.returned (ad (some ⟨I,0,none⟩) (g.length+L2.length+1) G)=Ending.returned (.slice (some ⟨I,0,none⟩) ((g++L2)++[((0:Int),E)]).length G)
     rw[k]
    ·exact v
variable{D:BD}
def F4{s:ag}(h:eN s= .ok D):D.right=true:=by
 unfold eN at h;generalize(⟨s,0⟩:RD)=r at h;generalize r.mb.ea=e at h;generalize r.gZ=v at h;by_cases b:e=0
 ·rw[ax b] at h;by_cases a:v.right=true
  ·rw[ax a] at h;injection h with h;rw[<-h];exact a
  ·rw[aj a] at h;cases h
 ·rw[aj b] at h;cases h
def uu(n:ND):n.proof.Ok/\n.proof.Small:=by
 have c:(gH n.st.aM).Ok:=by
  unfold gH;cases a:eN n.st.aM with
  |error k=>exact yK
  |ok b=>exact rN (F4 a)
 have d:(gH n.st.aM).e.length<=48:=by
  unfold gH;cases a:eN n.st.aM with
  |error k=>exact bh _
  |ok b=>exact(uC (F4 a)).2.2.1
 have e:n.proof=cj (gH n.st.aM):=rfl;rw[e];generalize gH n.st.aM=B at*;exact⟨⟨ck _,ck _,ck _,jN,c,(λ k a=>by cases a),bh _⟩,⟨d,bh _,bh _⟩⟩
def LZ(w:aa)(L:List SD)(e:Ending)(a:aa):Prop:=
 ∃A c,e=ao (ad A L.length c)/\a.ownsRow w.heap.size 272 2 (ad A L.length c) L.length (fv L)/\BW w a
def Bg(n:ND)(a:Int)(k:MK):List SD:=if¬n.st.aM=⟨#[]⟩ then(if k.aM=true then [] else [(a,n.proof.enc)]) else if k.aM=false/\n.st.aT=true/\qi n.st k=true then [(a,(cD n.st.ar).enc)] else []
def OZ{w:aa}(G:bQ w){x:NV}(h:(Y.aQ T x N).P w)(f:N.Ok)(k:Int)(y:MG){b5 b7 b6:ab}(B:y.Rd w b5 b7 b6):
 Calls prog 169 #[pV T.g,O k,y.val b5 b7 b6] w (LZ w (N.tL k y)):=by
 have c:=oO (sx h) (by have:=f.o;omega)
 have q:=Z (aP (jz h) (aP (oY h) bf))
 have a9:=Z (λ a (b:BW w a)=>Cp ((Y.aQ T x N).lift h b))
 have b1:=Z (λ a (b:BW w a) R (J:N.proof.Rd a R (ad none 0 0) (ad none 0 0))=>mG (G.below b) k N.proof (uu N).1 J)
 have b9:=Z (λ a (b:BW w a)=>Ib ((Y.aQ T x N).lift h b) f.o)
 obtain⟨j,g⟩:=H0 (n:=N) f.ar
 have d:(rM N.aL).Ok:=⟨ck _,ck _,ck _,jN,yK,g,by show N.aL.length<=1000000;omega⟩
 have c0:=Z (λ a (b:BW w a) v (b3:(Y.ow 240 4 v N.aL.length (cy N.aL)).P a)=>mG (G.below b) k (rM N.aL) d (F5 (L:=N.aL) (rM N.aL) rfl rfl rfl b3 W))
 have e:=(ly (y:=cD N.st.ar) (ck _) (ck _) (ck _) f.ar rfl rfl rfl).1
 have b0:=Z (λ a (b:BW w a)=>mG (G.below b) k (cD N.st.ar) e (oZ _ rfl rfl rfl a))
 have s:=Z (λ a (b:BW w a)=>UY (B.m.below b))
 obtain⟨pA,d7,a7⟩:=c.form
 have r:=Z (λ a=>M8 N.st (pv:=x.pv) ⟨_,_,_,a7⟩ (fJ y.aL) a)
 have a1:=Z (λ a (b:BW w a)=>Mt N.st (c.below b) (fJ y.aL))
 obtain⟨C,D,rfl⟩:=B.b.form
 obtain⟨S,X,rfl⟩:=B.p.form
 obtain⟨M,P,rfl⟩:=B.m.iQ
 have a:N.tL k y=Bg N k (fJ y.aL)++(if y.c=1/\behind N.st (fJ y.aL)=true then [(k,(rM N.aL).enc)] else []):=rfl
 rw[a]
 have l:Bg N k (fJ y.aL)=if¬N.st.aM=⟨#[]⟩ then(if(fJ y.aL).aM=true then [] else [(k,N.proof.enc)]) else if(fJ y.aL).aM=false/\N.st.aT=true/\qi N.st (fJ y.aL)=true then [(k,(cD N.st.ar).enc)] else []:=rfl
 generalize Bg N k (fJ y.aL)=n at*
 have a6:=ks N.st.aM
 have a5:=gn N.st.aM
 have m:n.length<=1:=by rw[l];split<;>split<;>simp
 have o:∀v,(Y.ow 240 4 v N.aL.length (cy N.aL))=(Y.ow 240 4 v N.aL.length (cy N.aL)):=λ _=>rfl
 clear c G h B j g d e a o f
 generalize N.proof=c2 at*
 generalize N.aL=c1 at*
 generalize(rM c1).enc=p at*
 generalize behind N.st (fJ y.aL)=u at*
 generalize qi N.st (fJ y.aL)=b8 at*
 generalize fJ y.aL=K at*
 generalize(cD N.st.ar).enc=c5 at*
 generalize c2.enc=c6 at*
 have f1:=Fh (y.c:Int) 1
 have a:decide ((y.c:Int)=1)=decide (y.c=1):=by rw[bI];simp;omega
 rw[a] at f1
 clear a
 obtain⟨k1,c⟩:∃k1,decide (y.c=1)=k1:=⟨_,rfl⟩
 rw[c] at f1
 have d:(if y.c=1/\u=true then [(k,p)] else [])=if k1=true/\u=true then [(k,p)] else []:=by rw[<-c];simp
 rw[d]
 obtain⟨b2,a⟩:∃b2,(if k1=true/\u=true then [(k,p)] else [])=b2:=⟨_,rfl⟩
 rw[a]
 have a3:=Z a
 clear d c a
 obtain⟨R,e0,b3,e4⟩:=x
 simp only at a7
 subst a7
 obtain⟨c,⟨c4,c7,pd,c3⟩,e1,next,d9,j,d,id,d6,e2,e3⟩:=N
 obtain⟨d3,d5,d4,b4⟩:=K
 simp only at a9 b1 b0 r a1 s a6 a5 l q
 generalize e:pd.length=d8 at*
 generalize y.b.e.length=bn at*
 generalize y.e.length=a0 at*
 generalize y.aL.length=Q at*
 have a:=Z ((af.start w []).dj (Y.so (ad none 0 0) []) (ct _ _ _ _) rfl)
 have a8:=Z m
 have a2:=Z l
 clear m l e
 go_enter func169,ntmps169
 go_wp2_with(first|refine KH (a.U.bH q.U) ?_|refine KB a 81 5 ((y.cells (ad C bn D) (ad S a0 X) (ad M Q P))) λ a4 g d1 a=>?_)
 go_loopw [7,8,17] (λ o m e wr=>(o=ad none 0 0/\m=aF false/\e=O 0/\ai (af w wr [] [Y.row a4 81 (y.cells (ad C bn D) (ad S a0 X) (ad M Q P)),Y.so (ad none 0 0) []]))
  \/∃(t:Option Addr) (v:Nat),o=ad t n.length v/\m=aF u/\e=O 1/\ai (af w wr [] [Y.so (ad t n.length v) n,Y.row a4 81 (y.cells (ad C bn D) (ad S a0 X) (ad M Q P))])) (λ _ _ e _=>1-(intOf e).toNat)
 case atStart=>exact .inl ⟨rfl,rfl,rfl,a⟩
 case round=>
  clear a
  obtain⟨rfl,rfl,rfl,a⟩|⟨t,v,rfl,rfl,rfl,a⟩:=hrel
  ·have f:=a.U.fs [1]
   clear a
   have a:ai (af w wr [] [Y.so (ad none 0 0) [],Y.row a4 81 (y.cells (ad C bn D) (ad S a0 X) (ad M Q P))]):=Z f
   clear f
   have l:=a2.U
   clear a2
   by_cases o:c3=⟨#[]⟩
   focus
    rw[aj (by simpa using o)] at l
    rw[aS o] at a6 a5
    clear o
    cases b4
    focus
     cases c4
     ·rw[aj zS] at l
      subst l
      go_wp2_with(first|refine KI (a.U.bH q.U) 11 ?_|refine Kl a ?_|refine KT a 7 ?_|refine KT a 4 ?_|refine KS a λ g a=>?_|refine KA a _ 10 ku λ E g H a=>?_|refine KA a _ 11 jc λ F g I a=>?_|go_at_call 236;(refine(s.U _ a.U.ak).mono ?_);rintro e m ⟨rfl,b⟩;replace a:=Z (a.U.below b);clear b|go_at_call 237;(refine(r.U _).mono ?_);rintro e m ⟨rfl,b⟩;replace a:=Z (a.U.below b);clear b)
      exact⟨.inr ⟨none,0,rfl,by simp,rfl,Z a.U.tail.tail⟩,by decide⟩
     focus
      cases b8
      ·rw[aj zS] at l
       subst l
       go_wp2_with(first|refine KI (a.U.bH q.U) 11 ?_|refine Kl a ?_|refine KT a 7 ?_|refine KT a 4 ?_|refine KS a λ g a=>?_|refine KA a _ 10 ku λ E g H a=>?_|refine KA a _ 11 jc λ F g I a=>?_|go_at_call 236;(refine(s.U _ a.U.ak).mono ?_);rintro e m ⟨rfl,b⟩;replace a:=Z (a.U.below b);clear b|go_at_call 237;(refine(r.U _).mono ?_);rintro e m ⟨rfl,b⟩;replace a:=Z (a.U.below b);clear b|go_at_call 238;(refine(a1.U _ a.U.ak).mono ?_);rintro e m ⟨rfl,b⟩;replace a:=Z (a.U.below b);clear b)
       exact⟨.inr ⟨none,0,rfl,by simp,rfl,Z a.U.tail.tail⟩,by decide⟩
      focus rw[ax ⟨rfl,rfl,rfl⟩] at l
    rotate_left
    ·rw[aj zS] at l
     subst l
     go_wp2_with(first|refine KI (a.U.bH q.U) 11 ?_|refine Kl a ?_|refine KT a 7 ?_|refine KT a 4 ?_|refine KS a λ g a=>?_|refine KA a _ 10 ku λ E g H a=>?_|refine KA a _ 11 jc λ F g I a=>?_|go_at_call 236;(refine(s.U _ a.U.ak).mono ?_);rintro e m ⟨rfl,b⟩;replace a:=Z (a.U.below b);clear b|go_at_call 237;(refine(r.U _).mono ?_);rintro e m ⟨rfl,b⟩;replace a:=Z (a.U.below b);clear b)
     exact⟨.inr ⟨none,0,rfl,by simp,rfl,Z a.U.tail.tail⟩,by decide⟩
   rotate_left
   focus
    rw[ax o] at l
    rw[bu o] at a6 a5
    clear o
    cases b4
    focus rw[aj zD] at l
    rotate_left
    ·rw[ax rfl] at l
     subst l
     go_wp2_with(first|refine KI (a.U.bH q.U) 11 ?_|refine Kl a ?_|refine KT a 7 ?_|refine KT a 4 ?_|refine KS a λ g a=>?_|refine KA a _ 10 ku λ E g H a=>?_|refine KA a _ 11 jc λ F g I a=>?_|go_at_call 236;(refine(s.U _ a.U.ak).mono ?_);rintro e m ⟨rfl,b⟩;replace a:=Z (a.U.below b);clear b|go_at_call 237;(refine(r.U _).mono ?_);rintro e m ⟨rfl,b⟩;replace a:=Z (a.U.below b);clear b)
     exact⟨.inr ⟨none,0,rfl,by simp,rfl,Z a.U.tail.tail⟩,by decide⟩
   all_goals
    subst l
    go_wp2_with(first|refine KI (a.U.bH q.U) 11 ?_|refine Kl a ?_|refine KT a 7 ?_|refine KT a 4 ?_|refine KS a λ g a=>?_|refine KA a _ 10 ku λ E g H a=>?_|refine KA a _ 11 jc λ F g I a=>?_|(with_reducible show cH);(refine Mk a.U rfl 47 rfl (some 1) 272 [_,_] (by go_simp;(exact⟨rfl,rfl⟩)) ?_;intro c8 g d0 f;replace a:=Z f;clear f;simp only[bk])|(with_reducible show cH);(refine Mk a.U rfl 72 rfl (some 1) 272 [_,_] (by go_simp;(exact⟨rfl,rfl⟩)) ?_;intro c9 g d2 f;replace a:=Z f;clear f;simp only[bk])|refine Ap a.U rfl rW rfl 3 rfl rfl 0 rfl rfl rfl rfl (by unfold maxLen;(decide)) zD ?_;intro A z g f;simp only[au,ay] at f;replace a:=Z f;clear f|go_at_call 236;(refine(s.U _ a.U.ak).mono ?_);rintro e m ⟨rfl,b⟩;replace a:=Z (a.U.below b);clear b|go_at_call 237;(refine(r.U _).mono ?_);rintro e m ⟨rfl,b⟩;replace a:=Z (a.U.below b);clear b|go_at_call 215;(refine(a9.U _ a.U.ak).mono ?_);rintro e m ⟨R,rfl,J,b⟩;replace a:=Z (a.U.below b);clear b;have o:=Z J;clear J|go_at_call 209;((refine(b1.U _ a.U.ak _ o.U).mono ?_));rintro e m ⟨rfl,b⟩;replace a:=Z (a.U.below b);clear b|go_at_call 238;(refine(a1.U _ a.U.ak).mono ?_);rintro e m ⟨rfl,b⟩;replace a:=Z (a.U.below b);clear b|go_at_call 209;((refine(b0.U _ a.U.ak).mono ?_));rintro e m ⟨rfl,b⟩;replace a:=Z (a.U.below b);clear b)
    exact⟨.inr ⟨some ⟨A,0,none⟩,z,rfl,by simp,rfl,Z a.U.tail.tail.tail⟩,by decide⟩
  ·clear a2
   cases k1
   ·go_wp2_with(refine Kl a ?_)
    go_ret
    have o:=a3.U
    rw[aj zS] at o
    subst o
    exact⟨t,v,by simp,by simpa using sC a.U rfl,a.U.ak⟩
   ·cases u
    ·go_wp2_with(refine Kl a ?_)
     go_ret
     have o:=a3.U
     rw[aj zS] at o
     subst o
     exact⟨t,v,by simp,by simpa using sC a.U rfl,a.U.ak⟩
    ·go_wp2_with(first|refine Kl a ?_|(with_reducible show cH);(refine Mk a.U rfl 87 rfl (some 1) 272 [_,_] (by go_simp;(exact⟨rfl,rfl⟩)) ?_;intro a2 g c8 f;replace a:=Z f;clear f;simp only[bk])|refine Ap a.U rfl rW rfl 2 rfl rfl 0 rfl rfl rfl rfl (by unfold maxLen;(have:=a8.U;omega)) (by(have:=a8.U;omega)) ?_;intro A z g f;simp only[au,ay] at f;replace a:=Z f;clear f|go_at_call 210;(refine(b9.U _ a.U.ak).mono ?_);rintro e m ⟨c9,d0,rfl,F,b⟩;replace a:=Z (a.U.db b F);clear b F|go_at_call 209;(refine(c0.U _ a.U.ak _ (a.U.get (i:=0) rfl)).mono ?_);rintro e m ⟨rfl,b⟩;replace a:=Z (a.U.below b);clear b)
     go_ret
     have o:=a3.U
     rw[ax zS] at o
     subst o
     have I:=sC a.U.tail.tail rfl
     have E:(n++[(k,p)]).length=n.length+1:=by simp
     have H:fv (n++[(k,p)])=fv n++[Value.int .i64 k,ae p]:=by rw[ye];rfl
     refine⟨some ⟨A,0,none⟩,z,?_,?_,a.U.ak⟩
     ·show Ending.returned (ad (some ⟨A,0,none⟩) (n.length+1) z)=Ending.returned (.slice (some ⟨A,0,none⟩) (n++[(k,p)]).length z)
      rw[E]
     ·rw[E,H];exact I
variable{r:Int}{I:List Y}{g:Nat}
def Cc(n:ND)(y:MG):(n.bZ y).bq=n.bq:=by
 unfold ND.bZ;split
 ·split<;>rfl
 ·rfl
def zG(f:aa)(m:List Nat)(rest:List Y)(a:NA)(p:ND×List SD)(e:Ending)(d:aa):Prop:=
 ∃A c g b,e=ao (ad A p.2.length c)/\af f d m (Y.so (ad A p.2.length c) p.2::Y.aQ a g p.1::Y.dk a.a b p.1.d::rest)
def nW{a w:aa}(h:af a w m I):af a w m (Y.so (ad none 0 0) []::I):=h.dj (Y.so (ad none 0 0) []) (ct _ _ _ _) rfl
def Db{a w:aa}{E:ag}(h:af a w m (Y.row g 272 [O r,ae E]::I)):af a w m (Y.so (ad (some ⟨g,0,none⟩) 1 1) [(r,E)]::I):=
 ie h 0 rfl 1 1 2 zD zD rfl (fv [(r,E)]) rfl
def Rf(n:ND)(a:Int)(y:MG):
 (n.dI y=6->n.mn y=n.bZ y/\n.mm a y=[(a,rQ.enc)])/\
 (n.dI y=5\/n.dI y=9->n.mn y=n.bZ y/\n.mm a y=[(a,(n.bZ y).proof.enc)])/\
 (n.dI y=7->n.mn y=(n.bZ y).dV/\n.mm a y=[])/\
 (¬n.dI y=6->¬n.dI y=5->¬n.dI y=9->¬n.dI y=7->n.mn y=n.bZ y/\n.mm a y=[]):=by
 unfold ND.mn ND.mm
 generalize n.dI y=K
 refine⟨λ h=> ?_,λ h=> ?_,λ h=> ?_,λ b d e c=> ?_⟩
 ·rw[aj W,ax h];exact⟨rfl,rfl⟩
 ·rw[aj W,aj W,ax h];exact⟨rfl,rfl⟩
 ·rw[ax h,aj W,aj W];exact⟨rfl,rfl⟩
 ·rw[aj c,aj b,aj W];exact⟨rfl,rfl⟩
def Re{j w:aa}{rest:List Y}{x:NV}{s:ab}(b0:TM m j)(h:af j w m (Y.aQ T x N::Y.dk T.a s N.d::rest))(c:N.Ok)(p:Int)(y:MG)(b5:y.Ok)(b6:y.Small)(b1:y.log=0){b8 c0 b9:ab}(Q:y.Rd w b8 c0 b9):
 Calls prog 170 #[pV T.g,O p,y.val b8 c0 b9] w (zG j m rest T (N.mn y,N.mm p y)):=by
 have a:=Z (af.start w [])
 have a7:=Z h
 have b2:=Z b0
 have l:=Z (λ(b:aa) (f:List Y) (k:BW w b) (d:af j b m (Y.aQ T x N::Y.dk T.a s N.d::f))=>Cb b0 d c y b5 b6 b1 (Q.below k))
 have e:(N.bZ y).bq<18446744073709551616:=by rw[Cc];exact c.bq
 have c2:=Z (λ(b:aa) (d:(Y.row T.g 139 ((N.bZ y).cells T)).P b)=>uQ d e)
 obtain⟨G,H,rfl⟩:=Q.b.form
 obtain⟨a1,a2,rfl⟩:=Q.p.form
 obtain⟨S,X,rfl⟩:=Q.m.iQ
 have a8:=Z (λ(b:aa) (g:NV) (d:(Y.aQ T g (N.bZ y)).P b)=>Cp d)
 have a9:=Z (λ(b:aa) (d:bQ b) b7 (a5:(N.bZ y).proof.Rd b b7 (ad none 0 0) (ad none 0 0))=>mG d p (N.bZ y).proof (uu (N.bZ y)).1 a5)
 have a4:=Z (λ(b:aa) (d:bQ b)=>mG d p rQ (ly (y:=rQ) (ck _) (ck _) (ck _) jN rfl rfl rfl).1 (oZ rQ rfl rfl rfl b))
 obtain⟨p1,p2,p3,p4⟩:=Rf N p y
 generalize N.mn y=c6 at*
 generalize N.mm p y=c7 at*
 generalize rQ.enc=c4 at*
 generalize(N.bZ y).proof=c3 at*
 generalize c3.enc=c5 at*
 clear e b0 h c b5 b6 Q
 generalize N.dI y=K at*
 generalize N.bZ y=n at*
 generalize y.b.e.length=bn at*
 generalize y.e.length=a3 at*
 generalize y.aL.length=a0 at*
 obtain⟨R,d3,id,M,u,⟨I,J,L,P⟩,⟨⟨v,z,A,B⟩,⟨C,D,E,F⟩,c8⟩,d5,d4⟩:=y
 simp only at b1
 subst b1
 show Calls prog 170 #[pV T.g,O p,aG #[O (R:Int),O 0,U (id:Int),U (M:Int),U (u:Int),U (I:Int),U (J:Int),ae L,ae P,U (v:Int),U (z:Int),ae A,ae B,U (C:Int),U (D:Int),ae E,ae F,ad G bn H,ad a1 a3 a2,ad S a0 X]] w _
 by_cases k6:K=6
 ·subst k6
  obtain⟨e1,e2⟩:=p1 rfl
  rw[e1,e2]
  have o:ai (∀(b:aa) (f:List Y),BW w b->af j b m (Y.aQ T x N::Y.dk T.a s N.d::f)->Calls prog 219 #[pV T.g,aG #[O (R:Int),O 0,U (id:Int),U (M:Int),U (u:Int),U (I:Int),U (J:Int),ae L,ae P,U (v:Int),U (z:Int),ae A,ae B,U (C:Int),U (D:Int),ae E,ae F,ad G bn H,ad a1 a3 a2,ad S a0 X]] b λ r q=>r=ao (O 6)/\∃d g,af j q m (Y.aQ T d n::Y.dk T.a g n.d::f)):=l
  clear p1 p2 p3 p4 e1 e2 l
  go_enter func170,ntmps170
  go_wp2_with(first|refine KT a 20 ?_|refine Kl a ?_|refine KB a 81 5 _ λ b3 a6 b4 a=>?_|(with_reducible show cH);(refine Mk a.U rfl 17 rfl (some 1) 272 [_,_] (by go_simp;(exact⟨rfl,rfl⟩)) ?_;intro c9 a6 d1 c;replace a:=Z c;clear c;simp only[bk])|go_at_call 219;(refine(o.U _ _ a.U.ak ((a7.U.plus a.U).ft [2,2])).mono ?_);rintro e t ⟨rfl,d,g,c⟩;replace a:=Z c;clear c|go_at_call 209;(refine(a4.U _ (b2.U.at a.U)).mono ?_);rintro e t ⟨rfl,k⟩;replace a:=Z (a.U.below k);clear k)
  go_ret
  have c:=(Db a.U).fs [3,1000]
  exact⟨_,_,d,g,rfl,Db (a.U.ft [3,1000])⟩
 ·have f6:((K:Int)==6)=false:=by rw[cc];omega
  by_cases k5:K=5\/K=9
  ·obtain⟨e1,e2⟩:=p2 k5
   rw[e1,e2]
   clear p1 p2 p3 p4 e1 e2 a4
   rcases k5 with rfl|rfl
   focus have o:ai (∀(b:aa) (f:List Y),BW w b->af j b m (Y.aQ T x N::Y.dk T.a s N.d::f)->Calls prog 219 #[pV T.g,aG #[O (R:Int),O 0,U (id:Int),U (M:Int),U (u:Int),U (I:Int),U (J:Int),ae L,ae P,U (v:Int),U (z:Int),ae A,ae B,U (C:Int),U (D:Int),ae E,ae F,ad G bn H,ad a1 a3 a2,ad S a0 X]] b λ r q=>r=ao (O 5)/\∃d g,af j q m (Y.aQ T d n::Y.dk T.a g n.d::f)):=l
   rotate_left
   focus have o:ai (∀(b:aa) (f:List Y),BW w b->af j b m (Y.aQ T x N::Y.dk T.a s N.d::f)->Calls prog 219 #[pV T.g,aG #[O (R:Int),O 0,U (id:Int),U (M:Int),U (u:Int),U (I:Int),U (J:Int),ae L,ae P,U (v:Int),U (z:Int),ae A,ae B,U (C:Int),U (D:Int),ae E,ae F,ad G bn H,ad a1 a3 a2,ad S a0 X]] b λ r q=>r=ao (O 9)/\∃d g,af j q m (Y.aQ T d n::Y.dk T.a g n.d::f)):=l
   all_goals
    clear l k6 f6
    go_enter func170,ntmps170
    go_wp2_with(first|refine KT a 20 ?_|refine Kl a ?_|refine KB a 81 5 _ λ b3 a6 b4 a=>?_|(with_reducible show cH);(refine Mk a.U rfl 27 rfl (some 1) 272 [_,_] (by go_simp;(exact⟨rfl,rfl⟩)) ?_;intro d0 a6 d2 c;replace a:=Z c;clear c;simp only[bk])|go_at_call 219;(refine(o.U _ _ a.U.ak ((a7.U.plus a.U).ft [2,2])).mono ?_);rintro e t ⟨rfl,d,g,c⟩;replace a:=Z c;clear c|go_at_call 215;(refine(a8.U _ _ (a.U.get (i:=0) rfl)).mono ?_);rintro e t ⟨b7,rfl,a5,k⟩;replace a:=Z (a.U.below k);clear k;have c1:=Z a5;clear a5|go_at_call 209;(refine(a9.U _ (b2.U.at a.U) _ c1.U).mono ?_);rintro e t ⟨rfl,k⟩;replace a:=Z (a.U.below k);clear k)
    go_ret
    exact⟨_,_,d,g,rfl,Db (a.U.ft [3,1000])⟩
  ·have f5:((K:Int)==5)=false:=by rw[cc];omega
   have f9:((K:Int)==9)=false:=by rw[cc];omega
   by_cases k7:K=7
   focus
    subst k7
    obtain⟨e1,e2⟩:=p3 rfl
    rw[e1,e2]
    have o:ai (∀(b:aa) (f:List Y),BW w b->af j b m (Y.aQ T x N::Y.dk T.a s N.d::f)->Calls prog 219 #[pV T.g,aG #[O (R:Int),O 0,U (id:Int),U (M:Int),U (u:Int),U (I:Int),U (J:Int),ae L,ae P,U (v:Int),U (z:Int),ae A,ae B,U (C:Int),U (D:Int),ae E,ae F,ad G bn H,ad a1 a3 a2,ad S a0 X]] b λ r q=>r=ao (O 7)/\∃d g,af j q m (Y.aQ T d n::Y.dk T.a g n.d::f)):=l
    clear p1 p2 p3 p4 e1 e2 l k6 f6 k5 f5 f9 a4 a9 a8
   rotate_left
   focus
    obtain⟨e1,e2⟩:=p4 k6 W W k7
    rw[e1,e2]
    have f7:((K:Int)==7)=false:=by rw[cc];omega
    have o:=l
    clear p1 p2 p3 p4 e1 e2 l k6 k5 k7 a4 a9 a8
   all_goals
    go_enter func170,ntmps170
    go_wp2_with(first|refine KT a 20 ?_|refine KB a 81 5 _ λ b3 a6 b4 a=>?_|go_at_call 219;(refine(o.U _ _ a.U.ak ((a7.U.plus a.U).ft [2,2])).mono ?_);rintro e t ⟨rfl,d,g,c⟩;replace a:=Z c;clear c|go_at_call 87;(refine(c2.U _ ((fo a.U).get (i:=0) rfl)).mono ?_);rintro e t ⟨rfl,b⟩;replace a:=Z (eR T d n.dV ((fo a.U).at 0 rfl b));clear b)
    go_ret
    exact⟨none,0,d,g,rfl,nW (a.U.ft [2,1000])⟩
def Wt(n:ND)(y:MG):(n.dI y=7->n.nN y=(n.bZ y).dV)/\(¬n.dI y=7->n.nN y=n.bZ y):=by
 unfold ND.nN;exact⟨λ h=>ax h,λ h=>aj h⟩
def Ws{d w:aa}{rest:List Y}{x:NV}{n:ab}(k:TM m d)(h:af d w m (Y.aQ T x N::Y.dk T.a n N.d::rest))(c:N.Ok)(F:Int)(y:MG)(L:y.Ok)(P:y.Small)(l:y.log=0){a0 a2 a1:ab}(f:y.Rd w a0 a2 a1):
 Calls prog 171 #[pV T.g,O F,y.val a0 a2 a1] w (zG d m rest T (N.nN y,[])):=by
 have a:=Z (af.start w [])
 have a6:=Z h
 have a9:=Z k
 have e:=Z (λ(b:aa) (g:List Y) (j:BW w b) (o:af d b m (Y.aQ T x N::Y.dk T.a n N.d::g))=>Cb k o c y L P l (f.below j))
 have j:(N.bZ y).bq<18446744073709551616:=by rw[Cc];exact c.bq
 have a7:=Z (λ(b:aa) (o:(Y.row T.g 139 ((N.bZ y).cells T)).P b)=>uQ o j)
 obtain⟨D,E,rfl⟩:=f.b.form
 obtain⟨a3,a4,rfl⟩:=f.p.form
 obtain⟨R,S,rfl⟩:=f.m.iQ
 obtain⟨p3,p4⟩:=Wt N y
 generalize N.nN y=b0 at*
 clear j k h c L P f
 generalize N.dI y=K at*
 generalize N.bZ y=j at*
 generalize y.b.e.length=bn at*
 generalize y.e.length=a5 at*
 generalize y.aL.length=X at*
 obtain⟨Q,b3,id,M,q,⟨G,H,I,J⟩,⟨⟨s,t,u,v⟩,⟨z,A,B,C⟩,b1⟩,b5,b4⟩:=y
 simp only at l
 subst l
 show Calls prog 171 #[pV T.g,O F,aG #[O (Q:Int),O 0,U (id:Int),U (M:Int),U (q:Int),U (G:Int),U (H:Int),ae I,ae J,U (s:Int),U (t:Int),ae u,ae v,U (z:Int),U (A:Int),ae B,ae C,ad D bn E,ad a3 a5 a4,ad R X S]] w _
 by_cases k7:K=7
 focus
  subst k7
  rw[p3 rfl]
  have p:ai (∀(b:aa) (g:List Y),BW w b->af d b m (Y.aQ T x N::Y.dk T.a n N.d::g)->Calls prog 219 #[pV T.g,aG #[O (Q:Int),O 0,U (id:Int),U (M:Int),U (q:Int),U (G:Int),U (H:Int),ae I,ae J,U (s:Int),U (t:Int),ae u,ae v,U (z:Int),U (A:Int),ae B,ae C,ad D bn E,ad a3 a5 a4,ad R X S]] b λ r a8=>r=ao (O 7)/\∃b o,af d a8 m (Y.aQ T b j::Y.dk T.a o j.d::g)):=e
  clear p3 p4 e
 rotate_left
 focus
  rw[p4 k7]
  have f7:((K:Int)==7)=false:=by rw[cc];omega
  have p:=e
  clear p3 p4 e k7
 all_goals
  go_enter func171,ntmps171
  go_wp2_with(first|refine KT a 20 ?_|refine KB a 81 5 _ λ a8 b6 b2 a=>?_|go_at_call 219;(refine(p.U _ _ a.U.ak ((a6.U.plus a.U).ft [2,2])).mono ?_);rintro e r ⟨rfl,b,o,c⟩;replace a:=Z c;clear c|go_at_call 87;(refine(a7.U _ ((fo a.U).get (i:=0) rfl)).mono ?_);rintro e r ⟨rfl,g⟩;replace a:=Z (eR T b j.dV ((fo a.U).at 0 rfl g));clear g)
  go_ret
  exact⟨none,0,b,o,rfl,nW (a.U.ft [2,1000])⟩
def NB{w:aa}(a:NA)(e:Int)(y:MG)(c i f:Option Addr)(bn d k j h g:Nat):
 CB 172 #[pV a.g,O e,y.val (ad c bn d) (ad i k j) (ad f h g)] w (ad none 0 0):=by
 have b:=Z (af.start w [])
 go_enter func172,ntmps172
 go_wp2_with((refine KB b 81 5 (y.cells _ _ _) λ l n m b=>?_))
 go_ret
 exact⟨rfl,b.U.ak⟩
def oL:List (Int×ab):=[(1,.func (.func 169) #[] #[]),(2,.func (.func 169) #[] #[]),(3,.func (.func 170) #[] #[]),(4,.func (.func 171) #[] #[]),(9,.func (.func 172) #[] #[])]
def Gc{c w:aa}(h:af c w m I):Calls prog 86 #[] w λ r a=>∃g,r=ao (.map (some g))/\af c a m (Y.mp g oL::I):=by
 have b:=Z h;clear h
 go_enter func86,ntmps86
 go_wp2_with(first|(with_reducible show jw);(refine jj b.U rfl 1 rfl 158 rfl λ f d e a=>?_;replace b:=Z a;clear a)|(with_reducible show QU);(refine Mi b.U 0 rfl rfl xm rfl rfl rfl rfl λ d a=>?_;simp only[au,ay] at a;replace b:=Z a;clear a))
 go_ret
 exact⟨_,rfl,b.U⟩
variable{a:Act}{J K:Y}{G:MG}{k:Nat}{o:Oper}{X:Operand}{t:TypeId}
def QX(h:G.Ok)(c:Nat)(x:RD):(G.ln c x).Ok:=by
 have e:∀r:RD,r.jx.Ok:=λ r=>by
  refine⟨?_,?_⟩
  ·unfold RD.jx;exact jC r
  ·unfold RD.jx;exact jC r.cg
 have n:=e x;have d:x.gZ.Ok:=by
  have d:∀(p q:HD) (L:List ag),p.Ok->q.Ok->L.length<1000000->(⟨p,q,L⟩:BD).Ok:=λ p q L a b c=>⟨a,b,c⟩;unfold RD.gZ;exact d _ _ _ (e x) (e x.jy) (by rw[xg];omega)
 have m:(∀k∈x.kk,k.size<18446744073709551616)/\x.kk.length<=1000000:=by
  have i:=HV x;refine⟨?_,by omega⟩;unfold RD.kk;split
  ·intro k a;cases a
  ·have g:∀(f:Nat) (r:RD),∀k∈r.kl f,k.size<18446744073709551616:=by
    intro f;induction f with
    |zero=>intro r k a;cases a
    |succ f b=>
     intro r k a;rcases bV.1 a with rfl|a
     ·unfold RD.iS;exact jC _
     ·exact b _ k a
   exact g _ _
 unfold MG.ln;by_cases a:c=108
 ·rw[ax a];exact⟨h.id,h.m,h.n,h.h,h.b,h.aL,h.len⟩
 rw[aj a];by_cases b:c=105
 ·rw[ax b];exact⟨jC _,h.m,h.n,h.h,h.b,h.aL,h.len⟩
 rw[aj b];by_cases f:c=109
 ·rw[ax f];exact⟨h.id,jC _,h.n,h.h,h.b,h.aL,h.len⟩
 rw[aj f];by_cases g:c=110
 ·rw[ax g];exact⟨h.id,h.m,jC _,h.h,h.b,h.aL,h.len⟩
 rw[aj g];by_cases i:c=104
 ·rw[ax i];exact⟨h.id,h.m,h.n,n,h.b,h.aL,h.len⟩
 rw[aj i];by_cases j:c=98
 ·rw[ax j];exact⟨h.id,h.m,h.n,h.h,d,h.aL,h.len⟩
 rw[aj j];by_cases l:c=112
 ·rw[ax l];exact⟨h.id,h.m,h.n,h.h,h.b,h.aL,h.len⟩
 rw[aj l];exact⟨h.id,h.m,h.n,h.h,h.b,m.1,m.2⟩
def OS(k:Nat)(x:RD):(ha k x).1.Ok/\(ha k x).1.Small:=by
 have e:∀(L:List Nat) (p:MG×RD),p.1.Ok->p.1.Small->(L.foldl mh p).1.Ok/\(L.foldl mh p).1.Small:=by
  intro L;induction L with
  |nil=>intro p a b;exact⟨a,b⟩
  |cons c L d=>intro p a b;exact d (mh p c) (QX a c p.2) (Hc b c p.2)
 unfold ha;obtain⟨a,b⟩:=ly (y:={dL with c:=k}) (ck _) (ck _) (ck _) jN rfl rfl rfl;exact e _ _ a b
def ny{s:ag}(h:dm s= .ok G):G.Ok/\G.Small/\G.right=true:=by
 unfold dm at h;have g:=OS (⟨s,0⟩:RD).dG ((⟨s,0⟩:RD).bF 1);generalize ha (⟨s,0⟩:RD).dG ((⟨s,0⟩:RD).bF 1)=p at*;generalize hY (⟨s,0⟩:RD).dG=b at*;generalize p.2.ea=e at*;by_cases c:s=⟨#[]⟩
 ·rw[ax c] at h;cases h
 rw[aj c] at h;by_cases d:b=false
 ·rw[ax d] at h;cases h
 rw[aj d] at h;by_cases f:e=0
 ·rw[ax f] at h;by_cases a:p.1.right=true
  ·rw[ax a] at h;injection h with h;rw[<-h];exact⟨g.1,g.2,a⟩
  ·rw[aj a] at h;cases h
 ·rw[aj f] at h;cases h
def wC{s:ag}{e0:Nat}(h:dm s= .error e0):e0≠0:=by
 unfold dm at h;generalize ha (⟨s,0⟩:RD).dG ((⟨s,0⟩:RD).bF 1)=p at*;generalize hY (⟨s,0⟩:RD).dG=b at*;generalize p.2.ea=e at*;by_cases a:s=⟨#[]⟩
 ·rw[ax a] at h;injection h with h;omega
 rw[aj a] at h;by_cases c:b=false
 ·rw[ax c] at h;injection h with h;omega
 rw[aj c] at h;by_cases d:e=0
 ·rw[ax d] at h;by_cases f:p.1.right=true
  ·rw[ax f] at h;cases h
  ·rw[aj f] at h;injection h with h;omega
 ·rw[aj d] at h;injection h with h;omega
def O2(h:k=1\/k=2\/k=3\/k=4\/k=9):(cV oL (k:Int)).isSome=true:=by
 rcases h with rfl|rfl|rfl|rfl|rfl<;>rfl
def Eu{w wr:aa}{z:ab}{c:List (Int×ab)}(h:af w wr m I)(i:Nat)(j:I[i]?=some (Y.mp g c))(e:gg t z){y:Operand}(k:o.op= .lookup t X y true)(hx:a.eval X= .map (some g))(n:a.eval y=O r){v:ab}{b:Bool}
 (l:gJ z c r=v) (f:(cV c r).isSome=b):(execOp a.eval o).run prog wr= .ok (.value (aJ #[v,aF b])) wr:=by
 have d:=Y.Cn (h.get j) e r true
 rw[ax rfl,l,f] at d
 unfold execOp
 simp only[k,hx,n,d,cL,dw,cZ]
def O1(h:¬(k=1\/k=2\/k=3\/k=4\/k=9)):gJ .nilFunc oL (k:Int)= .nilFunc/\(cV oL (k:Int)).isSome=false:=by
 have e:cV oL (k:Int)=none:=by
  unfold oL;simp only[cV];rw[aj W,aj W,aj W,aj W,aj W];rfl
 unfold gJ;rw[e];exact⟨rfl,rfl⟩
def Wl{n:ND}{frm:Int}{s:ag}(h:dm s= .error g):jH n frm s=none:=by unfold jH;rw[h]
def Wm{n:ND}{a:Int}{s:ag}{y:MG}(h:dm s= .ok y)(b:¬(0<=a/\a<n.c.bG/\y.log=0/\(y.c=1\/y.c=2\/y.c=3\/y.c=4\/y.c=9))):jH n a s=none:=by
 unfold jH;rw[h];exact aj b
def IS{n:ND}{a:Int}{s:ag}{y:MG}(h:dm s= .ok y)(b:0<=a/\a<n.c.bG/\y.log=0/\(y.c=1\/y.c=2\/y.c=3\/y.c=4\/y.c=9)):jH n a s=some y:=by
 unfold jH;rw[h];exact ax b
def ur{n:ND}{frm:Int}{s:ag}(h:jH n frm s=none):n.dU frm s=n.dV/\n.cW frm s=[]:=by
 unfold ND.dU ND.cW;rw[h];exact⟨rfl,rfl⟩
def IT{s:ag}(h:jH N r s=some G):N.dU r s=(if G.c=3 then N.mn G else if G.c=4 then N.nN G else N)/\N.cW r s=(if G.c=3 then N.mm r G else if G.c=1\/G.c=2 then N.tL r G else []):=by
 unfold ND.dU ND.cW;rw[h];exact⟨rfl,rfl⟩
def Wn{a w:aa}{rest:List Y}{B D E:Y}(h:af a w m (J::K::B::D::E::rest)):af a w m (J::D::E::rest):=(h.ft [2,1000,1,1000])
def qO{P w:aa}{rest:List Y}{x:NV}{u:ab}(z:TM m P)(h:af P w m (Y.aQ T x N::Y.dk T.a u N.d::rest))(j:N.Ok)(d7:N.c.bG=1)(f:Int)(s:ag):
 Calls prog 29 #[pV T.g,O f,ae s] w (zG P m rest T (N.dU f s,N.cW f s)):=by
 have l:=Z h
 have e6:=Z z
 have b6:=Z (λ(d:aa) (b:(Y.row T.g 139 (N.cells T)).P d)=>uQ b j.bq)
 have a:=Z (af.start w [])
 have o:=z.at h
 have A:∀d,BW w d->(Y.row T.g 139 (N.cells T)).P d:=λ d g=>(Y.row T.g 139 (N.cells T)).lift (jz (h.get (i:=0) rfl)) g
 have b3:=Z A
 cases hd:dm s
 ·rename_i e
  obtain⟨e1,e2⟩:=ur (Wl (n:=N) (frm:=f) hd)
  rw[e1,e2]
  have a2:ai (∀d,BW w d->CB 83 #[ae s] d (aJ #[aG #[O 0,O 0,U 0,U 0,U 0,U 0,U 0,ae ⟨#[]⟩,ae ⟨#[]⟩,U 0,U 0,ae ⟨#[]⟩,ae ⟨#[]⟩,U 0,U 0,ae ⟨#[]⟩,ae ⟨#[]⟩,ad none 0 0,ad none 0 0,ad none 0 0],O (e:Int)])):=Z (λ d g=>(ui s d (o.below g).a (o.below g).aT).mono (by
   rintro r a4 q
   unfold pK at q
   rw[hd] at q
   exact⟨q.1.1,q.2⟩))
  have b:e≠0:=wC hd
  have b8:=Z b
  have e7:((e:Int)==0)=false:=by rw[cc];omega
  clear z h j o hd e1 e2 A b
  have R:=Z (aP (b3.U _ (bz _ _)) bf)
  go_enter func29,ntmps29
  go_upto_region 2 with(first|refine KS a λ b0 a=>?_|refine KA a _ 7 ei λ c9 b0 d3 a=>?_|go_at_call 83;(refine(a2.U _ a.U.ak).mono ?_);rintro e Q ⟨rfl,g⟩;replace a:=Z (a.U.below g);clear g)
  refine RG a 8 [0] λ a1 a c=>?_
  refine VV [1,2002] c ?_
  clear c
  refine KV 0 (en 86) 17 ?_
  refine(Gc a.U).mono ?_
  rintro e Q ⟨d8,rfl,j⟩
  replace a:=Z j;clear j
  refine⟨_,rfl,bo a [1],?_⟩
  simp only[aH,au,ay]
  refine az.CZ (i:=3) V zD rfl rfl 20 rfl (aJ #[.nilFunc,aF false]) _ (Eu a.U 0 rfl xm rfl rfl rfl rfl rfl) (aP (a.U.in (by exact mQ mZ)) bf) ?_
  try simp only[aH,au,ay]
  have c:=bo a [1]
  refine VV [4,5,6,7] c ?_
  clear c
  refine WT ?_
  go_upto_region 3 with fail
  refine kJ a R 28 [1] λ a1 a c=>?_
  refine VV [0] c ?_
  by_cases k:f<0
  focus
   have d1:decide (f<0)=true:=aS k
   clear k
   refine W2 1 24 (v:=aF true) rfl rfl (Or.inl ⟨by kernel_rfl,λ d b=>by(go_simp;done)⟩) c ?_
   refine VV [2,1003,1004,1005,1006,1007,1008,1009,10,11,1012,1013,14,15,1016,1017,18,19,1020,1021,1022,1023,1024,1025,1026,1027] c ?_
  rotate_left
  focus
   have d1:decide (f<0)=false:=bu k
   refine W2 1 24 (v:=aF false) rfl rfl (Or.inl ⟨by kernel_rfl,λ d b=>by(go_simp;done)⟩) c ?_
   refine VV [2,3,4,5,6,7,2008] c ?_
   by_cases n:1<=f
   focus
    have d2:decide (1<=f)=true:=aS n
    clear k n
    refine W2 9 32 (v:=aF true) rfl rfl (Or.inl ⟨by kernel_rfl,λ d b=>by(go_simp;done)⟩) c ?_
    refine VV [10,11,1012,1013,14,15,1016,1017,18,19,1020,1021,1022,1023,1024,1025,1026,1027] c ?_
   rotate_left
   focus
    have d2:decide (1<=f)=false:=bu n
    clear k n
    refine W2 9 32 (v:=aF false) rfl rfl (Or.inl ⟨by kernel_rfl,λ d b=>by(go_simp;done)⟩) c ?_
    refine VV [10,11,12] c ?_
    refine W2 13 36 (v:=aF true) rfl rfl (Or.inl ⟨by kernel_rfl,λ d b=>by(go_simp;exact b8.U)⟩) c ?_
    refine VV [14,15,1016,1017,18,19,1020,1021,1022,1023,1024,1025,1026,1027] c ?_
  all_goals
   clear c
   refine WT ?_
   go_wp2_with((go_at_call 87;(refine(b6.U _ ((fo ((l.U.plus a.U).ft [2])).get (i:=0) rfl)).mono ?_);rintro e Q ⟨rfl,X⟩;replace a:=Z (eR T x N.dV ((fo ((l.U.plus a.U).ft [2])).at 0 rfl X));clear X))
   go_ret
   exact⟨none,0,x,u,rfl,nW (a.U.ft [2,1000,1,1000])⟩
 ·rename_i y
  obtain⟨a0,a5,a9⟩:=ny hd
  have a2:ai (∀d,BW w d->Calls prog 83 #[ae s] d λ r a4=>∃C D K L F G,r=ao (aJ #[y.val (ad C y.b.e.length D) (ad K y.e.length L) (ad F y.aL.length G),O 0])/\y.Rd a4 (ad C y.b.e.length D) (ad K y.e.length L) (ad F y.aL.length G)/\BW d a4):=Z (λ d g=>(ui s d (o.below g).a (o.below g).aT).mono (by
   rintro r a4 q
   unfold pK at q
   rw[hd] at q
   obtain⟨⟨H,J,I,a7,E⟩,a8⟩:=q
   obtain⟨C,D,rfl⟩:=E.b.form
   obtain⟨K,L,rfl⟩:=E.p.form
   obtain⟨F,G,rfl⟩:=E.m.iQ
   exact⟨C,D,K,L,F,G,a7,E,a8⟩))
  have M:= @Wm N f s y hd
  have a3:= @IS N f s y hd
  rw[d7] at M a3
  have b2:=Z (λ(d a1:aa) (b:af P d m (Y.aQ T x N::Y.dk T.a u N.d::rest)) (g:BW d a1) (H J I:ab) (t:y.Rd d H J I)=>OZ ((z.at b).below g) ((Y.aQ T x N).lift (b.get (i:=0) rfl) g) j f y (t.below g))
  have b4:=Z (λ(d:aa) (B:List Y) (b:af P d m (Y.aQ T x N::Y.dk T.a u N.d::B)) (H J I:ab) (t:y.Rd d H J I) (p:y.log=0)=>Re z b j f y a0 a5 p t)
  have b5:=Z (λ(d:aa) (B:List Y) (b:af P d m (Y.aQ T x N::Y.dk T.a u N.d::B)) (H J I:ab) (t:y.Rd d H J I) (p:y.log=0)=>Ws z b j f y a0 a5 p t)
  obtain⟨B,z1⟩:∃v,gJ .nilFunc oL (y.c:Int)=v:=⟨_,rfl⟩
  obtain⟨b1,z2⟩:∃b,(cV oL (y.c:Int)).isSome=b:=⟨_,rfl⟩
  have S:=Z M;have b7:=Z a3;have v:=Z z1;have a6:=Z z2
  clear M a3 z h j o hd A a0 a5 a9
  generalize y.b.e.length=bn at*
  generalize y.e.length=e4 at*
  generalize y.aL.length=e0 at*
  obtain⟨a0,a3,id,M,b9,⟨a7,E,a8,d0⟩,⟨⟨c0,c1,c2,c3⟩,⟨c4,c5,c6,c7⟩,c8⟩,e3,d9⟩:=y
  simp only at a2 b2 b4 b5 S b7 z1 z2 v a6
  have R:=Z (aP (b3.U _ (bz _ _)) bf)
  go_enter func29,ntmps29
  go_upto_region 2 with(first|refine KS a λ b0 a=>?_|refine KA a _ 7 ei λ c9 b0 d3 a=>?_|go_at_call 83;(refine(a2.U _ a.U.ak).mono ?_);rintro e Q ⟨C,D,K,L,F,G,rfl,t,g⟩;have a9:=(l.U.below a.U.ak).below g;clear a l R;have l:=Z a9;have R:=Z (aP (jz (a9.get (i:=0) rfl)) bf);have a5:=Z t;clear t g a9;have a:=Z (af.start Q []))
  refine RG a 8 [0] λ a1 a c=>?_
  refine VV [1,2002] c ?_
  clear c
  refine KV 0 (en 86) 17 ?_
  refine(Gc a.U).mono ?_
  rintro e Q ⟨d8,rfl,j⟩
  replace a:=Z j;clear j
  refine⟨_,rfl,bo a [1],?_⟩
  simp only[aH,au,ay]
  refine az.CZ (i:=3) V zD rfl rfl 20 rfl (aJ #[B,aF b1]) _ (Eu a.U 0 rfl xm rfl rfl rfl z1 z2) (aP (a.U.in (by exact mQ mZ)) bf) ?_
  try simp only[aH,au,ay]
  have c:=bo a [1]
  refine VV [4,5,6,7] c ?_
  clear c z1 z2
  refine WT ?_
  go_upto_region 3 with fail
  refine kJ a R 28 [1] λ a1 a c=>?_
  refine VV [0] c ?_
  by_cases k:f<0
  focus
   have d1:decide (f<0)=true:=aS k
   have o:=Z (ur (S.U (λ A=>by omega)))
   clear k
   refine WB 1 true c ?_
   refine VV [2,1003,1004,1005,1006,1007,1008,1009,10,11,1012,1013,14,15,1016,1017,18,19,1020,1021,1022,1023,1024,1025,1026,1027] c ?_
  rotate_left
  focus
   have d1:decide (f<0)=false:=bu k
   refine WB 1 false c ?_
   refine VV [2,3,4,5,6,7,2008] c ?_
   by_cases n:1<=f
   focus
    have d2:decide (1<=f)=true:=aS n
    have o:=Z (ur (S.U (λ A=>by omega)))
    clear k n
    refine WB 9 true c ?_
    refine VV [10,11,1012,1013,14,15,1016,1017,18,19,1020,1021,1022,1023,1024,1025,1026,1027] c ?_
   rotate_left
   focus
    have d2:decide (1<=f)=false:=bu n
    refine WB 9 false c ?_
    refine VV [10,11,12] c ?_
    refine WB 13 false c ?_
    by_cases b:a0=1\/a0=2\/a0=3\/a0=4\/a0=9
    focus
     obtain rfl:b1=true:=by rw[<-a6.U];exact O2 b
     refine VV [14,15,16,17,18,19,20,2021,22,23,24,2025,26] c ?_
     by_cases p:a3=0
     focus
      obtain⟨e1,e2⟩:=IT (b7.U ⟨by omega,by omega,p,b⟩)
      simp only at e1 e2
      subst p
      clear k n
      refine WB 27 false c ?_
      rcases b with b|b|b|b|b
      focus
       obtain rfl:B= .func (.func 169) #[] #[]:=by rw[<-v.U,b];rfl
       have o:=Z (And.intro (e1.trans (by rw[aj W,aj W])) (e2.trans (by rw[aj W,ax (.inl b)])))
       clear e1 e2 b
      rotate_left
      focus
       obtain rfl:B= .func (.func 169) #[] #[]:=by rw[<-v.U,b];rfl
       have o:=Z (And.intro (e1.trans (by rw[aj W,aj W])) (e2.trans (by rw[aj W,ax (.inr b)])))
       clear e1 e2 b
      rotate_left
      focus
       obtain rfl:B= .func (.func 170) #[] #[]:=by rw[<-v.U,b];rfl
       have o:=Z (And.intro (e1.trans (ax b)) (e2.trans (ax b)))
       clear e1 e2 b
      rotate_left
      focus
       obtain rfl:B= .func (.func 171) #[] #[]:=by rw[<-v.U,b];rfl
       have o:=Z (And.intro (e1.trans (by rw[aj W,ax b])) (e2.trans (by rw[aj W,aj W])))
       clear e1 e2 b
      rotate_left
      focus
       obtain rfl:B= .func (.func 172) #[] #[]:=by rw[<-v.U,b];rfl
       have o:=Z (And.intro (e1.trans (by rw[aj W,aj W])) (e2.trans (by rw[aj W,aj W])))
       clear e1 e2
       subst b
     rotate_left 5
     focus
      have d4:decide ((1:Int)<=(a3:Int))=true:=aS W
      have d5:decide (0<a3)=true:=aS W
      have d6:decide (1<=a3)=true:=aS W
      have o:=Z (ur (S.U (λ A=>p A.2.2.1)))
      have e5:=Z p
      clear k n b p
      refine WB 27 true c ?_
    rotate_left 6
    focus
     obtain⟨rfl,rfl⟩:B= .nilFunc/\b1=false:=by rw[<-v.U,<-a6.U];exact O1 b
     have o:=Z (ur (S.U (λ A=>b A.2.2.2)))
     clear k n b
     refine VV [14,15,16,17,18,19,1020,1021,1022,1023,1024,1025,1026,1027] c ?_
  all_goals
   clear c
   refine WT ?_
   go_wp2_with(first|refine KT a 20 ?_|go_at_call 172;refine KC a (NB T f (⟨9,0,id,M,b9,⟨a7,E,a8,d0⟩,⟨⟨c0,c1,c2,c3⟩,⟨c4,c5,c6,c7⟩,c8⟩,e3,d9⟩:MG) C K F bn D e4 L e0 G) λ b a=>?_|go_at_call 171;(refine(b5.U _ _ ((l.U.plus a.U).ft [3,3]) _ _ _ (a5.U.below a.U.ak) rfl).mono ?_);rintro e b ⟨A,c,p,n,rfl,j⟩;replace a:=Z j;clear j|go_at_call 170;(refine(b4.U _ _ ((l.U.plus a.U).ft [3,3]) _ _ _ (a5.U.below a.U.ak) rfl).mono ?_);rintro e b ⟨A,c,p,n,rfl,j⟩;replace a:=Z j;clear j|go_at_call 169;(refine(b2.U _ _ l.U a.U.ak _ _ _ a5.U).mono ?_);rintro e b ⟨A,c,rfl,k,g⟩;replace a:=Z (a.U.db g k);clear g k|go_at_call 87;(refine(b6.U _ ((fo ((l.U.plus a.U).ft [2])).get (i:=0) rfl)).mono ?_);rintro e Q ⟨rfl,X⟩;replace a:=Z (eR T x N.dV ((fo ((l.U.plus a.U).ft [2])).at 0 rfl X));clear X)
   go_ret
   rw[o.U.1,o.U.2]
   first
    |exact⟨none,0,x,u,rfl,nW (l.U.plus a.U).tail.tail⟩
    |exact⟨none,0,x,u,rfl,nW (a.U.ft [2,1000,1,1000])⟩
    |exact⟨A,c,x,u,rfl,Wn (l.U.plus a.U)⟩
    |exact⟨A,c,p,n,rfl,(a.U.ft [3,1000,3,1000])⟩
