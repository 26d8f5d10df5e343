import Derived.Test.YtncpbkoinennoaaGreatDoorMBD
set_option linter.all false
set_option maxRecDepth 100000
set_option maxHeartbeats 0
namespace Go.Proofs.YtncpbkoinennoaaGreatDoor
open Go.RowKit Proofs.Tryz
attribute [local irreducible] wpList Calls
variable{m:List Nat}{T:NA}{N:ND}{g:Nat}
def QM{e w:aa}{rest:List Y}{x:NV}(h:ae e w m (Y.bd T x N::rest))(b a:Nat)(d:N.g=none):
 Calls prog 207 #[pV T.g,U (b:Int),U (a:Int)] w (wP e m rest T (N.cz b a,N.hJ b a)):=by
 obtain⟨e1,e2⟩:=Cb N b a d
 rw[e1,e2]
 refine QI h b a (λ j c=> ?_)
 rw[d] at c⊢
 exact(XO c b a).mono λ r i ⟨f,g⟩=>⟨f,_,g⟩
def Cc(n:ND)(b a:Nat):(n.cz b a).c=n.c/\(n.cz b a).st=n.st/\(n.cz b a).tell=n.tell/\(n.cz b a).cd=n.cd/\(n.cz b a).j=n.j/\(n.cz b a).d=n.d/\(n.cz b a).bX=n.bX/\(n.cz b a).id=n.id:=by
 unfold ND.cz;grind
def Bz(n:ND)(b a:Nat):(n.eS b a).c=n.c/\(n.eS b a).st=n.st/\(n.eS b a).tell=n.tell/\(n.eS b a).cd=n.cd/\(n.eS b a).j=n.j/\(n.eS b a).d=n.d/\(n.eS b a).bX=n.bX/\(n.eS b a).id<=n.id+1:=by
 unfold ND.eS;grind
def Hw(a:N.Ok)(b c:Nat):(N.cz b c).Ok:=by
 cases d:N.g with
 |none=>rw[(Cb N b c d).1];exact a
 |some r=>
  have e:=a.g r d;by_cases f:r.dZ<=b
  ·by_cases g:N.c.rc.i<=r.k
   ·rw[(QK N b c d f g).1];exact{a with l:=kz _ _,g:=(λ i h=>by cases h)}
   ·rw[(QJ N b c d f g).1];have:=a.c.rc.t2;exact{a with g:=(λ i h=>by cases h;exact⟨e.t,e.s,(by grind),kz _ _,e.m⟩)}
  ·rw[(QL N b c d W).1];exact a
def Ow(d:N.Ok)(Z:N.id<1000000)(f e:Nat):(N.eS f e).Ok:=by
 cases c:N.mi f with
 |none=>rw[(GJ e c).1];exact d
 |some y=>
  rw[(GK e c).1];have g:y=ki N.id\/∃a b,a<18446744073709551616/\b<18446744073709551616/\y=uO N.id a b:=by
   unfold ND.mi at c;split at c
   ·cases c
   ·split at c
    ·rename_i p b;cases c
     obtain⟨h,q2⟩:=VZ d.az d.f b;grind
    grind
  have a:=d.t;exact{d with next:=(by show(if y.c=5 then bo f N.c.every else N.next)<_;split;exact kz _ _;exact d.next),t:=zS,s:=(by grind),g:=(λ j h=>by cases h;exact⟨a,(by grind),(show 1<=1000 by decide),kz _ _,g⟩)}
def ZJ{w:aa}{v:ab}{L:List SD}(h:(Y.so v L).P w)(c:L.length<=1000000):Src prog 2 76 v L.length (fu L) w:=by
 have b:bN 2 w v (L.map λ p=>[Value.int .i64 p.1,ad p.2]):=tf (e:=272) (λ x hx=>by
  grind) (by rw[cC];exact h) (by rw[cC];unfold maxLen;omega)
 have:=bN.src (t:=76) (e:=272) underlying76 zD (λ x hx u a=>by
  obtain⟨p,-,rfl⟩:=eH.1 hx;simp only[bO,uf,vK] at a;rcases a with rfl|rfl<;>rfl) b
 rw[cC] at this;exact this
def Hm{w:aa}{v:ab}{L:List MK}(y:MG)(h1:y.e=[])(h3:y.b.e=[])(h2:y.aP=L)(h:(Y.ow 240 4 v L.length (cR L)).P w)(b:L.length<=1000000):y.Rd w (ag none 0 0) (ag none 0 0) v:=by
 refine⟨?_,?_,?_⟩
 ·rw[h3];exact⟨none,0,rfl,bf _,λ i a=>absurd a (ij i)⟩
 ·rw[h1];exact⟨none,0,rfl,bf _,λ i a=>absurd a (ij i)⟩
 ·rw[h2];exact tf (e:=240) (λ x hx=>by
   grind) (by rw[cC];exact h) (by rw[cC];unfold maxLen;omega)
def JE{n:ND}(b:n.st.az.Ok):n.aP.length<=1/\∀k∈n.aP,k.size<18446744073709551616:=by
 unfold ND.aP;split
 ·refine⟨aQ _,λ k a=> ?_⟩;rw[ud] at a;rw[a];exact b.size
 simp
def Hv(n:ND)(b a:Nat):(n.hJ b a).length<=1:=by
 unfold ND.hJ;grind
def GI(n:ND)(a:Nat):(n.kh a).length<=1:=by
 unfold ND.kh;grind
def MI{draw:Nat}(a:N.c.cj=1)(b:N.cd=0)(h:¬g<N.tell):N.kC g draw={(N.cz g draw).eS g draw with cd:=0,tell:=bo g N.c.a}/\N.kB g draw=(N.hJ g draw++(N.cz g draw).kh g)++[(0,(sE N.aP).enc)]:=by
 unfold ND.kC ND.kB;grind
def aaE{z w:aa}{rest:List Y}{x:NV}(S:TM m z)(h:ae z w m (Y.bd T x N::rest))(f:N.Ok)(K:N.c.cj=1)(a7:N.cd=0)(b c:Nat)(X:b<18446744073709551616)(a5:c<18446744073709551616)(C:sf N b):
 Calls prog 141 #[pV T.g,U (b:Int),U (c:Int)] w (wP z m rest T (N.kC b c,N.kB b c)):=by
 have a:=Z h
 have b2:=Z S
 have a9:=Z (λ l (o:List Y) (h:ae z l m (Y.bd T x N::o))=>QM h b c (Gb.1 C.1))
 have a8:=Z (λ l (o:List Y) (v:NV) (h:ae z l m (Y.bd T v (N.cz b c)::o))=>Ox S h (Hw f b c) b c X a5 (by rw[(Cb N b c (Gb.1 C.1)).1];exact C))
 obtain⟨s1,s2,s3,s4,-⟩:=Cc N b c
 obtain⟨d,q2,q3,q4,-⟩:=Bz (N.cz b c) b c
 have a1:=Hv N b c
 have a4:=GI (N.cz b c) b
 have e:=MI (draw:=c) K a7 C.2.2.1
 have H:=C.2.2.1
 have k:N.aP=((N.cz b c).eS b c).aP:=by unfold ND.aP;rw[q2,s2]
 have D:=f.az
 have M:=f.o
 have P:=f.c.b
 have I:=Z (λ l=>tC b N.c.a X W l)
 rw[<-s2,<-q2] at D M
 have e1:((N.cz b c).eS b c).c=N.c:=d.trans s1
 have e3:((N.cz b c).eS b c).tell=N.tell:=q3.trans s3
 have e4:((N.cz b c).eS b c).cd=0:=by omega
 clear h S f C s1 s2 s3 s4 d q2 q3 q4
 generalize N.kC b c=T1 at*
 generalize N.kB b c=T2 at*
 generalize N.hJ b c=g at*
 generalize(N.cz b c).kh b=L2 at*
 generalize p:(N.cz b c).eS b c=b3 at*
 generalize N.cz b c=a3 at*
 rw[k] at e
 rw[<-e3] at H
 rw[<-e1] at K e P I
 obtain⟨⟨A,c5,u,s,q,n⟩,y,B,next,o,j,d,id,t,r,c6⟩:=b3
 simp only at K e4 H e D M P I
 subst K e4
 clear a7 e1 e3 k p
 have Q:=JE (n:=(⟨⟨A,1,u,s,q,n⟩,y,B,next,o,j,d,id,t,r,0⟩:ND)) D
 generalize R:ND.aP (⟨⟨A,1,u,s,q,n⟩,y,B,next,o,j,d,id,t,r,0⟩:ND)=p at*
 have a6:p.length<=1:=Q.1
 have a0:∀k∈p,k.size<18446744073709551616:=Q.2
 have b0:ai (∀(l:aa) (v:NV),(Y.bd T v (⟨⟨A,1,u,s,q,n⟩,y,B,next,o,j,d,id,t,r,0⟩:ND)).P l->Calls prog 210 #[pV T.g] l (w8 l p)):=Z (λ l v E=>by rw[<-R];exact JP E M)
 have k:(sE p).Ok:=⟨dS _,dS _,dS _,oq,zY,a0,by show p.length<=1000000;omega⟩
 have b1:=Z (λ l (E:cq l) v (F:(Y.ow 240 4 v p.length (cR p)).P l)=>tD E 0 (sE p) k (Hm (L:=p) (sE p) rfl rfl rfl F W) rfl)
 generalize(sE p).enc=E at*
 have J:=Z a1;have G:=Z a4;have F:=Z e;have a2:=Z H
 clear R k a6 a0 Q D M a1 a4 P X a5 e H
 go_enter func141,ntmps141
 go_upto_region 2 with((go_at_call 207;(refine(a9.U _ _ a.U).mono ?_);rintro e M ⟨a1,a4,x1,rfl,a6⟩;have f:=a6.fs [1];clear a6;replace a:=Z f;clear f))
 replace a:=Z (ta a.U)
 go_wp2_with(refine Kl a ?_)
 replace a:=Z (nP T x1 a3 a.U)
 go_loopw [7,18] (λ P k wr=>(P=ag a1 g.length a4/\k=O 0/\ai (ae z wr m (Y.bd T x1 a3::Y.so (ag a1 g.length a4) g::rest)))
  \/∃(D:Option Addr) (H:Nat) (x2:NV),P=ag D (g.length+L2.length) H/\k=O 1/\ai (ae z wr m (Y.bd T x2 (⟨⟨A,1,u,s,q,n⟩,y,B,next,o,j,d,id,t,r,0⟩:ND)::Y.ow 272 2 (ag D (g.length+L2.length) H) (g.length+L2.length) (fu g++fu L2)::rest))) (λ _ k _=>1-(intOf k).toNat)
 case atStart=>grind
 case round=>
  clear a
  obtain⟨rfl,rfl,a⟩|⟨D,H,x2,rfl,rfl,a⟩:=hrel
  ·go_wp2_with(first|refine Ac a.U rfl xP rfl 2 rfl rfl rfl (ZJ (a.U.get (i:=0) rfl) (by have:=G.U;omega)) (by unfold maxLen;have:=J.U;have:=G.U;omega) (by have:=J.U;have:=G.U;omega) ?_;intro D H P f;simp only[av,ax] at f;replace a:=Z f;clear f|go_at_call 208;(refine(a8.U _ _ _ a.U).mono ?_);rintro e M ⟨b7,c0,x2,rfl,f⟩;replace a:=Z f;clear f)
   exact⟨.inr ⟨_,_,x2,rfl,rfl,Z a.U.tail⟩,by decide⟩
  ·have k:ai (ae z wr m (Y.row T.g 139 [T.h,O 1,O (u:Int),U (s:Int),U (q:Int),U (n.base:Int),U (n.j:Int),U (n.span:Int),O (n.i:Int),O (n.room:Int),ag (some ⟨T.b,0,none⟩) 1 T.lc,pV T.f,pV T.c,.map (some T.rg),O (id:Int),U (t:Int),U (r:Int),O 0]::Y.row T.b 133 (ND.mL (⟨⟨A,1,u,s,q,n⟩,y,B,next,o,j,d,id,t,r,0⟩:ND) x2)::Y.ho x2.pv y.f::Y.jr T.f T.a x2.a j::Y.rt T.c T.d T.e x2.hv n (mI o)::Y.mp T.rg (pN o)::Y.ow 272 2 (ag D (g.length+L2.length) H) (g.length+L2.length) (fu g++fu L2)::rest)):=Z (ta a.U)
   clear a
   have a:=k
   clear k
   have b9:ai (fu g++fu L2=fu (g++L2)):=Z (zp _ _).symm
   have b8:ai (g.length+L2.length=(g++L2).length):=Z zS
   have d1:decide ((b:Int)<(r:Int))=false:=bm (by have:=a2.U;omega)
   have d2:decide (b<r)=false:=bm a2.U
   obtain⟨a0,Q⟩:∃a0,bo b q=a0:=⟨_,rfl⟩
   rw[Q] at I
   have k:=F.U
   rw[Q] at k
   clear F Q
   have F:=Z k
   clear k
   go_upto_region 9 with(refine Kl a ?_)
   refine RG a 10 [0] λ b6 a k=>?_
   refine VV [0,1,2,3,2004,5] k ?_
   clear k
   refine KV 6 (en 210) 50 ?_
   refine(b0.U _ x2 ((nP T x2 (⟨⟨A,1,u,s,q,n⟩,y,B,next,o,j,d,id,t,r,0⟩:ND) a.U).get (i:=0) rfl)).mono ?_
   rintro e M ⟨c3,c4,rfl,R,Q⟩
   replace a:=Z (a.U.gT Q R);clear Q R
   refine⟨_,rfl,bI a [1],?_⟩
   simp only[aS,av,ax]
   have k:=bI a [1]
   refine VV [7] k ?_
   refine KW a k 8 (en 209) (b1.U _ (b2.U.at a.U) _ (a.U.get (i:=0) rfl)) ?_;clear a k;intro M a k
   refine ay.make a.U (i:=9) V zD rfl rfl 53 rfl (some 1) 272 [O 0,ad E] ?S5 ?_
   case S5=>(go_simp;(rfl))
   intro c1 P c2 f
   replace a:=Z f;clear f
   refine⟨bI a [2],?_⟩
   simp only[bc]
   simp only[aS,av,ax]
   refine WT ?_
   go_upto_region 10 with((refine Ap a.U rfl xP rfl 8 rfl rfl 0 rfl rfl rfl rfl (by unfold maxLen;have:=J.U;have:=G.U;omega) (by have:=J.U;have:=G.U;omega) ?_;intro R Q P f;simp only[av,ax] at f;replace a:=Z f;clear f))
   refine RG a 25 [2] λ b6 a k=>?_
   refine VV [0,1,2,3,4,2005] k ?_
   refine W2 6 61 (v:=O 1) rfl rfl (Or.inl ⟨by kernel_rfl,λ l b4=>by(go_simp;rfl)⟩) k ?_
   refine VV [7,8,9,10,2011] k ?_
   refine W2 12 67 (v:=O 0) rfl rfl (Or.inl ⟨by kernel_rfl,λ l b4=>by(go_simp;done)⟩) k ?_
   refine VV [13,14,15,16,17,2018] k ?_
   clear k
   refine KV 19 (en 139) 74 ?_
   refine(I.U _).mono ?_
   rintro e M ⟨rfl,rfl⟩
   refine⟨_,rfl,bI a [2],?_⟩
   simp only[aS,av,ax]
   have k:=bI a [2]
   refine VV [20,21] k ?_
   clear k
   refine ay.mE (i:=22) V zD rfl ?_
   (refine One.wo a.U V rfl 2 rfl 3 rfl rfl rfl V rfl rfl λ P f=>?_;simp only[fo,av,ax,bH,ck,dJ,dr] at f)
   replace a:=Z f;clear f
   refine⟨bI a [2],?_⟩
   try simp only[aS,av,ax]
   have k:=bI a [2]
   refine VV [23,24] k ?_
   clear k
   refine WT ?_
   go_wp2_with(refine KS a λ P a=>?_)
   go_ret
   rw[F.U.1,F.U.2]
   have f:=a.U.tail.tail
   have v:=(nP T x2 (⟨⟨A,1,u,s,q,n⟩,y,B,next,o,j,d,id,t,a0,0⟩:ND) f).ft [1]
   have k:g.length+L2.length+1=((g++L2)++[((0:Int),E)]).length:=by rw[bV,bV];rfl
   have b5:fu g++fu L2++[Value.int .i64 0,ad E]=fu ((g++L2)++[((0:Int),E)]):=by rw[zp,zp];rfl
   rw[b5,k] at v
   refine⟨some ⟨R,0,none⟩,Q,x2,?_,?_⟩
   ·show Ending.returned (ag (some ⟨R,0,none⟩) (g.length+L2.length+1) Q)=Ending.returned (.slice (some ⟨R,0,none⟩) ((g++L2)++[((0:Int),E)]).length Q)
    rw[k]
   ·exact v
variable{D:BD}
def Hl{s:af}(h:gd s= .ok D):D.right=true:=by
 unfold gd at h;generalize(⟨s,0⟩:RD)=r at h;generalize r.mm.ea=e at h;generalize r.gQ=v at h;by_cases b:e=0
 ·rw[au b] at h;by_cases a:v.right=true
  ·rw[au a] at h;injection h with h;rw[<-h];exact a
  ·rw[ar a] at h;cases h
 ·rw[ar b] at h;cases h
def Ky(n:ND):n.proof.Ok/\n.proof.Small:=by
 have c:(dU n.st.aR).Ok:=by
  unfold dU;cases a:gd n.st.aR with
  |error k=>exact zY
  |ok b=>exact BC (Hl a)
 have d:(dU n.st.aR).e.length<=48:=by
  unfold dU;cases a:gd n.st.aR with
  |error k=>exact bf _
  |ok b=>exact(vZ (Hl a)).2.2.1
 have e:n.proof=yU (dU n.st.aR):=rfl;rw[e];generalize dU n.st.aR=B at*;exact⟨⟨dS _,dS _,dS _,oq,c,(λ k a=>by cases a),bf _⟩,⟨d,bf _,bf _⟩⟩
def NG(w:aa)(L:List SD)(e:Ending)(a:aa):Prop:=
 ∃A c,e=ao (ag A L.length c)/\a.ownsRow w.heap.size 272 2 (ag A L.length c) L.length (fu L)/\BW w a
def B8(n:ND)(a:Int)(k:MK):List SD:=if¬n.st.aR=⟨#[]⟩ then(if k.aR=true then [] else [(a,n.proof.enc)]) else if k.aR=false/\n.st.bz=true/\qA n.st k=true then [(a,(pb n.st.az).enc)] else []
def QA{w:aa}(G:cq w){x:NV}(h:(Y.bd T x N).P w)(f:N.Ok)(k:Int)(y:MG){b6 b8 b7:ab}(B:y.Rd w b6 b8 b7)(b3:N.proof.b.a.size=N.proof.b.b.size):
 Calls prog 169 #[pV T.g,O k,y.val b6 b8 b7] w (NG w (N.uW k y)):=by
 have d:=sS (yG h) (by have:=f.o;omega)
 have q:=Z (aX (lA h) (aX (rm h) bg))
 have a9:=Z (λ a (b:BW w a)=>JQ ((Y.bd T x N).lift h b))
 have b1:=Z (λ a (b:BW w a) R (J:N.proof.Rd a R (ag none 0 0) (ag none 0 0))=>tD (G.below b) k N.proof (Ky N).1 J b3)
 have c0:=Z (λ a (b:BW w a)=>JP ((Y.bd T x N).lift h b) f.o)
 obtain⟨o,j⟩:=JE (n:=N) f.az
 have e:(sq N.aP).Ok:=⟨dS _,dS _,dS _,oq,zY,j,by show N.aP.length<=1000000;omega⟩
 have c1:=Z (λ a (b:BW w a) v (b4:(Y.ow 240 4 v N.aP.length (cR N.aP)).P a)=>tD (G.below b) k (sq N.aP) e (Hm (L:=N.aP) (sq N.aP) rfl rfl rfl b4 W) rfl)
 have g:=(tn (y:=pb N.st.az) (dS _) (dS _) (dS _) f.az rfl rfl rfl).1
 have b0:=Z (λ a (b:BW w a)=>tD (G.below b) k (pb N.st.az) g (Dl _ rfl rfl rfl a) rfl)
 have s:=Z (λ a (b:BW w a)=>Vo (B.m.below b))
 obtain⟨pA,d8,a7⟩:=d.form
 have r:=Z (λ a=>OI N.st (pv:=x.pv) ⟨_,_,_,a7⟩ (fG y.aP) a)
 have a1:=Z (λ a (b:BW w a)=>N7 N.st (d.below b) (fG y.aP))
 obtain⟨C,D,rfl⟩:=B.b.form
 obtain⟨S,X,rfl⟩:=B.p.form
 obtain⟨M,P,rfl⟩:=B.m.jN
 have a:N.uW k y=B8 N k (fG y.aP)++(if y.c=1/\behind N.st (fG y.aP)=true then [(k,(sq N.aP).enc)] else []):=rfl
 rw[a]
 have l:B8 N k (fG y.aP)=if¬N.st.aR=⟨#[]⟩ then(if(fG y.aP).aR=true then [] else [(k,N.proof.enc)]) else if(fG y.aP).aR=false/\N.st.bz=true/\qA N.st (fG y.aP)=true then [(k,(pb N.st.az).enc)] else []:=rfl
 generalize B8 N k (fG y.aP)=n at*
 have a6:=mJ N.st.aR
 have a5:=ir N.st.aR
 have m:n.length<=1:=by rw[l];split<;>split<;>simp
 have p:∀v,(Y.ow 240 4 v N.aP.length (cR N.aP))=(Y.ow 240 4 v N.aP.length (cR N.aP)):=λ _=>rfl
 clear d G h B o j e g a p f b3
 generalize N.proof=c3 at*
 generalize N.aP=c2 at*
 generalize(sq c2).enc=p at*
 generalize behind N.st (fG y.aP)=u at*
 generalize qA N.st (fG y.aP)=b9 at*
 generalize fG y.aP=K at*
 generalize(pb N.st.az).enc=c6 at*
 generalize c3.enc=c7 at*
 have f1:=OL (y.c:Int) 1
 have a:decide ((y.c:Int)=1)=decide (y.c=1):=by rw[bw];simp;omega
 rw[a] at f1
 clear a
 obtain⟨k1,d⟩:∃k1,decide (y.c=1)=k1:=⟨_,rfl⟩
 rw[d] at f1
 have e:(if y.c=1/\u=true then [(k,p)] else [])=if k1=true/\u=true then [(k,p)] else []:=by rw[<-d];simp
 rw[e]
 obtain⟨b2,a⟩:∃b2,(if k1=true/\u=true then [(k,p)] else [])=b2:=⟨_,rfl⟩
 rw[a]
 have a3:=Z a
 clear e d a
 obtain⟨R,e1,b4,e5⟩:=x
 simp only at a7
 subst a7
 obtain⟨c,⟨c5,c8,pd,c4⟩,e2,next,e0,j,d,id,d7,e3,e4⟩:=N
 obtain⟨d4,d6,d5,b5⟩:=K
 simp only at a9 b1 b0 r a1 s a6 a5 l q
 generalize e:pd.length=d9 at*
 generalize y.b.e.length=bn at*
 generalize y.e.length=a0 at*
 generalize y.aP.length=Q at*
 have a:=Z ((ae.start w []).eM (Y.so (ag none 0 0) []) (di _ _ _ _) rfl)
 have a8:=Z m
 have a2:=Z l
 clear m l e
 go_enter func169,ntmps169
 go_wp2_with(first|refine KH (a.U.bT q.U) ?_|refine KB a 81 5 ((y.cells (ag C bn D) (ag S a0 X) (ag M Q P))) λ a4 g d2 a=>?_)
 go_loopw [7,8,17] (λ o m e wr=>(o=ag none 0 0/\m=aK false/\e=O 0/\ai (ae w wr [] [Y.row a4 81 (y.cells (ag C bn D) (ag S a0 X) (ag M Q P)),Y.so (ag none 0 0) []]))
  \/∃(t:Option Addr) (v:Nat),o=ag t n.length v/\m=aK u/\e=O 1/\ai (ae w wr [] [Y.so (ag t n.length v) n,Y.row a4 81 (y.cells (ag C bn D) (ag S a0 X) (ag M Q P))])) (λ _ _ e _=>1-(intOf e).toNat)
 case atStart=>exact .inl ⟨rfl,rfl,rfl,a⟩
 case round=>
  clear a
  obtain⟨rfl,rfl,rfl,a⟩|⟨t,v,rfl,rfl,rfl,a⟩:=hrel
  ·have f:=a.U.fs [1]
   clear a
   have a:ai (ae w wr [] [Y.so (ag none 0 0) [],Y.row a4 81 (y.cells (ag C bn D) (ag S a0 X) (ag M Q P))]):=Z f
   clear f
   have l:=a2.U
   clear a2
   by_cases o:c4=⟨#[]⟩
   focus
    rw[ar (by simpa using o)] at l
    rw[aT o] at a6 a5
    clear o
    cases b5
    focus
     cases c5
     ·rw[ar zS] at l
      subst l
      go_wp2_with(first|refine KI (a.U.bT q.U) 11 ?_|refine Kl a ?_|refine KT a 7 ?_|refine KT a 4 ?_|refine KS a λ g a=>?_|refine KA a _ 10 mP λ E g H a=>?_|refine KA a _ 11 jt λ F g I a=>?_|go_at_call 236;(refine(s.U _ a.U.aq).mono ?_);rintro e m ⟨rfl,b⟩;replace a:=Z (a.U.below b);clear b|go_at_call 237;(refine(r.U _).mono ?_);rintro e m ⟨rfl,b⟩;replace a:=Z (a.U.below b);clear b)
      exact⟨.inr ⟨none,0,rfl,by simp,rfl,Z a.U.tail.tail⟩,by decide⟩
     focus
      cases b9
      ·rw[ar zS] at l
       subst l
       go_wp2_with(first|refine KI (a.U.bT q.U) 11 ?_|refine Kl a ?_|refine KT a 7 ?_|refine KT a 4 ?_|refine KS a λ g a=>?_|refine KA a _ 10 mP λ E g H a=>?_|refine KA a _ 11 jt λ F g I a=>?_|go_at_call 236;(refine(s.U _ a.U.aq).mono ?_);rintro e m ⟨rfl,b⟩;replace a:=Z (a.U.below b);clear b|go_at_call 237;(refine(r.U _).mono ?_);rintro e m ⟨rfl,b⟩;replace a:=Z (a.U.below b);clear b|go_at_call 238;(refine(a1.U _ a.U.aq).mono ?_);rintro e m ⟨rfl,b⟩;replace a:=Z (a.U.below b);clear b)
       exact⟨.inr ⟨none,0,rfl,by simp,rfl,Z a.U.tail.tail⟩,by decide⟩
      focus rw[au ⟨rfl,rfl,rfl⟩] at l
    rotate_left
    ·rw[ar zS] at l
     subst l
     go_wp2_with(first|refine KI (a.U.bT q.U) 11 ?_|refine Kl a ?_|refine KT a 7 ?_|refine KT a 4 ?_|refine KS a λ g a=>?_|refine KA a _ 10 mP λ E g H a=>?_|refine KA a _ 11 jt λ F g I a=>?_|go_at_call 236;(refine(s.U _ a.U.aq).mono ?_);rintro e m ⟨rfl,b⟩;replace a:=Z (a.U.below b);clear b|go_at_call 237;(refine(r.U _).mono ?_);rintro e m ⟨rfl,b⟩;replace a:=Z (a.U.below b);clear b)
     exact⟨.inr ⟨none,0,rfl,by simp,rfl,Z a.U.tail.tail⟩,by decide⟩
   rotate_left
   focus
    rw[au o] at l
    rw[bm o] at a6 a5
    clear o
    cases b5
    focus rw[ar zD] at l
    rotate_left
    ·rw[au rfl] at l
     subst l
     go_wp2_with(first|refine KI (a.U.bT q.U) 11 ?_|refine Kl a ?_|refine KT a 7 ?_|refine KT a 4 ?_|refine KS a λ g a=>?_|refine KA a _ 10 mP λ E g H a=>?_|refine KA a _ 11 jt λ F g I a=>?_|go_at_call 236;(refine(s.U _ a.U.aq).mono ?_);rintro e m ⟨rfl,b⟩;replace a:=Z (a.U.below b);clear b|go_at_call 237;(refine(r.U _).mono ?_);rintro e m ⟨rfl,b⟩;replace a:=Z (a.U.below b);clear b)
     exact⟨.inr ⟨none,0,rfl,by simp,rfl,Z a.U.tail.tail⟩,by decide⟩
   all_goals
    subst l
    go_wp2_with(first|refine KI (a.U.bT q.U) 11 ?_|refine Kl a ?_|refine KT a 7 ?_|refine KT a 4 ?_|refine KS a λ g a=>?_|refine KA a _ 10 mP λ E g H a=>?_|refine KA a _ 11 jt λ F g I a=>?_|(with_reducible show cn);(refine Mk a.U rfl 47 rfl (some 1) 272 [_,_] (by go_simp;(exact⟨rfl,rfl⟩)) ?_;intro c9 g d1 f;replace a:=Z f;clear f;simp only[bc])|(with_reducible show cn);(refine Mk a.U rfl 72 rfl (some 1) 272 [_,_] (by go_simp;(exact⟨rfl,rfl⟩)) ?_;intro d0 g d3 f;replace a:=Z f;clear f;simp only[bc])|refine Ap a.U rfl xP rfl 3 rfl rfl 0 rfl rfl rfl rfl (by unfold maxLen;(decide)) zD ?_;intro A z g f;simp only[av,ax] at f;replace a:=Z f;clear f|go_at_call 236;(refine(s.U _ a.U.aq).mono ?_);rintro e m ⟨rfl,b⟩;replace a:=Z (a.U.below b);clear b|go_at_call 237;(refine(r.U _).mono ?_);rintro e m ⟨rfl,b⟩;replace a:=Z (a.U.below b);clear b|go_at_call 215;(refine(a9.U _ a.U.aq).mono ?_);rintro e m ⟨R,rfl,J,b⟩;replace a:=Z (a.U.below b);clear b;have o:=Z J;clear J|go_at_call 209;((refine(b1.U _ a.U.aq _ o.U).mono ?_));rintro e m ⟨rfl,b⟩;replace a:=Z (a.U.below b);clear b|go_at_call 238;(refine(a1.U _ a.U.aq).mono ?_);rintro e m ⟨rfl,b⟩;replace a:=Z (a.U.below b);clear b|go_at_call 209;((refine(b0.U _ a.U.aq).mono ?_));rintro e m ⟨rfl,b⟩;replace a:=Z (a.U.below b);clear b)
    exact⟨.inr ⟨some ⟨A,0,none⟩,z,rfl,by simp,rfl,Z a.U.tail.tail.tail⟩,by decide⟩
  ·clear a2
   cases k1
   ·go_wp2_with(refine Kl a ?_)
    go_ret
    have o:=a3.U
    rw[ar zS] at o
    subst o
    exact⟨t,v,by simp,by simpa using ti a.U rfl,a.U.aq⟩
   ·cases u
    ·go_wp2_with(refine Kl a ?_)
     go_ret
     have o:=a3.U
     rw[ar zS] at o
     subst o
     exact⟨t,v,by simp,by simpa using ti a.U rfl,a.U.aq⟩
    ·go_wp2_with(first|refine Kl a ?_|(with_reducible show cn);(refine Mk a.U rfl 87 rfl (some 1) 272 [_,_] (by go_simp;(exact⟨rfl,rfl⟩)) ?_;intro a2 g c9 f;replace a:=Z f;clear f;simp only[bc])|refine Ap a.U rfl xP rfl 2 rfl rfl 0 rfl rfl rfl rfl (by unfold maxLen;(have:=a8.U;omega)) (by(have:=a8.U;omega)) ?_;intro A z g f;simp only[av,ax] at f;replace a:=Z f;clear f|go_at_call 210;(refine(c0.U _ a.U.aq).mono ?_);rintro e m ⟨d0,d1,rfl,F,b⟩;replace a:=Z (a.U.gT b F);clear b F|go_at_call 209;(refine(c1.U _ a.U.aq _ (a.U.get (i:=0) rfl)).mono ?_);rintro e m ⟨rfl,b⟩;replace a:=Z (a.U.below b);clear b)
     go_ret
     have o:=a3.U
     rw[au zS] at o
     subst o
     have I:=ti a.U.tail.tail rfl
     have E:(n++[(k,p)]).length=n.length+1:=by simp
     have H:fu (n++[(k,p)])=fu n++[Value.int .i64 k,ad p]:=by rw[zp];rfl
     refine⟨some ⟨A,0,none⟩,z,?_,?_,a.U.aq⟩
     ·show Ending.returned (ag (some ⟨A,0,none⟩) (n.length+1) z)=Ending.returned (.slice (some ⟨A,0,none⟩) (n++[(k,p)]).length z)
      rw[E]
     ·rw[E,H];exact I
variable{r:Int}{I:List Y}
def A2(f:aa)(m:List Nat)(rest:List Y)(a:NA)(p:ND×List SD)(e:Ending)(d:aa):Prop:=
 ∃A c g b,e=ao (ag A p.2.length c)/\ae f d m (Y.so (ag A p.2.length c) p.2::Y.bd a g p.1::Y.dk a.a b p.1.d::rest)
def zw{a w:aa}(h:ae a w m I):ae a w m (Y.so (ag none 0 0) []::I):=h.eM (Y.so (ag none 0 0) []) (di _ _ _ _) rfl
def ZI{a w:aa}{E:af}(h:ae a w m (Y.row g 272 [O r,ad E]::I)):ae a w m (Y.so (ag (some ⟨g,0,none⟩) 1 1) [(r,E)]::I):=
 v8 h 0 rfl 1 1 2 zD zD rfl (fu [(r,E)]) rfl
def SS(n:ND)(a:Int)(y:MG):
 (n.dD y=5->n.pf y=n.cg y/\n.pe a y=[(a,(n.cg y).proof.enc)])/\
 (¬n.dD y=6->¬n.dD y=5->¬n.dD y=9->¬n.dD y=7->n.pf y=n.cg y/\n.pe a y=[]):=by
 unfold ND.pf ND.pe
 generalize n.dD y=K
 refine⟨λ h=> ?_,λ b d e c=> ?_⟩
 ·rw[ar W,ar W,au (.inl h)];exact⟨rfl,rfl⟩
 ·rw[ar c,ar b,ar W];exact⟨rfl,rfl⟩
def Ja{n:ND}{y:MG}(h3:y.c=3)(l:mY n y):n.dD y=1\/n.dD y=2\/(n.dD y=5/\(n.cg y).proof.b.a.size=(n.cg y).proof.b.b.size):=by
 rcases l with⟨-,⟨d,a,o⟩,j⟩|⟨q,-⟩
 ·have e:ct n.c n.st y=n.st.take n.c.key y.h n.c.room:=au h3;have i:∀p,n.st.take n.c.key y.h n.c.room=p->n.dD y=p.2/\(counts p.2=true->(n.cg y).st=p.1):=by
   rintro p rfl;unfold ND.dD ND.cg;rw[e,au j,au j];split
   ·exact⟨rfl,λ _=>rfl⟩
   ·rename_i b;exact⟨rfl,λ a=>absurd a b⟩
  cases c:n.st.bz
  ·exact .inl (i _ (Mx d a c)).1
  ·obtain⟨h,m⟩:=o c;by_cases g:n.st.az.aE=y.h.aE
   ·exact .inr (.inl (i _ (Mz d a c (LO h g))).1)
   ·obtain⟨b,f⟩:=Gc.1 (m.resolve_left g);obtain⟨k1,k2⟩:=i _ (My d a c (LP h g f));refine .inr (.inr ⟨k1,?_⟩);have k:=Wi (GZ f);have hd:dU (n.cg y).st.aR=b:=by rw[k2 rfl];show dU b.enc=b;unfold dU;rw[Hj (BC k) k]
    unfold ND.proof yU;dsimp only;rw[hd];exact So h f
 ·omega
def SR{g w:aa}{rest:List Y}{x:NV}{v:ab}(q:TM m g)(h:ae g w m (Y.bd T x N::Y.dk T.a v N.d::rest))(b:N.Ok)(f:Int)(y:MG)(a4:y.Ok)(a5:y.Small)(u:y.log=0)(a1:y.c=3)(s:mY N y)(a3:y.b.a.size=y.b.b.size){b1 b3 b2:ab}(j:y.Rd w b1 b3 b2):
 Calls prog 170 #[pV T.g,O f,y.val b1 b3 b2] w (A2 g m rest T (N.pf y,N.pe f y)):=by
 have a:=Z (ae.start w [])
 have z:=Z h
 have b9:=Z q
 have l:=Z (λ(c:aa) (o:List Y) (d:BW w c) (e:ae g c m (Y.bd T x N::Y.dk T.a v N.d::o))=>CX q e b y a4 a5 u s a3 (j.below d))
 obtain⟨Q,R,rfl⟩:=j.b.form
 obtain⟨b4,b5,rfl⟩:=j.p.form
 obtain⟨a7,a8,rfl⟩:=j.m.jN
 have A:=Z (λ(c:aa) (n:NV) (e:(Y.bd T n (N.cg y)).P c)=>JQ e)
 have B:=Z (λ(c:aa) (k:cq c) b0 (n:(N.cg y).proof.Rd c b0 (ag none 0 0) (ag none 0 0)) (e:(N.cg y).proof.b.a.size=(N.cg y).proof.b.b.size)=>tD k f (N.cg y).proof (Ky (N.cg y)).1 n e)
 obtain⟨p2,p4⟩:=SS N f y
 have t:=Ja a1 s
 generalize N.pf y=c4 at*
 generalize N.pe f y=c5 at*
 generalize(N.cg y).proof=c0 at*
 generalize c0.enc=c3 at*
 clear q h b a4 a5 j s a1 a3
 generalize N.dD y=K at*
 generalize N.cg y=D at*
 generalize y.b.e.length=bn at*
 generalize y.e.length=b6 at*
 generalize y.aP.length=a9 at*
 obtain⟨a6,c9,id,M,C,⟨S,X,a0,a2⟩,⟨⟨E,F,G,H⟩,⟨I,J,L,P⟩,c6⟩,d1,d0⟩:=y
 simp only at u
 subst u
 show Calls prog 170 #[pV T.g,O f,aG #[O (a6:Int),O 0,U (id:Int),U (M:Int),U (C:Int),U (S:Int),U (X:Int),ad a0,ad a2,U (E:Int),U (F:Int),ad G,ad H,U (I:Int),U (J:Int),ad L,ad P,ag Q bn R,ag b4 b6 b5,ag a7 a9 a8]] w _
 by_cases k5:K=5
 ·obtain⟨e1,e2⟩:=p2 k5
  rw[e1,e2]
  have e:=(t.resolve_left W).resolve_left W
  have b7:=Z e.2
  clear p2 p4 e1 e2 e t
  subst k5
  have p:ai (∀(c:aa) (o:List Y),BW w c->ae g c m (Y.bd T x N::Y.dk T.a v N.d::o)->Calls prog 219 #[pV T.g,aG #[O (a6:Int),O 0,U (id:Int),U (M:Int),U (C:Int),U (S:Int),U (X:Int),ad a0,ad a2,U (E:Int),U (F:Int),ad G,ad H,U (I:Int),U (J:Int),ad L,ad P,ag Q bn R,ag b4 b6 b5,ag a7 a9 a8]] c λ r e=>r=ao (O 5)/\∃k c,ae g e m (Y.bd T k D::Y.dk T.a c D.d::o)):=l
  clear l
  go_enter func170,ntmps170
  go_wp2_with(first|refine KT a 20 ?_|refine Kl a ?_|refine KB a 81 5 _ λ c1 r c2 a=>?_|(with_reducible show cn);(refine Mk a.U rfl 27 rfl (some 1) 272 [_,_] (by go_simp;(exact⟨rfl,rfl⟩)) ?_;intro c7 r c8 b;replace a:=Z b;clear b;simp only[bc])|go_at_call 219;(refine(p.U _ _ a.U.aq ((z.U.plus a.U).ft [2,2])).mono ?_);rintro e o ⟨rfl,k,c,b⟩;replace a:=Z b;clear b|go_at_call 215;(refine(A.U _ _ (a.U.get (i:=0) rfl)).mono ?_);rintro e o ⟨b0,rfl,n,d⟩;replace a:=Z (a.U.below d);clear d;have b8:=Z n;clear n|go_at_call 209;(refine(B.U _ (b9.U.at a.U) _ b8.U b7.U).mono ?_);rintro e o ⟨rfl,d⟩;replace a:=Z (a.U.below d);clear d)
  go_ret
  exact⟨_,_,k,c,rfl,ZI (a.U.ft [3,1000])⟩
 ·have f6:((K:Int)==6)=false:=by rw[dP];omega
  have f5:((K:Int)==5)=false:=by rw[dP];omega
  have f9:((K:Int)==9)=false:=by rw[dP];omega
  have f7:((K:Int)==7)=false:=by rw[dP];omega
  obtain⟨e1,e2⟩:=p4 W k5 W W
  rw[e1,e2]
  have p:=l
  clear p2 p4 e1 e2 l k5 t B A
  go_enter func170,ntmps170
  go_wp2_with(first|refine KT a 20 ?_|refine KB a 81 5 _ λ c1 r c2 a=>?_|go_at_call 219;(refine(p.U _ _ a.U.aq ((z.U.plus a.U).ft [2,2])).mono ?_);rintro e o ⟨rfl,k,c,b⟩;replace a:=Z b;clear b)
  go_ret
  exact⟨none,0,k,c,rfl,zw (a.U.ft [2,1000])⟩
def Xq{f w:aa}{rest:List Y}{x:NV}{r:ab}(g:TM m f)(h:ae f w m (Y.bd T x N::Y.dk T.a r N.d::rest))(c:N.Ok)(l:Int)(y:MG)(p:y.Ok)(q:y.Small)(j:y.log=0)(P:y.c=4)(i:mY N y)(n:y.b.a.size=y.b.b.size){s u t:ab}(d:y.Rd w s u t):
 Calls prog 171 #[pV T.g,O l,y.val s u t] w (A2 f m rest T (N.ts y,[])):=by
 have a:=Z (ae.start w [])
 have v:=Z h
 have a5:=Z g
 have k:=Z (λ(b:aa) (z:List Y) (e:BW w b) (o:ae f b m (Y.bd T x N::Y.dk T.a r N.d::z))=>CX g o c y p q j i n (d.below e))
 obtain⟨H,I,rfl⟩:=d.b.form
 obtain⟨a1,a2,rfl⟩:=d.p.form
 obtain⟨S,X,rfl⟩:=d.m.jN
 have hd:ct N.c N.st y=(N.st,9):=by
  rcases i with b|b
  ·omega
  ·unfold ct ST.lay;rw[ar W,ar W,au b.1,ar b.2]
 have e:N.dD y=9:=by unfold ND.dD;rw[hd];rfl
 have o:N.ts y=N.cg y:=by unfold ND.ts;rw[e];rfl
 rw[o]
 rw[e] at k
 clear g h c p q d hd e o i P n
 generalize N.cg y=a6 at*
 generalize y.b.e.length=bn at*
 generalize y.e.length=a3 at*
 generalize y.aP.length=a0 at*
 obtain⟨Q,b0,id,M,o,⟨b,J,K,L⟩,⟨⟨z,A,B,C⟩,⟨D,E,F,G⟩,a7⟩,b2,b1⟩:=y
 simp only at j
 subst j
 show Calls prog 171 #[pV T.g,O l,aG #[O (Q:Int),O 0,U (id:Int),U (M:Int),U (o:Int),U (b:Int),U (J:Int),ad K,ad L,U (z:Int),U (A:Int),ad B,ad C,U (D:Int),U (E:Int),ad F,ad G,ag H bn I,ag a1 a3 a2,ag S a0 X]] w _
 go_enter func171,ntmps171
 go_wp2_with(first|refine KT a 20 ?_|refine KB a 81 5 _ λ a8 b4 a9 a=>?_|go_at_call 219;(refine(k.U _ _ a.U.aq ((v.U.plus a.U).ft [2,2])).mono ?_);rintro e b3 ⟨rfl,a4,R,c⟩;replace a:=Z c;clear c)
 go_ret
 exact⟨none,0,a4,R,rfl,zw (a.U.ft [2,1000])⟩
def xN:List (Int×ab):=[(1,.func (.func 169) #[] #[]),(2,.func (.func 169) #[] #[]),(3,.func (.func 170) #[] #[]),(4,.func (.func 171) #[] #[]),(9,.func (.func 172) #[] #[])]
def QB{c w:aa}(h:ae c w m I):Calls prog 86 #[] w λ r a=>∃g,r=ao (.map (some g))/\ae c a m (Y.mp g xN::I):=by
 have b:=Z h;clear h
 go_enter func86,ntmps86
 go_wp2_with(first|(with_reducible show yf);(refine w9 b.U rfl 1 rfl 158 rfl λ f d e a=>?_;replace b:=Z a;clear a)|(with_reducible show Sw);(refine Mi b.U 0 rfl rfl C9 rfl rfl rfl rfl λ d a=>?_;simp only[av,ax] at a;replace b:=Z a;clear a))
 go_ret
 exact⟨_,rfl,b.U⟩
variable{a:Act}{J K:Y}{G:MG}{k:Nat}{o:Oper}{X:Operand}{t:TypeId}
def SA(h:G.Ok)(c:Nat)(x:RD):(G.qV c x).Ok:=by
 have e:∀r:RD,r.jO.Ok:=λ r=>by
  refine⟨?_,?_⟩
  ·unfold RD.jO;exact jS r
  ·unfold RD.jO;exact jS r.bW
 have n:=e x;have d:x.gQ.Ok:=by
  have d:∀(p q:HD) (L:List af),p.Ok->q.Ok->L.length<1000000->(⟨p,q,L⟩:BD).Ok:=λ p q L a b c=>⟨a,b,c⟩;unfold RD.gQ;exact d _ _ _ (e x) (e x.jP) (by rw[yB];omega)
 have m:(∀k∈x.kr,k.size<18446744073709551616)/\x.kr.length<=1000000:=by
  have i:=Jz x;refine⟨?_,by omega⟩;unfold RD.kr;split
  ·intro k a;cases a
  ·have g:∀(f:Nat) (r:RD),∀k∈r.ks f,k.size<18446744073709551616:=by
    intro f;induction f with
    |zero=>intro r k a;cases a
    |succ f b=>
     intro r k a;rcases bO.1 a with rfl|a
     ·unfold RD.jc;exact jS _
     ·exact b _ k a
   exact g _ _
 unfold MG.qV;by_cases a:c=108
 ·rw[au a];exact⟨h.id,h.m,h.n,h.h,h.b,h.aP,h.len⟩
 rw[ar a];by_cases b:c=105
 ·rw[au b];exact⟨jS _,h.m,h.n,h.h,h.b,h.aP,h.len⟩
 rw[ar b];by_cases f:c=109
 ·rw[au f];exact⟨h.id,jS _,h.n,h.h,h.b,h.aP,h.len⟩
 rw[ar f];by_cases g:c=110
 ·rw[au g];exact⟨h.id,h.m,jS _,h.h,h.b,h.aP,h.len⟩
 rw[ar g];by_cases i:c=104
 ·rw[au i];exact⟨h.id,h.m,h.n,n,h.b,h.aP,h.len⟩
 rw[ar i];by_cases j:c=98
 ·rw[au j];exact⟨h.id,h.m,h.n,h.h,d,h.aP,h.len⟩
 rw[ar j];by_cases l:c=112
 ·rw[au l];exact⟨h.id,h.m,h.n,h.h,h.b,h.aP,h.len⟩
 rw[ar l];exact⟨h.id,h.m,h.n,h.h,h.b,m.1,m.2⟩
def Qn(k:Nat)(x:RD):(iW k x).1.Ok/\(iW k x).1.Small:=by
 have e:∀(L:List Nat) (p:MG×RD),p.1.Ok->p.1.Small->(L.foldl qO p).1.Ok/\(L.foldl qO p).1.Small:=by
  intro L;induction L with
  |nil=>intro p a b;exact⟨a,b⟩
  |cons c L d=>intro p a b;exact d (qO p c) (SA a c p.2) (IJ b c p.2)
 unfold iW;obtain⟨a,b⟩:=tn (y:={fx with c:=k}) (dS _) (dS _) (dS _) oq rfl rfl rfl;exact e _ _ a b
def sC{s:af}(h:dV s= .ok G):G.Ok/\G.Small/\G.right=true:=by
 unfold dV at h;have g:=Qn (⟨s,0⟩:RD).ei ((⟨s,0⟩:RD).bu 1);generalize iW (⟨s,0⟩:RD).ei ((⟨s,0⟩:RD).bu 1)=p at*;generalize jf (⟨s,0⟩:RD).ei=b at*;generalize p.2.ea=e at*;by_cases c:s=⟨#[]⟩
 ·rw[au c] at h;cases h
 rw[ar c] at h;by_cases d:b=false
 ·rw[au d] at h;cases h
 rw[ar d] at h;by_cases f:e=0
 ·rw[au f] at h;by_cases a:p.1.right=true
  ·rw[au a] at h;injection h with h;rw[<-h];exact⟨g.1,g.2,a⟩
  ·rw[ar a] at h;cases h
 ·rw[ar f] at h;cases h
def QC(h:k=1\/k=2\/k=3\/k=4):(eu xN (k:Int)).isSome=true:=by
 rcases h with rfl|rfl|rfl|rfl|rfl<;>rfl
def Nq{w wr:aa}{z:ab}{c:List (Int×ab)}(h:ae w wr m I)(i:Nat)(j:I[i]?=some (Y.mp g c))(e:fX t z){y:Operand}(k:o.op= .lookup t X y true)(hx:a.eval X= .map (some g))(n:a.eval y=O r){v:ab}{b:Bool}
 (l:je z c r=v) (f:(eu c r).isSome=b):(execOp a.eval o).run prog wr= .ok (.value (aM #[v,aK b])) wr:=by
 have d:=Y.Dc (h.get j) e r true
 rw[au rfl,l,f] at d
 unfold execOp
 simp only[k,hx,n,d,cO,dN,dd]
def WZ{n:ND}{a:Int}{s:af}{y:MG}(h:dV s= .ok y)(b:0<=a/\a<n.c.cj/\y.log=0/\(y.c=1\/y.c=2\/y.c=3\/y.c=4\/y.c=9)):rz n a s=some y:=by
 unfold rz;rw[h];exact au b
def W1{s:af}(h:rz N r s=some G):N.lD r s=(if G.c=3 then N.pf G else if G.c=4 then N.ts G else N)/\N.hQ r s=(if G.c=3 then N.pe r G else if G.c=1\/G.c=2 then N.uW r G else []):=by
 unfold ND.lD ND.hQ;rw[h];exact⟨rfl,rfl⟩
def W0{a w:aa}{rest:List Y}{B D E:Y}(h:ae a w m (J::K::B::D::E::rest)):ae a w m (J::D::E::rest):=(h.ft [2,1000,1,1000])
def Kk{B w:aa}{rest:List Y}{x:NV}{G:ab}(z:TM m B)(h:ae B w m (Y.bd T x N::Y.dk T.a G N.d::rest))(j:N.Ok)(b7:N.c.cj=1)(l:Int)(s:af)(b3:l=0)(b8:∃y,dV s= .ok y/\y.b.a.size=y.b.b.size/\ur N y):
 Calls prog 29 #[pV T.g,O l,ad s] w (A2 B m rest T (N.lD l s,N.hQ l s)):=by
 have t:=Z h
 have c0:=Z z
 have a:=Z (ae.start w [])
 have f:=z.at h
 have a3:∀d,BW w d->(Y.row T.g 139 (N.cells T)).P d:=λ d g=>(Y.row T.g 139 (N.cells T)).lift (lA (h.get (i:=0) rfl)) g
 have b6:=Z a3
 obtain⟨y,hd,e,R,a0,b4⟩:=b8
 have A:=Z b3
 clear b3
 have a2:N.proof.b.a.size=N.proof.b.b.size:=by unfold ND.proof yU;dsimp only;exact a0
 obtain⟨M,X,b9⟩:=sC hd
 have a7:ai (∀d,BW w d->Calls prog 83 #[ad s] d λ r a5=>∃D E J K H I,r=ao (aM #[y.val (ag D y.b.e.length E) (ag J y.e.length K) (ag H y.aP.length I),O 0])/\y.Rd a5 (ag D y.b.e.length E) (ag J y.e.length K) (ag H y.aP.length I)/\BW d a5):=Z (λ d g=>(VF s d (f.below g).a (f.below g).bz ⟨y,hd,e⟩).mono (by
  rintro r a5 a4
  unfold At at a4
  rw[hd] at a4
  obtain⟨⟨o,q,p,b1,F⟩,b2⟩:=a4
  obtain⟨D,E,rfl⟩:=F.b.form
  obtain⟨J,K,rfl⟩:=F.p.form
  obtain⟨H,I,rfl⟩:=F.m.jN
  exact⟨D,E,J,K,H,I,b1,F,b2⟩))
 have S:= @WZ N l s y hd
 rw[b7] at S
 have a8:=Z (λ(d a6:aa) (n:ae B d m (Y.bd T x N::Y.dk T.a G N.d::rest)) (g:BW d a6) (o q p:ab) (k:y.Rd d o q p)=>QA ((z.at n).below g) ((Y.bd T x N).lift (n.get (i:=0) rfl) g) j l y (k.below g) a2)
 have P:=Z (λ(d:aa) (u:List Y) (n:ae B d m (Y.bd T x N::Y.dk T.a G N.d::u)) (o q p:ab) (k:y.Rd d o q p) (v:y.c=3) (b:mY N y)=>SR z n j l y M X R v b e k)
 have Q:=Z (λ(d:aa) (u:List Y) (n:ae B d m (Y.bd T x N::Y.dk T.a G N.d::u)) (o q p:ab) (k:y.Rd d o q p) (v:y.c=4) (b:mY N y)=>Xq z n j l y M X R v b e k)
 obtain⟨L,z1⟩:∃v,je .nilFunc xN (y.c:Int)=v:=⟨_,rfl⟩
 obtain⟨b5,z2⟩:∃b,(eu xN (y.c:Int)).isSome=b:=⟨_,rfl⟩
 have a1:=Z b4;have a9:=Z S;have C:=Z z1;have b0:=Z z2
 clear b4 S z h j f hd a3 M X b9 e a2 a0
 generalize y.b.e.length=bn at*
 generalize y.e.length=e3 at*
 generalize y.aP.length=d9 at*
 obtain⟨S,d6,id,M,c1,⟨b1,F,b2,d4⟩,⟨⟨c2,c3,c4,c5⟩,⟨c6,c7,c8,c9⟩,d0⟩,e0,d8⟩:=y
 simp only at a7 a8 P Q a9 z1 z2 C b0 R
 have X:=Z (aX (b6.U _ (bp _ _)) bg)
 go_enter func29,ntmps29
 go_upto_region 2 with(first|refine KS a λ b9 a=>?_|refine KA a _ 7 kF λ d3 b9 d5 a=>?_|go_at_call 83;(refine(a7.U _ a.U.aq).mono ?_);rintro e b4 ⟨D,E,J,K,H,I,rfl,k,g⟩;have a3:=(t.U.below a.U.aq).below g;clear a t X;have t:=Z a3;have X:=Z (aX (lA (a3.get (i:=0) rfl)) bg);have a2:=Z k;clear k g a3;have a:=Z (ae.start b4 []))
 refine RG a 8 [0] λ a6 a f=>?_
 refine VV [1,2002] f ?_
 clear f
 refine KV 0 (en 86) 17 ?_
 refine(QB a.U).mono ?_
 rintro e b4 ⟨d7,rfl,j⟩
 replace a:=Z j;clear j
 refine⟨_,rfl,bI a [1],?_⟩
 simp only[aS,av,ax]
 refine ay.Eg (i:=3) V zD rfl rfl 20 rfl (aM #[L,aK b5]) _ (Nq a.U 0 rfl C9 rfl rfl rfl z1 z2) (aX (a.U.in (by exact mQ mZ)) bg) ?_
 try simp only[aS,av,ax]
 have f:=bI a [1]
 refine VV [4,5,6,7] f ?_
 clear f z1 z2
 refine WT ?_
 go_upto_region 3 with fail
 refine ma a X 28 [1] λ a6 a f=>?_
 refine VV [0] f ?_
 have d1:decide (l<0)=false:=bm (by have:=A.U;omega)
 have d2:decide (1<=l)=false:=bm (by have:=A.U;omega)
 subst R
 have b:S=1\/S=2\/S=3\/S=4:=by
  rcases a1.U with h|h|⟨h,-⟩|⟨h,-⟩
  ·exact .inl h
  ·exact .inr (.inl h)
  ·exact .inr (.inr (.inl h))
  ·exact .inr (.inr (.inr h))
 obtain rfl:b5=true:=by rw[<-b0.U];exact QC b
 obtain⟨e1,e2⟩:=W1 (a9.U ⟨by have:=A.U;omega,by have:=A.U;omega,rfl,by omega⟩)
 simp only at e1 e2
 clear A
 refine WB 1 false f ?_
 refine VV [2,3,4,5,6,7,2008] f ?_
 refine WB 9 false f ?_
 refine VV [10,11,12] f ?_
 refine WB 13 false f ?_
 refine VV [14,15,16,17,18,19,20,2021,22,23,24,2025,26] f ?_
 refine WB 27 false f ?_
 rcases b with b|b|b|b
 focus
  obtain rfl:L= .func (.func 169) #[] #[]:=by rw[<-C.U,b];rfl
  have v:=Z (And.intro (e1.trans (by rw[ar W,ar W])) (e2.trans (by rw[ar W,au (.inl b)])))
  clear e1 e2 b
 rotate_left
 focus
  obtain rfl:L= .func (.func 169) #[] #[]:=by rw[<-C.U,b];rfl
  have v:=Z (And.intro (e1.trans (by rw[ar W,ar W])) (e2.trans (by rw[ar W,au (.inr b)])))
  clear e1 e2 b
 rotate_left
 focus
  obtain rfl:L= .func (.func 170) #[] #[]:=by rw[<-C.U,b];rfl
  have v:=Z (And.intro (e1.trans (au b)) (e2.trans (au b)))
  have A:=(a1.U.resolve_left W).resolve_left W
  have a0:=Z (λ d u n o q p k=>P.U d u n o q p k b A)
  clear e1 e2 b A Q P
 rotate_left
 focus
  obtain rfl:L= .func (.func 171) #[] #[]:=by rw[<-C.U,b];rfl
  have v:=Z (And.intro (e1.trans (by rw[ar W,au b])) (e2.trans (by rw[ar W,ar W])))
  have A:=(a1.U.resolve_left W).resolve_left W
  have a0:=Z (λ d u n o q p k=>Q.U d u n o q p k b A)
  clear e1 e2 b A Q P
 rotate_left
 all_goals
  clear f
  refine WT ?_
  go_wp2_with(first|refine KT a 20 ?_|go_at_call 171;(refine(a0.U _ _ ((t.U.plus a.U).ft [3,3]) _ _ _ (a2.U.below a.U.aq)).mono ?_);rintro e f ⟨A,c,n,d,rfl,j⟩;replace a:=Z j;clear j|go_at_call 170;(refine(a0.U _ _ ((t.U.plus a.U).ft [3,3]) _ _ _ (a2.U.below a.U.aq)).mono ?_);rintro e f ⟨A,c,n,d,rfl,j⟩;replace a:=Z j;clear j|go_at_call 169;(refine(a8.U _ _ t.U a.U.aq _ _ _ a2.U).mono ?_);rintro e f ⟨A,c,rfl,b,g⟩;replace a:=Z (a.U.gT g b);clear g b)
  go_ret
  rw[v.U.1,v.U.2]
  first
   |exact⟨A,c,x,G,rfl,W0 (t.U.plus a.U)⟩
   |exact⟨A,c,n,d,rfl,(a.U.ft [3,1000,3,1000])⟩
def VU{w:aa}{x:NV}(h:(Y.bd T x N).P w):(Y.mp T.rg (pN N.g)).P w:=h.1 _ (.tail _ (.tail _ (.tail _ (.tail _ (.tail _ (.head _))))))
def GD{n:ND}{y:MG}(h:n.g=none):answers n y=false:=by unfold answers;rw[h]
def GC{n:ND}{y:MG}(h:¬y.log=0):answers n y=false:=by
 unfold answers;split
 ·rfl
 ·rw[bm h];rfl
def GA{n:ND}{y:MG}{r:RQ}(h:n.g=some r)(b:r.m=ki r.id)(a:y.log=0):answers n y=(decide (y.id=r.id)&&decide (y.c=7)):=by
 unfold answers;rw[h];dsimp only;rw[b,aT a];show(true&&(decide (y.id=r.id)&&((decide (5=5)&&decide (y.c=7))||(decide (5=6)&&_))))=_;simp
def GB{n:ND}{y:MG}{r:RQ}{p q:Nat}(h:n.g=some r)(b:r.m=uO r.id p q)(a:y.log=0):answers n y=(decide (y.id=r.id)&&(decide (y.c=8)&&(decide (p=y.m)&&decide (q=y.n)))):=by
 unfold answers;rw[h];dsimp only;rw[b,aT a];show(true&&(decide (y.id=r.id)&&((decide (6=5)&&_)||(decide (6=6)&&(decide (y.c=8)&&(decide (p=y.m)&&decide (q=y.n)))))))=_;simp
def Om{w:aa}{x:NV}(h:(Y.bd T x N).P w)(v:N.Ok)(y:MG)(B G D:Option Addr)(bn C I H F E:Nat):
 CB 217 #[pV T.g,O 0,y.val (ag B bn C) (ag G I H) (ag D F E)] w (aK (answers N y)):=by
 have a:=Z (ae.start w [])
 have l:=lA h;have m:=rm h;have u:=VU h
 have A:=v.g
 have z:= @GD N y
 have s:= @GC N y
 have bz:= @GA N y
 have o:= @GB N y
 generalize answers N y=R at*
 clear h v
 obtain⟨c,b,a9,next,b3,j,d,b7,b9,c4,c5⟩:=N
 obtain⟨f,a8,id,M,n,⟨a2,a3,a4,a5⟩,⟨⟨K,L,P,Q⟩,⟨S,X,a0,a1⟩,b4⟩,c0,b8⟩:=y
 simp only at A z s bz o
 by_cases a7:a8=0
 ·subst a7
  cases b3
  ·have k:=z rfl
   subst k
   have g:=Z (aX l (aX (show(Y.row T.b 133 (ad c.key::Value.bool b.bz::Value.int .u64 (b.az.size:Int)::Value.int .u64 (b.az.time:Int)::ad b.az.aE::ad b.az.a::x.pv::ad b.aR::Value.int .u64 (a9:Int)::Value.int .u64 (next:Int)::Value.int .i64 0::x.ys)).P w from m) bg))
   clear A z s bz o l m u
   show Calls prog 217 #[pV T.g,O 0,aG #[O (f:Int),O 0,U (id:Int),U (M:Int),U (n:Int),U (a2:Int),U (a3:Int),ad a4,ad a5,U (K:Int),U (L:Int),ad P,ad Q,U (S:Int),U (X:Int),ad a0,ad a1,ag B bn C,ag G I H,ag D F E]] w _
   go_enter func217,ntmps217
   go_wp2_with(first|refine KH (a.U.bT g.U) ?_|refine Kl a ?_|refine KB a 81 5 _ λ b1 J b2 a=>?_)
   go_ret
   exact⟨rfl,a.U.aq⟩
  ·rename_i r
   have a6:=A r rfl
   have b0:=a6.t
   obtain⟨e,c3,c2,c1⟩:=r
   rcases a6.m with t|⟨p,q,-,-,t⟩
   focus have k:=bz rfl t rfl
   rotate_left
   focus have k:=o rfl t rfl
   all_goals
    simp only at t k b0
    subst t
    first
     |have g:=Z (aX l (aX (show(Y.row T.b 133 (ad c.key::Value.bool b.bz::Value.int .u64 (b.az.size:Int)::Value.int .u64 (b.az.time:Int)::ad b.az.aE::ad b.az.a::x.pv::ad b.aR::Value.int .u64 (a9:Int)::Value.int .u64 (next:Int)::Value.int .i64 (e:Int)::x.ys)).P w from m) (aX (show(Y.mp T.rg [((e:Int),aG #[O 6,O 0,U (e:Int),U (p:Int),U (q:Int),U 0,U 0,ad ⟨#[]⟩,ad ⟨#[]⟩,U 0,U 0,ad ⟨#[]⟩,ad ⟨#[]⟩,U 0,U 0,ad ⟨#[]⟩,ad ⟨#[]⟩,ag none 0 0,ag none 0 0,ag none 0 0])]).P w from u) bg)))
     |have g:=Z (aX l (aX (show(Y.row T.b 133 (ad c.key::Value.bool b.bz::Value.int .u64 (b.az.size:Int)::Value.int .u64 (b.az.time:Int)::ad b.az.aE::ad b.az.a::x.pv::ad b.aR::Value.int .u64 (a9:Int)::Value.int .u64 (next:Int)::Value.int .i64 (e:Int)::x.ys)).P w from m) (aX (show(Y.mp T.rg [((e:Int),aG #[O 5,O 0,U (e:Int),U 0,U 0,U 0,U 0,ad ⟨#[]⟩,ad ⟨#[]⟩,U 0,U 0,ad ⟨#[]⟩,ad ⟨#[]⟩,U 0,U 0,ad ⟨#[]⟩,ad ⟨#[]⟩,ag none 0 0,ag none 0 0,ag none 0 0])]).P w from u) bg)))
    have d1:((e:Int)==0)=false:=by rw[dP];omega
    have f1:=mq id e
    first
     |have f2:((f:Int)==8)=decide (f=8):=by rw[bw];simp;omega
      have f3:=mq p M
      have f4:=mq q n
     |have f2:((f:Int)==7)=decide (f=7):=by rw[bw];simp;omega
    generalize decide (id=e)=t1 at*
    first
     |generalize decide (f=8)=t2 at*
      generalize decide (p=M)=t3 at*
      generalize decide (q=n)=t4 at*
     |generalize decide (f=7)=t2 at*
    clear A z s bz o l m u a6 b0
    have b0:=Z k
    clear k
    show Calls prog 217 #[pV T.g,O 0,aG #[O (f:Int),O 0,U (id:Int),U (M:Int),U (n:Int),U (a2:Int),U (a3:Int),ad a4,ad a5,U (K:Int),U (L:Int),ad P,ad Q,U (S:Int),U (X:Int),ad a0,ad a1,ag B bn C,ag G I H,ag D F E]] w _
    go_enter func217,ntmps217
    go_upto_region 3 with(first|refine KH (a.U.bT g.U) ?_|refine Kl a ?_|refine KB a 81 5 _ λ b1 J b2 a=>?_)
    refine ma a g 14 [] λ c6 a a6=>?_
    refine VV [0,1,2,2003,4,5,6,2007,8,9,10,2011] a6 ?_
    refine W2 12 50 rfl rfl (YL V 2 rfl C8 rfl rfl rfl (Vx _ _ _)) a6 ?_
    clear a6
    refine ay.mE (i:=13) V zD rfl ?_
    refine One.alloc a.U V 81 7 rfl rfl _ kF ?_
    intro b5 J b6 v
    replace a:=Z v;clear v
    refine⟨a.U.bT g.U,?_⟩
    try simp only[aS,av,ax]
    refine WT ?_
    first
     |cases t2;rotate_left
      cases t3;rotate_left
      cases t4
     |cases t2
    all_goals
     cases t1
     all_goals
      have a6:=b0.U
      simp only[sB,↓reduceIte,reduceCtorEq,eG] at a6
      subst a6
      clear b0
      go_wp2_with(first|refine Kl a ?_|refine KS a λ J a=>?_)
      go_ret
      exact⟨by simp,a.U.aq⟩
 ·have k:=s a7
  subst k
  have g:=Z (aX l bg)
  have d2:((a8:Int) !=0)=true:=by rw[ml];omega
  clear A z s bz o l m u a7
  show Calls prog 217 #[pV T.g,O 0,aG #[O (f:Int),O (a8:Int),U (id:Int),U (M:Int),U (n:Int),U (a2:Int),U (a3:Int),ad a4,ad a5,U (K:Int),U (L:Int),ad P,ad Q,U (S:Int),U (X:Int),ad a0,ad a1,ag B bn C,ag G I H,ag D F E]] w _
  go_enter func217,ntmps217
  go_wp2_with(first|refine KH (a.U.bT g.U) ?_|refine Kl a ?_|refine KB a 81 5 _ λ b1 J b2 a=>?_)
  go_ret
  exact⟨rfl,a.U.aq⟩
