import Derived.Test.YtncpbkoinennoaaGreatDoorMBC
set_option linter.all false
set_option maxRecDepth 100000
set_option maxHeartbeats 0
namespace Go.Proofs.YtncpbkoinennoaaGreatDoor
open Go.RowKit Proofs.Tryz
attribute [local irreducible] wpList Calls
variable{g:Nat}
abbrev MK.val(k:MK):ab:=aG #[O (k.log:Int),U (k.size:Int),ad k.aE,aK k.aR]
def Vn(k:MK){w:aa}(d:(Y.row g 3 [O 0]).P w):CB 281 #[k.val,pV g] w (aK (decide (k.log=0))):=by
 have a:=Z (ae.start w []);have e:=Z (aX d bg);have f:((k.log:Int)==0)=decide (k.log=0):=by rw[bw];simp
 generalize decide (k.log=0)=b at*;clear d
 go_enter func281,ntmps281
 go_wp2_with(first|(first|(refine KL a 0 3 ?_)|(refine oI (a.U.bT e.U) 0 rfl rfl 3 rfl rfl V rfl ?_))|(refine Bx a.U rfl 240 2 rfl rfl (k.cells) rfl λ h j i c=>?_;replace a:=Z c;clear c))
 go_ret
 exact⟨by simp[f],a.U.aq⟩
def pM(q:MK->Bool)(x:List ab):Bool:=match x with
 |[.int _ a,.int _ b,.string c,.bool d]=>q ⟨a.toNat,b.toNat,c,d⟩
 |_=>false
def WL(q:MK->Bool)(k:MK):pM q k.cells=q k:=by
 show q ⟨((k.log:Nat):Int).toNat,((k.size:Nat):Int).toNat,k.aE,k.aR⟩=q k;rw[mW,mW]
def R7(q:MK->Bool)(L:List MK):cv (pM q) (L.map MK.cells)=cv q L:=by
 rw[xY];congr 1
def JA:∀{L:List MK},cv (λ k=>decide (k.log=0)) L=none->fG L=⟨0,0,⟨#[]⟩,false⟩
 |[],_=>rfl
 |k::l,h=>by
  rw[cv] at h
  split at h
  ·cases h
  ·rename_i a
   rw[fG,ar (by simpa using a)]
   refine JA ?_
   cases b:cv (λ k=>decide (k.log=0)) l with
   |none=>rfl
   |some j=>rw[b] at h;cases h
def JB:∀{L:List MK} {j:Nat},cv (λ k=>decide (k.log=0)) L=some j->L[j]?=some (fG L)
 |[],j,h=>by cases h
 |k::l,j,h=>by
  rw[cv] at h
  split at h
  ·rename_i a
   cases h
   rw[fG,au (by simpa using a)];rfl
  ·rename_i a
   cases b:cv (λ k=>decide (k.log=0)) l with
   |none=>rw[b] at h;cases h
   |some i=>
    rw[b] at h
    cases h
    rw[fG,ar (by simpa using a)]
    simpa using JB b
def Vo{w:aa}{v:ab}{L:List MK}(h:bN 4 w v (L.map MK.cells)):Calls prog 236 #[v,O 0] w λ r a=>r=ao (fG L).val/\BW w a:=by
 have f:=Z (ae.start w []);have s:=Z h;have p:ai (∀l,BW w l->∀g,(Y.row g 3 [O 0]).P l->CB 280 #[v,.func (.func 281) #[] #[pV g]] l (O (jT (cv (λ k=>decide (k.log=0)) L)))):=Z (λ l m g e=>by
  have:=TL (h.below m) (pV g) (pM λ k=>decide (k.log=0)) (λ r a b c d j q=>by
   obtain⟨k,-,n⟩:=eH.1 q;injection n with e1 n;injection n with e2 n;injection n with e3 n;injection n with e4 n;subst e1 e2 e3 e4;have y:=Vn k ((Y.row g 3 [O 0]).st l r (λ i o=>j.block i ((Y.row g 3 [O 0]).lt l e i o)) e);rw[<-WL (λ k=>decide (k.log=0)) k] at y;exact y)
  rw[R7] at this;exact this)
 obtain⟨A,x,rfl,-⟩:=bN.form h;rw[cC] at s p⊢;cases a:cv (λ k:MK=>decide (k.log=0)) L with
 |none=>
  have j:=Z (JA a);rw[a] at p;have t:ai (∀l,BW w l->∀g,(Y.row g 3 [O 0]).P l->CB 280 #[ag A L.length x,.func (.func 281) #[] #[pV g]] l (O (-1))):=p;clear h a p s
  go_enter func236,ntmps236
  go_wp2_with(first|(refine KL f 1 3 ?_)|(refine K7 f 0 240 4 λ d f=>?_)|(refine KA f 240 4 jt λ F d K f=>?_)|(refine KB f 3 3 ([O 0]) λ E d J f=>?_)|(go_at_call 280;(refine(t.U _ f.U.aq _ (f.U.get (i:=1) rfl)).mono ?_);rintro e N ⟨rfl,m⟩;have b:=f.U.below m;replace f:=Z b;clear b;clear m))
  rw[j.U];refine ha f.U 0 rfl 240 4 rfl rfl V rfl rfl ?_;exact⟨rfl,f.U.aq⟩
 |some j=>
  have q:=JB a;generalize fG L=M at*;obtain⟨B,D,C,u⟩:=M;have r:j<L.length:=(cw.1 q).1;have z:(L.map MK.cells)[j]'(by rw[cC];exact r)=[O (B:Int),U (D:Int),ad C,aK u]:=by
   rw[ua,(cw.1 q).2]
  rw[a] at p;have t:ai (∀l,BW w l->∀g,(Y.row g 3 [O 0]).P l->CB 280 #[ag A L.length x,.func (.func 281) #[] #[pV g]] l (O (j:Int))):=p;obtain⟨bb,o,I,-⟩:=h.at (j:=j) (by rw[cC];exact r);subst I;have g:ai (∀l,BW w l->l.rangeAt bb (o+j*4) [O (B:Int),U (D:Int),ad C,aK u]):=Z (λ l m=>by
   obtain⟨P,Q,hA2,hx⟩:=(s.U.below m).at (j:=j) (by rw[cC];exact r);injection hA2 with hA2;injection hA2 with G H;subst G H;rw[z] at hx;exact hx)
  have d1:decide ((j:Int)<0)=false:=bm W;have d2:(0:Int)<=(j:Int):=by omega
  have d3:(j:Int)<(L.length:Int):=by omega
  clear h a q z p s r
  go_enter func236,ntmps236
  go_wp2_with(first|((with_reducible show wpList _ _ _ (⟨_,.load 240 _,_,_,_,_⟩::_) _ _);refine hj rfl 240 4 rfl rfl (g.U _ f.U.aq) rfl V ?_)|(refine K7 f 0 240 4 λ d f=>?_)|(refine KA f 240 4 jt λ F d K f=>?_)|(refine KB f 3 3 ([O 0]) λ E d J f=>?_)|(go_at_call 280;(refine(t.U _ f.U.aq _ (f.U.get (i:=1) rfl)).mono ?_);rintro e N ⟨rfl,m⟩;have b:=f.U.below m;replace f:=Z b;clear b;clear m))
  refine ha f.U 0 rfl 240 4 rfl rfl V rfl rfl ?_;exact⟨rfl,f.U.aq⟩
def OI(s:ST){pv:ab}(I:∃A n c,pv=ag A n c)(k:MK)(w:aa):CB 237 #[s.val pv,k.val] w (aK (behind s k)):=by
 obtain⟨pA,q,p,rfl⟩:=I;have f0:=mJ s.aR;have D:=ir s.aR;have f2:decide (s.az.size<k.size)=decide ((s.az.size:Int)<(k.size:Int)):=by rw[bw];simp
 have f3:decide (0<k.size)=decide ((0:Int)<(k.size:Int)):=by rw[bw];simp
 have f4:=mq k.size s.az.size;have f5:=rE k.aE s.az.aE;have x:=wv k.aE s.az.aE;have b:behind s k=if s.aR=⟨#[]⟩ then k.aR||(decide (s.az.size<k.size)||(decide (0<k.size)&&(decide (k.size=s.az.size)&& !decide (k.aE=s.az.aE)))) else false:=rfl
 obtain⟨R,a⟩:∃R,behind s k=R:=⟨_,rfl⟩;rw[a] at b⊢;clear a;have a:R=(decide (s.aR=⟨#[]⟩)&&(k.aR||(decide (s.az.size<k.size)||(decide (0<k.size)&&(decide (k.size=s.az.size)&& !decide (k.aE=s.az.aE)))))):=by
  rw[b];split<;>simp_all
 clear b;have f:decide (s.az.size<k.size)=decide (s.az.size<k.size):=rfl;have g:decide (0<k.size)=decide (0<k.size):=rfl;generalize decide (s.aR=⟨#[]⟩)=y at*;generalize G:decide (s.az.size<k.size)=z at*;generalize H:decide (0<k.size)=A at*;generalize decide (k.size=s.az.size)=B at*;generalize decide (k.aE=s.az.aE)=C at*;have E:=f2.symm;have F:=f3.symm;clear f2 f3 f g;have d:=Z a;clear a;have a:=Z (ae.start w []);obtain⟨t,⟨h,i,j,l⟩,K,r⟩:=s;obtain⟨m,o,n,J⟩:=k;simp only at f0 D f4 f5 x E F G H d;cases y with
 |true=>
  cases J with
  |true=>
   have b:=d.U;simp only[sB,↓reduceIte,reduceCtorEq,eG] at b;subst b;clear d
   go_enter sg,sh
   go_wp2_with(first|(first|(refine KL a 1 9 ?_)|(refine KL a 0 4 ?_))|(first|(refine KB a 62 2 ([.bool t,U (h:Int),U (i:Int),.string j,.string l,.slice pA q p,.string r]) λ f e u a=>?_)|(refine KB a 240 3 ([O (m:Int),U (o:Int),.string n,_]) λ g e v a=>?_)))
   go_ret
   exact⟨by simp,a.U.aq⟩
  |false=>
   cases z with
   |true=>
    have b:=d.U;simp only[sB,↓reduceIte,reduceCtorEq,eG] at b;subst b;clear d
    go_enter sg,sh
    go_wp2_with(first|(first|(refine KL a 1 9 ?_)|(refine KL a 0 4 ?_)|(refine KL a 0 46 ?_)|(refine KL a 1 46 ?_))|(first|(refine KB a 62 2 ([.bool t,U (h:Int),U (i:Int),.string j,.string l,.slice pA q p,.string r]) λ f e u a=>?_)|(refine KB a 240 3 ([O (m:Int),U (o:Int),.string n,_]) λ g e v a=>?_)))
    go_ret
    exact⟨by simp,a.U.aq⟩
   |false=>
    cases A with
    |true=>
     cases B with
     |true=>
      cases C with
      |true=>
       simp only[vi] at x;have b:=d.U;simp only[sB,↓reduceIte,reduceCtorEq,eG] at b;subst b;clear d
       go_enter sg,sh
       go_wp2_with(first|(first|(refine KL a 0 9 ?_)|(refine KL a 1 9 ?_)|(refine KL a 0 4 ?_)|(refine KL a 0 46 ?_)|(refine KL a 1 46 ?_))|(first|(refine KB a 62 2 ([.bool t,U (h:Int),U (i:Int),.string j,.string l,.slice pA q p,.string r]) λ f e u a=>?_)|(refine KB a 240 3 ([O (m:Int),U (o:Int),.string n,_]) λ g e v a=>?_)))
       go_ret
       exact⟨by simp,a.U.aq⟩
      |false=>
       simp only[eG] at x;have b:=d.U;simp only[sB,↓reduceIte,reduceCtorEq,eG] at b;subst b;clear d
       go_enter sg,sh
       go_wp2_with(first|(first|(refine KL a 0 9 ?_)|(refine KL a 1 9 ?_)|(refine KL a 0 4 ?_)|(refine KL a 0 46 ?_)|(refine KL a 1 46 ?_))|(first|(refine KB a 62 2 ([.bool t,U (h:Int),U (i:Int),.string j,.string l,.slice pA q p,.string r]) λ f e u a=>?_)|(refine KB a 240 3 ([O (m:Int),U (o:Int),.string n,_]) λ g e v a=>?_)))
       go_ret
       exact⟨by simp,a.U.aq⟩
     |false=>
      have b:=d.U;simp only[sB,↓reduceIte,reduceCtorEq,eG] at b;subst b;clear d
      go_enter sg,sh
      go_wp2_with(first|(first|(refine KL a 1 9 ?_)|(refine KL a 0 4 ?_)|(refine KL a 0 46 ?_)|(refine KL a 1 46 ?_))|(first|(refine KB a 62 2 ([.bool t,U (h:Int),U (i:Int),.string j,.string l,.slice pA q p,.string r]) λ f e u a=>?_)|(refine KB a 240 3 ([O (m:Int),U (o:Int),.string n,_]) λ g e v a=>?_)))
      go_ret
      exact⟨by simp,a.U.aq⟩
    |false=>
     have b:=d.U;simp only[sB,↓reduceIte,reduceCtorEq,eG] at b;subst b;clear d
     go_enter sg,sh
     go_wp2_with(first|(first|(refine KL a 1 9 ?_)|(refine KL a 0 4 ?_)|(refine KL a 0 46 ?_)|(refine KL a 1 46 ?_))|(first|(refine KB a 62 2 ([.bool t,U (h:Int),U (i:Int),.string j,.string l,.slice pA q p,.string r]) λ f e u a=>?_)|(refine KB a 240 3 ([O (m:Int),U (o:Int),.string n,_]) λ g e v a=>?_)))
     go_ret
     exact⟨by simp,a.U.aq⟩
 |false=>
  have b:=d.U;simp only[sB,↓reduceIte,reduceCtorEq,eG] at b;subst b;clear d
  go_enter sg,sh
  go_wp2_with(first|(refine KL a 1 9 ?_)|(first|(refine KB a 62 2 ([.bool t,U (h:Int),U (i:Int),.string j,.string l,.slice pA q p,.string r]) λ f e u a=>?_)|(refine KB a 240 3 ([O (m:Int),U (o:Int),.string n,_]) λ g e v a=>?_)))
  go_ret
  exact⟨by simp,a.U.aq⟩
def N7{w:aa}(s:ST){F:ab}(h:jw w F s.f)(k:MK):CB 238 #[s.val F,k.val] w (aK (qA s k)):=by
 have j:=Z (λ a (b:BW w a) g (c:(Y.row g 240 [O (k.log:Int),U (k.size:Int),ad k.aE,aK k.aR]).P a)=>PQ (h.below b) (O (k.log:Int)) (aK k.aR) k.size k.aE c);obtain⟨pA,u,rfl⟩:=h.form;clear h;have f2:decide (k.size<s.az.size)=decide ((k.size:Int)<(s.az.size:Int)):=by rw[bw];simp
 have f4:=mq s.az.size k.size;have f5:=rE s.az.aE k.aE;have z:=wv s.az.aE k.aE;obtain⟨R,a⟩:∃R,qA s k=R:=⟨_,rfl⟩;rw[a];unfold qA at a;generalize(s.f.any λ h=>decide (h.size=k.size)&&decide (h.aE=k.aE))=L at*;generalize K:decide (k.size<s.az.size)=G at*;generalize decide (s.az.size=k.size)=H at*;generalize decide (s.az.aE=k.aE)=I at*;have J:=f2.symm;clear f2;have f:=Z a.symm;clear a;have a:=Z (ae.start w []);generalize s.f.length=v at*;obtain⟨y,⟨l,m,n,o⟩,M,x⟩:=s;obtain⟨q,t,r,p⟩:=k;simp only at f4 f5 z J K j;cases G with
 |true=>
  have c:=f.U;simp only[gW,Af,kH,wM,Am,Ak,wN,Aj,Ai,Ah,↓reduceIte,reduceCtorEq,eG] at c;subst c;clear f
  go_enter Bb,Bj
  go_wp2_with(first|((with_reducible show ye);first|(refine KL a 0 46 ?_)|(refine KL a 1 46 ?_)|(refine KL a 0 9 ?_)|(refine KL a 1 9 ?_)|(refine KL a 0 60 ?_)|(refine KL a 1 60 ?_))|((with_reducible show yd);first|(refine KB a 62 2 ([aK y,U (l:Int),U (m:Int),ad n,ad o,ag pA v u,ad x]) ?_;clear a;intro A g C a)|(refine KB a 240 3 ([O (q:Int),U (t:Int),ad r,aK p]) ?_;clear a;intro B g D a))|(go_at_call 283;(with_reducible refine(j.U _ a.U.aq _ (a.U.get (i:=0) rfl)).mono ?_);rintro e E ⟨rfl,b⟩;have d:=a.U.below b;replace a:=Z d;clear d;clear b))
  go_ret
  exact⟨by simp,a.U.aq⟩
 |false=>
  cases H with
  |true=>
   cases I with
   |true=>
    simp only[vi] at z;have c:=f.U;simp only[gW,Af,kH,wM,Am,Ak,wN,Aj,Ai,Ah,↓reduceIte,reduceCtorEq,eG] at c;subst c;clear f
    go_enter Bb,Bj
    go_wp2_with(first|((with_reducible show ye);first|(refine KL a 0 46 ?_)|(refine KL a 1 46 ?_)|(refine KL a 0 9 ?_)|(refine KL a 1 9 ?_)|(refine KL a 0 60 ?_)|(refine KL a 1 60 ?_))|((with_reducible show yd);first|(refine KB a 62 2 ([aK y,U (l:Int),U (m:Int),ad n,ad o,ag pA v u,ad x]) ?_;clear a;intro A g C a)|(refine KB a 240 3 ([O (q:Int),U (t:Int),ad r,aK p]) ?_;clear a;intro B g D a))|(go_at_call 283;(with_reducible refine(j.U _ a.U.aq _ (a.U.get (i:=0) rfl)).mono ?_);rintro e E ⟨rfl,b⟩;have d:=a.U.below b;replace a:=Z d;clear d;clear b))
    go_ret
    exact⟨by simp,a.U.aq⟩
   |false=>
    simp only[eG] at z;have c:=f.U;simp only[gW,Af,kH,wM,Am,Ak,wN,Aj,Ai,Ah,↓reduceIte,reduceCtorEq,eG] at c;subst c;clear f
    go_enter Bb,Bj
    go_wp2_with(first|((with_reducible show ye);first|(refine KL a 0 46 ?_)|(refine KL a 1 46 ?_)|(refine KL a 0 9 ?_)|(refine KL a 1 9 ?_)|(refine KL a 0 60 ?_)|(refine KL a 1 60 ?_))|((with_reducible show yd);first|(refine KB a 62 2 ([aK y,U (l:Int),U (m:Int),ad n,ad o,ag pA v u,ad x]) ?_;clear a;intro A g C a)|(refine KB a 240 3 ([O (q:Int),U (t:Int),ad r,aK p]) ?_;clear a;intro B g D a))|(go_at_call 283;(with_reducible refine(j.U _ a.U.aq _ (a.U.get (i:=0) rfl)).mono ?_);rintro e E ⟨rfl,b⟩;have d:=a.U.below b;replace a:=Z d;clear d;clear b))
    go_ret
    exact⟨by simp,a.U.aq⟩
  |false=>
   have c:=f.U;simp only[gW,Af,kH,wM,Am,Ak,wN,Aj,Ai,Ah,↓reduceIte,reduceCtorEq,eG] at c;subst c;clear f
   go_enter Bb,Bj
   go_wp2_with(first|((with_reducible show ye);first|(refine KL a 0 46 ?_)|(refine KL a 1 46 ?_)|(refine KL a 0 9 ?_)|(refine KL a 1 9 ?_)|(refine KL a 0 60 ?_)|(refine KL a 1 60 ?_))|((with_reducible show yd);first|(refine KB a 62 2 ([aK y,U (l:Int),U (m:Int),ad n,ad o,ag pA v u,ad x]) ?_;clear a;intro A g C a)|(refine KB a 240 3 ([O (q:Int),U (t:Int),ad r,aK p]) ?_;clear a;intro B g D a))|(go_at_call 283;(with_reducible refine(j.U _ a.U.aq _ (a.U.get (i:=0) rfl)).mono ?_);rintro e E ⟨rfl,b⟩;have d:=a.U.below b;replace a:=Z d;clear d;clear b))
   go_ret
   exact⟨by simp,a.U.aq⟩
variable{I:List Y}{m:List Nat}{T:NA}{N:ND}
def ae.plus{j w wr:aa}{i:List Y}(h:ae j w m I)(h1:ae w wr [] i):ae j wr m (i++I):=by
 have e:=h.below h1.aq;refine⟨e.only,λ g o=> ?_,λ k f=> ?_,?_⟩
 ·rcases eB.1 o with c|c
  ·exact h1.ok g c
  ·exact e.ok g c
 ·rw[qF] at f;rcases eB.1 f with c|c
  ·rcases h1.own k c with d|d
   ·cases d
   ·right;have:=h.size;omega
  ·exact h.own k c
 ·rw[qF,lV];refine⟨h1.b,h.b,λ a l b n=> ?_⟩;have:=h.lt b n;rcases h1.own a l with d|d
  ·cases d
  ·omega
def Au(w:aa)(p:ST×Nat)(e:Ending)(a:aa):Prop:=
 ∃A c,e=ao (aM #[p.1.val (ag A p.1.f.length c),O (p.2:Int)])/\(counts p.2=true->qb w.heap.size a (ag A p.1.f.length c) p.1.f)/\BW w a
def Y.lift(A:Y){w a:aa}(h:A.P w)(b:BW w a):A.P a:=A.st w a (λ k c=>b.block k (A.lt w h k c)) h
def QD{w:aa}(t:cq w){x:NV}(h:(Y.bd T x N).P w)(d:N.Ok)(y:MG)(A:y.Ok)(a5:y.Small)(v:y.log=0)(u:mY N y){s C B:ab}(l:y.Rd w s C B):
 Calls prog 84 #[pV T.g,y.val s C B] w (Au w (ct N.c N.st y)):=by
 have a:=Z (ae.start w [])
 have e:=sS (yG h) (by have:=d.o;omega)
 have g:N.c.key.size<=800000:=by rw[d.c.key];decide
 have k:N.c.room<=1000000:=by have:=d.c.a;omega
 have o:=Z (λ b (c:BW w b)=>aat (t.below c) N.st (e.below c) d.o N.c.key g y.h N.c.room k)
 have j:(y.c=3/\A7 N.st N.c.key y.h)\/(y.c=4/\¬N.st.aR=⟨#[]⟩):=u.imp_left λ h=>⟨h.1,h.2.1⟩
 have n:=Z (λ b (c:BW w b)=>Ux N.st (e.below c) (by have:=d.o;omega) N.c.key y.b.enc)
 have q:=Z (λ b (c:BW w b)=>Ih y.b A.b s b (l.b.below c rfl))
 have f:=Z (aX (lA h) (aX (rm h) bg))
 obtain⟨pA,c6,z⟩:=e.form
 obtain⟨X,a0,rfl⟩:=l.b.form
 obtain⟨b2,b3,rfl⟩:=l.p.form
 obtain⟨a7,a8,rfl⟩:=l.m.jN
 obtain⟨c9,d0,c3,d1⟩:=x
 simp only at z
 subst z
 clear e g k l a5 A t h d u
 have g:ct N.c N.st y=if y.c=3 then N.st.take N.c.key y.h N.c.room else if y.c=8 then N.st.link y.m y.n y.e else if y.c=4 then N.st.lay N.c.key y.b.enc else(N.st,0):=rfl
 generalize ct N.c N.st y=D at*
 generalize y.b.e.length=bn at*
 generalize y.e.length=b4 at*
 generalize y.aP.length=a9 at*
 generalize y.b.enc=E at*
 generalize c2:N.st.f.length=c7 at*
 obtain⟨a6,c4,id,M,H,⟨a1,a2,a3,a4⟩,⟨⟨I,J,K,L⟩,⟨P,Q,R,S⟩,b5⟩,c8,c5⟩:=y
 simp only at v j o n q g
 have p:=Z j
 clear j
 subst v
 show Calls prog 84 #[pV T.g,aG #[O (a6:Int),O 0,U (id:Int),U (M:Int),U (H:Int),U (a1:Int),U (a2:Int),ad a3,ad a4,
  U (I:Int),U (J:Int),ad K,ad L,U (P:Int),U (Q:Int),ad R,ad S,ag X bn a0,ag b2 b4 b3,ag a7 a9 a8]] w (Au w D)
 go_enter func84,ntmps84
 go_upto_region 1 with(first|refine KA a _ 4 mR λ b7 j c0 a=>?_|refine KB a 81 3 _ λ b6 j b9 a=>?_)
 refine ma a f 9 [1] λ G a b=>?_
 refine VV [0,1,2,2003,4,2005,6] b ?_
 refine WR 7 11 b ?_
 clear b
 refine ay.mE (i:=8) V zD rfl ?_
 refine One.alloc a.U zR 133 6 rfl rfl _ mP ?_
 intro b8 j c1 d
 replace a:=Z d;clear d
 refine⟨tN a f [2],?_⟩
 try simp only[aS,av,ax]
 refine WT ?_
 rcases p.U with⟨k3,m⟩|⟨k4,m⟩
 ·subst k3
  have r:=Z m
  clear m p
  rw[au rfl] at g
  rw[<-g] at o
  have e1:((3:Nat):Int)=3:=rfl
  simp only[e1]
  clear n q g e1
  go_upto_region 4 with(first|refine Kl a ?_|refine KS a λ j a=>?_)
  refine ma a f 14 [0,2] λ G a b=>?_
  refine VV [0] b ?_
  refine WR 1 7 b ?_
  refine VV [2,2003,4] b ?_
  refine WR 5 4 b ?_
  refine VV [6,7,8,9,2010] b ?_
  clear b
  refine KV 11 (en 165) 30 ?_
  refine(o.U _ a.U.aq r.U).mono ?_
  rintro e F ⟨b0,b1,rfl,k,c⟩
  replace a:=Z (a.U.gT c k);clear c k
  refine⟨_,rfl,tN a f [1,3],?_⟩
  simp only[aS,av,ax]
  have b:=tN a f [1,3]
  refine VV [12,13] b ?_
  clear b
  refine WT ?_
  go_wp2_with(refine KS a λ j a=>?_)
  refine fb a.U 2 rfl 62 7 rfl rfl rfl zR rfl rfl ?_
  exact⟨_,_,rfl,λ _=>ru (a.U.get (i:=0) rfl) (a.U.nQ mZ),a.U.aq⟩
 ·subst k4
  have r:=Z m
  clear m p
  rw[ar zD,ar zD] at g
  rw[au rfl] at g
  rw[<-g] at n
  have e1:((4:Nat):Int)=4:=rfl
  simp only[e1]
  clear o g e1
  go_upto_region 8 with(first|refine Kl a ?_|refine KS a λ j a=>?_)
  refine ma a f 10 [0,2] λ G a b=>?_
  refine VV [0] b ?_
  refine WR 1 7 b ?_
  refine VV [2,2003,4] b ?_
  refine WR 5 9 b ?_
  refine KW a b 6 (en 168) (q.U _ a.U.aq) ?_;clear a b;intro F a b
  refine KV 7 (en 167) 55 ?_
  refine(n.U _ a.U.aq r.U).mono ?_
  rintro e F ⟨b0,b1,rfl,k,c⟩
  replace a:=Z (a.U.gT c k);clear c k
  refine⟨_,rfl,tN a f [1,3],?_⟩
  simp only[aS,av,ax]
  have b:=tN a f [1,3]
  refine VV [8,9] b ?_
  clear b
  refine WT ?_
  go_wp2_with(refine KS a λ j a=>?_)
  refine fb a.U 2 rfl 62 7 rfl rfl rfl zR rfl rfl ?_
  exact⟨_,_,rfl,λ _=>ru (a.U.get (i:=0) rfl) (a.U.nQ mZ),a.U.aq⟩
variable{d:DK}{J K:Y}
def VT{w wr:aa}{rest:List Y}{x:NV}{a:ab}(h:ae w wr m (Y.bd T x N::Y.dk T.a a d::rest)):
 ae w wr m (Y.jr T.f T.a x.a N.j::Y.dk T.a a d::Y.row T.g 139 (N.cells T)::Y.row T.b 133 (N.mL x)::Y.ho x.pv N.st.f::Y.rt T.c T.d T.e x.hv N.c.rc (mI N.g)::Y.mp T.rg (pN N.g)::rest):=
 (ta h).ft [6,4]
def VS{w wr:aa}{rest:List Y}{L P T M D:Y}(h:ae w wr m (J::D::K::L::P::T::M::rest)):ae w wr m (K::L::P::J::T::M::D::rest):=
 (h.ft [6,6,2,6,6,6])
def Uq{n:ND}{y:MG}(h:counts (ct n.c n.st y).2=false):n.dD y=(ct n.c n.st y).2/\n.cg y=n:=by
 unfold ND.dD ND.cg;rw[ar (by rw[h];decide),ar (by rw[h];decide)];exact⟨rfl,rfl⟩
def Ur{n:ND}{y:MG}(h:counts (ct n.c n.st y).2=true)(a:du n.j n.d y.enc=0):n.dD y=(ct n.c n.st y).2/\n.cg y={n with j:=km n.j n.d y.enc,d:=kn n.j n.d y.enc,st:=(ct n.c n.st y).1}:=by
 unfold ND.dD ND.cg;rw[au h,au h,au a,au a];exact⟨rfl,rfl⟩
def CX{u w:aa}{rest:List Y}{x:NV}{G:ab}(a0:TM m u)(h:ae u w m (Y.bd T x N::Y.dk T.a G N.d::rest))(f:N.Ok)(y:MG)(C:y.Ok)(F:y.Small)(B:y.log=0)(z:mY N y)(a1:y.b.a.size=y.b.b.size){I L J:ab}(l:y.Rd w I L J):
 Calls prog 219 #[pV T.g,y.val I L J] w λ r j=>r=ao (O (N.dD y:Int))/\∃b H,ae u j m (Y.bd T b (N.cg y)::Y.dk T.a H (N.cg y).d::rest):=by
 have a:=Z (ae.start w [])
 have S:=Z h
 have n:=a0.at h
 have p:(Y.bd T x N).P w:=h.get (i:=0) rfl
 have HD:=Z (λ d (b:BW w d)=>QD (n.below b) ((Y.bd T x N).lift p b) f y C F B z (l.below b))
 have Q:=Z (λ d (b:BW w d)=>De y C I L J d (n.below b).a (n.below b).bz (l.below b) a1)
 have R:=Z (λ(d:aa) (g:List Y) (e:ae u d m (Y.jr T.f T.a x.a N.j::Y.dk T.a G N.d::g))=>TW e f.d (by have:=f.dl;omega) (by have:=f.q;omega) y.enc (by have:=Vw C F;omega))
 have a5:=Z (aX (lA p) (aX (rm p) bg))
 have P:=Z (λ k d=>PU k d)
 have r:(ct N.c N.st y).2=(ct N.c N.st y).2:=rfl
 have t:= @Uq N y
 have o:counts (ct N.c N.st y).2=true->du N.j N.d y.enc=0:=λ h=>by
  rcases z with g|g
  ·exact g.2.2
  ·rw[show ct N.c N.st y=(N.st,9) by unfold ct ST.lay;rw[ar W,ar W,au g.1,ar g.2]] at h;cases h
 have k:= @Ur N y
 obtain⟨b5,b6,rfl⟩:=l.b.form
 obtain⟨d0,d1,rfl⟩:=l.p.form
 obtain⟨c7,c8,rfl⟩:=l.m.jN
 have q:∀d e j,Au d (ct N.c N.st y) e j->∃A c,e=ao (aM #[(ct N.c N.st y).1.val (.slice A (ct N.c N.st y).1.f.length c),O ((ct N.c N.st y).2:Int)])/\(counts (ct N.c N.st y).2=true->qb d.heap.size j (.slice A (ct N.c N.st y).1.f.length c) (ct N.c N.st y).1.f)/\BW d j:=λ d e j h=>h
 have v:=Z q
 clear n p a0 h f F l r q z a1
 generalize d:N.dD y=K at*
 generalize j:N.cg y=d3 at*
 clear d j
 generalize ct N.c N.st y=D at*
 generalize y.b.e.length=bn at*
 generalize y.e.length=d2 at*
 generalize y.aP.length=c9 at*
 generalize y.enc=E at*
 obtain⟨A,j⟩:∃A,km N.j N.d E=A:=⟨_,rfl⟩
 obtain⟨D2,d⟩:∃D2,kn N.j N.d E=D2:=⟨_,rfl⟩
 obtain⟨a4,n⟩:∃a4,du N.j N.d E=a4:=⟨_,rfl⟩
 rw[j,d,n] at R
 rw[n] at k o
 rw[j,d] at k
 clear j d n
 obtain⟨s,X⟩:=D
 simp only at HD v t o k
 obtain⟨⟨c6,d5,id,M,a6,⟨g,b9,c0,c1⟩,⟨⟨a7,a8,a9,b0⟩,⟨b1,b2,b3,b4⟩,d4⟩,d7,d6⟩,c5⟩:∃d,d=y:=⟨y,rfl⟩
 subst c5
 simp only at B HD Q
 subst B
 show Calls prog 219 #[pV T.g,aG #[O (c6:Int),O 0,U (id:Int),U (M:Int),U (a6:Int),U (g:Int),U (b9:Int),ad c0,ad c1,
  U (a7:Int),U (a8:Int),ad a9,ad b0,U (b1:Int),U (b2:Int),ad b3,ad b4,ag b5 bn b6,ag d0 d2 d1,ag c7 c9 c8]] w _
 cases j:counts X
 ·obtain⟨e1,e2⟩:=t j
  rw[e1,e2]
  clear t o k e1 e2
  go_enter func219,ntmps219
  go_wp2_with(first|refine KT a 20 ?_|refine KS a λ n a=>?_|refine KA a _ 5 mR λ b8 n c4 a=>?_|refine KB a 81 3 _ λ b7 n c3 a=>?_|go_at_call 84;(refine(HD.U _ a.U.aq).mono ?_);intro e r q;obtain⟨a2,a3,rfl,p,b⟩:=v.U _ _ _ q;clear q;have d:=Z p;clear p;replace a:=Z (a.U.below b);clear b|go_at_call 85;(refine(P.U _ _).mono ?_);rintro e r ⟨rfl,rfl⟩;rw[j])
  go_ret
  exact⟨rfl,x,G,S.U.below a.U.aq⟩
 focus
  have c2:=Z j
  obtain rfl:=o j
  obtain⟨e1,e2⟩:=k j rfl
  rw[e1,e2]
  clear t o k e1 e2
  go_enter func219,ntmps219
  go_upto_region 4 with(first|refine KT a 20 ?_|refine KS a λ n a=>?_|refine KA a _ 5 mR λ b8 n c4 a=>?_|refine KB a 81 3 _ λ b7 n c3 a=>?_|go_at_call 84;(refine(HD.U _ a.U.aq).mono ?_);intro e r q;obtain⟨a2,a3,rfl,p,b⟩:=v.U _ _ _ q;clear q;replace a:=Z (a.U.gT b (p c2.U));clear b p|go_at_call 85;(refine(P.U _ _).mono ?_);rintro e r ⟨rfl,rfl⟩;rw[j])
  refine ma a a5 6 [2] λ o a d=>?_
  refine VV [0,1,2,2003] d ?_
  refine WR 4 20 d ?_
  refine KW a d 5 (en 30) (Q.U _ a.U.aq) ?_;clear a d;intro r a d
  refine WT ?_
  go_upto_region 6 with((go_at_call 276;(refine(R.U _ _ (VT ((S.U.plus a.U).ft [4,4]))).mono ?_);rintro e r ⟨rfl,k,H,f⟩;replace a:=Z f;clear f))
  refine RG a 9 [2,9,7] λ o a d=>?_
  refine VV [0,1,2,2003,4,2005] d ?_
  refine WR 6 7 d ?_
  refine VV [7,8] d ?_
  clear d
  refine WT ?_
  go_wp2_with(refine KS a λ n a=>?_)
  go_ret
  have f:=a.U.fs [9,1000,7,1000,4,1000]
  have d:=f.ft [6,4,4,4]|>.az 4 rfl
  exact⟨rfl,⟨ag a2 s.f.length a3,k,x.hv,x.ys⟩,H,nP T _ _ (VS d)⟩
def fu(L:List SD):List ab:=(L.map λ p=>[Value.int .i64 p.1,ad p.2]).flatten
def zp(L M:List SD):fu (L++M)=fu L++fu M:=by simp[fu]
abbrev Y.so(v:ab)(L:List SD):Y:=Y.ow 272 2 v L.length (fu L)
def xP:cW 76 272 2 24:=cW.mk' underlying76 (z:= .agg #[O 0,.string ⟨#[]⟩]) V rfl zD
def oq:fw.Ok:=⟨by decide,by decide⟩
def zY:pT.Ok:=⟨⟨by decide,by decide⟩,⟨by decide,by decide⟩,by decide⟩
def tn{y:MG}(h1:y.id<18446744073709551616)(h2:y.m<18446744073709551616)(h3:y.n<18446744073709551616)(h4:y.h.Ok)(h5:y.b=pT)(h6:y.e=[])(a:y.aP=[]):y.Ok/\y.Small:=
 ⟨⟨h1,h2,h3,h4,by rw[h5];exact zY,(by grind),by grind⟩,⟨by rw[h5];decide,by grind,by grind⟩⟩
def RQ.Ok.parts{r:RQ}(h:r.Ok):r.m.Ok/\r.m.Small/\r.m.log=0/\r.m.e=[]/\r.m.aP=[]/\r.m.b=pT/\r.m.h=fw:=by
 have Z:r.id<18446744073709551616:=by have:=h.s;omega
 rcases h.m with e|⟨a,b,c,d,e⟩
 ·rw[e];obtain⟨p,q⟩:=tn (y:=ki r.id) Z (dS _) (dS _) oq rfl rfl rfl;exact⟨p,q,rfl,rfl,rfl,rfl,rfl⟩
 ·rw[e];obtain⟨p,q⟩:=tn (y:=uO r.id a b) Z c d oq rfl rfl rfl;exact⟨p,q,rfl,rfl,rfl,rfl,rfl⟩
def Dl(y:MG)(h1:y.e=[])(h2:y.aP=[])(h3:y.b.e=[])(w:aa):y.Rd w (ag none 0 0) (ag none 0 0) (ag none 0 0):=by
 refine⟨?_,?_,?_⟩
 ·rw[h3];exact⟨none,0,rfl,bf _,λ i a=>absurd a (ij i)⟩
 ·rw[h1];exact⟨none,0,rfl,bf _,λ i a=>absurd a (ij i)⟩
 ·rw[h2];exact bN.nil 4 w
def Cb(n:ND)(b a:Nat)(h:n.g=none):n.cz b a=n/\n.hJ b a=[]:=by
 unfold ND.cz ND.hJ;grind
def QL(n:ND)(a b:Nat){r:RQ}(h:n.g=some r)(h1:a<r.dZ):n.cz a b=n/\n.hJ a b=[]:=by
 unfold ND.cz ND.hJ;grind
def QK(n:ND)(a b:Nat){r:RQ}(h:n.g=some r)(h1:r.dZ<=a)(h2:n.c.rc.i<=r.k):n.cz a b={n with g:=none,l:=bo n.l 1}/\n.hJ a b=[(-2,(Me (bo n.l 1)).enc)]:=by
 unfold ND.cz ND.hJ;grind
def QJ(n:ND)(a b:Nat){r:RQ}(h:n.g=some r)(h1:r.dZ<=a)(h2:¬n.c.rc.i<=r.k):n.cz a b={n with g:=some {r with k:=r.k+1,dZ:=bo a (lL n.c.rc r.k b)}}/\n.hJ a b=[(-1,r.m.enc)]:=by
 unfold ND.cz ND.hJ;grind
def wP(d:aa)(m:List Nat)(rest:List Y)(a:NA)(p:ND×List SD)(e:Ending)(b:aa):Prop:=
 ∃A c f,e=ao (ag A p.2.length c)/\ae d b m (Y.so (ag A p.2.length c) p.2::Y.bd a f p.1::rest)
def QI{d w:aa}{rest:List Y}{x:NV}(h:ae d w m (Y.bd T x N::rest))(n j:Nat)
 (k:∀a,(Y.rt T.c T.d T.e x.hv N.c.rc (mI N.g)).P a->Calls prog 255 #[pV T.c,U (n:Int),U (j:Int)] a λ r b=>r=ao (aM #[ag none 0 0,ag none 0 0])/\∃c,bk (Y.rt T.c T.d T.e x.hv N.c.rc (mI N.g)) a b (Y.rt T.c T.d T.e c N.c.rc (mI N.g))):
 Calls prog 207 #[pV T.g,U (n:Int),U (j:Int)] w (wP d m rest T (N,[])):=by
 have a:=Z (ta h)
 have o:=Z k
 clear h k
 go_enter func207,ntmps207
 go_wp2_with(first|refine Kl a ?_|go_at_call 255;(refine(o.U _ (a.U.get (i:=4) rfl)).mono ?_);rintro e p ⟨rfl,c,l⟩;have b:=a.U.at 4 rfl l;simp only[av,ax] at b;replace a:=Z b;clear b;clear l)
 go_loopw [7,27] (λ g f wr=>g=ag none 0 0/\f=O 0/\ai (ae d wr m (Y.row T.g 139 (N.cells T)::Y.row T.b 133 (N.mL x)::Y.ho x.pv N.st.f::Y.jr T.f T.a x.a N.j::Y.rt T.c T.d T.e c N.c.rc (mI N.g)::Y.mp T.rg (pN N.g)::rest))) (λ _ _ _=>0)
 case atStart=>grind
 case round=>
  clear a
  obtain⟨rfl,rfl,a⟩:=hrel
  go_wp2
  go_loopw [7,52] (λ g f wr=>g=ag none 0 0/\f=O 0/\ai (ae d wr m (Y.row T.g 139 (N.cells T)::Y.row T.b 133 (N.mL x)::Y.ho x.pv N.st.f::Y.jr T.f T.a x.a N.j::Y.rt T.c T.d T.e c N.c.rc (mI N.g)::Y.mp T.rg (pN N.g)::rest))) (λ _ _ _=>0)
  case atStart=>grind
  case round=>
   clear a
   obtain⟨rfl,rfl,a⟩:=hrel
   go_wp2
   go_ret
   have b:=nP T ⟨x.pv,x.a,c,x.ys⟩ N a.U
   exact⟨none,0,_,rfl,b.eM (Y.so (ag none 0 0) []) (di _ _ _ _) rfl⟩
variable{h:HD}{E:JN}{i k n:Nat}{t:TypeId}
def w8(w:aa)(L:List MK)(e:Ending)(a:aa):Prop:=
 ∃A c,e=ao (ag A L.length c)/\a.ownsRow w.heap.size 240 4 (ag A L.length c) L.length (cR L)/\BW w a
def Vr{w:aa}{x:NV}{c:CF}{pd:List HD}{next:Nat}{o:Option RQ}{id:Nat}{b:af}(j:(Y.row T.g 139 (ND.cells (⟨c,⟨false,h,pd,b⟩,g,next,o,E,d,id,n,k,i⟩:ND) T)).P w)(h1:(Y.row T.b 133 (ND.mL (⟨c,⟨false,h,pd,b⟩,g,next,o,E,d,id,n,k,i⟩:ND) x)).P w)(r:∃A a c,x.pv=ag A a c)(l:b=⟨#[]⟩):
 Calls prog 210 #[pV T.g] w (w8 w []):=by
 have a:=Z ((ae.start w []).eM (Y.ow 240 4 (ag none 0 0) 0 (cR [])) (di _ _ _ _) rfl)
 have f:=Z (aX j (aX h1 bg))
 have q:=mJ b
 have p:=ir b
 rw[aT l] at q p
 obtain⟨pA,y,v,m⟩:=r
 obtain⟨z,A,u,B⟩:=x
 simp only at m
 subst m
 clear j h1 l
 go_enter Ba,Bi
 go_wp2_with(refine KH (a.U.bT f.U) ?_)
 go_loopw [3,11] (λ s e wr=>s=ag none 0 0/\(e=O 0\/e=O 1)/\ai (ae w wr [] [Y.ow 240 4 (ag none 0 0) 0 (cR [])])) (λ _ e _=>1-(intOf e).toNat)
 case atStart=>exact⟨rfl,.inl rfl,a⟩
 case round=>
  clear a
  obtain⟨rfl,rfl|rfl,a⟩:=hrel
  ·go_wp2_with(first|refine KI (a.U.bT f.U) 11 ?_|refine Kl a ?_|refine KS a λ e a=>?_|refine KA a _ 5 mP λ s e t a=>?_)
   exact⟨⟨rfl,.inr rfl,Z a.U.tail⟩,by decide⟩
  ·go_wp2
   go_ret
   exact⟨none,0,rfl,di _ _ _ _,a.U.aq⟩
def ti{w wr:aa}(h:ae w wr [] I){size:Nat}{v:ab}{b:List ab}(a:I[0]?=some (Y.ow t size v n b)):wr.ownsRow w.heap.size t size v n b:=by
 match I,a with
 |_::_,a=>
  have c:_=Y.ow t size v n b:=hD a;subst c;exact ru (h.get (i:=0) rfl) (h.nQ mZ)
def Vs{w:aa}{x:NV}{c:CF}{s:Bool}{pd:List HD}{next:Nat}{F:Option RQ}{id:Nat}{m:af}(t:(Y.row T.g 139 (ND.cells (⟨c,⟨s,h,pd,m⟩,g,next,F,E,d,id,n,k,i⟩:ND) T)).P w)(h1:(Y.row T.b 133 (ND.mL (⟨c,⟨s,h,pd,m⟩,g,next,F,E,d,id,n,k,i⟩:ND) x)).P w)(I:∃A a c,x.pv=ag A a c)(u:s=true\/¬m=⟨#[]⟩):
 Calls prog 210 #[pV T.g] w (w8 w [⟨0,h.size,h.aE,decide (¬m=⟨#[]⟩)⟩]):=by
 have a:=Z ((ae.start w []).eM (Y.ow 240 4 (ag none 0 0) 0 (cR [])) (di _ _ _ _) rfl)
 have p:=Z (aX t (aX h1 bg))
 have H:=mJ m
 have G:=ir m
 have v:decide (¬m=⟨#[]⟩)=!decide (m=⟨#[]⟩):=by simp
 rw[v]
 obtain⟨pA,L,K,D⟩:=I
 obtain⟨M,N,J,P⟩:=x
 simp only at D
 subst D
 cases s with
 |true=>
  generalize decide (m=⟨#[]⟩)=A at*
  clear t h1 u v
  cases A with
  |true=>
   go_enter Ba,Bi
   go_wp2_with(refine KH (a.U.bT p.U) ?_)
   go_loopw [3,11] (λ o j wr=>(o=ag none 0 0/\j=O 0/\ai (ae w wr [] [Y.ow 240 4 (ag none 0 0) 0 (cR [])]))\/(∃f e:Nat,o=ag (some ⟨f,0,none⟩) 1 e/\j=O 1/\ai (ae w wr [] [Y.ow 240 4 (ag (some ⟨f,0,none⟩) 1 e) 1 (cR [⟨0,h.size,h.aE,false⟩])]))) (λ _ j _=>1-(intOf j).toNat)
   case atStart=>exact .inl ⟨rfl,rfl,a⟩
   case round=>
    clear a
    obtain⟨rfl,rfl,a⟩|⟨f,e,rfl,rfl,a⟩:=hrel
    ·go_wp2_with(first|refine KI (a.U.bT p.U) 11 ?_|refine Kl a ?_|refine KS a λ l a=>?_|refine KA a _ 5 mP λ z l C a=>?_|(with_reducible show cn);(refine Mk a.U rfl 40 rfl (some 1) 240 [_,_,_,_] (by go_simp;(exact⟨rfl,rfl⟩)) ?_;intro y l B b;replace a:=Z b;clear b;simp only[bc])|refine Ap a.U rfl vd rfl 2 rfl rfl 0 rfl rfl rfl rfl zD zD λ r q l b=>?_;simp only[av,ax] at b;replace a:=Z b;clear b)
     exact⟨.inr ⟨r,q,rfl,rfl,Z ((a.U.ft [2,1000,1000])|>λ _=>(a.U.tail.ft [1,1000])|>λ _=>(a.U.ft [2,2]|>.tail|>λ _=>by exact a.U.tail.tail))⟩,by decide⟩
    ·go_wp2
     go_ret
     exact⟨some ⟨f,0,none⟩,e,rfl,ti a.U rfl,a.U.aq⟩
  |false=>
   go_enter Ba,Bi
   go_wp2_with(refine KH (a.U.bT p.U) ?_)
   go_loopw [3,11] (λ o j wr=>(o=ag none 0 0/\j=O 0/\ai (ae w wr [] [Y.ow 240 4 (ag none 0 0) 0 (cR [])]))\/(∃f e:Nat,o=ag (some ⟨f,0,none⟩) 1 e/\j=O 1/\ai (ae w wr [] [Y.ow 240 4 (ag (some ⟨f,0,none⟩) 1 e) 1 (cR [⟨0,h.size,h.aE,true⟩])]))) (λ _ j _=>1-(intOf j).toNat)
   case atStart=>exact .inl ⟨rfl,rfl,a⟩
   case round=>
    clear a
    obtain⟨rfl,rfl,a⟩|⟨f,e,rfl,rfl,a⟩:=hrel
    ·go_wp2_with(first|refine KI (a.U.bT p.U) 11 ?_|refine Kl a ?_|refine KS a λ l a=>?_|refine KA a _ 5 mP λ z l C a=>?_|(with_reducible show cn);(refine Mk a.U rfl 40 rfl (some 1) 240 [_,_,_,_] (by go_simp;(exact⟨rfl,rfl⟩)) ?_;intro y l B b;replace a:=Z b;clear b;simp only[bc])|refine Ap a.U rfl vd rfl 2 rfl rfl 0 rfl rfl rfl rfl zD zD λ r q l b=>?_;simp only[av,ax] at b;replace a:=Z b;clear b)
     exact⟨.inr ⟨r,q,rfl,rfl,Z ((a.U.ft [2,1000,1000])|>λ _=>(a.U.tail.ft [1,1000])|>λ _=>(a.U.ft [2,2]|>.tail|>λ _=>by exact a.U.tail.tail))⟩,by decide⟩
    ·go_wp2
     go_ret
     exact⟨some ⟨f,0,none⟩,e,rfl,ti a.U rfl,a.U.aq⟩
 |false=>
  have A:¬m=⟨#[]⟩:=u.resolve_left zD
  rw[bm A] at H G⊢
  clear t h1 u v A
  go_enter Ba,Bi
  go_wp2_with(refine KH (a.U.bT p.U) ?_)
  go_loopw [3,11] (λ o j wr=>(o=ag none 0 0/\j=O 0/\ai (ae w wr [] [Y.ow 240 4 (ag none 0 0) 0 (cR [])]))\/(∃f e:Nat,o=ag (some ⟨f,0,none⟩) 1 e/\j=O 1/\ai (ae w wr [] [Y.ow 240 4 (ag (some ⟨f,0,none⟩) 1 e) 1 (cR [⟨0,h.size,h.aE,true⟩])]))) (λ _ j _=>1-(intOf j).toNat)
  case atStart=>exact .inl ⟨rfl,rfl,a⟩
  case round=>
   clear a
   obtain⟨rfl,rfl,a⟩|⟨f,e,rfl,rfl,a⟩:=hrel
   ·go_wp2_with(first|refine KI (a.U.bT p.U) 11 ?_|refine Kl a ?_|refine KS a λ l a=>?_|refine KA a _ 5 mP λ z l C a=>?_|(with_reducible show cn);(refine Mk a.U rfl 40 rfl (some 1) 240 [_,_,_,_] (by go_simp;(exact⟨rfl,rfl⟩)) ?_;intro y l B b;replace a:=Z b;clear b;simp only[bc])|refine Ap a.U rfl vd rfl 2 rfl rfl 0 rfl rfl rfl rfl zD zD λ r q l b=>?_;simp only[av,ax] at b;replace a:=Z b;clear b)
    exact⟨.inr ⟨r,q,rfl,rfl,Z ((a.U.ft [2,1000,1000])|>λ _=>(a.U.tail.ft [1,1000])|>λ _=>(a.U.ft [2,2]|>.tail|>λ _=>by exact a.U.tail.tail))⟩,by decide⟩
   ·go_wp2
    go_ret
    exact⟨some ⟨f,0,none⟩,e,rfl,ti a.U rfl,a.U.aq⟩
def JP{w:aa}{x:NV}(h:(Y.bd T x N).P w)(m:N.st.f.length<=1000):Calls prog 210 #[pV T.g] w (w8 w N.aP):=by
 have a:=sS (yG h) W;obtain⟨A,l,b⟩:=a.form;have f:=lA h;have g:=rm h;have i:∃A N c,x.pv=ag A N c:=⟨A,_,l,b⟩;unfold ND.aP;clear h a m b;obtain⟨c,⟨k,o,pd,e⟩,r,next,q,j,d,id,p,s,t⟩:=N;dsimp only;split
 ·rename_i b;exact Vs f g i b
 ·rename_i b;have n:k=false:=by cases k with|true=>exact absurd (.inl rfl) b|false=>rfl
  subst n;have a:e=⟨#[]⟩:=by
   by_cases a:e=⟨#[]⟩
   ·exact a
   ·exact absurd (.inr a) b
  exact Vr f g i a
def Xp(b:BD){w:aa}{a:ab}(h:bq w a b.e):(yU b).Rd w a (ag none 0 0) (ag none 0 0):=
 ⟨h,⟨none,0,rfl,bf _,λ i c=>absurd c (ij i)⟩,bN.nil 4 w⟩
def adA{s:af}(h:gd s= .error k)(w:aa):Calls prog 25 #[ad s] w λ e a=>e=ao (aM #[pT.val (ag none 0 0),O (k:Int)])/\k≠0/\BW w a:=
 (RV s w).mono λ e a a=>by unfold tR at a;rw[h] at a;exact⟨a.1.1,a.1.2,a.2⟩
def JQ{w:aa}{x:NV}(h:(Y.bd T x N).P w):Calls prog 215 #[pV T.g,O 0] w λ r d=>∃j,r=ao (N.proof.val j (ag none 0 0) (ag none 0 0))/\N.proof.Rd d j (ag none 0 0) (ag none 0 0)/\BW w d:=by
 have a:=Z (ae.start w []);have p:=Z (aX (lA h) (aX (rm h) bg));have HD:ai (∀c,Calls prog 25 #[ad N.st.aR] c λ r d=>∃pA g e,r=ao (aM #[(dU N.st.aR).val (.slice pA (dU N.st.aR).e.length g),O e])/\bq d (.slice pA (dU N.st.aR).e.length g) (dU N.st.aR).e/\(∀k∈(Y.sr (.slice pA (dU N.st.aR).e.length g) (dU N.st.aR).e).bs,c.heap.size<=k)/\BW c d):=Z (λ c=>by
  unfold dU;cases m:gd N.st.aR with|error k=>
   refine(adA m c).mono ?_;rintro e d ⟨rfl,-,f⟩;exact⟨none,0,_,rfl,⟨none,0,rfl,bf _,λ i l=>absurd l (ij i)⟩,(λ k n=>by simp[Y.sr,Value.ownBlock] at n),f⟩|ok b=>
   refine(B3 m c).mono ?_;rintro e d ⟨j,rfl,o,s,f⟩;obtain⟨A,r,rfl⟩:=o.form;exact⟨A,r,0,rfl,o,s,f⟩)
 have l:N.proof=yU (dU N.st.aR):=rfl;have n:=λ(c:aa) (v:ab) (t:bq c v (dU N.st.aR).e)=>Xp (dU N.st.aR) t;rw[l];have q:=Z n;clear h l n;generalize dU N.st.aR=B at*;generalize B.e.length=bn at*
 go_enter func215,ntmps215
 go_wp2_with(first|refine KH (a.U.bT p.U) ?_|refine KT a 9 ?_|refine KS a λ n a=>?_|refine KA a _ 4 kF λ u n y a=>?_|refine KA a _ 5 iN λ v n z a=>?_|go_at_call 25;(refine(HD.U _).mono ?_);rintro e C ⟨pA,g,t,rfl,l,c,f⟩;replace a:=Z (a.U.join f (Y.sr (ag pA bn g) B.e) l c);clear f l c)
 simp only[yW];refine ha a.U 2 rfl 81 20 rfl rfl V rfl rfl ?_;exact⟨_,rfl,q.U _ _ (a.U.get (i:=1) rfl),a.U.aq⟩
variable{S:ST}
def GJ{n:ND}{a:Nat}(b:Nat)(h:n.mi a=none):n.eS a b=n/\n.kh a=[]:=by
 unfold ND.eS ND.kh;rw[h];exact⟨rfl,rfl⟩
def GK{n:ND}{a:Nat}(b:Nat){y:MG}(h:n.mi a=some y):n.eS a b={n with next:=if y.c=5 then bo a n.c.every else n.next,g:=some ⟨n.id,y,1,bo a (lL n.c.rc 0 b)⟩,id:=n.id+1}/\n.kh a=[(-1,y.enc)]:=by
 unfold ND.eS ND.kh;rw[h];exact⟨rfl,rfl⟩
def Ou{n:ND}{a:Nat}(h:n.g.isSome=true\/¬n.st.aR=⟨#[]⟩):n.mi a=none:=by unfold ND.mi;rw[au h]
def Ov{n:ND}{a:Nat}(h1:n.g=none)(h2:n.st.aR=⟨#[]⟩)(h:n.st.iE=none)(h3:n.next<=a):n.mi a=some (ki n.id):=by
 unfold ND.mi;rw[ar (by rw[h1,h2];simp),h];dsimp only;rw[au h3]
def VZ(a:S.az.Ok)(c:∀h∈S.f,h.Ok){p:Nat×Nat}(h:S.iE=some p):p.1<18446744073709551616/\p.2<18446744073709551616:=by
 unfold ST.iE at h;split at h
 ·split at h
  ·cases h
  ·rename_i y l b;cases h
   have d:=(c y (by rw[b];simp)).size;have e:=a.size;constructor
   ·show min _ _<_;omega
   ·show max _ _<_;omega
 ·cases h
def ZH{w wr:aa}{rest:List Y}{G L P T M:Y}(h:ae w wr m (K::G::L::P::J::T::M::rest)):ae w wr m (G::L::P::J::T::M::K::rest):=
 h.ft [6,6,6,6,6,6]
def Ox{s w:aa}{rest:List Y}{x:NV}(H:TM m s)(h:ae s w m (Y.bd T x N::rest))(b:N.Ok)(f o:Nat)(K:f<18446744073709551616)(a1:o<18446744073709551616)(a4:sf N f):
 Calls prog 208 #[pV T.g,O 0,U (f:Int),U (o:Int)] w (wP s m rest T (N.eS f o,N.kh f)):=by
 have n:N.st.f.length<=1000000:=by have:=b.o;omega
 obtain⟨j,k,-,q⟩:=a4
 have d:N.st.iE=none:=by unfold ST.iE;rw[ig k];split<;>rfl
 have G:ai (∀e,(Y.ho x.pv N.st.f).P e->CB 256 #[N.st.val x.pv] e (aM #[U 0,U 0,aK false])):=Z (λ e g=>by have:=VY N.st (sS g n);rw[d] at this;exact this)
 have a:=Z (ta h)
 have X:=Z H
 have b0:=b.s
 have a8:=b.c.d
 have a3:=b.c.rc
 have u:= @Ou N f
 have L:=Gb.1 j
 have z:=λ l=> @Ov N f L l d
 have A:= @GJ N f o
 have B:= @GK N f o
 clear j k
 have J:=mJ N.st.aR
 have I:=ir N.st.aR
 clear h b H n d
 obtain⟨c,k,r,next,b3,j,d,id,C,D,F⟩:=N
 simp only at*
 subst L
 have n:ai (ae s w m (Y.row T.g 139 (ND.cells (⟨c,k,r,next,none,j,d,id,C,D,F⟩:ND) T)::Y.row T.b 133 (ad c.key::Value.bool k.bz::Value.int .u64 (k.az.size:Int)::Value.int .u64 (k.az.time:Int)::ad k.az.aE::ad k.az.a::x.pv::ad k.aR::Value.int .u64 (r:Int)::Value.int .u64 (next:Int)::Value.int .i64 0::x.ys)::Y.ho x.pv k.f::Y.jr T.f T.a x.a j::Y.rt T.c T.d T.e x.hv c.rc none::Y.mp T.rg []::rest)):=Z a.U
 clear a
 have a:=n
 clear n
 have b1:IntKind.wrap .u64 (id:Int)=(id:Int):=by rw[tV]<;>omega
 by_cases n:k.aR=⟨#[]⟩
 ·rw[aT n] at J I
  have Q:=Z (λ e (g:(Y.rt T.c T.d T.e x.hv c.rc none).P e)=>XM g a3 id f o K a1)
  have b2:IntKind.wrap .i64 ((id:Int)+1)=((id+1:Nat):Int):=by rw[hh]<;>omega
  generalize t:bo f (lL c.rc 0 o)=dZ at*
  obtain⟨e1,e2⟩:=B (z n (q n))
  rw[e1,e2]
  have g:=(tn (y:=ki id) (by show id<_;omega) (dS _) (dS _) oq rfl rfl rfl).1
  have S:=Z (λ e (E:cq e) p=>tD E p (ki id) g (Dl _ rfl rfl rfl e) rfl)
  have R:=Z (λ e=>tC f c.every K W e)
  have e:(if(ki id).c=5 then bo f c.every else next)=bo f c.every:=rfl
  rw[e]
  generalize bo f c.every=a5 at*
  generalize(ki id).enc=E at*
  have d1:decide ((next:Int)<=(f:Int))=true:=aT (by have:=q n;omega)
  have d2:decide (next<=f)=true:=aT (q n)
  clear u z A B e1 e2 n q g e t
  go_enter func208,ntmps208
  go_upto_region 11 with(first|refine Kl a ?_|refine KT a 7 ?_|refine KS a λ p a=>?_|refine KA a _ 10 kF λ a0 p a2 a=>?_|go_at_call 256;(refine(G.U _ (a.U.get (i:=3) rfl)).mono ?_);rintro e t ⟨rfl,l⟩;replace a:=Z (a.U.below l);clear l|go_at_call 139;(refine(R.U _).mono ?_);rintro e t ⟨rfl,rfl⟩)
  refine RG a 10 [1] λ a6 a g=>?_
  refine VV [0,1,2,2003,4,5,6,2007,8,9] g ?_
  clear g
  refine WT ?_
  go_upto_region 13 with((go_at_call 257;(refine(Q.U _ (a.U.get (i:=5) rfl)).mono ?_);rintro e t ⟨rfl,P,M⟩;have b:=a.U.at 5 rfl M;simp only[av,ax] at b;replace a:=Z b;clear b;clear M))
  refine RG a 19 [1,0] λ a6 a g=>?_
  refine VV [0,1,2,2003,4,5,6,2007,8] g ?_
  refine WR 9 20 g ?_
  refine VV [10,11,12,2013] g ?_
  clear g
  refine ay.mE (i:=14) V zD rfl ?_
  refine One.me a.U V 100 rfl 6 rfl C8 rfl rfl rfl ?_
  intro a7 p b
  simp only[av,ax] at b
  replace a:=Z b;clear b
  refine⟨bI a [1,0],?_⟩
  try simp only[aS,av,ax]
  have g:=bI a [1,0]
  refine VV [15] g ?_
  clear g
  refine ay.mE (i:=16) V zD rfl ?_
  refine One.ms a.U V rfl 6 rfl rfl rfl rfl (v:=MG.val (ki id) (ag none 0 0) (ag none 0 0) (ag none 0 0)) rfl ?_
  intro p b
  simp only[av,ax] at b
  replace a:=Z b;clear b
  refine⟨bI a [1,0],?_⟩
  try simp only[aS,av,ax]
  have g:=bI a [1,0]
  refine VV [17,18] g ?_
  clear g
  refine WT ?_
  go_wp2_with(first|refine Kl a ?_|refine KT a 20 ?_|refine KS a λ p a=>?_|(with_reducible show cn);(refine Mk a.U rfl 115 rfl (some 1) 272 [_,_] (by go_simp;(exact⟨rfl,rfl⟩)) ?_;intro g p a9 b;replace a:=Z b;clear b;simp only[bc])|go_at_call 209;(refine(S.U _ (X.U.at a.U) _).mono ?_);rintro e t ⟨rfl,l⟩;replace a:=Z (a.U.below l);clear l)
  go_ret
  have b:=ZH ((v8 a.U 0 rfl 1 1 2 zD zD rfl (fu [(-1,E)]) rfl).ft [1,1000])
  exact⟨_,_,⟨x.pv,x.a,P,x.ys⟩,rfl,(nP T ⟨x.pv,x.a,P,x.ys⟩ (⟨c,k,r,a5,some ⟨id,ki id,1,dZ⟩,j,d,id+1,C,D,F⟩:ND) b).ft [1]⟩
 ·obtain⟨e1,e2⟩:=A (u (.inr n))
  rw[e1,e2]
  rw[bm n] at J I
  clear u z A B e1 e2 q n
  go_enter func208,ntmps208
  go_wp2_with(first|refine Kl a ?_|refine KT a 7 ?_|refine KS a λ p a=>?_|refine KA a _ 10 kF λ a0 p a2 a=>?_|go_at_call 256;(refine(G.U _ (a.U.get (i:=3) rfl)).mono ?_);rintro e t ⟨rfl,l⟩;replace a:=Z (a.U.below l);clear l)
  go_ret
  exact⟨none,0,x,rfl,((nP T x (⟨c,k,r,next,none,j,d,id,C,D,F⟩:ND) a.U.tail).eM (Y.so (ag none 0 0) []) (di _ _ _ _) rfl)⟩
