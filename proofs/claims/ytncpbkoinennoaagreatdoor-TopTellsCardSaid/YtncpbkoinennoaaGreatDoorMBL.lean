import Derived.Test.YtncpbkoinennoaaGreatDoorMBJ
set_option linter.all false
set_option maxRecDepth 100000
set_option maxHeartbeats 0
namespace Go.Proofs.YtncpbkoinennoaaGreatDoor
open Go.RowKit Proofs.Tryz
attribute [local irreducible] wpList Calls
variable{m:List Nat}{M:ME}{g:Nat}
def UL{u w:aa}{K:Nat}(c6:TM m u)(h:aZ u w m g M)(L:M.aI K)(x:AC)(hx:x.right=true):
 Calls prog 69 #[pV g,x.val] w (hI u m g (if M.aT x.a=true then M.bR x.a.toNat x.n else M)):=by
 have e5:x.n<=4294967296:=by
  unfold AC.right at hx
  simp only[cQ,dx] at hx
  omega
 obtain⟨d1,p,q,rfl,e1,c9,e4⟩:=h
 obtain⟨k,c,l,j,n⟩:=M
 simp only at c9
 subst c9
 have b0:=L.pl p zS
 have b1:=L.pl q zS
 have e2:=L.b
 have d0:=L.p1
 have e3:=L.now
 simp only at b0 b1 e2 d0 e3
 obtain⟨g,E,D,G,F,⟨y,a0,pd,S⟩,⟨z,a1,a7,T⟩,a2⟩:=d1
 have a3:ai (2<=D):=Z e1
 have b:ai (af u w m [Y.row g 126 (ME.cells ⟨k,c,[p,q],j,n⟩ G (ad (some ⟨E,0,none⟩) 2 D) F),Y.ow 210 3 F j.length (bB j),Y.row E 129 (jI ⟨y,a0,pd,S⟩ ⟨z,a1,a7,T⟩ a2),Y.aQ y a0 p.n,Y.dk y.a pd p.n.d,Y.vw S p.a,Y.aQ z a1 q.n,Y.dk z.a a7 q.n.d,Y.vw T q.a]):=Z e4
 have b7:=L.c
 have c8:=L.key
 simp only at b7 c8
 obtain⟨e7,C,e6,f,e8⟩:=x
 simp only at e5
 have X:=Z (λ(B:aa) (a:(Y.row g 126 (ME.cells ⟨k,c,[p,q],j,n⟩ G (ad (some ⟨E,0,none⟩) 2 D) F)).P B)=>su (m:=⟨k,c,[p,q],j,n⟩) a C)
 have c4:=Z (λ(B:aa) (a:(Y.row g 126 (ME.cells ⟨k,c,[p,q],j,n⟩ G (ad (some ⟨E,0,none⟩) 2 D) F)).P B)=>FN (m:=⟨k,c,[p,q],j,n⟩) a d0 c8)
 have f0:IntKind.wrap .i64 (f:Int)=(f:Int):=by rw[fS]<;>omega
 show Calls prog 69 #[pV g,aG #[O e7,O C,O e6,U (f:Int),ae e8]] w (hI u m g (if ME.aT ⟨k,c,[p,q],j,n⟩ C=true then ME.bR ⟨k,c,[p,q],j,n⟩ C.toNat f else⟨k,c,[p,q],j,n⟩))
 by_cases d4:C=0
 ·subst d4
  rw[ax (show ME.aT ⟨k,c,[p,q],j,n⟩ 0=true from rfl)]
  have a5:(decide (0<=(0:Int))&&decide ((0:Int)<2))=true:=rfl
  rw[a5] at X
  have b4:=Z (λ(B:aa) (Q:ab) (hd:(Y.dk y.a Q p.n.d).P B)=>Bb hd b0.n.e (f:Int) W W)
  have a4:=wB b0.n.e (f:Int)
  have b8:(eA (p.n.d.bR (f:Int))).l.length<=100000:=by
   have d6:=sq (p.n.d.bR (f:Int))
   have d7:=a4.fit
   have d8:(p.n.d.bR (f:Int)).room=100000:=(wA _ _).trans b0.n.d
   omega
  have b3:=Z (λ(B:aa) (a8:Nat) (Q:ab) (s:List Y) (c0:af u B m (Y.dk y.a Q (p.n.d.bR (f:Int))::Y.row a8 9 [ae c.key]::s))=>tF c6 (.head _) c0 b7 a4.ok b8)
  have b6:∀R,gq c (p.n.d.bR (f:Int))=some R->ME.bR ⟨k,c,[p,q],j,n⟩ (0:Int).toNat f=⟨k,c,[⟨R,p.a⟩,q],j,n⟩:=λ R N=>(FR ⟨k,c,[p,q],j,n⟩ 0 (p:=p) rfl f N).trans (nT ..)
  have b5:gq c (p.n.d.bR (f:Int))=none->ME.bR ⟨k,c,[p,q],j,n⟩ (0:Int).toNat f=⟨k,c,[⟨{p.n with d:=fG (p.n.d.bR (f:Int))},p.a⟩,q],j,n⟩:=λ N=>(FQ ⟨k,c,[p,q],j,n⟩ 0 (p:=p) rfl f N).trans (nT ..)
  generalize ME.bR ⟨k,c,[p,q],j,n⟩ (0:Int).toNat f=e9 at*
  generalize p.n.d.bR (f:Int)=d2 at*
  generalize e0:gq c d2=c2 at*
  generalize fG d2=d3 at*
  cases c2
  focus
   have I:ai (∀s e t,od u m s y.a none d3 e t->e=ao (aJ #[.pointer none,O 3])/\∃P,af u t m (Y.dk y.a P d3::s)):=Z (λ s e t h=>h.2 rfl)
   rw[b5 rfl]
  rotate_left
  focus
   rename_i A
   have I:ai (∀s e t,od u m s y.a (some A) d3 e t->∃a x P,e=ao (aJ #[pV a.g,O 0])/\a.a=y.a/\af u t m (Y.aQ a x A::Y.dk y.a P A.d::s)):=Z (λ s e t h=>h.1 A rfl)
   rw[b6 A rfl]
  rotate_left
  all_goals
   go_enter func69,ntmps69
   go_upto_region 3 with(first|refine Kl b ?_|refine KB b 55 3 _ λ c5 b2 c7 b=>?_|go_at_call 72;refine KC b (X.U _ (b.U.get (i:=1) rfl)) λ H b=>?_)
   refine RG b 7 [1,0] λ a9 b r=>?_
   refine VV [0,1,2,2003,4,2005,6] r ?_
   refine WT ?_
   go_upto_region 4 with fail
   refine RG b 7 [3,0] λ a9 b r=>?_
   refine VV [0,1,2,2003,4,2005] r ?_
   refine W2 6 26 (v:=O (f:Int)) rfl rfl (Or.inl ⟨by kernel_rfl,λ B d9=>by(go_simp;done)⟩) r ?_
   refine WT ?_
   go_upto_region 5 with((go_at_call 31;refine KP b (b4.U _ _ (b.U.get (i:=5) rfl)) λ H b=>?_))
   refine RG b 11 [3] λ a9 b r=>?_
   refine VV [0,2,3,4,2005] r ?_
   refine KV 1 (en 64) 30 ?_
   refine(c4.U _ (b.U.get (i:=1) rfl)).mono ?_
   rintro e H ⟨a8,rfl,c1⟩
   have o:=b.U.plus c1
   simp only[gD,fV] at o
   replace b:=Z o
   refine⟨_,rfl,bo b [4],?_⟩
   simp only[aH,au,ay]
   refine KV 6 (en 28) 35 ?_
   refine(b3.U _ _ _ _ (b.U.ft [10,10,10,10,9,9,9,9,9,9,10])).mono ?_
   intro e H a6
  ·obtain⟨rfl,J,o⟩:=I.U _ _ _ a6
   replace b:=Z o
   refine⟨_,rfl,bo b [5],?_⟩
   simp only[aH,au,ay]
   have r:=bo b [5]
   refine VV [7,8,9,10] r ?_
   refine WT ?_
   go_wp2_with(fail)
   go_ret
   have o:=b.U.fs [1,1000,1,1000,8,8,8,8,4,8,8,8,8]
   exact⟨_,rfl,aZ.mk ⟨g,E,D,G,F,⟨y,a0,J,S⟩,⟨z,a1,a7,T⟩,a2⟩ ⟨{p.n with d:=d3},p.a⟩ q a3.U rfl o⟩
  ·obtain⟨an,c3,J,rfl,b9,o⟩:=I.U _ _ _ a6
   replace b:=Z o
   refine⟨_,rfl,bo b [6],?_⟩
   simp only[aH,au,ay]
   have r:=bo b [6]
   refine VV [7,8,9,10] r ?_
   refine WT ?_
   go_wp2_with(refine KS b λ b2 b=>?_)
   go_ret
   have o:=b.U.fs [2,1000,2,1000,5,1000,8,8,8,8,5,5,8,8,8]
   rw[<-b9] at o
   exact⟨_,rfl,aZ.mk ⟨g,E,D,G,F,⟨an,c3,J,S⟩,⟨z,a1,a7,T⟩,a2⟩ ⟨A,p.a⟩ q a3.U rfl o⟩
 ·by_cases d5:C=1
  focus
   subst d5
   rw[ax (show ME.aT ⟨k,c,[p,q],j,n⟩ 1=true from rfl)]
   have a5:(decide (0<=(1:Int))&&decide ((1:Int)<2))=true:=rfl
   rw[a5] at X
   have b4:=Z (λ(B:aa) (Q:ab) (hd:(Y.dk z.a Q q.n.d).P B)=>Bb hd b1.n.e (f:Int) W W)
   have a4:=wB b1.n.e (f:Int)
   have b8:(eA (q.n.d.bR (f:Int))).l.length<=100000:=by
    have d6:=sq (q.n.d.bR (f:Int))
    have d7:=a4.fit
    have d8:(q.n.d.bR (f:Int)).room=100000:=(wA _ _).trans b1.n.d
    omega
   have b3:=Z (λ(B:aa) (a8:Nat) (Q:ab) (s:List Y) (c0:af u B m (Y.dk z.a Q (q.n.d.bR (f:Int))::Y.row a8 9 [ae c.key]::s))=>tF c6 (.head _) c0 b7 a4.ok b8)
   have b6:∀R,gq c (q.n.d.bR (f:Int))=some R->ME.bR ⟨k,c,[p,q],j,n⟩ (1:Int).toNat f=⟨k,c,[p,⟨R,q.a⟩],j,n⟩:=λ R N=>(FR ⟨k,c,[p,q],j,n⟩ 1 (p:=q) rfl f N).trans (nU ..)
   have b5:gq c (q.n.d.bR (f:Int))=none->ME.bR ⟨k,c,[p,q],j,n⟩ (1:Int).toNat f=⟨k,c,[p,⟨{q.n with d:=fG (q.n.d.bR (f:Int))},q.a⟩],j,n⟩:=λ N=>(FQ ⟨k,c,[p,q],j,n⟩ 1 (p:=q) rfl f N).trans (nU ..)
   generalize ME.bR ⟨k,c,[p,q],j,n⟩ (1:Int).toNat f=e9 at*
   generalize q.n.d.bR (f:Int)=d2 at*
   generalize e0:gq c d2=c2 at*
   generalize fG d2=d3 at*
   cases c2
   focus
    have I:ai (∀s e t,od u m s z.a none d3 e t->e=ao (aJ #[.pointer none,O 3])/\∃P,af u t m (Y.dk z.a P d3::s)):=Z (λ s e t h=>h.2 rfl)
    rw[b5 rfl]
   rotate_left
   focus
    rename_i A
    have I:ai (∀s e t,od u m s z.a (some A) d3 e t->∃a x P,e=ao (aJ #[pV a.g,O 0])/\a.a=z.a/\af u t m (Y.aQ a x A::Y.dk z.a P A.d::s)):=Z (λ s e t h=>h.1 A rfl)
    rw[b6 A rfl]
   rotate_left
  rotate_left 2
  ·have a:ME.aT ⟨k,c,[p,q],j,n⟩ C=false:=by
    unfold ME.aT
    rw[yT]
    by_cases s:0<=C
    ·right;exact bu (by show¬C<2;omega)
    ·left;exact bu s
   rw[aj (by rw[a];decide)]
   have a5:(decide (0<=C)&&decide (C<2))=false:=a
   rw[a5] at X
   go_enter func69,ntmps69
   go_wp2_with(first|refine Kl b ?_|refine KB b 55 3 _ λ c5 b2 c7 b=>?_|go_at_call 72;refine KC b (X.U _ (b.U.get (i:=1) rfl)) λ H b=>?_)
   go_ret
   exact⟨_,rfl,aZ.mk ⟨g,E,D,G,F,⟨y,a0,pd,S⟩,⟨z,a1,a7,T⟩,a2⟩ p q a3.U rfl b.U.tail⟩
  all_goals
   go_enter func69,ntmps69
   go_upto_region 3 with(first|refine Kl b ?_|refine KB b 55 3 _ λ c5 b2 c7 b=>?_|go_at_call 72;refine KC b (X.U _ (b.U.get (i:=1) rfl)) λ H b=>?_)
   refine RG b 7 [1,0] λ a9 b r=>?_
   refine VV [0,1,2,2003,4,2005,6] r ?_
   refine WT ?_
   go_upto_region 4 with fail
   refine RG b 7 [3,0] λ a9 b r=>?_
   refine VV [0,1,2,2003,4,2005] r ?_
   refine W2 6 26 (v:=O (f:Int)) rfl rfl (Or.inl ⟨by kernel_rfl,λ B d9=>by(go_simp;done)⟩) r ?_
   refine WT ?_
   go_upto_region 5 with((go_at_call 31;refine KP b (b4.U _ _ (b.U.get (i:=8) rfl)) λ H b=>?_))
   refine RG b 11 [3] λ a9 b r=>?_
   refine VV [0,2,3,4,2005] r ?_
   refine KV 1 (en 64) 30 ?_
   refine(c4.U _ (b.U.get (i:=1) rfl)).mono ?_
   rintro e H ⟨a8,rfl,c1⟩
   have o:=b.U.plus c1
   simp only[gD,fV] at o
   replace b:=Z o
   refine⟨_,rfl,bo b [4],?_⟩
   simp only[aH,au,ay]
   refine KV 6 (en 28) 35 ?_
   refine(b3.U _ _ _ _ (b.U.ft [10,9,9,9,9,9,9,9,9,9,10])).mono ?_
   intro e H a6
  ·obtain⟨rfl,J,o⟩:=I.U _ _ _ a6
   replace b:=Z o
   refine⟨_,rfl,bo b [5],?_⟩
   simp only[aH,au,ay]
   have r:=bo b [5]
   refine VV [7,8,9,10] r ?_
   refine WT ?_
   go_wp2_with(fail)
   go_ret
   have o:=b.U.fs [1,1000,1,1000,8,1,8,8,8,8,8,8,8]
   exact⟨_,rfl,aZ.mk ⟨g,E,D,G,F,⟨y,a0,pd,S⟩,⟨z,a1,J,T⟩,a2⟩ p ⟨{q.n with d:=d3},q.a⟩ a3.U rfl o⟩
  ·obtain⟨an,c3,J,rfl,b9,o⟩:=I.U _ _ _ a6
   replace b:=Z o
   refine⟨_,rfl,bo b [6],?_⟩
   simp only[aH,au,ay]
   have r:=bo b [6]
   refine VV [7,8,9,10] r ?_
   refine WT ?_
   go_wp2_with(refine KS b λ b2 b=>?_)
   go_ret
   have o:=b.U.fs [2,1000,2,1000,8,1000,8,2,2,8,8,8,8,8,8]
   rw[<-b9] at o
   exact⟨_,rfl,aZ.mk ⟨g,E,D,G,F,⟨y,a0,pd,S⟩,⟨an,c3,J,T⟩,a2⟩ p ⟨A,q.a⟩ a3.U rfl o⟩
variable{p:List Nat}
def Px:dh 124 129 3 40:=dh.mk' underlying124 (z:= .agg #[.pointer none,.pointer none,.slice none 0 0]) V rfl zD
abbrev oK:DK:=⟨⟨#[]⟩,⟨#[]⟩,[],100000⟩
def Fm(c:CF):gq c oK=some (cE c 100000):=by kernel_rfl
abbrev N3(a:ag)(c:CF):ab:=aG #[ae a,O 2,O (c.room:Int),U (c.every:Int),U (c.a:Int),U (c.rc.base:Int),U (c.rc.j:Int),U (c.rc.span:Int),O (c.rc.i:Int),O (c.rc.room:Int)]
def UP{j w:aa}(v:TM p j)(h:af j w p [])(d:ag)(J:d.size=32)(c:CF)(E:c.bL)(G:c.bG=1)(F:c.key=(fp d).pub):
 Calls prog 19 #[N3 d c] w λ r l=>∃g,r=ao (aJ #[pV g,O 0])/\aZ j l p g (iU d c):=by
 have b:=Z h
 have M:=Z v
 have D:=Z (λ(a:aa) (e:bQ a)=>Up e d J)
 have q:iU d c=⟨fp d,c,[⟨cE c 100000,[]⟩,⟨cE c 100000,[]⟩],[],0⟩:=rfl
 rw[q]
 generalize fp d=k at*
 have C:=Z (λ(a:aa) (f:List Y) (e:af j a p f)=>F0 e 100000 zD)
 have B:=Z (λ(a:aa) (g:Nat) (n o:ab) (e:(Y.row g 126 (ME.cells ⟨k,c,[],[],0⟩ d n o)).P a)=>FN (m:=⟨k,c,[],[],0⟩) e G F)
 have n:oK.Ok:=⟨bh _,by decide⟩
 have o:(eA oK).l.length<=100000:=by
  have e:5*(eA oK).l.length<=0:=sq oK
  omega
 have A:=Z (λ(a:aa) (K g:Nat) (r:ab) (f:List Y) (e:af j a p (Y.dk g r oK::Y.row K 9 [ae c.key]::f))=>tF v (.head _) e E n o)
 have z:ai (∀f g e l,od j p f g (gq c oK) (fG oK) e l->∃a x r,e=ao (aJ #[pV a.g,O 0])/\a.a=g/\af j l p (Y.aQ a x (cE c 100000)::Y.dk g r (cE c 100000).d::f)):=Z (λ f g e l h=>h.1 _ (Fm c))
 generalize cE c 100000=g at*
 clear h v E G q n o J F
 show Calls prog 19 #[aG #[ae d,O 2,O (c.room:Int),U (c.every:Int),U (c.a:Int),U (c.rc.base:Int),U (c.rc.j:Int),U (c.rc.span:Int),O (c.rc.i:Int),O (c.rc.room:Int)]] w _
 go_enter func19,ntmps19
 go_upto_region 7 with(first|refine Kl b ?_|refine KT b 10 ?_|refine KT b 3 ?_|refine KS b λ o b=>?_|refine KA b _ 4 Lu λ S o a2 b=>?_|refine KB b 50 1 _ λ t o a0 b=>?_|refine KB b 126 31 ((ME.cells ⟨k,c,[],[],0⟩ d (ad none 0 0) (ad none 0 0))) λ u o a1 b=>?_|go_at_call 63;refine KC b (D.U _ (M.U.at b.U)) λ y b=>?_)
 have q:=(b.U.ft [1,1000,1,1])
 clear b
 have b:=Z (q.dj (Y.ow 129 3 (ad none 0 0) 0 []) (ct _ _ _ _) rfl)
 clear q
 go_wp2_with(refine Kl b ?_)
 go_loopw [34] (λ a wr=>(a=O 0/\ai (af j wr p [Y.ow 129 3 (ad none 0 0) 0 [],Y.row u 126 (ME.cells ⟨k,c,[],[],0⟩ d (ad none 0 0) (ad none 0 0)),Y.row t 50 [ae d,O 2,O (c.room:Int),U (c.every:Int),U (c.a:Int),U (c.rc.base:Int),U (c.rc.j:Int),U (c.rc.span:Int),O (c.rc.i:Int),O (c.rc.room:Int)]]))\/(∃r f x1 l,a=O 1/\ai (af j wr p [Y.ow 129 3 r 1 [pV f.g,pV f.a,ad none 0 0],Y.row u 126 (ME.cells ⟨k,c,[],[],0⟩ d (r) (ad none 0 0)),Y.row t 50 [ae d,O 2,O (c.room:Int),U (c.every:Int),U (c.a:Int),U (c.rc.base:Int),U (c.rc.j:Int),U (c.rc.span:Int),O (c.rc.i:Int),O (c.rc.room:Int)],Y.aQ f x1 g,Y.dk f.a l g.d]))\/(∃s f x1 l n x2 x,a=O 2/\ai (af j wr p [Y.ow 129 3 s 2 [pV f.g,pV f.a,ad none 0 0,pV n.g,pV n.a,ad none 0 0],Y.row u 126 (ME.cells ⟨k,c,[],[],0⟩ d (s) (ad none 0 0)),Y.row t 50 [ae d,O 2,O (c.room:Int),U (c.every:Int),U (c.a:Int),U (c.rc.base:Int),U (c.rc.j:Int),U (c.rc.span:Int),O (c.rc.i:Int),O (c.rc.room:Int)],Y.aQ f x1 g,Y.dk f.a l g.d,Y.aQ n x2 g,Y.dk n.a x g.d]))) (λ a _=>2-(intOf a).toNat)
 case atStart=>exact .inl ⟨rfl,b⟩
 case round=>
  clear b
  obtain⟨rfl,b⟩|⟨r,f,x1,l,rfl,b⟩|⟨s,f,x1,l,n,x2,x,rfl,b⟩:=hrel
  rotate_left
  focus
   obtain⟨N,P,a,-⟩:=cF (show World.ownsRow _ 0 129 3 r 1 _ from b.U.get (i:=0) rfl)
   subst a
  rotate_left
  ·obtain⟨N,P,L,-⟩:=cF (show World.ownsRow _ 0 129 3 s 2 _ from b.U.get (i:=0) rfl)
   subst L
   clear A z C B D
   go_wp2_with(fail)
   refine iI rfl rfl rfl rfl ?_
   obtain⟨Q,T,R,I,D,-,-,a⟩:=nL b.U 0 rfl zD
   cases I
   simp only[au,ay] at a
   have q:=(a.dj (Y.vw (ad none 0 0) []) (ct _ _ _ _) rfl).dj (Y.vw (ad none 0 0) []) (ct _ _ _ _) rfl
   have H:=q.dj (Y.ow 210 3 (ad none 0 0) 0 (bB [])) (ct _ _ _ _) rfl
   exact⟨_,rfl,aZ.mk ⟨_,Q,_,d,ad none 0 0,⟨f,x1,l,ad none 0 0⟩,⟨n,x2,x,ad none 0 0⟩,R⟩ ⟨g,[]⟩ ⟨g,[]⟩ D rfl (H.ft [5,1000,2,8,8,4,8,8,7,7,8])⟩
  all_goals
   go_wp2_with(first|refine Kl b ?_|refine KS b λ o b=>?_|(with_reducible show cH);(refine Mk b.U rfl 58 rfl (some 1) 129 [_,_,_] (by go_simp;(exact⟨rfl,rfl⟩)) ?_;intro R o a3 a;replace b:=Z a;clear a;simp only[bk])|refine Ap b.U rfl Px rfl 4 rfl rfl 0 rfl rfl rfl rfl zD zD λ T P o a=>?_;simp only[au,ay] at a;replace b:=Z a;clear a|go_at_call 26;(refine(C.U _ _ b.U).mono ?_);rintro e y ⟨Q,rfl,X,a⟩;replace b:=Z a;clear a|go_at_call 64;(refine(B.U _ _ _ _ (b.U.get (i:=2) rfl)).mono ?_);rintro e y ⟨K,rfl,I⟩;have a:=b.U.plus I;simp only[gD,fV] at a;replace b:=Z a;clear a;clear I|go_at_call 28;(refine(A.U _ _ _ _ _ (b.U.ft [1])).mono ?_);intro e y H;obtain⟨an,L,D,rfl,N,a⟩:=z.U _ _ _ _ H;clear H;replace b:=Z a;clear a)
   subst N
  ·exact⟨.inr (.inl ⟨_,an,L,D,rfl,Z ((((((((b.U).tail.ft [2]).tail.ft [1]).ar 1 rfl).ar 4 rfl).ar 4 rfl).ar 4 rfl))⟩),by decide⟩
  ·exact⟨.inr (.inr ⟨_,f,x1,l,an,L,D,rfl,Z ((((((((((b.U).tail.ft [2]).tail.ft [1]).ar 1 rfl).ar 6 rfl).ar 6 rfl).ar 6 rfl).ar 6 rfl).ar 6 rfl))⟩),by decide⟩
variable{D:BD}{C:CF}{d:DK}
def M6(b:D.Ok)(c:D.right=true)(a:D.e.length<=48):(ma D).length<=1800:=by
 have h:=Ji (⟨[],0⟩:WS) b a;rw[DV rfl c] at h;grind
def Oo(h:d.Still)(b:Int):d.bR b=d:=by
 obtain⟨f0,f1,l,r⟩:=d;have a:l=[]:=h.none;subst a;rfl
abbrev dT:DK:=⟨⟨#[]⟩,⟨#[]⟩,[],10000⟩
abbrev dE(f:ag):DK:=⟨f,⟨#[]⟩,[],10000⟩
def Tr(d:DK):(eA d).l=(eT d.f0 [] 0).1:=by
 unfold eA;dsimp only;rfl
structure L3(c:CF)(b:BD)(n1:ND):Prop where
 aM:n1.st.aM=b.enc
 bq:n1.bq=0
 f:n1.st.f=[]
 ok:n1.Ok
 still:n1.d.Still
 room:n1.d.room=10000
 back:∃n2,gq c n1.d=some n2/\n2.st.aM=b.enc/\n2.st.f=[]
def Np(c:CF):gq c dT=some (cE c 10000):=by rfl
def Zn(q:C.bL)(J:C.bG=1)(h:D.bq=true)(h1:D.a.check C.key=true)(h2:D.b.check C.key=true):
 (cE C 10000).cW 0 (cj D).enc=[]/\L3 C D ((cE C 10000).dU 0 (cj D).enc):=by
 have a:=xz h
 have i:=rN a
 have hd:=I7 i h a
 have E:=(ny hd).2.1
 have H:=M6 i a E.b
 have t:=QY h h1 h2
 have b:bS C fj (cj D)=({fj with aM:=D.enc},5):=by
  unfold bS
  rw[aj (by show¬(4:Nat)=3;decide),aj (by show¬(4:Nat)=8;decide),ax zR]
  show fj.lay C.key D.enc=_
  unfold ST.lay
  rw[ax zR,ax t]
 have w:(cj D).enc.size=2+(ma D).length:=by
  rw[I8 h a]
  show(((4:UInt8)::0::ma D).toArray).size=_
  simp;omega
 obtain⟨e,c⟩:∃e,(cj D).enc=e:=⟨_,rfl⟩
 rw[c] at hd w⊢
 have z:=se e
 have y:¬(aY e).size=0:=by omega
 have I:(aY e).size<=4110:=z.1
 have B:jH (cE C 10000) 0 e=some (cj D):=IS hd ⟨ze _,by show(0:Int)<(C.bG:Int);omega,rfl,.inr (.inr (.inr (.inl rfl)))⟩
 obtain⟨k,l⟩:=IT B
 have k3:¬(cj D).c=3:=by show¬(4:Nat)=3;decide
 have k4:(cj D).c=4:=rfl
 rw[aj k3,ax k4] at k
 rw[aj k3,aj W] at l
 have u:counts (bS (cE C 10000).c (cE C 10000).st (cj D)).2=true:=by
  show counts (bS C fj (cj D)).2=true
  rw[b];rfl
 have g:¬(cE C 10000).d.free<(aY e).size:=by
  show¬(10000-0-0:Nat)<(aY e).size
  omega
 have d:df (cE C 10000).j (cE C 10000).d (cj D).enc=0:=by
  rw[c]
  unfold df
  rw[aj (by show¬false=true;decide),aj y]
  unfold DK.cC
  rw[aj g]
 obtain⟨F,G⟩:=Hy u d
 have o:(cE C 10000).dI (cj D)=5:=by
  rw[F]
  show(bS C fj (cj D)).2=5
  rw[b]
 have n:(cE C 10000).dU 0 e=(cE C 10000).bZ (cj D):=by
  rw[k]
  unfold ND.nN
  rw[o,aj zD]
 have v:hU (cE C 10000).j (cE C 10000).d (cj D).enc=dE (aY e):=by
  unfold hU
  rw[ax d,c]
  unfold DK.put
  rw[aj g]
  show(⟨⟨#[]⟩++aY e,⟨#[]⟩,[],10000⟩:DK)=_
  rw[Il]
 have A:(hS (cE C 10000).j (cE C 10000).d (cj D).enc)=⟨[e],1,false⟩:=by
  unfold hS
  rw[ax d,c]
  rfl
 have j:(dE (aY e)).Still:=⟨by show(aY e).size+0<=10000;omega,by simp,rfl⟩
 have m:(cE C 10000).bZ (cj D)=⟨C,{fj with aM:=D.enc},0,0,none,⟨[e],1,false⟩,dE (aY e),1,0,0,0⟩:=by
  rw[G,v,A]
  show(⟨C,(bS C fj (cj D)).1,0,0,none,⟨[e],1,false⟩,dE (aY e),1,0,0,0⟩:ND)=_
  rw[b]
 rw[n,m]
 refine⟨l,rfl,rfl,rfl,?_,j,rfl,?_⟩
 ·exact⟨q,(yM 0).ar,bh _,(λ x hx=>by cases hx),ck _,ck _,ck _,ck _,bh _,aW _,(show(1:Nat)<=1000000 by decide),(λ r a=>by cases a),(show(1:Nat)<=100000 by decide),j.ok,bh _⟩
 ·have x:eT (aY e) [] 0=([e],(aY e).size):=by
   have p:cd [e]:=λ s r=>by grind
   have:=Xb p
   have e1:bm [e]=aY e:=by
    show aY e++⟨#[]⟩=aY e
    exact E7 _
   rw[e1] at this
   exact this
  have p:gr C [e] fj=some {fj with aM:=D.enc}:=by
   have r:counts (bS C fj (cj D)).2=true:=by rw[b];rfl
   rw[A2 hd rfl r,b]
   rfl
  have s:(eA (dE (aY e)).sync).l=[e]:=by
   have e3:(dE (aY e)).sync.f0=aY e:=rfl
   rw[Tr,e3,x]
  unfold gq
  rw[s,p]
  exact⟨_,rfl,rfl,rfl⟩
