import Derived.Test.YtncpbkoinennoaaGreatDoorMBG
set_option linter.all false
set_option maxRecDepth 100000
set_option maxHeartbeats 0
namespace Go.Proofs.YtncpbkoinennoaaGreatDoor
open Go.RowKit Proofs.Tryz
attribute [local irreducible] wpList Calls
variable{r:Int}{M:ME}{N:ND}{g i:Nat}
structure PK.Ok(p:PK):Prop where
 s1: -1<=p.src
 s2:p.src<=1
 d1: -1<=p.dst
 d2:p.dst<=1
 ne:¬(p.src= -1/\p.dst= -1)
structure PL.aI(c:CF)(K:Nat)(p:PL):Prop where
 n:p.n.aI c K
 len:p.a.length<=12
 a:∀s∈p.a,s.size<=40
structure ME.aI(K:Nat)(m:ME):Prop where
 c:m.c.bR
 p1:m.c.cj=1
 key:m.c.key=m.k.pub
 k:m.k.Ok
 two:m.l.length=2
 pl:∀p∈m.l,p.aI m.c K
 b:m.b.length<=64
 g:∀p∈m.b,p.Ok
 now:m.now<18446744073709551616
def PL.aI.mono{c:CF}{K L:Nat}{p:PL}(h:p.aI c K)(a:K<=L):p.aI c L:=⟨h.n.mono a,h.len,h.a⟩
def ME.aI.mono{K L:Nat}{m:ME}(h:m.aI K)(a:K<=L):m.aI L:={h with pl:=λ p b=>(h.pl p b).mono a}
def ME.aI.at{K:Nat}{m:ME}(h:m.aI K)(b:i<2):∃p,m.l[i]?=some p/\p.aI m.c K:=by
 have a:i<m.l.length:=by rw[h.two];exact b
 exact⟨m.l[i],aU a,h.pl _ (eR a)⟩
def ME.aI.put{K:Nat}{m:ME}(h:m.aI K){p:PK}(b:p.Ok):(m.put p).aI K:=by
 unfold ME.put;split
 ·exact h
 ·refine{h with b:=?_,g:=λ q a=> ?_}
  ·grind
  ·rcases eB.1 a with a|a
   ·exact h.g q a
   grind
def ME.aI.fJ{K:Nat}{m:ME}(h:m.aI K){i:Nat}(a:i<2){x:SD}(hx:x.1<=0):(ME.fJ i m x).aI K:=by
 unfold ME.fJ;split
 ·refine h.put ⟨?_,?_,?_,?_,?_⟩<;>simp only<;>omega
 ·split
  ·exact h
  ·refine h.put ⟨?_,?_,?_,?_,?_⟩<;>simp only<;>omega
def ME.aI.send{K:Nat}{i:Nat}(a:i<2):∀(L:List SD) {m:ME},m.aI K->(∀x∈L,x.1<=0)->(m.send i L).aI K
 |[],m,h,_=>h
 |x::L,m,h,hx=>ME.aI.send (m:=ME.fJ i m x) a L (h.fJ a (hx x mZ)) (λ y b=>hx y (mQ b))
def ME.aI.fU{K L:Nat}{m:ME}(h:m.aI K)(c:K<=L)(i:Nat){n:ND}(e:n.aI m.c L):(m.fU i n).aI L:=by
 unfold ME.fU;split
 ·exact h.mono c
 ·rename_i p f;have b:=h.mono c;have d:=b.pl p (cX f);refine{b with two:=by rw[fc];exact h.two,pl:=λ q g=> ?_};rcases nb g with a|a
  ·exact b.pl q a
  ·rw[a];exact⟨e,d.len,d.a⟩
def EY(e:N.cd=0)(a b:Nat):(N.kB a b).length<=3/\∀x∈N.kB a b,-2<=x.1/\x.1<=0:=by
 have f:=Hv N a b;have g:=GI (N.cz a b) a;have c:∀x∈N.hJ a b,-2<=x.1/\x.1<=0:=λ x hx=>by
  unfold ND.hJ at hx;grind
 have d:∀x∈(N.cz a b).kh a,-2<=x.1/\x.1<=0:=λ x hx=>by
  unfold ND.kh at hx;grind
 unfold ND.kB;grind
def vO(d:N.c.cj=1)(a:Int)(s:af):(N.hQ a s).length<=2/\∀x∈N.hQ a s,x.1=0:=by
 unfold ND.hQ;split
 ·simp
 ·rename_i m b;have c:a=0:=by
   unfold rz at b;split at b
   ·cases b
   ·grind
  rw[c];split
  ·unfold ND.pe;grind
  ·split
   ·unfold ND.uW;grind
   simp
def ME.aI.tick{K:Nat}{m:ME}(h:m.aI K)(f:K<=50000){i:Nat}(c:i<2){a:Nat}(g:a<18446744073709551616)(b:Nat):(m.tick i a b).aI (K+1):=by
 unfold ME.tick;obtain⟨p,j,d⟩:=h.at c;rw[j];dsimp only;have e:ME.aI K {m with now:=a}:={h with now:=g};exact ME.aI.send c _ (e.fU (fN K) i (d.n.tick f h.p1 a b)) (λ x hx=>((EY d.n.cd a b).2 x hx).2)
def ME.aI.peer{K:Nat}{m:ME}(h:m.aI K)(d:K<=50000){i:Nat}(b:i<2)(a:Int)(s:af):(m.peer i a s).aI (K+1):=by
 unfold ME.peer;obtain⟨p,e,c⟩:=h.at b;rw[e];dsimp only;exact ME.aI.send b _ (h.fU (fN K) i (c.n.peer d a s)) (λ x hx=>by rw[(vO (c.n.cj h.p1) a s).2 x hx];omega)
def ME.aI.log{K:Nat}{m:ME}(h:m.aI K)(a:K<=50000){i:Nat}(b:i<2)(s:af):(m.log i s).aI (K+1):=by
 unfold ME.log;obtain⟨p,c,d⟩:=h.at b;rw[c];exact h.fU (fN K) i (d.n.log a s)
def ME.aI.fi{K:Nat}{m:ME}(h:m.aI K)(a:K<=50000){p:PK}(b:p.Ok):(m.fi p).aI (K+1):=by
 obtain⟨s1,s2,d1,d2,e⟩:=b;unfold ME.fi;split
 ·rename_i hd;obtain⟨q,c,d⟩:=h.at (i:=p.src.toNat) W;rw[c];dsimp only;split
  ·exact h.mono (fN _)
  ·refine(h.mono (fN _)).put ⟨?_,?_,?_,?_,?_⟩<;>simp only<;>omega
 ·split
  ·exact h.log a W _
  ·exact h.peer a W _ _
def ME.aI.JU{K:Nat}(h:M.aI K){L:List PK}(a:L.length<=64)(b:∀p∈L,p.Ok):ME.aI K {M with b:=L}:={h with b:=a,g:=b}
def ME.aI.bS{K:Nat}{m:ME}(h:m.aI K)(e:K<=50000)(i a:Int):(m.bS i a).aI (K+1):=by
 have d:=h.mono (fN K);unfold ME.bS;split
 ·exact d
 ·rename_i p f;have c:=h.g p (cX f);split
  ·exact d.put c
  ·have b:ME.aI K {m with b:=m.b.eraseIdx (a.toNat%m.b.length)}:=h.JU (by have:=List.length_eraseIdx_le m.b (a.toNat%m.b.length);have:=h.b;omega) (λ q g=>h.g q (AH g));dsimp only;split
   ·exact(b.mono (fN K)).put c
   ·split
    ·exact b.fi e c
    ·exact b.mono (fN K)
def P6(s:af):(fP s).size<=40:=by
 unfold fP;rw[ib];omega
def UO(h:¬M.pn r=true){p:PL}(a:M.l[g]?=some p)(e:M.po r g=true):p.a.length<12:=by
 obtain⟨c,d⟩:=cw.1 a;have b:¬(List.range M.l.length).any (λ g=>M.po r g&&decide (12<=(M.l.map λ p=>p.a.length).getD g 0))=true:=h;grind
def ME.aI.leaf{K:Nat}{m:ME}(h:m.aI K)(i:Int)(s:af):(m.leaf i s).aI K:=by
 unfold ME.leaf;split
 ·exact h
 ·rename_i c;refine{h with two:=by rw[List.length_mapIdx];exact h.two,pl:=λ p d=> ?_};obtain⟨j,a,rfl⟩:=List.mem_mapIdx.1 d;have b:=h.pl _ (eR a);split
  ·rename_i e;have f:=UO c (aU a) e;refine⟨b.n,?_,λ x hx=> ?_⟩
   ·grind
   ·rcases eB.1 hx with hx|hx
    ·exact b.a x hx
    ·rw[ud] at hx;rw[hx];exact P6 s
  grind
def ME.aI.gB{K:Nat}{m:ME}(h:m.aI K){i:Nat}(d:i<2)(a:Nat):(m.gB i a).aI K:=by
 unfold ME.gB;obtain⟨p,f,c⟩:=h.at d;rw[f];dsimp only;have j:∀b:ND,b.aI m.c K->(m.fU i b).aI K:=λ b e=>h.fU (aQ K) i e;have g:= @ND.aI.PZ m.c K p.n c.n (a:Int);have b:= @ND.aI.PY m.c K p.n c.n (a:Int);grind
def ME.aI.renew{K:Nat}{m:ME}(h:m.aI K)(a:K<=50000){i:Nat}(b:i<2)(k:Nat):(m.renew i k).aI (K+1):=by
 unfold ME.renew;obtain⟨p,c,d⟩:=h.at b;rw[c];exact h.fU (fN K) i (d.n.renew a k)
def ME.aI.feed{K:Nat}{m:ME}(h:m.aI K)(a:K<=50000){i:Nat}(c:i<2)(b:Int)(s:af):(m.feed i b s).aI (K+1):=by
 unfold ME.feed;split
 ·exact h.peer a c _ _
 ·exact h.log a c _
def ME.aI.yj{K:Nat}(h:M.aI K)(a:M.bz r=true):r.toNat<2/\(r.toNat:Int)=r:=by
 unfold ME.bz at a;rw[h.two,dL,ej,ej] at a;omega
def ME.aI.act{K:Nat}{m:ME}(h:m.aI K)(c:K<=50000)(a:AC):(m.act a).aI (K+1):=by
 have d:=h.mono (fN K);unfold ME.act;split
 ·split
  ·split
   ·rename_i b;exact h.tick c (h.yj b).1 (cy _ zD) _
   grind
  ·split
   ·exact d.leaf _ _
   ·split
    ·split
     ·rename_i b;exact d.gB (h.yj b).1 _
     grind
    ·split
     ·split
      ·rename_i b;exact h.renew c (h.yj b).1 _
      grind
     ·split
      ·split
       ·rename_i b;exact h.feed c (h.yj b).1 _ _
       grind
      ·exact h.bS c _ _
 grind
def ME.aI.jn{i:Nat}:∀(L:List Nat) {K:Nat} {m:ME},m.aI K->K+L.length<=50000->(∀i∈L,i<2)->(ME.jn L m).aI (K+L.length)
 |[],K,m,h,_,_=>h
 |i::L,K,m,h,a,b=>by
  have c:K+(i::L).length=(K+1)+L.length:=by rw[gq];omega
  rw[c]
  rw[c] at a
  exact ME.aI.jn (i:=i) L (h.tick W (b i mZ) (kz _ _) 0) a (λ j d=>b j (mQ d))
def ME.aI.eN:∀(f:Nat) {K:Nat} {m:ME},m.aI K->K+f<=50000->(ME.eN f m).aI (K+f)
 |0,K,m,h,_=>h
 |f+1,K,m,h,a=>by
  unfold ME.eN
  split
  ·exact h.mono (Nat.le_add_right _ _)
  ·have:=ME.aI.eN f (h.bS W 1 0) W
   grind
variable{d:DK}{E:JN}{m:List Nat}{k n:Nat}{S:ST}
def An(f:aa)(m:List Nat)(rest:List Y)(b:Nat)(o:Option ND)(D:DK)(e:Ending)(d:aa):Prop:=
 (∀n,o=some n->∃a x c,e=ao (aM #[pV a.g,O 0])/\a.a=b/\ae f d m (Y.bd a x n::Y.dk b c n.d::rest))/\
 (o=none->e=ao (aM #[.pointer none,O 3])/\∃c,ae f d m (Y.dk b c D::rest))
def O3{e d:aa}{rest:List Y}{a:NA}{x:NV}{n:ND}{D:DK}{c:ab}(h:ae e d m (Y.bd a x n::Y.dk a.a c n.d::rest)):An e m rest a.a (some n) D (ao (aM #[pV a.g,O 0])) d:=
 ⟨λ f b=>(by cases b;exact⟨a,x,c,rfl,rfl,h⟩),λ b=>(by cases b)⟩
abbrev BH(g e d a h f:Nat)(b:ab)(c:CF):List ab:=[b,O (c.cj:Int),O (c.room:Int),U (c.every:Int),U (c.a:Int),U (c.rc.base:Int),U (c.rc.j:Int),U (c.rc.span:Int),O (c.rc.i:Int),O (c.rc.room:Int),ag (some ⟨e,0,none⟩) 1 d,pV a,pV h,.map (some f),O 1,U 0,U 0,O 0]
abbrev BG(a:af)(s:ST)(b:ab)(c:List ab):List ab:=ad a::Value.bool s.bz::Value.int .u64 (s.az.size:Int)::Value.int .u64 (s.az.time:Int)::ad s.az.aE::ad s.az.a::b::ad s.aR::Value.int .u64 0::Value.int .u64 0::Value.int .i64 0::c
def O1{r w:aa}{rest:List Y}{d o f b e:Nat}{l a p j:ab}{q:List ab}{c:CF}{D:DK}
 (h:ae r w m (Y.row g 139 (BH g n k i d b l c)::Y.row n 133 (BG c.key S a q)::Y.ho a S.f::Y.jr i e p E::Y.rt d o f j c.rc none::Y.mp b []::rest)):
 ae r w m (Y.bd ⟨g,n,k,i,d,o,f,b,e,l⟩ ⟨a,p,j,q⟩ (bn c S E D)::rest):=nP ⟨g,n,k,i,d,o,f,b,e,l⟩ ⟨a,p,j,q⟩ (bn c S E D) h
def QX:cW 134 133 11 136:=cW.mk' underlying134 (z:= .agg #[.string ⟨#[]⟩,.bool false,U 0,U 0,.string ⟨#[]⟩,.string ⟨#[]⟩,.slice none 0 0,.string ⟨#[]⟩,U 0,U 0,O 0]) V rfl zD
def OX{v w:aa}{rest:List Y}{c1:ab}{c:CF}(a5:TM m v)(y:Y.row g 9 [ad c.key]∈rest)(h:ae v w m (Y.dk k c1 d::rest))(T:c.bR)(hd:d.Ok)(X:(gg d).l.length<=100000)(a0:(gg d).l=[])(a8:d.f0.size=0):
 Calls prog 28 #[c.val (ag (some ⟨g,0,none⟩) 1 1),pV k] w (An v m rest k (oW c d) (iD d)):=by
 have b:=Z h
 have c6:=Z a5
 have a3:=Z y
 clear y
 have e0:oW c d=(gw c (gg d).l kG).map λ s=>bn c s (gg d) (iD d):=rfl
 rw[e0]
 have o:=Ds hd
 have b0:=Z (λ(e:aa) (f:List Y) (y:ae v e m f)=>XP y c.rc T.rc)
 have b2:=Z (λ(e:aa) (A:Option Addr) (l:Nat) (a6:bq e (ag A 1 l) [c.key])=>Po c T a6)
 have a1:=Z (λ(e:aa) (l:ab) (f:List Y) (y:ae v e m (Y.dk k l d::f))=>TY y hd a8)
 have a4:=Z (λ(e:aa) (f:Nat) (r:ab) (y:(Y.jr f k r (gg d)).P e)=>TZ y W)
 have a9:ai (kG.bR c.room):=Z (Ng c.room)
 generalize gg d=J at*
 generalize iD d=D at*
 obtain⟨p,e⟩:∃p,J.l=p:=⟨_,rfl⟩
 obtain⟨cG,C⟩:∃cG,gw c p kG=cG:=⟨_,rfl⟩
 rw[e,C]
 rw[e] at a4 X a0
 have b1:=Z a0
 have a2:=Z C;have c5:=Z X
 clear a5 h hd T o C e X a0 a8 e0
 show Calls prog 28 #[aG #[ag (some ⟨g,0,none⟩) 1 1,O (c.cj:Int),O (c.room:Int),U (c.every:Int),U (c.a:Int),U (c.rc.base:Int),U (c.rc.j:Int),U (c.rc.span:Int),O (c.rc.i:Int),O (c.rc.room:Int)],pV k] w _
 go_enter func28,ntmps28
 go_upto_region 5 with(first|refine KT b 5 ?_|refine KT b 10 ?_|refine Kl b ?_|refine KS b λ B b=>?_|refine KB b 73 2 _ λ b3 B d0 b=>?_|go_at_call 78;(refine(b0.U _ _ b.U).mono ?_);rintro e P ⟨u,N,I,rfl,d3,f⟩;replace b:=Z f;clear f|go_at_call 79;refine KC b (b2.U _ _ _ (wa (L:=[c.key]) (b.U.in (.tail _ (.tail _ (.tail _ a3.U)))) (show(1:Nat)<=maxLen by decide))) λ P b=>?_|go_at_call 80;(refine(B1 (wa (L:=[c.key]) (b.U.in (.tail _ (.tail _ (.tail _ a3.U)))) (show(1:Nat)<=maxLen by decide)) (show(1:Nat)<=20000000 by decide)).mono ?_);rintro e P ⟨⟨b9,rfl,F⟩,H⟩;obtain⟨R,A,Q⟩:=il.form F;have b5:b9=ag R 1 A:=Q;subst b5;clear Q;replace b:=Z (b.U.gT H F);clear H F)
 try simp only[yW,KJ,aS,av,ax]
 go_cut [8] from 34 to 40 (λ s8 z=>∃q o l r t,s8=pV q/\ae v z m (Y.row q 139 [ag R 1 A,O (c.cj:Int),O (c.room:Int),U (c.every:Int),U (c.a:Int),U (c.rc.base:Int),U (c.rc.j:Int),U (c.rc.span:Int),O (c.rc.i:Int),O (c.rc.room:Int),ag none 0 0,pV l,pV u,.map (some o),O 1,U 0,U 0,O 0]::Y.ow 9 1 (ag R 1 A) [c.key].length (bh [c.key])::Y.row b3 73 [ag R 1 A,O (c.cj:Int),O (c.room:Int),U (c.every:Int),U (c.a:Int),U (c.rc.base:Int),U (c.rc.j:Int),U (c.rc.span:Int),O (c.rc.i:Int),O (c.rc.room:Int)]::Y.jr l k r J::Y.dk k t D::Y.rt u N I (ag none 0 0) c.rc none::Y.mp o []::rest))
 case first=>
  refine RG b 5 [2] λ K b z=>?_
  refine WR 0 10 z ?_
  refine VV [1,3] z ?_
  clear z
  refine ay.two (i:=2) (j:=4) V zD zD rfl rfl ?_ ?_
  ·refine One.mk b.U V 36 rfl rfl ?_
   intro o B G f
   replace b:=Z f;clear f
   refine⟨bI b [3],?_⟩
   simp only[aS,av,ax]
   refine ay.mE (i:=4) V zD rfl ?_
   refine One.eL V 38 rfl rfl 81 rfl (en 81) _ rfl ?_
   refine(a1.U _ _ _ (by exact b.U.fs [4])).mono ?_
   rintro e P ⟨l,r,t,rfl,E,f⟩
   replace b:=Z f;clear f
   refine⟨_,rfl,bI b [5],?_⟩
   simp only[aS,av,ax]
   refine WT ?_
   go_wp2_with((refine KB b 139 40 (_) λ q B z b=>?_))
   go_meet
   exact⟨q,o,l,r,t,rfl,(b.U.fs [3,5,4,4,6,6,6])⟩
  ·refine One.eL V 38 rfl rfl 81 rfl (en 81) _ rfl ?_
   refine(a1.U _ _ _ (by exact b.U.fs [3])).mono ?_
   rintro e P ⟨l,r,t,rfl,E,f⟩
   replace b:=Z f;clear f
   refine⟨_,rfl,bI b [4],?_⟩
   simp only[aS,av,ax]
   refine ay.mE (i:=2) V zD rfl ?_
   refine One.mk b.U V 36 rfl rfl ?_
   intro o B G f
   replace b:=Z f;clear f
   refine⟨bI b [5],?_⟩
   simp only[aS,av,ax]
   refine WT ?_
   go_wp2_with((refine KB b 139 40 (_) λ q B z b=>?_))
   go_meet
   exact⟨q,o,l,r,t,rfl,(b.U.fs [1,5,4,4,6,6,6])⟩
 case rest=>
  obtain⟨q,o,l,r,t,rfl,z⟩:=hcut
  clear b
  obtain⟨K,d4,c0,Q,-,-,-,f⟩:=vN z 1 rfl (show(1:Nat)≠0 by decide)
  cases Q
  simp only[av,ax] at f
  have b:=Z (f.eM (Y.ow 133 11 (ag none 0 0) 0 []) (di _ _ _ _) rfl)
  clear z f
  go_wp2_with(refine Kl b ?_)
  replace b:=Z ((b.U.fs [3,1000,6,6,6,6,6,6,6]))
  go_loopw [44] (λ z wr=>(z=O 0/\ai (ae v wr m (Y.ow 133 11 (ag none 0 0) 0 []::Y.row q 139 [ag (some ⟨K,0,none⟩) 1 A,O (c.cj:Int),O (c.room:Int),U (c.every:Int),U (c.a:Int),U (c.rc.base:Int),U (c.rc.j:Int),U (c.rc.span:Int),O (c.rc.i:Int),O (c.rc.room:Int),ag none 0 0,pV l,pV u,.map (some o),O 1,U 0,U 0,O 0]::Y.row K 9 (bh [c.key]++c0)::Y.jr l k r J::Y.dk k t D::Y.rt u N I (ag none 0 0) c.rc none::Y.mp o []::rest)))\/(∃E M G,z=O 1/\ai (ae v wr m (Y.row q 139 (BH q E M l u o (ag (some ⟨K,0,none⟩) 1 A) c)::Y.row E 133 (BG c.key kG (ag none 0 0) G)::Y.ho (ag none 0 0) kG.f::Y.jr l k r J::Y.rt u N I (ag none 0 0) c.rc none::Y.mp o []::Y.dk k t D::rest)))) (λ z _=>1-(intOf z).toNat)
  case atStart=>exact .inl ⟨rfl,b⟩
  case round=>
   clear b
   obtain⟨rfl,b⟩|⟨E,M,G,rfl,b⟩:=hrel
   ·go_wp2_with(first|refine Kl b ?_|refine KS b λ B b=>?_|(with_reducible show cn);(refine Mk b.U rfl 55 rfl (some 1) 133 [_,_,_,_,_,_,_,_,_,_,_] (by go_simp;(exact⟨rfl,rfl⟩)) ?_;intro c8 B d2 f;replace b:=Z f;clear f;simp only[bc])|refine Ap b.U rfl QX rfl 1 rfl rfl 0 rfl rfl rfl rfl zD zD λ c9 c7 B f=>?_;simp only[av,ax] at f;replace b:=Z f;clear f)
    obtain⟨E,M,G,b8,-,-,-,f⟩:=vN b.U 1 rfl zD
    cases b8
    simp only[av,ax] at f
    have b6:=((((((((f).tail.fs [2]).tail.fs [3]).az 5 rfl).az 5 rfl).az 5 rfl).az 4 rfl).az 5 rfl)
    have b7:=b6.eM (Y.ho (ag none 0 0) kG.f) (di _ _ _ _) rfl
    exact⟨.inr ⟨_,_,G,rfl,Z (b7.fs [6,6,6,6,4,6,6])⟩,by decide⟩
   ·go_wp2_with(first|refine Kl b ?_|go_at_call 82;(refine(a4.U _ _ _ (b.U.get (i:=3) rfl)).mono ?_);rintro e P ⟨c2,c3,rfl,F,H⟩;replace b:=Z (b.U.gT H F);clear H F)
    have f:=b.U
    have S:=(f.fs [7,7,7,7,7,7,7])
    clear b
    have b:=Z S
    clear f S
    go_loopw [66] (λ z wr=>∃(f:Nat) (s:ST) (S:ab),f<=p.length/\z=O (f:Int)/\ai (gw c (p.drop f) s=cG)/\ai (s.bR c.room)/\ai (ae v wr m (Y.row q 139 (BH q E M l u o (ag (some ⟨K,0,none⟩) 1 A) c)::Y.row E 133 (BG c.key s S G)::Y.ho S s.f::Y.jr l k r J::Y.rt u N I (ag none 0 0) c.rc none::Y.mp o []::Y.dk k t D::Y.ow 9 1 (ag c2 p.length c3) p.length (bh p)::rest))) (λ z _=>p.length-(intOf z).toNat)
    case atStart=>exact⟨0,kG,_,bf _,rfl,a2,a9,b⟩
    case round=>
     clear b
     obtain⟨f,s,S,a6,rfl,z,c4,b⟩:=hrel
     by_cases a7:f<p.length
     ·exact absurd a7 (by rw[b1.U];exact ij _)
     ·obtain rfl:f=p.length:=by omega
      have C:=z.U
      rw[List.drop_length] at C
      have d1:decide (p.length<p.length)=false:=bm (Nat.lt_irrefl _)
      have b4:some s=cG:=C
      subst b4
      clear a7 C z a2
      go_wp2_with fail
      refine jv rfl rfl rfl rfl ?_
      have z:=O1 (D:=D) b.U
      exact O3 (a:=(⟨q,E,M,l,u,N,I,o,k,ag (some ⟨K,0,none⟩) 1 A⟩:NA)) (x:=(⟨S,r,ag none 0 0,G⟩:NV)) (n:=bn c s J D) (z.fs [2,1000,1,1])
variable{p:List Nat}
structure PA where
 a:NA
 x:NV
 dv:ab
 b:ab
structure MA where
 g:Nat
 b:Nat
 lc:Nat
 sec:af
 a:ab
 p:PA
 q:PA
 ys:List ab
abbrev nV(p q:PA)(a:List ab):List ab:= .pointer (some ⟨p.a.g,0,none⟩):: .pointer (some ⟨p.a.a,0,none⟩)::p.b:: .pointer (some ⟨q.a.g,0,none⟩):: .pointer (some ⟨q.a.a,0,none⟩)::q.b::a
abbrev Y.vw(v:ab)(L:List af):Y:=Y.ow 9 1 v L.length (bh L)
abbrev vB(M:MA)(m:ME)(p q:PL):List Y:=[Y.row M.g 126 (m.cells M.sec (ag (some ⟨M.b,0,none⟩) 2 M.lc) M.a),Y.ow 210 3 M.a m.b.length (bG m.b),Y.row M.b 129 (nV M.p M.q M.ys),Y.bd M.p.a M.p.x p.n,Y.dk M.p.a.a M.p.dv p.n.d,Y.vw M.p.b p.a,Y.bd M.q.a M.q.x q.n,Y.dk M.q.a.a M.q.dv q.n.d,Y.vw M.q.b q.a]
def bP(b w:aa)(a:List Nat)(g:Nat)(m:ME):Prop:=∃M p q,M.g=g/\2<=M.lc/\m.l=[p,q]/\ae b w a (vB M m p q)
def bP.mk{b w:aa}{m:ME}(M:MA)(a q:PL)(h2:2<=M.lc)(c:m.l=[a,q])(h:ae b w p (vB M m a q)):bP b w p M.g m:=⟨M,a,q,rfl,h2,c,h⟩
def rU(c:aa)(a:List Nat)(g:Nat)(m:ME)(e:Ending)(b:aa):Prop:=∃E:Int,e=ao (O E)/\bP c b a g m
def AN(c:aa)(a:List Nat)(g:Nat)(m:ME)(e:Ending)(b:aa):Prop:=e=ao (aM #[])/\bP c b a g m
def yV(m:ME)(p:PK):(m.put p).l=m.l/\(m.put p).c=m.c/\(m.put p).k=m.k/\(m.put p).now=m.now:=by unfold ME.put;grind
def Zk(i:Nat)(m:ME)(x:SD):(ME.fJ i m x).l=m.l/\(ME.fJ i m x).c=m.c/\(ME.fJ i m x).k=m.k/\(ME.fJ i m x).now=m.now:=by
 unfold ME.fJ;split
 ·exact yV _ _
 ·split
  ·simp
  ·exact yV _ _
def LS(i:Nat):∀(L:List SD) (m:ME),(m.send i L).l=m.l/\(m.send i L).c=m.c/\(m.send i L).k=m.k/\(m.send i L).now=m.now
 |[],m=>⟨rfl,rfl,rfl,rfl⟩
 |x::L,m=>by
  obtain⟨a,b,c,d⟩:=LS i L (ME.fJ i m x)
  obtain⟨e,f,g,h⟩:=Zk i m x
  exact⟨a.trans e,b.trans f,c.trans g,d.trans h⟩
def bP.sZ{c w:aa}{a:List Nat}{M:MA}{m:ME}{p q:PL}{L:List SD}{b:ab}(h2:2<=M.lc)(d:m.l=[p,q])
 (h:ae c w a (Y.mc M.g M.sec (ag (some ⟨M.b,0,none⟩) 2 M.lc) b (m.send i L)::Y.row M.b 129 (nV M.p M.q M.ys)::Y.bd M.p.a M.p.x p.n::Y.dk M.p.a.a M.p.dv p.n.d::Y.vw M.p.b p.a::Y.bd M.q.a M.q.x q.n::Y.dk M.q.a.a M.q.dv q.n.d::Y.vw M.q.b q.a::[])):bP c w a M.g (m.send i L):=
 bP.mk {M with a:=b} p q h2 ((LS i L m).1.trans d) h.kE
def LX(k:KY)(c:CF)(p q:PL)(a:List PK)(b:Nat)(n:ND):ME.fU ⟨k,c,[p,q],a,b⟩ 0 n=⟨k,c,[⟨n,p.a⟩,q],a,b⟩:=rfl
def LY(k:KY)(c:CF)(p q:PL)(a:List PK)(b:Nat)(n:ND):ME.fU ⟨k,c,[p,q],a,b⟩ 1 n=⟨k,c,[p,⟨n,q.a⟩],a,b⟩:=rfl
def Km(m:ME)(i:Nat){p:PL}(a:m.l[i]?=some p)(f:Int)(s:af):m.peer i f s=(m.fU i (p.n.lD f s)).send i (p.n.hQ f s):=by
 unfold ME.peer;rw[a]
def Jl(m:ME)(i:Nat){p:PL}(a:m.l[i]?=some p)(s:af):m.log i s=m.fU i (p.n.ly s):=by
 unfold ME.log;rw[a]
def GF(m:ME)(i:Nat){q:PL}(a:m.l[i]?=some q)(s:af):m.fi ⟨i,-1,s⟩=if jF m.k q.a m.now s=⟨#[]⟩ then m else m.put ⟨-1,i,jF m.k q.a m.now s⟩:=by
 unfold ME.fi;grind
def GG(m:ME)(i:Nat)(s:af):m.fi ⟨-1,i,s⟩=m.log i s:=by
 rfl
def GH(m:ME)(src:Int)(i:Nat)(s:af)(h:¬src= -1):m.fi ⟨src,i,s⟩=m.peer i (if(i:Int)<src then src-1 else src) s:=by
 unfold ME.fi;grind
def MH(n:ND)(b a:Nat):(n.kC b a).d=n.d:=by
 obtain⟨s1,s2,s3,s4,s5,s6,s7,s8⟩:=Cc n b a;obtain⟨c,q2,q3,q4,q5,q6,q7,d⟩:=Bz (n.cz b a) b a;unfold ND.kC;dsimp only;split
 ·exact q6.trans s6
 ·exact q6.trans s6
def He{L:List af}(h:∀s∈L,s.size<=40):∀s∈L,s.size<=80000000:=λ s a=>by have:=h s a;omega
def Vc{R w:aa}{K:Nat}(I:TM m R)(h:bP R w m g M)(H:M.aI K)(x:PK)(hx:x.Ok)(c5:∀p q,M.l=[p,q]->∃y,dV x.s= .ok y/\y.b.a.size=y.b.b.size/\tP p q x y):
 Calls prog 147 #[pV g,x.val] w (AN R m g (M.fi x)):=by
 obtain⟨b5,p,q,rfl,a,c7,b2⟩:=h
 obtain⟨k,c,l,f,b⟩:=M
 simp only at c7
 subst c7
 have u:=H.pl p zS
 have z:=H.pl q zS
 have X:=H.b
 have C:=H.p1
 have a5:=H.now
 simp only at u z X C a5
 obtain⟨g,G,F,Q,a6,⟨o,S,pd,P⟩,⟨t,T,a7,qv⟩,a1⟩:=b5
 have a2:ai (2<=F):=Z a
 clear a
 have a:ai (ae R w m [Y.row g 126 (ME.cells ⟨k,c,[p,q],f,b⟩ Q (ag (some ⟨G,0,none⟩) 2 F) a6),Y.ow 210 3 a6 f.length (bG f),Y.row G 129 (nV ⟨o,S,pd,P⟩ ⟨t,T,a7,qv⟩ a1),Y.bd o S p.n,Y.dk o.a pd p.n.d,Y.vw P p.a,Y.bd t T q.n,Y.dk t.a a7 q.n.d,Y.vw qv q.a]):=Z b2
 have a4:=H.k
 simp only at a4
 obtain⟨y,B,J,D⟩:=c5 p q rfl
 clear c5
 obtain⟨s1,s2,d1,d2,b4⟩:=hx
 obtain⟨src,a3,s⟩:=x
 simp only at s1 s2 d1 d2 b4 B
 unfold tP at D
 simp only at D
 have b9:ai (∀(j:aa) (L:List SD) (v nq:ab) (d:List PL) (N:List Y),ae R j m (Y.mc g Q (ag (some ⟨G,0,none⟩) 2 F) nq ⟨k,c,d,f,b⟩::Y.so v L::N)->∀(i:Nat),i<2->L.length<=10->(∀x∈L,-10<=x.1/\x.1<=10)->Calls prog 140 #[pV g,O (i:Int),v] j λ r e=>r=ao (aM #[])/\∃a0,ae R e m (Y.mc g Q (ag (some ⟨G,0,none⟩) 2 F) a0 (ME.send ⟨k,c,d,f,b⟩ i L)::Y.so v L::N)):=Z (λ j L v nq d N h i n e hx=>C6 (m:=⟨k,c,d,f,b⟩) h i n X e hx)
 show Calls prog 147 #[pV g,aG #[O src,O a3,ad s]] w (AN R m g (ME.fi ⟨k,c,[p,q],f,b⟩ ⟨src,a3,s⟩))
 by_cases hd:a3= -1
 ·subst hd
  have c6:y.c=5:=by
   rcases D with h|h|h|h|h
   ·exact h.2
   all_goals omega
  by_cases b6:src=0
  focus
   subst b6
   have v:=Z (λ(j:aa) (r:cq j) (L:(Y.vw P p.a).P j)=>Gz r k a4 (pz L (by have:=u.len;unfold maxLen;omega)) (He u.a) (by have:=u.len;omega) b a5 s ⟨y,B,J,c6⟩)
   have A:=Z I
   have a8:ai ((⟨k,c,[p,q],f,b⟩:ME).b.length<=64):=Z X
   have e:ME.fi ⟨k,c,[p,q],f,b⟩ ⟨0,-1,s⟩=if jF k p.a b s=⟨#[]⟩ then⟨k,c,[p,q],f,b⟩ else ME.put ⟨k,c,[p,q],f,b⟩ ⟨-1,0,jF k p.a b s⟩:=GF _ 0 rfl s
   rw[e]
   generalize jF k p.a b s=E at*
   have n:=mJ E
   by_cases d:E=⟨#[]⟩
   focus
    rw[au d]
    rw[aT d] at n
   rotate_left
   focus
    rw[ar d]
    rw[bm d] at n
   rotate_left
  rotate_left 2
  focus
   have b7:src=1:=by omega
   subst b7
   have v:=Z (λ(j:aa) (r:cq j) (L:(Y.vw qv q.a).P j)=>Gz r k a4 (pz L (by have:=z.len;unfold maxLen;omega)) (He z.a) (by have:=z.len;omega) b a5 s ⟨y,B,J,c6⟩)
   have A:=Z I
   have a8:ai ((⟨k,c,[p,q],f,b⟩:ME).b.length<=64):=Z X
   have e:ME.fi ⟨k,c,[p,q],f,b⟩ ⟨1,-1,s⟩=if jF k q.a b s=⟨#[]⟩ then⟨k,c,[p,q],f,b⟩ else ME.put ⟨k,c,[p,q],f,b⟩ ⟨-1,1,jF k q.a b s⟩:=GF _ 1 rfl s
   rw[e]
   generalize jF k q.a b s=E at*
   have n:=mJ E
   by_cases d:E=⟨#[]⟩
   focus
    rw[au d]
    rw[aT d] at n
   rotate_left
   focus
    rw[ar d]
    rw[bm d] at n
   rotate_left
  rotate_left 2
  all_goals
   clear b2 H u z X C a5 e I a4 s1 s2 d1 d2 b4 d D B J
   go_enter xl,xn
   go_upto_region 6 with(first|refine Kl a ?_|refine KB a 210 3 _ λ c0 c2 c1 a=>?_)
   refine RG a 19 [1,0,3] λ c3 a n=>?_
   refine VV [0,1,2] n ?_
   refine WR 3 3 n ?_
   refine VV [4,5,6,2007,8,2009,10,11,2012,13,14,15,2016,17,2018] n ?_
   clear n
   refine WT ?_
  ·go_wp2_with((go_at_call 214;refine KC a (v.U _ (A.U.at a.U) (a.U.get (i:=6) rfl)) λ r a=>?_))
   go_end0
   exact⟨rfl,bP.mk ⟨g,G,F,Q,a6,⟨o,S,pd,P⟩,⟨t,T,a7,qv⟩,a1⟩ p q a2.U rfl a.U.tail⟩
  ·go_wp2_with(first|refine Kl a ?_|go_at_call 214;refine KC a (v.U _ (A.U.at a.U) (a.U.get (i:=6) rfl)) λ r a=>?_|go_at_call 146;(refine(C5 (m:=⟨k,c,[p,q],f,b⟩) ((((((((((((a.U).tail.ft [8]).az 8 rfl).az 8 rfl).az 8 rfl).az 8 rfl).az 8 rfl).az 8 rfl).az 8 rfl).az 8 rfl)).eX.get (i:=0) rfl) a8.U ⟨-1,0,E⟩).mono ?_);rintro e r ⟨rfl,a0,L⟩;have d:=(((((((((((a.U).tail.ft [8]).az 8 rfl).az 8 rfl).az 8 rfl).az 8 rfl).az 8 rfl).az 8 rfl).az 8 rfl).az 8 rfl)).eX.at 0 rfl L;simp only[av,ax] at d;replace a:=Z d;clear d;clear L)
   go_end0
   exact⟨rfl,bP.mk ⟨g,G,F,Q,a0,⟨o,S,pd,P⟩,⟨t,T,a7,qv⟩,a1⟩ p q a2.U (yV _ _).1 a.U.kE⟩
  ·go_wp2_with((go_at_call 214;refine KC a (v.U _ (A.U.at a.U) (a.U.get (i:=9) rfl)) λ r a=>?_))
   go_end0
   exact⟨rfl,bP.mk ⟨g,G,F,Q,a6,⟨o,S,pd,P⟩,⟨t,T,a7,qv⟩,a1⟩ p q a2.U rfl a.U.tail⟩
  ·go_wp2_with(first|refine Kl a ?_|go_at_call 214;refine KC a (v.U _ (A.U.at a.U) (a.U.get (i:=9) rfl)) λ r a=>?_|go_at_call 146;(refine(C5 (m:=⟨k,c,[p,q],f,b⟩) ((((((((((((a.U).tail.ft [8]).az 8 rfl).az 8 rfl).az 8 rfl).az 8 rfl).az 8 rfl).az 8 rfl).az 8 rfl).az 8 rfl)).eX.get (i:=0) rfl) a8.U ⟨-1,1,E⟩).mono ?_);rintro e r ⟨rfl,a0,L⟩;have d:=(((((((((((a.U).tail.ft [8]).az 8 rfl).az 8 rfl).az 8 rfl).az 8 rfl).az 8 rfl).az 8 rfl).az 8 rfl).az 8 rfl)).eX.at 0 rfl L;simp only[av,ax] at d;replace a:=Z d;clear d;clear L)
   go_end0
   exact⟨rfl,bP.mk ⟨g,G,F,Q,a0,⟨o,S,pd,P⟩,⟨t,T,a7,qv⟩,a1⟩ p q a2.U (yV _ _).1 a.U.kE⟩
 ·have d0:(a3== -1)=false:=by rw[dP];exact hd
  by_cases b3:src= -1
  ·subst b3
   by_cases b6:a3=0
   ·subst b6
    have A:ug p.n y:=by
     rcases D with h|h|h|h|h
     all_goals first|omega|exact h.2.2
    have E:=Z (λ(j:aa) (b0:ab) (N:List Y) (a9:ae R j m (Y.bd o S p.n::Y.dk o.a b0 p.n.d::N))=>Jk I a9 u.n.ok s ⟨y,B,J,A⟩)
    have v:=Z (⟨bf _,λ x hx=>by cases hx⟩:([]:List SD).length<=2/\∀x∈([]:List SD),-2<=x.1/\x.1<=0)
    have e:ME.fi ⟨k,c,[p,q],f,b⟩ ⟨-1,0,s⟩=ME.send ⟨k,c,[⟨p.n.ly s,p.a⟩,q],f,b⟩ 0 []:=((GG _ 0 s).trans (Jl _ 0 rfl s)).trans (LX ..)
    rw[e]
    generalize p.n.ly s=i at*
    clear b2 H u z X C a5 e I a4 s1 s2 d1 d2 b4 hd D B J A
    go_enter xl,xn
    go_upto_region 10 with(first|refine Kl a ?_|refine KB a 210 3 _ λ c0 c2 c1 a=>?_)
    refine RG a 15 [1,0,3] λ c3 a n=>?_
    refine VV [0,1,2002,3,4,5,2006,7,2008,9,10,2011,12,2013] n ?_
    clear n
    refine KV 14 (en 149) 81 ?_
    refine(E.U _ _ _ (a.U.ft [9,9,9,9,7,7,7,7,9,9])).mono ?_
    intro e r a8
    obtain⟨b1,L,rfl,d⟩:=a8
    replace a:=Z (zw d)
    refine⟨_,rfl,bI a [4,3,6],?_⟩
    simp only[aS,av,ax]
    refine WT ?_
    go_wp2_with((go_at_call 140;(refine(b9.U _ _ _ _ [⟨i,p.a⟩,q] _ (a.U.ft [3,1000,9,9,9,9,6,6,9,7,9,9]).eX 0 zD (by have:=v.U.1;omega) (λ x hx=>by have:=v.U.2 x hx;omega)).mono ?_);rintro e r ⟨rfl,a0,d⟩;replace a:=Z d;clear d))
    go_end0
    have d:=a.U.fs [1,1000,7,7,7,7,7,7,7,7]
    exact⟨rfl,bP.sZ (M:=⟨g,G,F,Q,a6,⟨o,b1,L,P⟩,⟨t,T,a7,qv⟩,a1⟩) (m:=⟨k,c,[⟨i,p.a⟩,q],f,b⟩) (p:=⟨i,p.a⟩) (q:=q) a2.U rfl d⟩
   ·have b7:a3=1:=by omega
    subst b7
    have A:ug q.n y:=by
     rcases D with h|h|h|h|h
     all_goals first|omega|exact h.2.2
    have E:=Z (λ(j:aa) (b0:ab) (N:List Y) (a9:ae R j m (Y.bd t T q.n::Y.dk t.a b0 q.n.d::N))=>Jk I a9 z.n.ok s ⟨y,B,J,A⟩)
    have v:=Z (⟨bf _,λ x hx=>by cases hx⟩:([]:List SD).length<=2/\∀x∈([]:List SD),-2<=x.1/\x.1<=0)
    have e:ME.fi ⟨k,c,[p,q],f,b⟩ ⟨-1,1,s⟩=ME.send ⟨k,c,[p,⟨q.n.ly s,q.a⟩],f,b⟩ 1 []:=((GG _ 1 s).trans (Jl _ 1 rfl s)).trans (LY ..)
    rw[e]
    generalize q.n.ly s=i at*
    clear b2 H u z X C a5 e I a4 s1 s2 d1 d2 b4 hd D B J A
    go_enter xl,xn
    go_upto_region 10 with(first|refine Kl a ?_|refine KB a 210 3 _ λ c0 c2 c1 a=>?_)
    refine RG a 15 [1,0,3] λ c3 a n=>?_
    refine VV [0,1,2002,3,4,5,2006,7,2008,9,10,2011,12,2013] n ?_
    clear n
    refine KV 14 (en 149) 81 ?_
    refine(E.U _ _ _ (a.U.ft [9,7,7,7,7,7,7,7,9,9])).mono ?_
    intro e r a8
    obtain⟨b1,L,rfl,d⟩:=a8
    replace a:=Z (zw d)
    refine⟨_,rfl,bI a [4,3,6],?_⟩
    simp only[aS,av,ax]
    refine WT ?_
    go_wp2_with((go_at_call 140;(refine(b9.U _ _ _ _ [p,⟨i,q.a⟩] _ (a.U.ft [3,1000,9,3,3,9,9,9,9,7,9,9]).eX 1 zD (by have:=v.U.1;omega) (λ x hx=>by have:=v.U.2 x hx;omega)).mono ?_);rintro e r ⟨rfl,a0,d⟩;replace a:=Z d;clear d))
    go_end0
    have d:=a.U.fs [1,1000,7,7,7,7,7,7,7,7]
    exact⟨rfl,bP.sZ (M:=⟨g,G,F,Q,a6,⟨o,S,pd,P⟩,⟨t,b1,L,qv⟩,a1⟩) (m:=⟨k,c,[p,⟨i,q.a⟩],f,b⟩) (p:=p) (q:=⟨i,q.a⟩) a2.U rfl d⟩
  ·have d3:(src== -1)=false:=by rw[dP];exact b3
   by_cases b6:a3=0
   ·subst b6
    have E:(0:Int)<src:=by omega
    have b8:ur p.n y:=by
     rcases D with h|h|h|h|h
     all_goals first|omega|exact h.2.2
    have c4:=Z (λ(j:aa) (b0:ab) (N:List Y) (a9:ae R j m (Y.bd o S p.n::Y.dk o.a b0 p.n.d::N))=>Kk I a9 u.n.ok (u.n.cj C) (src-1) s W ⟨y,B,J,b8⟩)
    have v:=Z (⟨(vO (u.n.cj C) (src-1) s).1,λ x hx=>by have:=(vO (u.n.cj C) (src-1) s).2 x hx;omega⟩:(p.n.hQ (src-1) s).length<=2/\∀x∈p.n.hQ (src-1) s,-2<=x.1/\x.1<=0)
    have e:ME.fi ⟨k,c,[p,q],f,b⟩ ⟨src,0,s⟩=ME.send ⟨k,c,[⟨p.n.lD (src-1) s,p.a⟩,q],f,b⟩ 0 (p.n.hQ (src-1) s):=by
     rw[show ME.fi ⟨k,c,[p,q],f,b⟩ ⟨src,0,s⟩=ME.peer ⟨k,c,[p,q],f,b⟩ 0 (if((0:Nat):Int)<src then src-1 else src) s from GH _ src 0 s b3,au (show((0:Nat):Int)<src from E)]
     exact(Km _ 0 rfl (src-1) s).trans (by rw[LX])
    rw[e]
    have f1:decide ((0:Int)<src)=true:=aT E
    have f2:IntKind.wrap .i64 (src-1)=src-1:=by rw[hh]<;>omega
    generalize p.n.lD (src-1) s=i at*
    generalize p.n.hQ (src-1) s=c8 at*
    clear b2 H u z X C a5 e I a4 s1 s2 d1 d2 b4 hd b3 E D B J b8
    go_enter xl,xn
    go_upto_if 11 with(first|(refine KL a 0 3 ?_)|(refine KB a 210 3 ([_,_,_]) λ c0 c2 c1 a=>?_))
    try rw[f1]
    go_upto_region 4 with(fail)
    refine RG a 16 [1,0,3] λ c3 a n=>?_
    refine VV [0,1,2002,3,4,5,2006,7,2008,9,10,2011,12,13,2014] n ?_
    clear n
    refine KV 15 (en 29) 29 ?_
    refine(c4.U _ _ _ (a.U.ft [9,9,9,9,7,7,7,7,9,9])).mono ?_
    intro e r a8
    obtain⟨A,c9,b1,L,rfl,d⟩:=a8
    replace a:=Z d;clear d
    refine⟨_,rfl,bI a [4,3,6],?_⟩
    simp only[aS,av,ax]
    refine WT ?_
    go_wp2_with((go_at_call 140;(refine(b9.U _ _ _ _ [⟨i,p.a⟩,q] _ (a.U.ft [3,1000,9,9,9,9,6,6,9,7,9,9]).eX 0 zD (by have:=v.U.1;omega) (λ x hx=>by have:=v.U.2 x hx;omega)).mono ?_);rintro e r ⟨rfl,a0,d⟩;replace a:=Z d;clear d))
    go_end0
    have d:=a.U.fs [1,1000,7,7,7,7,7,7,7,7]
    exact⟨rfl,bP.sZ (M:=⟨g,G,F,Q,a6,⟨o,b1,L,P⟩,⟨t,T,a7,qv⟩,a1⟩) (m:=⟨k,c,[⟨i,p.a⟩,q],f,b⟩) (p:=⟨i,p.a⟩) (q:=q) a2.U rfl d⟩
   ·have b7:a3=1:=by omega
    subst b7
    have E:¬(1:Int)<src:=by omega
    have b8:ur q.n y:=by
     rcases D with h|h|h|h|h
     all_goals first|omega|exact h.2.2
    have c4:=Z (λ(j:aa) (b0:ab) (N:List Y) (a9:ae R j m (Y.bd t T q.n::Y.dk t.a b0 q.n.d::N))=>Kk I a9 z.n.ok (z.n.cj C) src s W ⟨y,B,J,b8⟩)
    have v:=Z (⟨(vO (z.n.cj C) src s).1,λ x hx=>by have:=(vO (z.n.cj C) src s).2 x hx;omega⟩:(q.n.hQ src s).length<=2/\∀x∈q.n.hQ src s,-2<=x.1/\x.1<=0)
    have e:ME.fi ⟨k,c,[p,q],f,b⟩ ⟨src,1,s⟩=ME.send ⟨k,c,[p,⟨q.n.lD src s,q.a⟩],f,b⟩ 1 (q.n.hQ src s):=by
     rw[show ME.fi ⟨k,c,[p,q],f,b⟩ ⟨src,1,s⟩=ME.peer ⟨k,c,[p,q],f,b⟩ 1 (if((1:Nat):Int)<src then src-1 else src) s from GH _ src 1 s b3,ar (show¬((1:Nat):Int)<src from E)]
     exact(Km _ 1 rfl src s).trans (by rw[LY])
    rw[e]
    have f1:decide ((1:Int)<src)=false:=bm E
    generalize q.n.lD src s=i at*
    generalize q.n.hQ src s=c8 at*
    clear b2 H u z X C a5 e I a4 s1 s2 d1 d2 b4 hd b3 E D B J b8
    go_enter xl,xn
    go_upto_if 11 with(first|(refine KL a 0 3 ?_)|(refine KB a 210 3 ([_,_,_]) λ c0 c2 c1 a=>?_))
    try rw[f1]
    go_upto_region 4 with(fail)
    refine RG a 16 [1,0,3] λ c3 a n=>?_
    refine VV [0,1,2002,3,4,5,2006,7,2008,9,10,2011,12,13,2014] n ?_
    clear n
    refine KV 15 (en 29) 29 ?_
    refine(c4.U _ _ _ (a.U.ft [9,7,7,7,7,7,7,7,9,9])).mono ?_
    intro e r a8
    obtain⟨A,c9,b1,L,rfl,d⟩:=a8
    replace a:=Z d;clear d
    refine⟨_,rfl,bI a [4,3,6],?_⟩
    simp only[aS,av,ax]
    refine WT ?_
    go_wp2_with((go_at_call 140;(refine(b9.U _ _ _ _ [p,⟨i,q.a⟩] _ (a.U.ft [3,1000,9,3,3,9,9,9,9,7,9,9]).eX 1 zD (by have:=v.U.1;omega) (λ x hx=>by have:=v.U.2 x hx;omega)).mono ?_);rintro e r ⟨rfl,a0,d⟩;replace a:=Z d;clear d))
    go_end0
    have d:=a.U.fs [1,1000,7,7,7,7,7,7,7,7]
    exact⟨rfl,bP.sZ (M:=⟨g,G,F,Q,a6,⟨o,S,pd,P⟩,⟨t,b1,L,qv⟩,a1⟩) (m:=⟨k,c,[p,⟨i,q.a⟩],f,b⟩) (p:=p) (q:=⟨i,q.a⟩) a2.U rfl d⟩
variable{a:Act}{o:Oper}{X:Operand}{t:TypeId}
def yP(L:List PK):(bG L).length=L.length*3:=by
 induction L with
 |nil=>rfl
 |cons p L a=>
  have e:bG (p::L)=[Value.int .i64 p.src,Value.int .i64 p.dst,ad p.s]++bG L:=rfl;rw[e,bV,a,gq];simp;omega
def Ko:∀(L:List PK) (i:Nat),i<L.length->(bG L).take (i*3)++(bG L).drop ((i+1)*3)=bG (L.eraseIdx i)
 |[],i,h=>absurd h (ij _)
 |p::L,0,h=>rfl
 |p::L,i+1,h=>by
  have e:bG (p::L)=Value.int .i64 p.src::Value.int .i64 p.dst::ad p.s::bG L:=rfl
  have e2:bG ((p::L).eraseIdx (i+1))=Value.int .i64 p.src::Value.int .i64 p.dst::ad p.s::bG (L.eraseIdx i):=rfl
  rw[e,e2,<-Ko L i (by simpa using h)]
  have e3:(i+1)*3=i*3+1+1+1:=by omega
  have e4:(i+1+1)*3=(i+1)*3+1+1+1:=by omega
  rw[e4]
  generalize(i+1)*3=z at*
  subst e3
  rfl
def Kq(L:List PK):∀v∈bG L,v.oneCell'=true:=λ v a=>by
 unfold bG at a;obtain⟨l,c,b⟩:=List.mem_flatten.1 a;obtain⟨p,-,rfl⟩:=eH.1 c;simp only[bO,uf,vK] at b;rcases b with rfl|rfl|rfl<;>rfl
def Kp:∀(L:List PK) (i:Nat) {p:PK},L[i]?=some p->((bG L).drop (i*3)).take 3=[Value.int .i64 p.src,Value.int .i64 p.dst,ad p.s]
 |[],i,p,h=>by cases h
 |q::L,0,p,h=>by cases h;rfl
 |q::L,i+1,p,h=>by
  have e:bG (q::L)=Value.int .i64 q.src::Value.int .i64 q.dst::ad q.s::bG L:=rfl
  rw[e,show(i+1)*3=i*3+1+1+1 by omega]
  exact Kp L i h
def YS{w:aa}{b c:List ab}(h:(Y.row g t b).P w)(o:Nat)(e:(b.drop o).take c.length=c):w.rangeAt g o c:=by
 intro j v a;have d:ah w g t b.toArray:=h;rw[d.cell];rw[<-e,wZ] at a;split at a
 ·rw[wY] at a;simpa using a
 ·cases a
def W3{w:aa}{L:List PK}{c:List ab}{p:PK}(h:(Y.row g 210 (bG L++c)).P w)(a:L[i]?=some p)(b:n=i*3):w.rangeAt g n [O p.src,O p.dst,ad p.s]:=by
 subst b;refine YS h _ ?_;have e:i<L.length:=(cw.1 a).1;have d:=yP L;rw[wX W,w7 (by rw[lT];simp;omega)];exact Kp L i a
def rM(n:Nat):List ab:=(madeCells #[O 0,O 0,ad ⟨#[]⟩] (n*3)).toList
def Kr(X a:List ab)(o n:Nat)(h:o+n<=X.length):((X++a).drop o).take n=(X.drop o).take n:=by
 rw[wX W,w7 (by rw[lT];omega)]
def Ab(n:Nat):(rM n).length=n*3:=by simp[rM,madeCells]
def TQ:(prog.info? 210).map (λ i=>(i.zero,i.size,i.bytes))=some (some (aG #[O 0,O 0,ad ⟨#[]⟩]),3,32):=by kernel_rfl
def Vm(n:Nat)(f:n<=1000)(w:aa):(Instr.makeSlice 118 (O (n:Int)) (O (n:Int))).run prog w= .ok (ag (some ⟨w.heap.size,0,none⟩) n n) (w.alloc (.cells (rM n).toArray 210)):=by
 obtain⟨e,b,c,a,d⟩:=iB TQ;have h:=run_makeSlice (P:=prog) w 118 210 e _ xp b c .i64 .i64 (n:Int) (n:Int) W (wT _) (by rw[a];simp;omega) (by rw[d];simp;omega) W;rw[h,mW,a];rfl
def Vz{wr:aa}(c:o.op= .makeSlice 118 X X)(hx:a.eval X=O (n:Int))(b:n<=1000):(execOp a.eval o).run prog wr= .ok (.value (bc (some n) wr.heap.size)) (wr.alloc (.cells (rM n).toArray 210)):=by
 have d:=Vm n b wr;unfold execOp;simp only[c,hx,d,cO,dN,dd];rfl
def PX{A B a:List ab}(c:A.length=i*3)(d:B.length=(n-i)*3)(f:a.length=n*3)(e:i<=n){b:List ab}(h1:b=a.take 0++(A++a.drop (0+A.length))):b.take (i*3)++(B++b.drop (i*3+B.length))=A++B:=by
 subst h1;rw[oE,jA,dz];have e1:(A++a.drop A.length).take (i*3)=A:=by rw[<-c,List.take_left]
 have e2:(A++a.drop A.length).drop (i*3+B.length)=[]:=by
  apply kc;rw[bV,lT];omega
 rw[e1,e2,oz]
def PV{A b:List ab}(c:A.length=n*3)(d:b.length=n*3){a:List ab}(h1:a=b.take 0++(A++b.drop (0+A.length))):a.take g++(([]:List ab)++a.drop (g+([]:List ab).length))=A:=by
 subst h1;rw[jA,ub,fA,nf,oE,jA,dz,c,kc W,oz]
def AO(c:aa)(a:List Nat)(g:Nat)(E:Nat)(m:ME)(e:Ending)(b:aa):Prop:=e=ao (O (E:Int))/\bP c b a g m
def Ve{E w:aa}{K:Nat}(a8:TM m E)(h:bP E w m g M)(r:M.aI K)(x:AC)(a3:0<=x.a)(c7:x.a<=255)(c1:x.c=1)(a4:x.a=0)(b0:M.b.length=0\/dG M=true):
 Calls prog 67 #[pV g,x.val] w (AO E m g (M.rk x.c) (M.bS x.c x.a)):=by
 obtain⟨d8,p,q,rfl,d,c2,a⟩:=h
 obtain⟨k,c,l,b,o⟩:=M
 simp only at c2
 subst c2
 have a0:=r.pl p zS
 have a7:=r.pl q zS
 have T:=r.b
 have a6:=r.p1
 have X:=r.now
 simp only at a0 a7 T a6 X
 obtain⟨g,G,I,S,b1,⟨C,L,pd,J⟩,⟨D,P,N,qv⟩,a5⟩:=d8
 have b6:ai (2<=I):=Z d
 clear d
 have d:ai (ae E w m [Y.row g 126 (ME.cells ⟨k,c,[p,q],b,o⟩ S (ag (some ⟨G,0,none⟩) 2 I) b1),Y.ow 210 3 b1 b.length (bG b),Y.row G 129 (nV ⟨C,L,pd,J⟩ ⟨D,P,N,qv⟩ a5),Y.bd C L p.n,Y.dk C.a pd p.n.d,Y.vw J p.a,Y.bd D P q.n,Y.dk D.a N q.n.d,Y.vw qv q.a]):=Z a
 obtain⟨f9,t,c9,d0,d1⟩:=x
 simp only at a3 c7 c1 a4
 subst c1
 show Calls prog 67 #[pV g,aG #[O 1,O t,O c9,U (d0:Int),ad d1]] w (AO E m g (ME.rk ⟨k,c,[p,q],b,o⟩ 1) (ME.bS ⟨k,c,[p,q],b,o⟩ 1 t))
 by_cases B:b.length=0
 ·have e1:ME.rk ⟨k,c,[p,q],b,o⟩ 1=5:=au B
  have c4:b=[]:=ig B
  have e2:ME.bS ⟨k,c,[p,q],b,o⟩ 1 t=⟨k,c,[p,q],b,o⟩:=by subst c4;rfl
  rw[e1,e2]
  obtain⟨e3,e4,a9,-⟩:=da (show w.ownsRow 0 210 3 b1 b.length (bG b) from d.U.get (i:=1) rfl)
  subst a9 c4
  clear a r a0 a7 T a6 X e1 e2 a8 B b0 a4
  go_enter func67,ntmps67
  go_wp2_with(first|refine Kl d ?_|refine KB d 55 3 _ λ b8 F e0 d=>?_)
  go_ret
  exact⟨rfl,bP.mk ⟨g,G,I,S,ag e3 0 e4,⟨C,L,pd,J⟩,⟨D,P,N,qv⟩,a5⟩ p q b6.U rfl d.U.tail⟩
 ·have a1:t.toNat%b.length<b.length:=cy _ W
  obtain⟨i,v⟩:∃i,t.toNat%b.length=i:=⟨_,rfl⟩
  rw[v] at a1
  obtain⟨⟨src,u,s⟩,j⟩:∃z,b[i]?=some z:=⟨b[i],aU a1⟩
  have a2:=r.g ⟨src,u,s⟩ (cX j)
  obtain⟨b9,A,d4,a9,d9,b4,c8,n⟩:=vN d.U 1 rfl B
  subst a9
  simp only[av,ax] at n
  clear d a
  have d:=Z n
  clear n
  have g0:t.tmod (b.length:Int)=(i:Int):=by
   rw[fz a3,<-v]
   have e:((t.toNat%b.length:Nat):Int)=(t.toNat:Int)%(b.length:Int):=Int.natCast_emod _ _
   rw[e,Int.toNat_of_nonneg a3]
  have g1:IntKind.wrap .i64 (i:Int)=(i:Int):=by rw[hh]<;>omega
  have e5:((b.length:Int)==0)=false:=by rw[dP];omega
  have f8:(i:Int)<(b.length:Int):=by omega
  have f0:(0:Int)<=(i:Int):=by omega
  have d6:=Z j
  have k3:¬(1:Int)=3:=by decide
  have e6:((1:Int)==3)=false:=rfl
  have e1:ME.rk ⟨k,c,[p,q],b,o⟩ 1=0:=(ar B).trans (ar k3)
  have e2:ME.bS ⟨k,c,[p,q],b,o⟩ 1 t=if(1:Int)=4 then ME.put ⟨k,c,[p,q],b.eraseIdx i,o⟩ ⟨src,u,s⟩ else if(1:Int)=1 then ME.fi ⟨k,c,[p,q],b.eraseIdx i,o⟩ ⟨src,u,s⟩ else⟨k,c,[p,q],b.eraseIdx i,o⟩:=by
   unfold ME.bS
   dsimp only
   rw[v,j]
   dsimp only
   rw[ar k3]
  rw[e1,e2]
  obtain⟨d2,a⟩:∃d2,(if(1:Int)=4 then ME.put ⟨k,c,[p,q],b.eraseIdx i,o⟩ ⟨src,u,s⟩ else if(1:Int)=1 then ME.fi ⟨k,c,[p,q],b.eraseIdx i,o⟩ ⟨src,u,s⟩ else⟨k,c,[p,q],b.eraseIdx i,o⟩)=d2:=⟨_,rfl⟩
  rw[a]
  have b7:=Z a
  clear a
  have R:(b.eraseIdx i).length=b.length-1:=List.length_eraseIdx_of_lt a1
  have Q:ME.aI K ⟨k,c,[p,q],b.eraseIdx i,o⟩:=r.JU (by rw[R];show b.length-1<=64;omega) (λ z B=>r.g z (AH B))
  have b2:∃y,dV s= .ok y/\y.b.a.size=y.b.b.size/\tP p q ⟨src,u,s⟩ y:=by
   have H:b=⟨src,u,s⟩::b.tail:=by
    rw[<-v,a4] at j
    cases b with
    |nil=>cases j
    |cons a l=>rw[show(0:Int).toNat%(a::l).length=0 from AY _] at j;cases j;rfl
   have f:=b0.resolve_left B
   rw[H] at f
   exact W8 f
  have b3:=Z (λ(d3:aa) (a:bP E d3 m g ⟨k,c,[p,q],b.eraseIdx i,o⟩)=>Vc a8 a Q ⟨src,u,s⟩ a2 (λ f y e=>by cases e;exact b2))
  have c5:(⟨k,c,[p,q],b.eraseIdx i,o⟩:ME).b.length<=64:=Q.b
  have d5:=Z c5
  have b5:=Ko b i a1
  have c6:=yP b
  obtain⟨f,c0⟩:∃f,b.length=f+1:=⟨b.length-1,by omega⟩
  have g2:IntKind.wrap .i64 ((b.length:Int)-1)=(f:Int):=by rw[hh]<;>omega
  have g3:IntKind.wrap .i64 ((i:Int)+1)=((i+1:Nat):Int):=by rw[hh]<;>omega
  have y:(b.eraseIdx i).length=f:=by rw[R];omega
  have H:i<=f:=by omega
  have c3:f<=1000:=by omega
  have a:=Z (⟨b5,c6,c0,y,H,c3⟩:(bG b).take (i*3)++(bG b).drop ((i+1)*3)=bG (b.eraseIdx i)/\(bG b).length=b.length*3/\b.length=f+1/\(b.eraseIdx i).length=f/\i<=f/\f<=1000)
  have d7:=Z (⟨d9,b4,c8⟩:b.length<=A/\A<=maxLen/\(bG b++d4).length=A*3)
  have e7:(i:Int)<=(f:Int):=by omega
  have e8:((i+1:Nat):Int)<=(b.length:Int):=by omega
  clear r a0 a7 T a6 X e1 e2 a8 v a2 a3 c7 Q c5 b5 c6 R b4 c8 j c0 y H c3 b0 a4 b2
  go_enter func67,ntmps67
  go_upto_region 3 with(first|refine Kl d ?_|refine KB d 55 3 _ λ b8 F e0 d=>?_)
  refine RG d 8 [1,0] λ c3 d y=>?_
  refine VV [0,2001,2,3,4,2005,6] y ?_
  refine W2 7 21 (v:=O (i:Int)) rfl rfl (Or.inl ⟨by kernel_rfl,λ d3 c6=>by(go_simp;done)⟩) y ?_
  clear y
  refine WT ?_
  go_upto_region 7 with(first|refine Kl d ?_|refine KS d λ F d=>?_|refine KA d _ 6 ace λ c5 F c8 d=>?_|refine hj rfl 210 3 rfl rfl (W3 (d.U.get (i:=2) rfl) d6.U zR) rfl V ?_)
  have T:ai (((bG b).drop 0).take (i*3)=(bG b).take (i*3)):=Z rfl
  go_upto_region 8 with(first|refine Kl d ?_|(with_reducible show wpList _ _ _ (⟨_,.makeSlice _ _ _,_,_,_,_⟩::_) _ _);(refine Mk d.U rfl 41 rfl (some f) 210 (rM f) (Vz rfl rfl a.U.2.2.2.2.2) λ X F e9 n=>?_;replace d:=Z n;clear n;simp only[bc]))
  go_upto_region 9 with(first|refine Kl d ?_|refine As d.U rfl vb rfl 0 rfl rfl rfl i ⟨aQ _,a.U.2.2.2.2.1,.inl rfl⟩ (((bG b).drop 0).take (i*3)) (by rw[T.U,eA];have:=a.U.2.1;have:=a.U.2.2.1;have:=a.U.2.2.2.2.1;omega) (λ j v Q=>LB d.U 4 rfl 0 (i*3) j v (by rw[Kr _ _ _ _ (by have:=a.U.2.1;have:=a.U.2.2.1;have:=a.U.2.2.2.2.1;omega)];exact Q)) (by rw[Ab];have:=a.U.2.2.2.2.1;omega) (λ v R=>Kq b v (uc (oC R))) ?_;intro F n;simp only[av,ax] at n;replace d:=Z n;clear n)
  try simp only[yW,KJ,aS,av,ax]
  have n:=d.U
  obtain⟨a6,a0⟩:∃a6,a6=(rM f).take 0++((((bG b).drop 0).take (i*3))++(rM f).drop (0+(((bG b).drop 0).take (i*3)).length)):=⟨_,rfl⟩
  rw[<-a0] at n
  clear d
  have d:=Z n
  have a7:(((bG b).drop 0).take (i*3)).length=i*3:=by rw[T.U,eA];have:=a.U.2.1;have:=a.U.2.2.1;have:=a.U.2.2.2.2.1;omega
  have c0:a6.length=f*3:=by
   rw[a0,oE,jA,bV,lT,a7,Ab];have:=a.U.2.2.2.2.1;omega
  have b4:=Z a0;have b5:=Z c0;have b2:=Z a7
  clear n a0 c0 a7
  go_cut [] from 50 to 60 (λ a0=>ae E a0 m (Y.row X 210 (bG (b.eraseIdx i))::[Y.row c5 210 [O src,O u,ad s],Y.row b8 55 [O 1,O t,O c9,U (d0:Int),ad d1],Y.row g 126 (ME.cells ⟨k,c,[p,q],b,o⟩ S (ag (some ⟨G,0,none⟩) 2 I) (ag (some ⟨b9,0,none⟩) b.length A)),Y.row b9 210 (bG b++d4),Y.row G 129 (nV ⟨C,L,pd,J⟩ ⟨D,P,N,qv⟩ a5),Y.bd C L p.n,Y.dk C.a pd p.n.d,Y.vw J p.a,Y.bd D P q.n,Y.dk D.a N q.n.d,Y.vw qv q.a]))
  case first=>
   clear b3 d5
   by_cases H:i=f
   ·have a7:i=f:=H
    subst a7
    have f5:(0:Int)<=(i:Int)+1:=by omega
    have f6:(i:Int)+1<=(b.length:Int):=by have:=a.U.2.2.1;omega
    by_cases a0:A=i+1
    focus have f7:(A=i+1)=True:=eq_true a0
    rotate_left
    focus have f7:¬A=i+1:=a0
    all_goals
     clear H a0
     refine RG d 10 [3] λ c3 d y=>?_
     refine VV [0,1,2,3,4,5,2006,7,8,9] y ?_
     clear y
     refine WT ?_
     go_wp2_with((refine As d.U rfl vb rfl 0 rfl rfl rfl 0 ⟨bf _,bf _,.inr W⟩ [] rfl (λ j v Q=>by cases Q) (by rw[b5.U];omega) (λ v R=>by cases R) ?_;intro F n;simp only[av,ax] at n;replace d:=Z n;clear n))
     go_meet
     have n:=d.U
     rw[PV b2.U (Ab i) b4.U] at n
     rw[show((bG b).drop 0).take (i*3)=bG (b.eraseIdx i) from by rw[T.U,<-a.U.1,kc (by have:=a.U.2.1;have:=a.U.2.2.1;omega),oz]] at n
     exact n
   ·have a0:i<f:=by have:=a.U.2.2.2.2.1;omega
    have f1:¬(i:Int)=(f:Int):=by omega
    have f2:(i:Int)<(f:Int):=by omega
    have f3:¬(f:Int)=(i:Int):=by omega
    have f4:¬f=i:=by omega
    have f5:(0:Int)<=(i:Int)+1:=by omega
    have f6:(i:Int)+1<=(b.length:Int):=by have:=a.U.2.2.1;omega
    have f7:¬A=i+1:=by have:=a.U.2.2.1;have:=d7.U.1;omega
    clear H a0
    refine RG d 10 [3] λ c3 d y=>?_
    refine VV [0,1,2,3,4,5,2006,7,8,9] y ?_
    clear y
    refine WT ?_
    go_wp2_with((refine As d.U rfl vb rfl 0 rfl rfl rfl (f-i) ⟨by have:=a.U.2.2.1;have:=a.U.2.2.2.2.1;omega,by omega,.inr W⟩ (((bG b).drop ((i+1)*3)).take ((f-i)*3)) (by rw[eA,lT];have:=a.U.2.1;have:=a.U.2.2.1;have:=a.U.2.2.2.2.1;omega) (λ j v Q=>LB d.U 4 rfl ((i+1)*3) ((f-i)*3) j v (by rw[Kr _ _ _ _ (by have:=a.U.2.1;have:=a.U.2.2.1;have:=a.U.2.2.2.2.1;omega)];exact Q)) (by rw[b5.U];have:=a.U.2.2.2.2.1;omega) (λ v R=>Kq b v (uc (oC R))) ?_;intro F n;simp only[av,ax] at n;replace d:=Z n;clear n))
    go_meet
    have n:=d.U
    have y:(((bG b).drop ((i+1)*3)).take ((f-i)*3)).length=(f-i)*3:=by rw[eA,lT];have:=a.U.2.1;have:=a.U.2.2.1;have:=a.U.2.2.2.2.1;omega
    rw[PX b2.U y (Ab f) a.U.2.2.2.2.1 b4.U] at n
    rw[show((bG b).drop 0).take (i*3)++((bG b).drop ((i+1)*3)).take ((f-i)*3)=bG (b.eraseIdx i) from by rw[T.U,<-a.U.1,bK (i:=(f-i)*3) (by rw[lT];have:=a.U.2.1;have:=a.U.2.2.1;omega)]] at n
    exact n
  case rest=>
   clear d
   have d:=Z hcut
   clear hcut
   have y:=b7.U
   rw[ar zD,au rfl] at y
   have a7:=Z y
   clear b7 y
   go_wp2_with(first|refine Kl d ?_|refine KT d 3 ?_|refine KS d λ F d=>?_|go_at_call 147;have H:=bP.mk (m:=⟨k,c,[p,q],b.eraseIdx i,o⟩) ⟨g,G,I,S,ag (some ⟨X,0,none⟩) f f,⟨C,L,pd,J⟩,⟨D,P,N,qv⟩,a5⟩ p q b6.U rfl (show ae E _ m (Y.row g 126 (ME.cells ⟨k,c,[p,q],b.eraseIdx i,o⟩ S (ag (some ⟨G,0,none⟩) 2 I) (ag (some ⟨X,0,none⟩) f f))::Y.ow 210 3 (ag (some ⟨X,0,none⟩) f f) (⟨k,c,[p,q],b.eraseIdx i,o⟩:ME).b.length (bG (b.eraseIdx i))::_) from by rw[show(⟨k,c,[p,q],b.eraseIdx i,o⟩:ME).b.length=f from a.U.2.2.2.1];exact(v8 (d.U.ft [1,1000,1,1000,2,1000,8,8,8,8,8,8,8,7,8]) 1 rfl f f 3 (aQ _) (by have:=a.U.2.2.2.2.2;unfold maxLen;omega) (by rw[yP,a.U.2.2.2.1]) (bG (b.eraseIdx i)) (by rw[bK (by rw[yP,a.U.2.2.2.1];exact aQ _)])));(refine(b3.U _ H).mono ?_);intro e c0 a2;obtain⟨rfl,a0⟩:=a2;clear d;have b7:=Z a0;clear H a0)
   go_ret
   exact⟨rfl,by rw[<-a7.U];exact b7.U⟩
