import Derived.Test.YtncpbkoinennoaaGreatDoorMBI
set_option linter.all false
set_option maxRecDepth 100000
set_option maxHeartbeats 0
namespace Go.Proofs.YtncpbkoinennoaaGreatDoor
open Go.RowKit Proofs.Tryz
attribute [local irreducible] wpList Calls
variable{C:CF}{d:DK}{E:JN}{G:MG}{N:ND}{g:Nat}
def wB(h:d.bL)(a:Int):(d.bR a).Still:=by
 have g:=DA.yx d.ds 0 zD d.a (DA.stays d.a a) (λ p b=>h.two p b) h.l0;have i:=DA.yx d.ds 1 zD d.a (DA.stays d.a a) (λ p b=>h.two p b) h.l1;have f:=(DA.yw d.ds d.a (DA.stays d.a a)).2;have c:=h.fits;have e:=h.room;have e0:(d.bR a).f0=(DA.fi d.ds d.a (DA.stays d.a a)).file 0:=rfl;have e1:(d.bR a).f1=(DA.fi d.ds d.a (DA.stays d.a a)).file 1:=rfl;have e2:(d.bR a).room=d.room:=f;have x0:d.ds.file 0=d.ds.f0:=rfl;have x1:d.ds.file 1=d.ds.f1:=rfl;rw[x0] at g;rw[x1] at i;have b:d.ds.room=d.room:=rfl;rw[b] at c e;refine⟨?_,?_,rfl⟩
 ·grind
 omega
def wA(d:DK)(a:Int):(d.bR a).room=d.room:=(DA.yw d.ds d.a (DA.stays d.a a)).2
def Je(d:DK)(f:Nat)(s:ag):(d.put f s).room=d.room:=by
 unfold DK.put;split
 ·rfl
 ·unfold DK.iY;grind
def Dj(d:DK)(f n:Nat):(d.trim f n).room=d.room:=by
 unfold DK.trim;split
 ·rfl
 ·split
  ·rfl
  ·unfold DK.iY;grind
def ID(d:DK):(fG d).room=d.room:=by
 unfold fG;rw[Dj,Dj];rfl
def Jx(s:ag):∀(n:Nat) (l:List ag) (a:Nat),5*l.length<=a->a<=s.size->5*(pg s n l a).1.length<=s.size
 |0,l,a,b,c=>by show 5*l.length<=_;omega
 |n+1,l,a,b,c=>by
  by_cases h:(dq (s.extract a s.size)).size=0
  ·rw[xP n h];grind
  ·rw[xQ n h]
   obtain⟨e,d,f⟩:=BG h
   have q4:=(se (dq (s.extract a s.size))).2.2
   refine Jx s n _ _ ?_ d
   grind
def sq(d:DK):5*(eA d).l.length<=d.f0.size:=by
 unfold eA;dsimp only;unfold nD eT;exact Jx d.f0 _ [] 0 zS (bh _)
structure ND.aI(c:CF)(K:Nat)(n:ND):Prop where
 ok:n.Ok
 f:n.c=c
 bN:n.bN=0
 id:n.id<=K+1
 q:n.j.l.length<=20000+K
 still:n.j.cut=true\/n.d.Still
 e:n.d.bL
 d:n.d.room=100000
 h:n.st.bL c.room
 kg:n.st.Good c.key
def ND.aI.mono{K L:Nat}(h:N.aI C K)(a:K<=L):N.aI C L:={h with id:=by have:=h.id;omega,q:=by have:=h.q;omega}
def ND.aI.bG{c:CF}{K:Nat}{n:ND}(h:n.aI c K)(a:c.bG=1):n.c.bG=1:=by rw[h.f];exact a
def ND.aI.dV{c:CF}{K:Nat}{n:ND}(h:n.aI c K):n.dV.aI c K:={h with ok:={h.ok with bq:=iX _ _}}
def ND.aI.tick{K:Nat}(h:N.aI C K)(m:K<=50000)(j:C.bG=1)(b a:Nat):(N.fP b a).aI C (K+1):=by
 have Z:=h.id;have g:=Gl h.ok b a;obtain⟨s1,s2,s3,s4,s5,s6,s7,s8⟩:=Bi N b a;have i:=MQ g W b a;obtain⟨k,f,n,q4,l,d,o,p⟩:=AO (N.cx b a) b a;have c:((N.cx b a).eL b a).aI C (K+1):=by
  have e:=h.q;refine⟨i,k.trans (s1.trans h.f),q4.trans (s4.trans h.bN),by omega,?_,?_,?_,?_,?_,?_⟩
  ·grind
  ·rw[l,s5,d,s6];exact h.still
  ·rw[d,s6];exact h.e
  ·rw[d,s6];exact h.d
  ·rw[f,s2];exact h.h
  ·rw[f,s2];exact h.kg
 by_cases e:b<N.tell
 ·rw[(KZ (draw:=a) e).1];exact c
 ·rw[(K0 (draw:=a) (h.bG j) h.bN e).1];exact{c with ok:={c.ok with tell:=iX _ _,bN:=bh _},bN:=rfl}
def UF{s:ag}(h:df E d s=0)(a:E.cut=true\/d.Still):d.Still:=by
 rcases a with b|c
 ·unfold df at h;grind
 grind
def Mq{s:ag}(b:E.cut=true\/d.Still)(a:df E d s=0):(hU E d s).Still:=by
 unfold hU;rw[ax a];exact((UF a b).put 0 zD (aY s)).2.2
def uP(h:d.Still):d.a.length<=1000:=by rw[h.none];simp
def ND.aI.bZ{c:CF}{K:Nat}{n:ND}(h:n.aI c K)(l:K<=50000){m:MG}(j:m.Ok):(n.bZ m).aI c (K+1):=by
 have f:n.aI c (K+1):=h.mono (gh _);unfold ND.bZ;split
 ·split
  ·rename_i _ e;have a:=Mq h.still e;have b:(bS n.c n.st m).1.bL c.room:=by rw[h.f];exact Bh h.h j
   have i:(bS n.c n.st m).1.Good c.key:=by rw[h.f];exact Ge h.kg m
   have o:=h.q;have g:=h.ok.c.a;rw[h.f] at g;have p:(hS n.j n.d m.enc).l.length=n.j.l.length+1:=by unfold hS;rw[ax e];show(n.j.l++[m.enc]).length=_;rw[bA];rfl
   have hcut:(hS n.j n.d m.enc).cut=n.j.cut:=by unfold hS;split<;>rfl
   refine⟨{h.ok with ar:=b.ar,o:=?_,f:=b.f,q:=?_,d:=a.ok,dl:=uP a},h.f,h.bN,f.id,?_,.inr a,a.cd,?_,b,i⟩
   ·have:=b.len;grind
   ·grind
   ·grind
   ·show(hU n.j n.d m.enc).room=100000;unfold hU;rw[ax e];exact(Je _ _ _).trans h.d
  grind
 grind
def ND.aI.peer{K:Nat}(h:N.aI C K)(e:K<=50000)(c:Int)(s:ag):(N.dU c s).aI C (K+1):=by
 have d:N.aI C (K+1):=h.mono (gh _);unfold ND.dU;split
 ·exact d.dV
 ·rename_i m a;have f:m.Ok:=by
   unfold jH at a;split at a
   ·cases a
   ·rename_i g hd;split at a
    ·cases a;exact(ny hd).1
    grind
  have b:=h.bZ e f;split
  ·unfold ND.mn;split
   ·exact b.dV
   grind
  ·split
   ·unfold ND.nN;split
    ·exact b.dV
    grind
   grind
def TU(h:G.Ok):(kept G).Ok:={h with id:=ck _}
def ND.aI.log{K:Nat}(h:N.aI C K)(c:K<=50000)(s:ag):(N.gw s).aI C (K+1):=by
 have a:N.aI C (K+1):=h.mono (gh _);unfold ND.gw;split
 ·exact a.dV
 ·rename_i m hd;split
  ·have b:ND.aI C K {N with g:=none}:={h with ok:={h.ok with g:=λ r e=>by cases e}};have d:=b.bZ c (TU (ny hd).1);dsimp only;split
   ·exact d.dV
   grind
  ·exact a.dV
def Z9(d:DK):d.bN.room=d.room:=by unfold DK.bN;grind
def Gb(d:DK)(b:ag)(k:Nat)(g:k<=4):(ez d b k).room=d.room:=by
 have a:(ez d b 1).room=d.room:=Je d 1 b;have c:(ez d b 2).room=d.room:=a;have e:(ez d b 3).room=d.room:=(Z9 (ez d b 2)).trans c;have f:(ez d b 4).room=d.room:=(Dj (ez d b 3) 1 0).trans e;rcases k with _|_|_|_|_|k
 ·rfl
 ·exact a
 ·exact c
 ·exact e
 ·exact f
 ·omega
def Ga(h:d.Still)(b:ag)(k:Nat)(a:k<=4):(ez d b k).bL/\(ez d b k).a.length<=1000/\(k=4->(ez d b k).Still):=by
 have p:=h.put 1 zD b;have t:=p.2.2.bN;have m:=t.1.trim;rcases k with _|_|_|_|_|k
 ·exact⟨h.cd,uP h,λ h=>absurd h zD⟩
 ·exact⟨p.1,by have:=p.2.1;show(d.put 1 b).a.length<=_;omega,λ h=>absurd h zD⟩
 ·exact⟨p.2.2.cd,bh _,λ h=>absurd h zD⟩
 ·exact⟨t.1.cd,uP t.1,λ h=>absurd h zD⟩
 ·exact⟨m.1.cd,uP m.1,λ _=>m.1⟩
 ·omega
def Xe{n:ND}(h:n.st.f.length<=g):n.eb.length<=g+2:=by
 unfold ND.eb;grind
def ND.aI.jd{K:Nat}(h:N.aI C K)(b:K<=g)(e:g<=60000)(h1:E.l.length<=20000+g)(h2:E.cut=true\/d.Still)(h3:d.bL)(h4:d.a.length<=1000)(h5:d.room=100000):ND.aI C g {N with j:=E,d:=d}:=by
 have a:=h.mono b;exact{a with ok:={a.ok with q:=(by grind),d:=h3.ok,dl:=h4},q:=h1,still:=h2,e:=h3,d:=h5}
def ND.aI.renew{K:Nat}(h:N.aI C K)(n:K<=50000)(k:Nat):(N.lz k).aI C (K+1):=by
 have o:=h.q;unfold ND.lz;by_cases b:N.j.cut=true\/N.j.sure<N.j.l.length
 ·obtain⟨-,e1,e2⟩:=JE (d:=N.d) (l:=N.eb) (n:=k) b;rw[e1,e2];exact h.jd (gh _) W W h.still h.e h.ok.dl h.d
 ·have j:N.d.Still:=h.still.resolve_left (λ e=>b (.inl e));by_cases c:cd N.eb
  ·by_cases a:k=0\/N.d.cC (bm N.eb)=0
   ·by_cases i:k<4
    ·obtain⟨-,e1,e2⟩:=JD b c a i;rw[e1,e2];obtain⟨f,g,-⟩:=Ga j (bm N.eb) k W;exact h.jd (gh _) W (by grind) (.inl rfl) f g ((Gb _ _ _ W).trans h.d)
    ·have h00:N.d.cC (bm N.eb)=0:=by
      rcases a with a|a
      ·omega
      ·exact a
     obtain⟨-,e1,e2⟩:=JF b c h00 i;rw[e1,e2];obtain⟨f,g,m⟩:=Ga j (bm N.eb) 4 W;have p:=Xe (n:=N) h.h.len;have e:=h.ok.c.a;rw[h.f] at e;exact h.jd (gh _) W (by grind) (.inr (m rfl)) f g ((Gb _ _ _ W).trans h.d)
   ·obtain⟨-,e1,e2⟩:=JA b c (λ h=>a (.inl h)) (λ h=>a (.inr h));have e3:sM 0 N.d (bm N.eb)=N.d:=by
     have f:¬N.d.cC (bm N.eb)=0:=λ h=>a (.inr h);show N.d.put 1 (bm N.eb)=N.d;unfold DK.cC at f;unfold DK.put;split at f
     ·grind
     ·omega
    rw[e1,e2,e3];exact h.jd (gh _) W W h.still h.e h.ok.dl h.d
  ·obtain⟨-,e1,e2⟩:=JC (d:=N.d) (n:=k) b c;rw[e1,e2];exact h.jd (gh _) W W h.still h.e h.ok.dl h.d
def ND.aI.Fl(e:C.bL)(hd:d.Ok)(j:d.room=100000)(h:gq C d=some N):N.aI C 0:=by
 unfold gq at h;have b:=CD hd;have g:=sq d.sync;have l:=hd.fit;have e1:d.sync.f0=d.f0:=rfl;rw[e1] at g;have i:(eA d.sync).l.length<=20000:=by omega
 have k:=(ID d).trans j;generalize eA d.sync=J at*;generalize fG d=D at*;cases a:gr C J.l fj with
 |none=>grind
 |some s=>
  rw[a] at h;cases h
  have c:=Fq _ (yM C.room) a;have f:=Fs _ (aaX C.key) a;exact⟨AV e c W b,rfl,rfl,aW _,i,.inr b,b.cd,k,c,f⟩
def ND.aI.X1{K:Nat}(h:N.aI C K)(a:d.Still)(c:d.room=100000):ND.aI C K {N with d:=d}:=
 {h with ok:={h.ok with d:=a.ok,dl:=uP a},still:= .inr a,e:=a.cd,d:=c}
def ND.aI.Ot{c:CF}{K:Nat}{n:ND}(h:n.aI c K)(a:Int){b:ND}(d:gq c (n.d.bR a)=some b):b.aI c K:=by
 have g:=wB h.e a;have f:(n.d.bR a).room=100000:=(wA _ _).trans h.d;have e:c.bL:=by have:=h.ok.c;rw[h.f] at this;exact this
 exact(ND.aI.Fl e g.ok f d).mono (bh _)
def ND.aI.Oq{c:CF}{K:Nat}{n:ND}(h:n.aI c K)(a:Int):ND.aI c K {n with d:=fG (n.d.bR a)}:=by
 have g:=wB h.e a;have e:(n.d.bR a).room=100000:=(wA _ _).trans h.d;generalize n.d.bR a=D at*;have b:=CD g.ok;have f:=(ID D).trans e;generalize fG D=D2 at*;exact h.X1 b f
variable{r:Int}{M:ME}{i:Nat}
structure PK.Ok(p:PK):Prop where
 s1: -1<=p.src
 s2:p.src<=1
 d1: -1<=p.dst
 d2:p.dst<=1
 ne:¬(p.src= -1/\p.dst= -1)
structure PL.aI(c:CF)(K:Nat)(p:PL):Prop where
 n:p.n.aI c K
 len:p.a.length<=12
 a:∀s∈p.a,s.size<=40
structure ME.aI(K:Nat)(m:ME):Prop where
 c:m.c.bL
 p1:m.c.bG=1
 key:m.c.key=m.k.pub
 k:m.k.Ok
 two:m.l.length=2
 pl:∀p∈m.l,p.aI m.c K
 b:m.b.length<=64
 g:∀p∈m.b,p.Ok
 now:m.now<18446744073709551616
def PL.aI.mono{c:CF}{K L:Nat}{p:PL}(h:p.aI c K)(a:K<=L):p.aI c L:=⟨h.n.mono a,h.len,h.a⟩
def ME.aI.mono{K L:Nat}{m:ME}(h:m.aI K)(a:K<=L):m.aI L:={h with pl:=λ p b=>(h.pl p b).mono a}
def ME.aI.at{K:Nat}{m:ME}(h:m.aI K)(b:i<2):∃p,m.l[i]?=some p/\p.aI m.c K:=by
 have a:i<m.l.length:=by rw[h.two];exact b
 exact⟨m.l[i],ba a,h.pl _ (cY a)⟩
def ME.aI.put{K:Nat}{m:ME}(h:m.aI K){p:PK}(b:p.Ok):(m.put p).aI K:=by
 unfold ME.put;split
 ·exact h
 ·refine{h with b:=?_,g:=λ q a=> ?_}
  ·grind
  ·rcases eJ.1 a with a|a
   ·exact h.g q a
   grind
def ME.aI.fO{K:Nat}{m:ME}(h:m.aI K){i:Nat}(a:i<2){x:SD}(hx:x.1<=0):(ME.fO i m x).aI K:=by
 unfold ME.fO;split
 ·refine h.put ⟨?_,?_,?_,?_,?_⟩<;>simp only<;>omega
 ·split
  ·exact h
  ·refine h.put ⟨?_,?_,?_,?_,?_⟩<;>simp only<;>omega
def ME.aI.send{K:Nat}{i:Nat}(a:i<2):∀(L:List SD) {m:ME},m.aI K->(∀x∈L,x.1<=0)->(m.send i L).aI K
 |[],m,h,_=>h
 |x::L,m,h,hx=>ME.aI.send (m:=ME.fO i m x) a L (h.fO a (hx x mZ)) (λ y b=>hx y (mQ b))
def ME.aI.eU{K L:Nat}{m:ME}(h:m.aI K)(c:K<=L)(i:Nat){n:ND}(e:n.aI m.c L):(m.eU i n).aI L:=by
 unfold ME.eU;split
 ·exact h.mono c
 ·rename_i p f;have b:=h.mono c;have d:=b.pl p (dB f);refine{b with two:=by rw[hH];exact h.two,pl:=λ q g=> ?_};rcases vu g with a|a
  ·exact b.pl q a
  ·rw[a];exact⟨e,d.len,d.a⟩
def uS(e:N.bN=0)(a b:Nat):(N.gA a b).length<=3/\∀x∈N.gA a b,-2<=x.1/\x.1<=0:=by
 have f:=Gg N a b;have g:=Fa (N.cx a b) a;have c:∀x∈N.hh a b,-2<=x.1/\x.1<=0:=λ x hx=>by
  unfold ND.hh at hx;grind
 have d:∀x∈(N.cx a b).jo a,-2<=x.1/\x.1<=0:=λ x hx=>by
  unfold ND.jo at hx;grind
 unfold ND.gA;grind
def jG(d:N.c.bG=1)(a:Int)(s:ag):(N.cW a s).length<=2/\∀x∈N.cW a s,x.1=0:=by
 unfold ND.cW;split
 ·simp
 ·rename_i m b;have c:a=0:=by
   unfold jH at b;split at b
   ·cases b
   ·grind
  rw[c];split
  ·unfold ND.mm;grind
  ·split
   ·unfold ND.tL;grind
   simp
def ME.aI.tick{K:Nat}{m:ME}(h:m.aI K)(f:K<=50000){i:Nat}(c:i<2){a:Nat}(g:a<18446744073709551616)(b:Nat):(m.tick i a b).aI (K+1):=by
 unfold ME.tick;obtain⟨p,j,d⟩:=h.at c;rw[j];dsimp only;have e:ME.aI K {m with now:=a}:={h with now:=g};exact ME.aI.send c _ (e.eU (gh K) i (d.n.tick f h.p1 a b)) (λ x hx=>((uS d.n.bN a b).2 x hx).2)
def ME.aI.peer{K:Nat}{m:ME}(h:m.aI K)(d:K<=50000){i:Nat}(b:i<2)(a:Int)(s:ag):(m.peer i a s).aI (K+1):=by
 unfold ME.peer;obtain⟨p,e,c⟩:=h.at b;rw[e];dsimp only;exact ME.aI.send b _ (h.eU (gh K) i (c.n.peer d a s)) (λ x hx=>by rw[(jG (c.n.bG h.p1) a s).2 x hx];omega)
def ME.aI.log{K:Nat}{m:ME}(h:m.aI K)(a:K<=50000){i:Nat}(b:i<2)(s:ag):(m.log i s).aI (K+1):=by
 unfold ME.log;obtain⟨p,c,d⟩:=h.at b;rw[c];exact h.eU (gh K) i (d.n.log a s)
def ME.aI.eg{K:Nat}{m:ME}(h:m.aI K)(a:K<=50000){p:PK}(b:p.Ok):(m.eg p).aI (K+1):=by
 obtain⟨s1,s2,d1,d2,e⟩:=b;unfold ME.eg;split
 ·rename_i hd;obtain⟨q,c,d⟩:=h.at (i:=p.src.toNat) W;rw[c];dsimp only;split
  ·exact h.mono (gh _)
  ·refine(h.mono (gh _)).put ⟨?_,?_,?_,?_,?_⟩<;>simp only<;>omega
 ·split
  ·exact h.log a W _
  ·exact h.peer a W _ _
def ME.aI.Ik{K:Nat}(h:M.aI K){L:List PK}(a:L.length<=64)(b:∀p∈L,p.Ok):ME.aI K {M with b:=L}:={h with b:=a,g:=b}
def ME.aI.bW{K:Nat}{m:ME}(h:m.aI K)(e:K<=50000)(i a:Int):(m.bW i a).aI (K+1):=by
 have d:=h.mono (gh K);unfold ME.bW;split
 ·exact d
 ·rename_i p f;have c:=h.g p (dB f);split
  ·exact d.put c
  ·have b:ME.aI K {m with b:=m.b.eraseIdx (a.toNat%m.b.length)}:=h.Ik (by have:=List.length_eraseIdx_le m.b (a.toNat%m.b.length);have:=h.b;omega) (λ q g=>h.g q (zr g));dsimp only;split
   ·exact(b.mono (gh K)).put c
   ·split
    ·exact b.eg e c
    ·exact b.mono (gh K)
def OE(s:ag):(fW s).size<=40:=by
 unfold fW;rw[ij];omega
def Ui(h:¬M.oR r=true){p:PL}(a:M.l[g]?=some p)(e:M.oS r g=true):p.a.length<12:=by
 obtain⟨c,d⟩:=ed.1 a;have b:¬(List.range M.l.length).any (λ g=>M.oS r g&&decide (12<=(M.l.map λ p=>p.a.length).getD g 0))=true:=h;grind
def ME.aI.leaf{K:Nat}{m:ME}(h:m.aI K)(i:Int)(s:ag):(m.leaf i s).aI K:=by
 unfold ME.leaf;split
 ·exact h
 ·rename_i c;refine{h with two:=by rw[List.length_mapIdx];exact h.two,pl:=λ p d=> ?_};obtain⟨j,a,rfl⟩:=List.mem_mapIdx.1 d;have b:=h.pl _ (cY a);split
  ·rename_i e;have f:=Ui c (ba a) e;refine⟨b.n,?_,λ x hx=> ?_⟩
   ·grind
   ·rcases eJ.1 hx with hx|hx
    ·exact b.a x hx
    ·rw[ot] at hx;rw[hx];exact OE s
  grind
def ME.aI.bR{K:Nat}{m:ME}(h:m.aI K){i:Nat}(d:i<2)(a:Nat):(m.bR i a).aI K:=by
 unfold ME.bR;obtain⟨p,f,c⟩:=h.at d;rw[f];dsimp only;have j:∀b:ND,b.aI m.c K->(m.eU i b).aI K:=λ b e=>h.eU (aW K) i e;have g:= @ND.aI.Ot m.c K p.n c.n (a:Int);have b:= @ND.aI.Oq m.c K p.n c.n (a:Int);grind
def ME.aI.renew{K:Nat}{m:ME}(h:m.aI K)(a:K<=50000){i:Nat}(b:i<2)(k:Nat):(m.renew i k).aI (K+1):=by
 unfold ME.renew;obtain⟨p,c,d⟩:=h.at b;rw[c];exact h.eU (gh K) i (d.n.renew a k)
def ME.aI.feed{K:Nat}{m:ME}(h:m.aI K)(a:K<=50000){i:Nat}(c:i<2)(b:Int)(s:ag):(m.feed i b s).aI (K+1):=by
 unfold ME.feed;split
 ·exact h.peer a c _ _
 ·exact h.log a c _
def ME.aI.wY{K:Nat}(h:M.aI K)(a:M.aT r=true):r.toNat<2/\(r.toNat:Int)=r:=by
 unfold ME.aT at a;rw[h.two,cQ,dx,dx] at a;omega
def ME.aI.act{K:Nat}{m:ME}(h:m.aI K)(c:K<=50000)(a:AC):(m.act a).aI (K+1):=by
 have d:=h.mono (gh K);unfold ME.act;split
 ·split
  ·split
   ·rename_i b;exact h.tick c (h.wY b).1 (pY _ zD) _
   grind
  ·split
   ·exact d.leaf _ _
   ·split
    ·split
     ·rename_i b;exact d.bR (h.wY b).1 _
     grind
    ·split
     ·split
      ·rename_i b;exact h.renew c (h.wY b).1 _
      grind
     ·split
      ·split
       ·rename_i b;exact h.feed c (h.wY b).1 _ _
       grind
      ·exact h.bW c _ _
 grind
def ME.aI.ja{i:Nat}:∀(L:List Nat) {K:Nat} {m:ME},m.aI K->K+L.length<=50000->(∀i∈L,i<2)->(ME.ja L m).aI (K+L.length)
 |[],K,m,h,_,_=>h
 |i::L,K,m,h,a,b=>by
  have c:K+(i::L).length=(K+1)+L.length:=by rw[fU];omega
  rw[c]
  rw[c] at a
  exact ME.aI.ja (i:=i) L (h.tick W (b i mZ) (iX _ _) 0) a (λ j d=>b j (mQ d))
def ME.aI.eO:∀(f:Nat) {K:Nat} {m:ME},m.aI K->K+f<=50000->(ME.eO f m).aI (K+f)
 |0,K,m,h,_=>h
 |f+1,K,m,h,a=>by
  unfold ME.eO
  split
  ·exact h.mono (Nat.le_add_right _ _)
  ·have:=ME.aI.eO f (h.bW W 1 0) W
   grind
variable{p:List Nat}
structure PA where
 a:NA
 x:NV
 c:ab
 b:ab
structure MA where
 g:Nat
 b:Nat
 lc:Nat
 sec:ag
 a:ab
 p:PA
 q:PA
 c:List ab
abbrev jI(p q:PA)(a:List ab):List ab:= .pointer (some ⟨p.a.g,0,none⟩):: .pointer (some ⟨p.a.a,0,none⟩)::p.b:: .pointer (some ⟨q.a.g,0,none⟩):: .pointer (some ⟨q.a.a,0,none⟩)::q.b::a
abbrev Y.vw(v:ab)(L:List ag):Y:=Y.ow 9 1 v L.length (aV L)
abbrev oU(M:MA)(m:ME)(p q:PL):List Y:=[Y.row M.g 126 (m.cells M.sec (ad (some ⟨M.b,0,none⟩) 2 M.lc) M.a),Y.ow 210 3 M.a m.b.length (bB m.b),Y.row M.b 129 (jI M.p M.q M.c),Y.aQ M.p.a M.p.x p.n,Y.dk M.p.a.a M.p.c p.n.d,Y.vw M.p.b p.a,Y.aQ M.q.a M.q.x q.n,Y.dk M.q.a.a M.q.c q.n.d,Y.vw M.q.b q.a]
def aZ(b w:aa)(a:List Nat)(g:Nat)(m:ME):Prop:=∃M p q,M.g=g/\2<=M.lc/\m.l=[p,q]/\af b w a (oU M m p q)
def aZ.mk{b w:aa}{m:ME}(M:MA)(a q:PL)(h2:2<=M.lc)(c:m.l=[a,q])(h:af b w p (oU M m a q)):aZ b w p M.g m:=⟨M,a,q,rfl,h2,c,h⟩
def hI(c:aa)(a:List Nat)(g:Nat)(m:ME)(e:Ending)(b:aa):Prop:=∃E:Int,e=ao (O E)/\aZ c b a g m
def zv(c:aa)(a:List Nat)(g:Nat)(m:ME)(e:Ending)(b:aa):Prop:=e=ao (aJ #[])/\aZ c b a g m
def sH(m:ME)(p:PK):(m.put p).l=m.l/\(m.put p).c=m.c/\(m.put p).k=m.k/\(m.put p).now=m.now:=by unfold ME.put;grind
def XS(i:Nat)(m:ME)(x:SD):(ME.fO i m x).l=m.l/\(ME.fO i m x).c=m.c/\(ME.fO i m x).k=m.k/\(ME.fO i m x).now=m.now:=by
 unfold ME.fO;split
 ·exact sH _ _
 ·split
  ·simp
  ·exact sH _ _
def J9(i:Nat):∀(L:List SD) (m:ME),(m.send i L).l=m.l/\(m.send i L).c=m.c/\(m.send i L).k=m.k/\(m.send i L).now=m.now
 |[],m=>⟨rfl,rfl,rfl,rfl⟩
 |x::L,m=>by
  obtain⟨a,b,c,d⟩:=J9 i L (ME.fO i m x)
  obtain⟨e,f,g,h⟩:=XS i m x
  exact⟨a.trans e,b.trans f,c.trans g,d.trans h⟩
def aZ.ko{c w:aa}{a:List Nat}{M:MA}{m:ME}{p q:PL}{L:List SD}{b:ab}(h2:2<=M.lc)(d:m.l=[p,q])
 (h:af c w a (Y.mc M.g M.sec (ad (some ⟨M.b,0,none⟩) 2 M.lc) b (m.send i L)::Y.row M.b 129 (jI M.p M.q M.c)::Y.aQ M.p.a M.p.x p.n::Y.dk M.p.a.a M.p.c p.n.d::Y.vw M.p.b p.a::Y.aQ M.q.a M.q.x q.n::Y.dk M.q.a.a M.q.c q.n.d::Y.vw M.q.b q.a::[])):aZ c w a M.g (m.send i L):=
 aZ.mk {M with a:=b} p q h2 ((J9 i L m).1.trans d) h.fZ
def nT(k:KY)(c:CF)(p q:PL)(a:List PK)(b:Nat)(n:ND):ME.eU ⟨k,c,[p,q],a,b⟩ 0 n=⟨k,c,[⟨n,p.a⟩,q],a,b⟩:=rfl
def nU(k:KY)(c:CF)(p q:PL)(a:List PK)(b:Nat)(n:ND):ME.eU ⟨k,c,[p,q],a,b⟩ 1 n=⟨k,c,[p,⟨n,q.a⟩],a,b⟩:=rfl
def KU(m:ME)(i:Nat){p:PL}(c:m.l[i]?=some p)(a b:Nat):m.tick i a b=(({m with now:=a}:ME).eU i (p.n.fP a b)).send i (p.n.gA a b):=by
 unfold ME.tick;rw[c]
def sF(m:ME)(i:Nat){p:PL}(a:m.l[i]?=some p)(f:Int)(s:ag):m.peer i f s=(m.eU i (p.n.dU f s)).send i (p.n.cW f s):=by
 unfold ME.peer;rw[a]
def xi(m:ME)(i:Nat){p:PL}(a:m.l[i]?=some p)(s:ag):m.log i s=m.eU i (p.n.gw s):=by
 unfold ME.log;rw[a]
def JB(m:ME)(i:Nat){p:PL}(a:m.l[i]?=some p)(k:Nat):m.renew i k=m.eU i (p.n.lz k):=by
 unfold ME.renew;rw[a]
def FR(m:ME)(i:Nat){p:PL}(c:m.l[i]?=some p)(a:Nat)(b:gq m.c (p.n.d.bR a)=some N):m.bR i a=m.eU i N:=by
 unfold ME.bR;grind
def FQ(m:ME)(i:Nat){p:PL}(c:m.l[i]?=some p)(a:Nat)(b:gq m.c (p.n.d.bR a)=none):m.bR i a=m.eU i {p.n with d:=fG (p.n.d.bR a)}:=by
 unfold ME.bR;grind
def GN(m:ME)(i:Nat)(b:Int)(s:ag)(h:b<(m.l.length:Int)-1):m.feed i b s=m.peer i b s:=ax h
def GM(m:ME)(i:Nat)(b:Int)(s:ag)(h:¬b<(m.l.length:Int)-1):m.feed i b s=m.log i s:=aj h
def E8(m:ME)(i:Nat){q:PL}(a:m.l[i]?=some q)(s:ag):m.eg ⟨i,-1,s⟩=if gm m.k q.a m.now s=⟨#[]⟩ then m else m.put ⟨-1,i,gm m.k q.a m.now s⟩:=by
 unfold ME.eg;grind
def E9(m:ME)(i:Nat)(s:ag):m.eg ⟨-1,i,s⟩=m.log i s:=by
 rfl
def vY(m:ME)(src:Int)(i:Nat)(s:ag)(h:¬src= -1):m.eg ⟨src,i,s⟩=m.peer i (if(i:Int)<src then src-1 else src) s:=by
 unfold ME.eg;grind
variable{m:List Nat}
def UQ{s w:aa}{K:Nat}(a1:TM m s)(h:aZ s w m g M)(A:M.aI K)(x:AC)(hx:x.right=true):
 Calls prog 70 #[pV g,x.val] w (hI s m g (if M.aT x.a=true then M.renew x.a.toNat (x.n%6) else M)):=by
 obtain⟨a4,p,q,rfl,a9,a3,b3⟩:=h
 obtain⟨k,c,l,b,d⟩:=M
 simp only at a3
 subst a3
 have S:=A.pl p zS
 have B:=A.pl q zS
 have b0:=A.b
 have b2:=A.p1
 have b1:=A.now
 simp only at S B b0 b2 b1
 obtain⟨g,y,u,G,z,⟨n,D,pd,C⟩,⟨o,F,J,E⟩,L⟩:=a4
 have N:ai (2<=u):=Z a9
 have a:ai (af s w m [Y.row g 126 (ME.cells ⟨k,c,[p,q],b,d⟩ G (ad (some ⟨y,0,none⟩) 2 u) z),Y.ow 210 3 z b.length (bB b),Y.row y 129 (jI ⟨n,D,pd,C⟩ ⟨o,F,J,E⟩ L),Y.aQ n D p.n,Y.dk n.a pd p.n.d,Y.vw C p.a,Y.aQ o F q.n,Y.dk o.a J q.n.d,Y.vw E q.a]):=Z b3
 obtain⟨b5,f,b4,j,b6⟩:=x
 have H:=Z (λ(t:aa) (e:(Y.row g 126 (ME.cells ⟨k,c,[p,q],b,d⟩ G (ad (some ⟨y,0,none⟩) 2 u) z)).P t)=>su (m:=⟨k,c,[p,q],b,d⟩) e f)
 have b9:((j:Int)).tmod 6=((j%6:Nat):Int):=by
  rw[gd W];omega
 have c0:IntKind.wrap .i64 ((j%6:Nat):Int)=((j%6:Nat):Int):=by
  rw[fS]<;>omega
 have c1:IntKind.wrap .u64 ((j%6:Nat):Int)=((j%6:Nat):Int):=by
  rw[kB];omega
 have a2:j%6<=1000000000:=by omega
 show Calls prog 70 #[pV g,aG #[O b5,O f,O b4,U (j:Int),ae b6]] w (hI s m g (if ME.aT ⟨k,c,[p,q],b,d⟩ f=true then ME.renew ⟨k,c,[p,q],b,d⟩ f.toNat (j%6) else⟨k,c,[p,q],b,d⟩))
 generalize b8:j%6=k6 at*
 by_cases a5:f=0
 focus
  subst a5
  rw[ax (show ME.aT ⟨k,c,[p,q],b,d⟩ 0=true from rfl)]
  have P:=Z (λ(t:aa) (T:ab) (R:List Y) (B:af s t m (Y.aQ n D p.n::Y.dk n.a T p.n.d::R))=>Ic a1 B S.n.ok (λ Q=>S.n.still.resolve_left (λ r=>Q (.inl r))) k6 a2)
  have e:ME.renew ⟨k,c,[p,q],b,d⟩ (0:Int).toNat k6=⟨k,c,[⟨p.n.lz k6,p.a⟩,q],b,d⟩:=(JB _ 0 rfl k6).trans (nT ..)
  rw[e]
  generalize p.n.lz k6=X at*
  generalize p.n.xR k6=a0 at*
  have I:(decide (0<=(0:Int))&&decide ((0:Int)<2))=true:=rfl
 rotate_left
 focus
  by_cases a6:f=1
  focus
   subst a6
   rw[ax (show ME.aT ⟨k,c,[p,q],b,d⟩ 1=true from rfl)]
   have P:=Z (λ(t:aa) (T:ab) (R:List Y) (a7:af s t m (Y.aQ o F q.n::Y.dk o.a T q.n.d::R))=>Ic a1 a7 B.n.ok (λ Q=>B.n.still.resolve_left (λ r=>Q (.inl r))) k6 a2)
   have e:ME.renew ⟨k,c,[p,q],b,d⟩ (1:Int).toNat k6=⟨k,c,[p,⟨q.n.lz k6,q.a⟩],b,d⟩:=(JB _ 1 rfl k6).trans (nU ..)
   rw[e]
   generalize q.n.lz k6=X at*
   generalize q.n.xR k6=a0 at*
   have I:(decide (0<=(1:Int))&&decide ((1:Int)<2))=true:=rfl
  rotate_left
  ·have r:ME.aT ⟨k,c,[p,q],b,d⟩ f=false:=by
    unfold ME.aT
    rw[yT]
    by_cases Q:0<=f
    ·right;exact bu (by show¬f<2;omega)
    ·left;exact bu Q
   rw[aj (by rw[r];decide)]
   have I:(decide (0<=f)&&decide (f<2))=false:=r
   rw[I] at H
   go_enter func70,ntmps70
   go_wp2_with(first|refine Kl a ?_|refine KB a 55 3 _ λ a7 b7 a8 a=>?_|go_at_call 72;refine KC a (H.U _ (a.U.get (i:=1) rfl)) λ T a=>?_)
   go_ret
   exact⟨_,rfl,aZ.mk ⟨g,y,u,G,z,⟨n,D,pd,C⟩,⟨o,F,J,E⟩,L⟩ p q N.U rfl a.U.tail⟩
 rotate_left
 all_goals
  rw[I] at H
  go_enter func70,ntmps70
  go_upto_region 3 with(first|refine Kl a ?_|refine KB a 55 3 _ λ a7 b7 a8 a=>?_|go_at_call 72;refine KC a (H.U _ (a.U.get (i:=1) rfl)) λ T a=>?_)
  refine RG a 13 [1,0,3] λ c2 a R=>?_
  refine VV [0,1,2,2003,4,2005,6,7,2008,9,2010] R ?_
  refine W2 11 21 (v:=U (k6:Int)) rfl rfl (Or.inl ⟨by kernel_rfl,λ t a6=>by(go_simp;done)⟩) R ?_
  refine W2 12 22 (v:=O (k6:Int)) rfl rfl (Or.inl ⟨by kernel_rfl,λ t a6=>by(go_simp;done)⟩) R ?_
  refine WT ?_
 ·go_wp2_with((go_at_call 148;(refine(P.U _ _ _ (a.U.fs [9,9,9,9,7,7,7,7,9,9])).mono ?_);rintro e T ⟨rfl,a0,Q,r⟩;replace a:=Z r))
  go_ret
  have r:=(a.U.fs [2,1000,8,8,8,8,5,5,8,8,8])
  exact⟨_,rfl,aZ.mk ⟨g,y,u,G,z,⟨n,a0,Q,C⟩,⟨o,F,J,E⟩,L⟩ ⟨X,p.a⟩ q N.U rfl r⟩
 ·go_wp2_with((go_at_call 148;(refine(P.U _ _ _ (a.U.fs [9,7,7,7,7,7,7,7,9,9])).mono ?_);rintro e T ⟨rfl,a0,Q,r⟩;replace a:=Z r))
  go_ret
  have r:=(a.U.fs [2,1000,8,2,2,8,8,8,8,8,8])
  exact⟨_,rfl,aZ.mk ⟨g,y,u,G,z,⟨n,D,pd,C⟩,⟨o,a0,Q,E⟩,L⟩ p ⟨X,q.a⟩ N.U rfl r⟩
def UM{G w:aa}{K:Nat}(N:TM m G)(h:aZ G w m g M)(H:M.aI K)(x:AC)(hx:x.right=true):
 Calls prog 71 #[pV g,x.val] w (hI G m g (if M.aT x.a=true then M.feed x.a.toNat x.b x.s else M)):=by
 obtain⟨b2,p,q,rfl,a,c3,a9⟩:=h
 obtain⟨k,c,l,j,n⟩:=M
 simp only at c3
 subst c3
 have C:=H.pl p zS
 have D:=H.pl q zS
 have S:=H.b
 have u:=H.p1
 have a8:=H.now
 simp only at C D S u a8
 obtain⟨g,J,I,P,R,⟨y,a2,pd,a1⟩,⟨z,a4,b4,a3⟩,b0⟩:=b2
 have b1:ai (2<=I):=Z a
 clear a
 have a:ai (af G w m [Y.row g 126 (ME.cells ⟨k,c,[p,q],j,n⟩ P (ad (some ⟨J,0,none⟩) 2 I) R),Y.ow 210 3 R j.length (bB j),Y.row J 129 (jI ⟨y,a2,pd,a1⟩ ⟨z,a4,b4,a3⟩ b0),Y.aQ y a2 p.n,Y.dk y.a pd p.n.d,Y.vw a1 p.a,Y.aQ z a4 q.n,Y.dk z.a b4 q.n.d,Y.vw a3 q.a]):=Z a9
 obtain⟨c6,F,b,c7,d⟩:=x
 have Q:=Z (λ(t:aa) (e:(Y.row g 126 (ME.cells ⟨k,c,[p,q],j,n⟩ P (ad (some ⟨J,0,none⟩) 2 I) R)).P t)=>su (m:=⟨k,c,[p,q],j,n⟩) e F)
 have b5:ai (∀(t:aa) (L:List SD) (v nq:ab) (e:List PL) (E:List Y),af G t m (Y.mc g P (ad (some ⟨J,0,none⟩) 2 I) nq ⟨k,c,e,j,n⟩::Y.so v L::E)->∀(i:Nat),i<2->L.length<=10->(∀x∈L,-10<=x.1/\x.1<=10)->Calls prog 140 #[pV g,O (i:Int),v] t λ r f=>r=ao (aJ #[])/\∃b3,af G f m (Y.mc g P (ad (some ⟨J,0,none⟩) 2 I) b3 (ME.send ⟨k,c,e,j,n⟩ i L)::Y.so v L::E)):=Z (λ t L v nq e E h i o f hx=>ue (m:=⟨k,c,e,j,n⟩) h i o S f hx)
 show Calls prog 71 #[pV g,aG #[O c6,O F,O b,U (c7:Int),ae d]] w (hI G m g (if ME.aT ⟨k,c,[p,q],j,n⟩ F=true then ME.feed ⟨k,c,[p,q],j,n⟩ F.toNat b d else⟨k,c,[p,q],j,n⟩))
 by_cases c1:F=0
 ·subst c1
  rw[ax (show ME.aT ⟨k,c,[p,q],j,n⟩ 0=true from rfl)]
  have a7:(decide (0<=(0:Int))&&decide ((0:Int)<2))=true:=rfl
  rw[a7] at Q
  by_cases s:b<1
  ·have c0:=Z (λ(t:aa) (a0:ab) (E:List Y) (X:af G t m (Y.aQ y a2 p.n::Y.dk y.a a0 p.n.d::E))=>qO N X C.n.ok (C.n.bG u) b d)
   have B:=Z (⟨(jG (C.n.bG u) b d).1,λ x hx=>by have:=(jG (C.n.bG u) b d).2 x hx;omega⟩:(p.n.cW b d).length<=2/\∀x∈p.n.cW b d,-2<=x.1/\x.1<=0)
   have e:ME.feed ⟨k,c,[p,q],j,n⟩ (0:Int).toNat b d=ME.send ⟨k,c,[⟨p.n.dU b d,p.a⟩,q],j,n⟩ 0 (p.n.cW b d):=((GN _ 0 b d (by show b<1;exact s)).trans (sF _ 0 rfl b d)).trans (by rw[nT])
   rw[e]
   have d1:decide (b<1)=true:=aS s
   generalize p.n.dU b d=r at*
   generalize p.n.cW b d=c4 at*
   clear a9 H C D S u a8 e N hx s
   go_enter vI,vK
   go_upto_region 3 with(first|refine Kl a ?_|refine KB a 55 3 _ λ b6 b8 b7 a=>?_|go_at_call 72;refine KC a (Q.U _ (a.U.get (i:=1) rfl)) λ v a=>?_)
   refine RG a 8 [1,0] λ a5 a o=>?_
   refine VV [0,2001,2,3,4,2005,6,7] o ?_
   clear o
   refine WT ?_
   go_upto_if 18 with fail
   rw[d1]
   go_upto_region 4 with fail
   refine RG a 17 [1,0,3] λ a5 a o=>?_
   refine VV [0,1,2002,3,4,5,2006,7,2008,9,10,2011,12,2013,14,2015] o ?_
   clear o
   refine KV 16 (en 29) 35 ?_
   refine(c0.U _ _ _ (a.U.fs [9,9,9,9,7,7,7,7,9,9])).mono ?_
   intro e v T
   obtain⟨A,c5,a6,L,rfl,f⟩:=T
   replace a:=Z f;clear f
   refine⟨_,rfl,bo a [4,3,6],?_⟩
   simp only[aH,au,ay]
   refine WT ?_
   go_wp2_with((go_at_call 140;(refine(b5.U _ _ _ _ [⟨r,p.a⟩,q] _ (a.U.fs [3,1000,9,9,9,9,6,6,9,7,9,9]).cr 0 zD (by have:=B.U.1;omega) (λ x hx=>by have:=B.U.2 x hx;omega)).mono ?_);rintro e v ⟨rfl,b3,f⟩;replace a:=Z f;clear f))
   go_ret
   have f:=(a.U.fs [1,1000,7,7,7,7,7,7,7,7])
   exact⟨_,rfl,aZ.ko (M:=⟨g,J,I,P,R,⟨y,a6,L,a1⟩,⟨z,a4,b4,a3⟩,b0⟩) (m:=⟨k,c,[⟨r,p.a⟩,q],j,n⟩) (p:=⟨r,p.a⟩) (q:=q) b1.U rfl f⟩
  ·have b9:=Z (λ(t:aa) (a0:ab) (E:List Y) (X:af G t m (Y.aQ y a2 p.n::Y.dk y.a a0 p.n.d::E))=>xh N X C.n.ok d)
   have B:=Z (⟨bh _,λ x hx=>by cases hx⟩:([]:List SD).length<=2/\∀x∈([]:List SD),-2<=x.1/\x.1<=0)
   have e:ME.feed ⟨k,c,[p,q],j,n⟩ (0:Int).toNat b d=ME.send ⟨k,c,[⟨p.n.gw d,p.a⟩,q],j,n⟩ 0 []:=((GM _ 0 b d (by show¬b<1;exact s)).trans (xi _ 0 rfl d)).trans (nT ..)
   rw[e]
   have d1:decide (b<1)=false:=bu s
   generalize p.n.gw d=r at*
   clear a9 H C D S u a8 e N hx s
   go_enter vI,vK
   go_upto_region 3 with(first|refine Kl a ?_|refine KB a 55 3 _ λ b6 b8 b7 a=>?_|go_at_call 72;refine KC a (Q.U _ (a.U.get (i:=1) rfl)) λ v a=>?_)
   refine RG a 8 [1,0] λ a5 a o=>?_
   refine VV [0,2001,2,3,4,2005,6,7] o ?_
   clear o
   refine WT ?_
   go_upto_if 18 with fail
   rw[d1]
   go_upto_region 5 with fail
   refine RG a 15 [1,0,3] λ a5 a o=>?_
   refine VV [0,1,2002,3,4,5,2006,7,2008,9,10,2011,12,2013] o ?_
   clear o
   refine KV 14 (en 149) 51 ?_
   refine(b9.U _ _ _ (a.U.fs [9,9,9,9,7,7,7,7,9,9])).mono ?_
   intro e v T
   obtain⟨a6,L,rfl,f⟩:=T
   replace a:=Z (nW f)
   refine⟨_,rfl,bo a [4,3,6],?_⟩
   simp only[aH,au,ay]
   refine WT ?_
   go_wp2_with((go_at_call 140;(refine(b5.U _ _ _ _ [⟨r,p.a⟩,q] _ (a.U.fs [3,1000,9,9,9,9,6,6,9,7,9,9]).cr 0 zD (by have:=B.U.1;omega) (λ x hx=>by have:=B.U.2 x hx;omega)).mono ?_);rintro e v ⟨rfl,b3,f⟩;replace a:=Z f;clear f))
   go_ret
   have f:=(a.U.fs [1,1000,7,7,7,7,7,7,7,7])
   exact⟨_,rfl,aZ.ko (M:=⟨g,J,I,P,R,⟨y,a6,L,a1⟩,⟨z,a4,b4,a3⟩,b0⟩) (m:=⟨k,c,[⟨r,p.a⟩,q],j,n⟩) (p:=⟨r,p.a⟩) (q:=q) b1.U rfl f⟩
 ·by_cases c2:F=1
  ·subst c2
   rw[ax (show ME.aT ⟨k,c,[p,q],j,n⟩ 1=true from rfl)]
   have a7:(decide (0<=(1:Int))&&decide ((1:Int)<2))=true:=rfl
   rw[a7] at Q
   by_cases s:b<1
   ·have c0:=Z (λ(t:aa) (a0:ab) (E:List Y) (X:af G t m (Y.aQ z a4 q.n::Y.dk z.a a0 q.n.d::E))=>qO N X D.n.ok (D.n.bG u) b d)
    have B:=Z (⟨(jG (D.n.bG u) b d).1,λ x hx=>by have:=(jG (D.n.bG u) b d).2 x hx;omega⟩:(q.n.cW b d).length<=2/\∀x∈q.n.cW b d,-2<=x.1/\x.1<=0)
    have e:ME.feed ⟨k,c,[p,q],j,n⟩ (1:Int).toNat b d=ME.send ⟨k,c,[p,⟨q.n.dU b d,q.a⟩],j,n⟩ 1 (q.n.cW b d):=((GN _ 1 b d (by show b<1;exact s)).trans (sF _ 1 rfl b d)).trans (by rw[nU])
    rw[e]
    have d1:decide (b<1)=true:=aS s
    generalize q.n.dU b d=r at*
    generalize q.n.cW b d=c4 at*
    clear a9 H C D S u a8 e N hx s
    go_enter vI,vK
    go_upto_region 3 with(first|refine Kl a ?_|refine KB a 55 3 _ λ b6 b8 b7 a=>?_|go_at_call 72;refine KC a (Q.U _ (a.U.get (i:=1) rfl)) λ v a=>?_)
    refine RG a 8 [1,0] λ a5 a o=>?_
    refine VV [0,2001,2,3,4,2005,6,7] o ?_
    clear o
    refine WT ?_
    go_upto_if 18 with fail
    rw[d1]
    go_upto_region 4 with fail
    refine RG a 17 [1,0,3] λ a5 a o=>?_
    refine VV [0,1,2002,3,4,5,2006,7,2008,9,10,2011,12,2013,14,2015] o ?_
    clear o
    refine KV 16 (en 29) 35 ?_
    refine(c0.U _ _ _ (a.U.fs [9,7,7,7,7,7,7,7,9,9])).mono ?_
    intro e v T
    obtain⟨A,c5,a6,L,rfl,f⟩:=T
    replace a:=Z f;clear f
    refine⟨_,rfl,bo a [4,3,6],?_⟩
    simp only[aH,au,ay]
    refine WT ?_
    go_wp2_with((go_at_call 140;(refine(b5.U _ _ _ _ [p,⟨r,q.a⟩] _ (a.U.fs [3,1000,9,3,3,9,9,9,9,7,9,9]).cr 1 zD (by have:=B.U.1;omega) (λ x hx=>by have:=B.U.2 x hx;omega)).mono ?_);rintro e v ⟨rfl,b3,f⟩;replace a:=Z f;clear f))
    go_ret
    have f:=(a.U.fs [1,1000,7,7,7,7,7,7,7,7])
    exact⟨_,rfl,aZ.ko (M:=⟨g,J,I,P,R,⟨y,a2,pd,a1⟩,⟨z,a6,L,a3⟩,b0⟩) (m:=⟨k,c,[p,⟨r,q.a⟩],j,n⟩) (p:=p) (q:=⟨r,q.a⟩) b1.U rfl f⟩
   ·have b9:=Z (λ(t:aa) (a0:ab) (E:List Y) (X:af G t m (Y.aQ z a4 q.n::Y.dk z.a a0 q.n.d::E))=>xh N X D.n.ok d)
    have B:=Z (⟨bh _,λ x hx=>by cases hx⟩:([]:List SD).length<=2/\∀x∈([]:List SD),-2<=x.1/\x.1<=0)
    have e:ME.feed ⟨k,c,[p,q],j,n⟩ (1:Int).toNat b d=ME.send ⟨k,c,[p,⟨q.n.gw d,q.a⟩],j,n⟩ 1 []:=((GM _ 1 b d (by show¬b<1;exact s)).trans (xi _ 1 rfl d)).trans (nU ..)
    rw[e]
    have d1:decide (b<1)=false:=bu s
    generalize q.n.gw d=r at*
    clear a9 H C D S u a8 e N hx s
    go_enter vI,vK
    go_upto_region 3 with(first|refine Kl a ?_|refine KB a 55 3 _ λ b6 b8 b7 a=>?_|go_at_call 72;refine KC a (Q.U _ (a.U.get (i:=1) rfl)) λ v a=>?_)
    refine RG a 8 [1,0] λ a5 a o=>?_
    refine VV [0,2001,2,3,4,2005,6,7] o ?_
    clear o
    refine WT ?_
    go_upto_if 18 with fail
    rw[d1]
    go_upto_region 5 with fail
    refine RG a 15 [1,0,3] λ a5 a o=>?_
    refine VV [0,1,2002,3,4,5,2006,7,2008,9,10,2011,12,2013] o ?_
    clear o
    refine KV 14 (en 149) 51 ?_
    refine(b9.U _ _ _ (a.U.fs [9,7,7,7,7,7,7,7,9,9])).mono ?_
    intro e v T
    obtain⟨a6,L,rfl,f⟩:=T
    replace a:=Z (nW f)
    refine⟨_,rfl,bo a [4,3,6],?_⟩
    simp only[aH,au,ay]
    refine WT ?_
    go_wp2_with((go_at_call 140;(refine(b5.U _ _ _ _ [p,⟨r,q.a⟩] _ (a.U.fs [3,1000,9,3,3,9,9,9,9,7,9,9]).cr 1 zD (by have:=B.U.1;omega) (λ x hx=>by have:=B.U.2 x hx;omega)).mono ?_);rintro e v ⟨rfl,b3,f⟩;replace a:=Z f;clear f))
    go_ret
    have f:=(a.U.fs [1,1000,7,7,7,7,7,7,7,7])
    exact⟨_,rfl,aZ.ko (M:=⟨g,J,I,P,R,⟨y,a2,pd,a1⟩,⟨z,a6,L,a3⟩,b0⟩) (m:=⟨k,c,[p,⟨r,q.a⟩],j,n⟩) (p:=p) (q:=⟨r,q.a⟩) b1.U rfl f⟩
  ·have e:ME.aT ⟨k,c,[p,q],j,n⟩ F=false:=by
    unfold ME.aT
    rw[yT]
    by_cases f:0<=F
    ·right;exact bu (by show¬F<2;omega)
    ·left;exact bu f
   rw[aj (by rw[e];decide)]
   have a7:(decide (0<=F)&&decide (F<2))=false:=e
   rw[a7] at Q
   clear a9 H C D S u a8 N hx e a7 c1 c2
   go_enter vI,vK
   go_wp2_with(first|refine Kl a ?_|refine KB a 55 3 _ λ b6 b8 b7 a=>?_|go_at_call 72;refine KC a (Q.U _ (a.U.get (i:=1) rfl)) λ v a=>?_)
   go_ret
   exact⟨_,rfl,aZ.mk ⟨g,J,I,P,R,⟨y,a2,pd,a1⟩,⟨z,a4,b4,a3⟩,b0⟩ p q b1.U rfl a.U.tail⟩
def FU{L:List ag}(h:∀s∈L,s.size<=40):∀s∈L,s.size<=80000000:=λ s a=>by have:=h s a;omega
def UK{C w:aa}{K:Nat}(B:TM m C)(h:aZ C w m g M)(H:M.aI K)(x:PK)(hx:x.Ok):
 Calls prog 147 #[pV g,x.val] w (zv C m g (M.eg x)):=by
 obtain⟨b3,p,q,rfl,a,c2,b0⟩:=h
 obtain⟨k,c,l,d,b⟩:=M
 simp only at c2
 subst c2
 have n:=H.pl p zS
 have t:=H.pl q zS
 have T:=H.b
 have o:=H.p1
 have a4:=H.now
 simp only at n t T o a4
 obtain⟨g,G,F,S,a5,⟨u,P,pd,N⟩,⟨y,R,a6,Q⟩,a0⟩:=b3
 have a1:ai (2<=F):=Z a
 clear a
 have a:ai (af C w m [Y.row g 126 (ME.cells ⟨k,c,[p,q],d,b⟩ S (ad (some ⟨G,0,none⟩) 2 F) a5),Y.ow 210 3 a5 d.length (bB d),Y.row G 129 (jI ⟨u,P,pd,N⟩ ⟨y,R,a6,Q⟩ a0),Y.aQ u P p.n,Y.dk u.a pd p.n.d,Y.vw N p.a,Y.aQ y R q.n,Y.dk y.a a6 q.n.d,Y.vw Q q.a]):=Z b0
 have a3:=H.k
 simp only at a3
 obtain⟨s1,s2,d1,d2,b1⟩:=hx
 obtain⟨src,a2,s⟩:=x
 simp only at s1 s2 d1 d2 b1
 have b6:ai (∀(j:aa) (L:List SD) (v nq:ab) (e:List PL) (z:List Y),af C j m (Y.mc g S (ad (some ⟨G,0,none⟩) 2 F) nq ⟨k,c,e,d,b⟩::Y.so v L::z)->∀(i:Nat),i<2->L.length<=10->(∀x∈L,-10<=x.1/\x.1<=10)->Calls prog 140 #[pV g,O (i:Int),v] j λ r f=>r=ao (aJ #[])/\∃X,af C f m (Y.mc g S (ad (some ⟨G,0,none⟩) 2 F) X (ME.send ⟨k,c,e,d,b⟩ i L)::Y.so v L::z)):=Z (λ j L v nq e z h i r f hx=>ue (m:=⟨k,c,e,d,b⟩) h i r T f hx)
 show Calls prog 147 #[pV g,aG #[O src,O a2,ae s]] w (zv C m g (ME.eg ⟨k,c,[p,q],d,b⟩ ⟨src,a2,s⟩))
 by_cases hd:a2= -1
 ·subst hd
  by_cases b4:src=0
  focus
   subst b4
   have v:=Z (λ(j:aa) (D:bQ j) (I:(Y.vw N p.a).P j)=>E1 D k a3 (hn I (by have:=n.len;unfold maxLen;omega)) (FU n.a) (by have:=n.len;omega) b a4 s)
   have A:=Z B
   have J:ai ((⟨k,c,[p,q],d,b⟩:ME).b.length<=64):=Z T
   have e:ME.eg ⟨k,c,[p,q],d,b⟩ ⟨0,-1,s⟩=if gm k p.a b s=⟨#[]⟩ then⟨k,c,[p,q],d,b⟩ else ME.put ⟨k,c,[p,q],d,b⟩ ⟨-1,0,gm k p.a b s⟩:=E8 _ 0 rfl s
   rw[e]
   generalize gm k p.a b s=E at*
   have r:=ks E
   by_cases f:E=⟨#[]⟩
   focus
    rw[ax f]
    rw[aS f] at r
   rotate_left
   focus
    rw[aj f]
    rw[bu f] at r
   rotate_left
  rotate_left 2
  focus
   have b5:src=1:=by omega
   subst b5
   have v:=Z (λ(j:aa) (D:bQ j) (I:(Y.vw Q q.a).P j)=>E1 D k a3 (hn I (by have:=t.len;unfold maxLen;omega)) (FU t.a) (by have:=t.len;omega) b a4 s)
   have A:=Z B
   have J:ai ((⟨k,c,[p,q],d,b⟩:ME).b.length<=64):=Z T
   have e:ME.eg ⟨k,c,[p,q],d,b⟩ ⟨1,-1,s⟩=if gm k q.a b s=⟨#[]⟩ then⟨k,c,[p,q],d,b⟩ else ME.put ⟨k,c,[p,q],d,b⟩ ⟨-1,1,gm k q.a b s⟩:=E8 _ 1 rfl s
   rw[e]
   generalize gm k q.a b s=E at*
   have r:=ks E
   by_cases f:E=⟨#[]⟩
   focus
    rw[ax f]
    rw[aS f] at r
   rotate_left
   focus
    rw[aj f]
    rw[bu f] at r
   rotate_left
  rotate_left 2
  all_goals
   clear b0 H n t T o a4 e B a3 s1 s2 d1 d2 b1 f
   go_enter vH,vJ
   go_upto_region 6 with(first|refine Kl a ?_|refine KB a 210 3 _ λ b7 b9 b8 a=>?_)
   refine RG a 19 [1,0,3] λ c0 a r=>?_
   refine VV [0,1,2] r ?_
   refine WR 3 3 r ?_
   refine VV [4,5,6,2007,8,2009,10,11,2012,13,14,15,2016,17,2018] r ?_
   clear r
   refine WT ?_
  ·go_wp2_with((go_at_call 214;refine KC a (v.U _ (A.U.at a.U) (a.U.get (i:=6) rfl)) λ D a=>?_))
   go_end0
   exact⟨rfl,aZ.mk ⟨g,G,F,S,a5,⟨u,P,pd,N⟩,⟨y,R,a6,Q⟩,a0⟩ p q a1.U rfl a.U.tail⟩
  ·go_wp2_with(first|refine Kl a ?_|go_at_call 214;refine KC a (v.U _ (A.U.at a.U) (a.U.get (i:=6) rfl)) λ D a=>?_|go_at_call 146;(refine(ud (m:=⟨k,c,[p,q],d,b⟩) ((((((((((((a.U).tail.ft [8]).ar 8 rfl).ar 8 rfl).ar 8 rfl).ar 8 rfl).ar 8 rfl).ar 8 rfl).ar 8 rfl).ar 8 rfl)).cr.get (i:=0) rfl) J.U ⟨-1,0,E⟩).mono ?_);rintro e D ⟨rfl,X,I⟩;have f:=(((((((((((a.U).tail.ft [8]).ar 8 rfl).ar 8 rfl).ar 8 rfl).ar 8 rfl).ar 8 rfl).ar 8 rfl).ar 8 rfl).ar 8 rfl)).cr.at 0 rfl I;simp only[au,ay] at f;replace a:=Z f;clear f;clear I)
   go_end0
   exact⟨rfl,aZ.mk ⟨g,G,F,S,X,⟨u,P,pd,N⟩,⟨y,R,a6,Q⟩,a0⟩ p q a1.U (sH _ _).1 a.U.fZ⟩
  ·go_wp2_with((go_at_call 214;refine KC a (v.U _ (A.U.at a.U) (a.U.get (i:=9) rfl)) λ D a=>?_))
   go_end0
   exact⟨rfl,aZ.mk ⟨g,G,F,S,a5,⟨u,P,pd,N⟩,⟨y,R,a6,Q⟩,a0⟩ p q a1.U rfl a.U.tail⟩
  ·go_wp2_with(first|refine Kl a ?_|go_at_call 214;refine KC a (v.U _ (A.U.at a.U) (a.U.get (i:=9) rfl)) λ D a=>?_|go_at_call 146;(refine(ud (m:=⟨k,c,[p,q],d,b⟩) ((((((((((((a.U).tail.ft [8]).ar 8 rfl).ar 8 rfl).ar 8 rfl).ar 8 rfl).ar 8 rfl).ar 8 rfl).ar 8 rfl).ar 8 rfl)).cr.get (i:=0) rfl) J.U ⟨-1,1,E⟩).mono ?_);rintro e D ⟨rfl,X,I⟩;have f:=(((((((((((a.U).tail.ft [8]).ar 8 rfl).ar 8 rfl).ar 8 rfl).ar 8 rfl).ar 8 rfl).ar 8 rfl).ar 8 rfl).ar 8 rfl)).cr.at 0 rfl I;simp only[au,ay] at f;replace a:=Z f;clear f;clear I)
   go_end0
   exact⟨rfl,aZ.mk ⟨g,G,F,S,X,⟨u,P,pd,N⟩,⟨y,R,a6,Q⟩,a0⟩ p q a1.U (sH _ _).1 a.U.fZ⟩
 ·have c4:(a2== -1)=false:=by rw[cc];exact hd
  by_cases L:src= -1
  ·subst L
   by_cases b4:a2=0
   ·subst b4
    have A:=Z (λ(j:aa) (J:ab) (z:List Y) (I:af C j m (Y.aQ u P p.n::Y.dk u.a J p.n.d::z))=>xh B I n.n.ok s)
    have v:=Z (⟨bh _,λ x hx=>by cases hx⟩:([]:List SD).length<=2/\∀x∈([]:List SD),-2<=x.1/\x.1<=0)
    have e:ME.eg ⟨k,c,[p,q],d,b⟩ ⟨-1,0,s⟩=ME.send ⟨k,c,[⟨p.n.gw s,p.a⟩,q],d,b⟩ 0 []:=((E9 _ 0 s).trans (xi _ 0 rfl s)).trans (nT ..)
    rw[e]
    generalize p.n.gw s=i at*
    clear b0 H n t T o a4 e B a3 s1 s2 d1 d2 b1 hd
    go_enter vH,vJ
    go_upto_region 10 with(first|refine Kl a ?_|refine KB a 210 3 _ λ b7 b9 b8 a=>?_)
    refine RG a 15 [1,0,3] λ c0 a r=>?_
    refine VV [0,1,2002,3,4,5,2006,7,2008,9,10,2011,12,2013] r ?_
    clear r
    refine KV 14 (en 149) 81 ?_
    refine(A.U _ _ _ (a.U.ft [9,9,9,9,7,7,7,7,9,9])).mono ?_
    intro e D a8
    obtain⟨a9,a7,rfl,f⟩:=a8
    replace a:=Z (nW f)
    refine⟨_,rfl,bo a [4,3,6],?_⟩
    simp only[aH,au,ay]
    refine WT ?_
    go_wp2_with((go_at_call 140;(refine(b6.U _ _ _ _ [⟨i,p.a⟩,q] _ (a.U.ft [3,1000,9,9,9,9,6,6,9,7,9,9]).cr 0 zD (by have:=v.U.1;omega) (λ x hx=>by have:=v.U.2 x hx;omega)).mono ?_);rintro e D ⟨rfl,X,f⟩;replace a:=Z f;clear f))
    go_end0
    have f:=a.U.fs [1,1000,7,7,7,7,7,7,7,7]
    exact⟨rfl,aZ.ko (M:=⟨g,G,F,S,a5,⟨u,a9,a7,N⟩,⟨y,R,a6,Q⟩,a0⟩) (m:=⟨k,c,[⟨i,p.a⟩,q],d,b⟩) (p:=⟨i,p.a⟩) (q:=q) a1.U rfl f⟩
   ·have b5:a2=1:=by omega
    subst b5
    have A:=Z (λ(j:aa) (J:ab) (z:List Y) (I:af C j m (Y.aQ y R q.n::Y.dk y.a J q.n.d::z))=>xh B I t.n.ok s)
    have v:=Z (⟨bh _,λ x hx=>by cases hx⟩:([]:List SD).length<=2/\∀x∈([]:List SD),-2<=x.1/\x.1<=0)
    have e:ME.eg ⟨k,c,[p,q],d,b⟩ ⟨-1,1,s⟩=ME.send ⟨k,c,[p,⟨q.n.gw s,q.a⟩],d,b⟩ 1 []:=((E9 _ 1 s).trans (xi _ 1 rfl s)).trans (nU ..)
    rw[e]
    generalize q.n.gw s=i at*
    clear b0 H n t T o a4 e B a3 s1 s2 d1 d2 b1 hd
    go_enter vH,vJ
    go_upto_region 10 with(first|refine Kl a ?_|refine KB a 210 3 _ λ b7 b9 b8 a=>?_)
    refine RG a 15 [1,0,3] λ c0 a r=>?_
    refine VV [0,1,2002,3,4,5,2006,7,2008,9,10,2011,12,2013] r ?_
    clear r
    refine KV 14 (en 149) 81 ?_
    refine(A.U _ _ _ (a.U.ft [9,7,7,7,7,7,7,7,9,9])).mono ?_
    intro e D a8
    obtain⟨a9,a7,rfl,f⟩:=a8
    replace a:=Z (nW f)
    refine⟨_,rfl,bo a [4,3,6],?_⟩
    simp only[aH,au,ay]
    refine WT ?_
    go_wp2_with((go_at_call 140;(refine(b6.U _ _ _ _ [p,⟨i,q.a⟩] _ (a.U.ft [3,1000,9,3,3,9,9,9,9,7,9,9]).cr 1 zD (by have:=v.U.1;omega) (λ x hx=>by have:=v.U.2 x hx;omega)).mono ?_);rintro e D ⟨rfl,X,f⟩;replace a:=Z f;clear f))
    go_end0
    have f:=a.U.fs [1,1000,7,7,7,7,7,7,7,7]
    exact⟨rfl,aZ.ko (M:=⟨g,G,F,S,a5,⟨u,P,pd,N⟩,⟨y,a9,a7,Q⟩,a0⟩) (m:=⟨k,c,[p,⟨i,q.a⟩],d,b⟩) (p:=p) (q:=⟨i,q.a⟩) a1.U rfl f⟩
  ·have c5:(src== -1)=false:=by rw[cc];exact L
   by_cases b4:a2=0
   ·subst b4
    by_cases E:(0:Int)<src
    focus
     have b2:=Z (λ(j:aa) (J:ab) (z:List Y) (I:af C j m (Y.aQ u P p.n::Y.dk u.a J p.n.d::z))=>qO B I n.n.ok (n.n.bG o) (src-1) s)
     have v:=Z (⟨(jG (n.n.bG o) (src-1) s).1,λ x hx=>by have:=(jG (n.n.bG o) (src-1) s).2 x hx;omega⟩:(p.n.cW (src-1) s).length<=2/\∀x∈p.n.cW (src-1) s,-2<=x.1/\x.1<=0)
     have e:ME.eg ⟨k,c,[p,q],d,b⟩ ⟨src,0,s⟩=ME.send ⟨k,c,[⟨p.n.dU (src-1) s,p.a⟩,q],d,b⟩ 0 (p.n.cW (src-1) s):=by
      rw[show ME.eg ⟨k,c,[p,q],d,b⟩ ⟨src,0,s⟩=ME.peer ⟨k,c,[p,q],d,b⟩ 0 (if((0:Nat):Int)<src then src-1 else src) s from vY _ src 0 s L,ax (show((0:Nat):Int)<src from E)]
      exact(sF _ 0 rfl (src-1) s).trans (by rw[nT])
     rw[e]
     have f1:decide ((0:Int)<src)=true:=aS E
     have f2:IntKind.wrap .i64 (src-1)=src-1:=by rw[fS]<;>omega
     generalize p.n.dU (src-1) s=i at*
     generalize p.n.cW (src-1) s=c1 at*
    rotate_left
    focus
     have b2:=Z (λ(j:aa) (J:ab) (z:List Y) (I:af C j m (Y.aQ u P p.n::Y.dk u.a J p.n.d::z))=>qO B I n.n.ok (n.n.bG o) src s)
     have v:=Z (⟨(jG (n.n.bG o) src s).1,λ x hx=>by have:=(jG (n.n.bG o) src s).2 x hx;omega⟩:(p.n.cW src s).length<=2/\∀x∈p.n.cW src s,-2<=x.1/\x.1<=0)
     have e:ME.eg ⟨k,c,[p,q],d,b⟩ ⟨src,0,s⟩=ME.send ⟨k,c,[⟨p.n.dU src s,p.a⟩,q],d,b⟩ 0 (p.n.cW src s):=by
      rw[show ME.eg ⟨k,c,[p,q],d,b⟩ ⟨src,0,s⟩=ME.peer ⟨k,c,[p,q],d,b⟩ 0 (if((0:Nat):Int)<src then src-1 else src) s from vY _ src 0 s L,aj (show¬((0:Nat):Int)<src from E)]
      exact(sF _ 0 rfl src s).trans (by rw[nT])
     rw[e]
     have f1:decide ((0:Int)<src)=false:=bu E
     skip
     generalize p.n.dU src s=i at*
     generalize p.n.cW src s=c1 at*
    all_goals
     clear b0 H n t T o a4 e B a3 s1 s2 d1 d2 b1 hd L E
     go_enter vH,vJ
     go_upto_if 11 with(first|(refine KL a 0 3 ?_)|(refine KB a 210 3 ([_,_,_]) λ b7 b9 b8 a=>?_))
     try rw[f1]
     go_upto_region 4 with(fail)
     refine RG a 16 [1,0,3] λ c0 a r=>?_
     refine VV [0,1,2002,3,4,5,2006,7,2008,9,10,2011,12,13,2014] r ?_
     clear r
     refine KV 15 (en 29) 29 ?_
     refine(b2.U _ _ _ (a.U.ft [9,9,9,9,7,7,7,7,9,9])).mono ?_
     intro e D a8
     obtain⟨A,c3,a9,a7,rfl,f⟩:=a8
     replace a:=Z f;clear f
     refine⟨_,rfl,bo a [4,3,6],?_⟩
     simp only[aH,au,ay]
     refine WT ?_
     go_wp2_with((go_at_call 140;(refine(b6.U _ _ _ _ [⟨i,p.a⟩,q] _ (a.U.ft [3,1000,9,9,9,9,6,6,9,7,9,9]).cr 0 zD (by have:=v.U.1;omega) (λ x hx=>by have:=v.U.2 x hx;omega)).mono ?_);rintro e D ⟨rfl,X,f⟩;replace a:=Z f;clear f))
     go_end0
     have f:=a.U.fs [1,1000,7,7,7,7,7,7,7,7]
     exact⟨rfl,aZ.ko (M:=⟨g,G,F,S,a5,⟨u,a9,a7,N⟩,⟨y,R,a6,Q⟩,a0⟩) (m:=⟨k,c,[⟨i,p.a⟩,q],d,b⟩) (p:=⟨i,p.a⟩) (q:=q) a1.U rfl f⟩
   ·have b5:a2=1:=by omega
    subst b5
    by_cases E:(1:Int)<src
    focus
     have b2:=Z (λ(j:aa) (J:ab) (z:List Y) (I:af C j m (Y.aQ y R q.n::Y.dk y.a J q.n.d::z))=>qO B I t.n.ok (t.n.bG o) (src-1) s)
     have v:=Z (⟨(jG (t.n.bG o) (src-1) s).1,λ x hx=>by have:=(jG (t.n.bG o) (src-1) s).2 x hx;omega⟩:(q.n.cW (src-1) s).length<=2/\∀x∈q.n.cW (src-1) s,-2<=x.1/\x.1<=0)
     have e:ME.eg ⟨k,c,[p,q],d,b⟩ ⟨src,1,s⟩=ME.send ⟨k,c,[p,⟨q.n.dU (src-1) s,q.a⟩],d,b⟩ 1 (q.n.cW (src-1) s):=by
      rw[show ME.eg ⟨k,c,[p,q],d,b⟩ ⟨src,1,s⟩=ME.peer ⟨k,c,[p,q],d,b⟩ 1 (if((1:Nat):Int)<src then src-1 else src) s from vY _ src 1 s L,ax (show((1:Nat):Int)<src from E)]
      exact(sF _ 1 rfl (src-1) s).trans (by rw[nU])
     rw[e]
     have f1:decide ((1:Int)<src)=true:=aS E
     have f2:IntKind.wrap .i64 (src-1)=src-1:=by rw[fS]<;>omega
     generalize q.n.dU (src-1) s=i at*
     generalize q.n.cW (src-1) s=c1 at*
    rotate_left
    focus
     have b2:=Z (λ(j:aa) (J:ab) (z:List Y) (I:af C j m (Y.aQ y R q.n::Y.dk y.a J q.n.d::z))=>qO B I t.n.ok (t.n.bG o) src s)
     have v:=Z (⟨(jG (t.n.bG o) src s).1,λ x hx=>by have:=(jG (t.n.bG o) src s).2 x hx;omega⟩:(q.n.cW src s).length<=2/\∀x∈q.n.cW src s,-2<=x.1/\x.1<=0)
     have e:ME.eg ⟨k,c,[p,q],d,b⟩ ⟨src,1,s⟩=ME.send ⟨k,c,[p,⟨q.n.dU src s,q.a⟩],d,b⟩ 1 (q.n.cW src s):=by
      rw[show ME.eg ⟨k,c,[p,q],d,b⟩ ⟨src,1,s⟩=ME.peer ⟨k,c,[p,q],d,b⟩ 1 (if((1:Nat):Int)<src then src-1 else src) s from vY _ src 1 s L,aj (show¬((1:Nat):Int)<src from E)]
      exact(sF _ 1 rfl src s).trans (by rw[nU])
     rw[e]
     have f1:decide ((1:Int)<src)=false:=bu E
     skip
     generalize q.n.dU src s=i at*
     generalize q.n.cW src s=c1 at*
    all_goals
     clear b0 H n t T o a4 e B a3 s1 s2 d1 d2 b1 hd L E
     go_enter vH,vJ
     go_upto_if 11 with(first|(refine KL a 0 3 ?_)|(refine KB a 210 3 ([_,_,_]) λ b7 b9 b8 a=>?_))
     try rw[f1]
     go_upto_region 4 with(fail)
     refine RG a 16 [1,0,3] λ c0 a r=>?_
     refine VV [0,1,2002,3,4,5,2006,7,2008,9,10,2011,12,13,2014] r ?_
     clear r
     refine KV 15 (en 29) 29 ?_
     refine(b2.U _ _ _ (a.U.ft [9,7,7,7,7,7,7,7,9,9])).mono ?_
     intro e D a8
     obtain⟨A,c3,a9,a7,rfl,f⟩:=a8
     replace a:=Z f;clear f
     refine⟨_,rfl,bo a [4,3,6],?_⟩
     simp only[aH,au,ay]
     refine WT ?_
     go_wp2_with((go_at_call 140;(refine(b6.U _ _ _ _ [p,⟨i,q.a⟩] _ (a.U.ft [3,1000,9,3,3,9,9,9,9,7,9,9]).cr 1 zD (by have:=v.U.1;omega) (λ x hx=>by have:=v.U.2 x hx;omega)).mono ?_);rintro e D ⟨rfl,X,f⟩;replace a:=Z f;clear f))
     go_end0
     have f:=a.U.fs [1,1000,7,7,7,7,7,7,7,7]
     exact⟨rfl,aZ.ko (M:=⟨g,G,F,S,a5,⟨u,P,pd,N⟩,⟨y,a9,a7,Q⟩,a0⟩) (m:=⟨k,c,[p,⟨i,q.a⟩],d,b⟩) (p:=p) (q:=⟨i,q.a⟩) a1.U rfl f⟩
