import Derived.Test.YtncpbkoinennoaaGreatDoorMBJ
set_option linter.all false
set_option maxRecDepth 100000
set_option maxHeartbeats 0
namespace Go.Proofs.YtncpbkoinennoaaGreatDoor
open Go.RowKit Proofs.Tryz
attribute [local irreducible] wpList Calls
variable{m:List Nat}{M:ME}{g:Nat}
def yr(n:ND)(b a:Nat):(n.fP b a).d=n.d:=by
 obtain⟨s1,s2,s3,s4,s5,s6,s7,s8⟩:=Bi n b a;obtain⟨d,e,f,q4,g,c,h,i⟩:=AO (n.cx b a) b a;unfold ND.fP;dsimp only;split
 ·exact c.trans s6
 ·exact c.trans s6
def US{t w:aa}{K:Nat}(J:TM m t)(h:aZ t w m g M)(u:M.aI K)(x:AC)(hx:x.right=true):
 Calls prog 66 #[pV g,x.val] w (hI t m g (if M.aT x.a=true then M.tick x.a.toNat ((M.now+(1+x.n%8))%18446744073709551616) x.n else M)):=by
 obtain⟨a8,p,q,rfl,a,b4,a3⟩:=h
 have H:x.n<18446744073709551616:=by
  unfold AC.right at hx
  simp only[cQ,dx] at hx
  omega
 obtain⟨k,c,l,f,j⟩:=M
 simp only at b4
 subst b4
 have y:=u.pl p zS
 have s:=u.pl q zS
 have P:=u.b
 have G:=u.p1
 have a2:=u.now
 simp only at y s P G a2
 obtain⟨g,B,z,E,I,⟨C,S,pd,R⟩,⟨D,a0,T,X⟩,a4⟩:=a8
 have a5:ai (2<=z):=Z a
 clear a
 obtain⟨b9,o,b8,a,c0⟩:=x
 simp only at H
 have b:ai (af t w m [Y.row g 126 (ME.cells ⟨k,c,[p,q],f,j⟩ E (ad (some ⟨B,0,none⟩) 2 z) I),Y.ow 210 3 I f.length (bB f),Y.row B 129 (jI ⟨C,S,pd,R⟩ ⟨D,a0,T,X⟩ a4),Y.aQ C S p.n,Y.dk C.a pd p.n.d,Y.vw R p.a,Y.aQ D a0 q.n,Y.dk D.a T q.n.d,Y.vw X q.a]):=Z a3
 have a1:=Z (λ(n:aa) (d:(Y.row g 126 (ME.cells ⟨k,c,[p,q],f,j⟩ E (ad (some ⟨B,0,none⟩) 2 z) I)).P n)=>su (m:=⟨k,c,[p,q],f,j⟩) d o)
 have F:(j+(1+a%8))%18446744073709551616<18446744073709551616:=pY _ zD
 obtain⟨d,b5⟩:∃d,(j+(1+a%8))%18446744073709551616=d:=⟨_,rfl⟩
 rw[b5] at F
 have c3:IntKind.wrap .u64 ((j:Int)+(1+(a:Int)%8))=(d:Int):=by
  rw[kB]
  omega
 have c2:IntKind.wrap .u64 (1+(a:Int)%8)=1+(a:Int)%8:=by
  rw[kB]
  omega
 have c1:((a:Int)).tmod 8=((a%8:Nat):Int):=by
  rw[gd W];omega
 have b1:ai (∀(n:aa) (L:List SD) (v nq:ab) (e:List PL) (A:List Y),af t n m (Y.mc g E (ad (some ⟨B,0,none⟩) 2 z) nq ⟨k,c,e,f,d⟩::Y.so v L::A)->∀(i:Nat),i<2->L.length<=10->(∀x∈L,-10<=x.1/\x.1<=10)->Calls prog 140 #[pV g,O (i:Int),v] n λ r N=>r=ao (aJ #[])/\∃b0,af t N m (Y.mc g E (ad (some ⟨B,0,none⟩) 2 z) b0 (ME.send ⟨k,c,e,f,d⟩ i L)::Y.so v L::A)):=Z (λ n L v nq e A h i L r hx=>ue (m:=⟨k,c,e,f,d⟩) h i L P r hx)
 show Calls prog 66 #[pV g,aG #[O b9,O o,O b8,U (a:Int),ae c0]] w (hI t m g (if ME.aT ⟨k,c,[p,q],f,j⟩ o=true then ME.tick ⟨k,c,[p,q],f,j⟩ o.toNat ((j+(1+a%8))%18446744073709551616) a else⟨k,c,[p,q],f,j⟩))
 rw[b5]
 by_cases b2:o=0
 focus
  subst b2
  rw[ax (show ME.aT ⟨k,c,[p,q],f,j⟩ 0=true from rfl)]
  have a7:=Z (λ(n:aa) (A:List Y) (s:af t n m (Y.aQ C S p.n::A))=>Di J s y.n.ok (y.n.bG G) y.n.bN d a F H)
  have L:=uS y.n.bN d a
  have r:=Z L
  have e:ME.tick ⟨k,c,[p,q],f,j⟩ (0:Int).toNat d a=ME.send ⟨k,c,[⟨p.n.fP d a,p.a⟩,q],f,d⟩ 0 (p.n.gA d a):=(KU _ 0 rfl d a).trans (by rw[nT])
  rw[e]
  have Q:(p.n.fP d a).d=p.n.d:=yr p.n d a
  have a6:=Z Q
  generalize p.n.fP d a=a9 at*
  generalize p.n.gA d a=b6 at*
  clear a3 u y s P G a2 L e J Q hx F H
  have N:(decide (0<=(0:Int))&&decide ((0:Int)<2))=true:=rfl
 rotate_left
 focus
  by_cases b3:o=1
  focus
   subst b3
   rw[ax (show ME.aT ⟨k,c,[p,q],f,j⟩ 1=true from rfl)]
   have a7:=Z (λ(n:aa) (A:List Y) (b7:af t n m (Y.aQ D a0 q.n::A))=>Di J b7 s.n.ok (s.n.bG G) s.n.bN d a F H)
   have L:=uS s.n.bN d a
   have r:=Z L
   have e:ME.tick ⟨k,c,[p,q],f,j⟩ (1:Int).toNat d a=ME.send ⟨k,c,[p,⟨q.n.fP d a,q.a⟩],f,d⟩ 1 (q.n.gA d a):=(KU _ 1 rfl d a).trans (by rw[nU])
   rw[e]
   have Q:(q.n.fP d a).d=q.n.d:=yr q.n d a
   have a6:=Z Q
   generalize q.n.fP d a=a9 at*
   generalize q.n.gA d a=b6 at*
   clear a3 u y s P G a2 L e J Q hx F H
   have N:(decide (0<=(1:Int))&&decide ((1:Int)<2))=true:=rfl
  rotate_left
  ·have A:ME.aT ⟨k,c,[p,q],f,j⟩ o=false:=by
    unfold ME.aT
    rw[yT]
    by_cases L:0<=o
    ·right;exact bu (by show¬o<2;omega)
    ·left;exact bu L
   rw[aj (by rw[A];decide)]
   have N:(decide (0<=o)&&decide (o<2))=false:=A
   rw[N] at a1
   clear a3 u y s P G a2 J hx F H A N b2 b3
   go_enter func66,ntmps66
   go_wp2_with(first|refine Kl b ?_|refine KB b 55 3 _ λ L G P b=>?_|go_at_call 72;refine KC b (a1.U _ (b.U.get (i:=1) rfl)) λ s b=>?_)
   go_ret
   exact⟨_,rfl,aZ.mk ⟨g,B,z,E,I,⟨C,S,pd,R⟩,⟨D,a0,T,X⟩,a4⟩ p q a5.U rfl b.U.tail⟩
 rotate_left
 all_goals
  rw[N] at a1
  go_enter func66,ntmps66
  go_upto_region 3 with(first|refine Kl b ?_|refine KB b 55 3 _ λ L G P b=>?_|go_at_call 72;refine KC b (a1.U _ (b.U.get (i:=1) rfl)) λ s b=>?_)
  refine RG b 11 [1,0] λ Q b i=>?_
  refine VV [0,1,2,2003,4,2005] i ?_
  refine W2 6 16 (v:=U ((a%8:Nat):Int)) rfl rfl (Or.inl ⟨by kernel_rfl,λ n F=>by(go_simp;done)⟩) i ?_
  refine W2 7 17 (v:=U ((1+a%8:Nat):Int)) rfl rfl (Or.inl ⟨by kernel_rfl,λ n F=>by(go_simp;done)⟩) i ?_
  refine W2 8 18 (v:=U (d:Int)) rfl rfl (Or.inl ⟨by kernel_rfl,λ n F=>by(go_simp;done)⟩) i ?_
  refine VV [9,10] i ?_
  clear i
  refine WT ?_
  go_upto_region 4 with(refine KS b λ G b=>?_)
  refine RG b 19 [1,0,3] λ Q b i=>?_
  refine VV [0,1,2002,3,4,5,2006,7,2008,9,10,2011,12,13,14,2015,16,2017] i ?_
  clear i
  refine KV 18 (en 141) 39 ?_
 ·refine(a7.U _ _ (b.U.ft [4])).mono ?_
  intro e s v
  obtain⟨A,H,y,rfl,i⟩:=v
  replace b:=Z i;clear i
  refine⟨_,rfl,bo b [3,2,5],?_⟩
  simp only[aH,au,ay]
  refine WT ?_
  go_wp2_with((go_at_call 140;(refine(b1.U _ _ _ _ [⟨a9,p.a⟩,q] _ (b.U.ft [2,1000,9,9,9,9,9,6,9,7,9,9]).cr 0 zD (by have:=r.U.1;omega) (λ x hx=>by have:=r.U.2 x hx;omega)).mono ?_);rintro e s ⟨rfl,b0,i⟩;replace b:=Z i;clear i))
  go_ret
  have i:=b.U.fs [1,1000,7,7,7,7,7,7,7,7]
  exact⟨_,rfl,aZ.ko (M:=⟨g,B,z,E,I,⟨C,y,pd,R⟩,⟨D,a0,T,X⟩,a4⟩) a5.U rfl (by(rw[a6.U];exact i))⟩
 ·refine(a7.U _ _ (b.U.ft [7])).mono ?_
  intro e s v
  obtain⟨A,H,y,rfl,i⟩:=v
  replace b:=Z i;clear i
  refine⟨_,rfl,bo b [3,2,5],?_⟩
  simp only[aH,au,ay]
  refine WT ?_
  go_wp2_with((go_at_call 140;(refine(b1.U _ _ _ _ [p,⟨a9,q.a⟩] _ (b.U.ft [2,1000,9,9,3,9,9,9,9,7,9,9]).cr 1 zD (by have:=r.U.1;omega) (λ x hx=>by have:=r.U.2 x hx;omega)).mono ?_);rintro e s ⟨rfl,b0,i⟩;replace b:=Z i;clear i))
  go_ret
  have i:=b.U.fs [1,1000,7,7,7,7,7,7,7,7]
  exact⟨_,rfl,aZ.ko (M:=⟨g,B,z,E,I,⟨C,S,pd,R⟩,⟨D,y,T,X⟩,a4⟩) a5.U rfl (by(rw[a6.U];exact i))⟩
variable{a:Act}{i n:Nat}{o:Oper}{X:Operand}{t:TypeId}
def mA(L:List PK):(bB L).length=L.length*3:=by
 induction L with
 |nil=>rfl
 |cons p L a=>
  have e:bB (p::L)=[Value.int .i64 p.src,Value.int .i64 p.dst,ae p.s]++bB L:=rfl;rw[e,bA,a,fU];simp;omega
def IU:∀(L:List PK) (i:Nat),i<L.length->(bB L).take (i*3)++(bB L).drop ((i+1)*3)=bB (L.eraseIdx i)
 |[],i,h=>absurd h (jm _)
 |p::L,0,h=>rfl
 |p::L,i+1,h=>by
  have e:bB (p::L)=Value.int .i64 p.src::Value.int .i64 p.dst::ae p.s::bB L:=rfl
  have e2:bB ((p::L).eraseIdx (i+1))=Value.int .i64 p.src::Value.int .i64 p.dst::ae p.s::bB (L.eraseIdx i):=rfl
  rw[e,e2,<-IU L i (by simpa using h)]
  have e3:(i+1)*3=i*3+1+1+1:=by omega
  have e4:(i+1+1)*3=(i+1)*3+1+1+1:=by omega
  rw[e4]
  generalize(i+1)*3=z at*
  subst e3
  rfl
def IW(L:List PK):∀v∈bB L,v.oneCell'=true:=λ v a=>by
 unfold bB at a;obtain⟨l,c,b⟩:=Er.1 a;obtain⟨p,-,rfl⟩:=ep.1 c;simp only[bV,rz,sz] at b;rcases b with rfl|rfl|rfl<;>rfl
def IV:∀(L:List PK) (i:Nat) {p:PK},L[i]?=some p->((bB L).drop (i*3)).take 3=[Value.int .i64 p.src,Value.int .i64 p.dst,ae p.s]
 |[],i,p,h=>by cases h
 |q::L,0,p,h=>by cases h;rfl
 |q::L,i+1,p,h=>by
  have e:bB (q::L)=Value.int .i64 q.src::Value.int .i64 q.dst::ae q.s::bB L:=rfl
  rw[e,show(i+1)*3=i*3+1+1+1 by omega]
  exact IV L i h
def Xu{w:aa}{b c:List ab}(h:(Y.row g t b).P w)(o:Nat)(e:(b.drop o).take c.length=c):w.rangeAt g o c:=by
 intro j v a;have d:ah w g t b.toArray:=h;rw[d.cell];rw[<-e,zo] at a;split at a
 ·rw[zn] at a;simpa using a
 ·cases a
def IX{w:aa}{L:List PK}{c:List ab}{p:PK}(h:(Y.row g 210 (bB L++c)).P w)(a:L[i]?=some p)(b:n=i*3):w.rangeAt g n [O p.src,O p.dst,ae p.s]:=by
 subst b;refine Xu h _ ?_;have e:i<L.length:=(ed.1 a).1;have d:=mA L;rw[vr W,vx (by rw[hG];simp;omega)];exact IV L i a
def ri(n:Nat):List ab:=(madeCells #[O 0,O 0,ae ⟨#[]⟩] (n*3)).toList
def IY(X a:List ab)(o n:Nat)(h:o+n<=X.length):((X++a).drop o).take n=(X.drop o).take n:=by
 rw[vr W,vx (by rw[hG];omega)]
def yO(n:Nat):(ri n).length=n*3:=by simp[ri,madeCells]
def Th:(prog.info? 210).map (λ i=>(i.zero,i.size,i.bytes))=some (some (aG #[O 0,O 0,ae ⟨#[]⟩]),3,32):=by kernel_rfl
def UW(n:Nat)(f:n<=1000)(w:aa):(Instr.makeSlice 118 (O (n:Int)) (O (n:Int))).run prog w= .ok (ad (some ⟨w.heap.size,0,none⟩) n n) (w.alloc (.cells (ri n).toArray 210)):=by
 obtain⟨e,b,c,a,d⟩:=ki Th;have h:=run_makeSlice (P:=prog) w 118 210 e _ vL b c .i64 .i64 (n:Int) (n:Int) W (ze _) (by rw[a];simp;omega) (by rw[d];simp;omega) W;rw[h,mS,a];rfl
def U6{wr:aa}(c:o.op= .makeSlice 118 X X)(hx:a.eval X=O (n:Int))(b:n<=1000):(execOp a.eval o).run prog wr= .ok (.value (bk (some n) wr.heap.size)) (wr.alloc (.cells (ri n).toArray 210)):=by
 have d:=UW n b wr;unfold execOp;simp only[c,hx,d,cL,dw,cZ];rfl
def Om{A B a:List ab}(c:A.length=i*3)(d:B.length=(n-i)*3)(f:a.length=n*3)(e:i<=n){b:List ab}(h1:b=a.take 0++(A++a.drop (0+A.length))):b.take (i*3)++(B++b.drop (i*3+B.length))=A++B:=by
 subst h1;rw[pU,fV,eu];have e1:(A++a.drop A.length).take (i*3)=A:=by rw[<-c,zt]
 have e2:(A++a.drop A.length).drop (i*3+B.length)=[]:=by
  apply jQ;rw[bA,hG];omega
 rw[e1,e2,pN]
def Ol{A b:List ab}(c:A.length=n*3)(d:b.length=n*3){a:List ab}(h1:a=b.take 0++(A++b.drop (0+A.length))):a.take g++(([]:List ab)++a.drop (g+([]:List ab).length))=A:=by
 subst h1;rw[fV,oo,hJ,ou,pU,fV,eu,c,jQ W,pN]
def tk(c:aa)(a:List Nat)(g:Nat)(E:Nat)(m:ME)(e:Ending)(b:aa):Prop:=e=ao (O (E:Int))/\aZ c b a g m
def HQ{I w:aa}{K:Nat}(b2:TM m I)(h:aZ I w m g M)(B:M.aI K)(x:AC)(a8:0<=x.a)(c2:x.a<=255):
 Calls prog 67 #[pV g,x.val] w (tk I m g (M.oW x.c) (M.bW x.c x.a)):=by
 obtain⟨e7,p,q,rfl,b,d4,d⟩:=h
 obtain⟨k,c,l,a,o⟩:=M
 simp only at d4
 subst d4
 have b3:=B.pl p zS
 have b5:=B.pl q zS
 have a4:=B.b
 have b4:=B.p1
 have a9:=B.now
 simp only at b3 b5 a4 b4 a9
 obtain⟨g,A,D,H,c3,⟨E,N,pd,L⟩,⟨F,R,P,Q⟩,X⟩:=e7
 have a1:ai (2<=D):=Z b
 clear b
 have b:ai (af I w m [Y.row g 126 (ME.cells ⟨k,c,[p,q],a,o⟩ H (ad (some ⟨A,0,none⟩) 2 D) c3),Y.ow 210 3 c3 a.length (bB a),Y.row A 129 (jI ⟨E,N,pd,L⟩ ⟨F,R,P,Q⟩ X),Y.aQ E N p.n,Y.dk E.a pd p.n.d,Y.vw L p.a,Y.aQ F R q.n,Y.dk F.a P q.n.d,Y.vw Q q.a]):=Z d
 obtain⟨r,C,e0,e3,e4⟩:=x
 simp only at a8 c2
 show Calls prog 67 #[pV g,aG #[O r,O C,O e0,U (e3:Int),ae e4]] w (tk I m g (ME.oW ⟨k,c,[p,q],a,o⟩ r) (ME.bW ⟨k,c,[p,q],a,o⟩ r C))
 by_cases T:a.length=0
 ·have e1:ME.oW ⟨k,c,[p,q],a,o⟩ r=5:=ax T
  have d7:a=[]:=kC T
  have e2:ME.bW ⟨k,c,[p,q],a,o⟩ r C=⟨k,c,[p,q],a,o⟩:=by subst d7;rfl
  rw[e1,e2]
  obtain⟨f0,f8,c1,-⟩:=cF (show w.ownsRow 0 210 3 c3 a.length (bB a) from b.U.get (i:=1) rfl)
  subst c1 d7
  clear d B b3 b5 a4 b4 a9 e1 e2 b2 T
  go_enter func67,ntmps67
  go_wp2_with(first|refine Kl b ?_|refine KB b 55 3 _ λ b7 y d3 b=>?_)
  go_ret
  exact⟨rfl,aZ.mk ⟨g,A,D,H,ad f0 0 f8,⟨E,N,pd,L⟩,⟨F,R,P,Q⟩,X⟩ p q a1.U rfl b.U.tail⟩
 ·have a3:C.toNat%a.length<a.length:=pY _ W
  obtain⟨i,j⟩:∃i,C.toNat%a.length=i:=⟨_,rfl⟩
  rw[j] at a3
  obtain⟨⟨src,G,s⟩,J⟩:∃z,a[i]?=some z:=⟨a[i],ba a3⟩
  have a5:=B.g ⟨src,G,s⟩ (dB J)
  obtain⟨d0,t,c7,c1,b9,a7,b6,n⟩:=nL b.U 1 rfl T
  subst c1
  simp only[au,ay] at n
  clear b d
  have b:=Z n
  clear n
  have g5:C.tmod (a.length:Int)=(i:Int):=by
   rw[gd a8,<-j]
   have e:((C.toNat%a.length:Nat):Int)=(C.toNat:Int)%(a.length:Int):=Int.natCast_emod _ _
   rw[e,Ei a8]
  have g6:IntKind.wrap .i64 (i:Int)=(i:Int):=by rw[fS]<;>omega
  have f9:((a.length:Int)==0)=false:=by rw[cc];omega
  have g4:(i:Int)<(a.length:Int):=by omega
  have g3:(0:Int)<=(i:Int):=by omega
  have c8:=Z J
  by_cases k3:r=3
  ·subst k3
   have e1:ME.oW ⟨k,c,[p,q],a,o⟩ 3=ME.cC ⟨k,c,[p,q],a,o⟩:=(aj T).trans (ax rfl)
   have e2:ME.bW ⟨k,c,[p,q],a,o⟩ 3 C=ME.put ⟨k,c,[p,q],a,o⟩ ⟨src,G,s⟩:=by
    unfold ME.bW
    dsimp only
    rw[j,J]
    rfl
   rw[e1,e2]
   have b1:ai ((⟨k,c,[p,q],a,o⟩:ME).b.length<=64):=Z a4
   have S:=Z (⟨b9,a7,b6⟩:a.length<=t/\t<=maxLen/\(bB a++c7).length=t*3)
   clear B b3 b5 a4 b4 a9 e1 e2 b2 j a5 a8 c2 b9 a7 b6 a3 J
   go_enter func67,ntmps67
   go_upto_region 3 with(first|refine Kl b ?_|refine KB b 55 3 _ λ b7 y d3 b=>?_)
   refine RG b 8 [1,0] λ c6 b u=>?_
   refine VV [0,2001,2,3,4,2005,6] u ?_
   refine W2 7 21 (v:=O (i:Int)) rfl rfl (Or.inl ⟨by kernel_rfl,λ c5 e8=>by(go_simp;done)⟩) u ?_
   clear u
   refine WT ?_
   go_wp2_with(first|refine Kl b ?_|refine KT b 3 ?_|refine KS b λ y b=>?_|refine KA b _ 6 Lw λ c9 y e9 b=>?_|refine dX rfl 210 3 rfl rfl (IX (b.U.get (i:=2) rfl) c8.U zR) rfl V ?_|go_at_call 146;(refine(ud (m:=⟨k,c,[p,q],a,o⟩) (((ie ((((((((((((b.U).tail).tail.ft [8]).ar 8 rfl).ar 8 rfl).ar 8 rfl).ar 8 rfl).ar 8 rfl).ar 8 rfl).ar 8 rfl).ar 8 rfl)) 1 rfl a.length t 3 S.U.1 S.U.2.1 S.U.2.2 (bB a) (by rw[<-mA a,zt]))).cr.get (i:=0) rfl) b1.U ⟨src,G,s⟩).mono ?_);rintro e e6 ⟨rfl,c4,a6⟩;have n:=(ie ((((((((((((b.U).tail).tail.ft [8]).ar 8 rfl).ar 8 rfl).ar 8 rfl).ar 8 rfl).ar 8 rfl).ar 8 rfl).ar 8 rfl).ar 8 rfl)) 1 rfl a.length t 3 S.U.1 S.U.2.1 S.U.2.2 (bB a) (by rw[<-mA a,zt])).cr.at 0 rfl a6;simp only[au,ay] at n;replace b:=Z n;clear n;clear a6)
   go_ret
   exact⟨rfl,aZ.mk ⟨g,A,D,H,c4,⟨E,N,pd,L⟩,⟨F,R,P,Q⟩,X⟩ p q a1.U (sH _ _).1 (b.U.fZ)⟩
  ·have g0:(r==3)=false:=by rw[cc];exact k3
   have e1:ME.oW ⟨k,c,[p,q],a,o⟩ r=0:=(aj T).trans (aj k3)
   have e2:ME.bW ⟨k,c,[p,q],a,o⟩ r C=if r=4 then ME.put ⟨k,c,[p,q],a.eraseIdx i,o⟩ ⟨src,G,s⟩ else if r=1 then ME.eg ⟨k,c,[p,q],a.eraseIdx i,o⟩ ⟨src,G,s⟩ else⟨k,c,[p,q],a.eraseIdx i,o⟩:=by
    unfold ME.bW
    dsimp only
    rw[j,J]
    dsimp only
    rw[aj k3]
   rw[e1,e2]
   obtain⟨e5,d⟩:∃e5,(if r=4 then ME.put ⟨k,c,[p,q],a.eraseIdx i,o⟩ ⟨src,G,s⟩ else if r=1 then ME.eg ⟨k,c,[p,q],a.eraseIdx i,o⟩ ⟨src,G,s⟩ else⟨k,c,[p,q],a.eraseIdx i,o⟩)=e5:=⟨_,rfl⟩
   rw[d]
   have a2:=Z d
   clear d
   have c0:(a.eraseIdx i).length=a.length-1:=List.length_eraseIdx_of_lt a3
   have b8:ME.aI K ⟨k,c,[p,q],a.eraseIdx i,o⟩:=B.Ik (by rw[c0];show a.length-1<=64;omega) (λ z T=>B.g z (zr T))
   have b0:=Z (λ(c5:aa) (d:aZ I c5 m g ⟨k,c,[p,q],a.eraseIdx i,o⟩)=>UK b2 d b8 ⟨src,G,s⟩ a5)
   have d8:(⟨k,c,[p,q],a.eraseIdx i,o⟩:ME).b.length<=64:=b8.b
   have b1:=Z d8
   have d2:=IU a i a3
   have d9:=mA a
   obtain⟨d,d5⟩:∃d,a.length=d+1:=⟨a.length-1,by omega⟩
   have g7:IntKind.wrap .i64 ((a.length:Int)-1)=(d:Int):=by rw[fS]<;>omega
   have g8:IntKind.wrap .i64 ((i:Int)+1)=((i+1:Nat):Int):=by rw[fS]<;>omega
   have d1:(a.eraseIdx i).length=d:=by rw[c0];omega
   have a0:i<=d:=by omega
   have d6:d<=1000:=by omega
   have f:=Z (⟨d2,d9,d5,d1,a0,d6⟩:(bB a).take (i*3)++(bB a).drop ((i+1)*3)=bB (a.eraseIdx i)/\(bB a).length=a.length*3/\a.length=d+1/\(a.eraseIdx i).length=d/\i<=d/\d<=1000)
   have S:=Z (⟨b9,a7,b6⟩:a.length<=t/\t<=maxLen/\(bB a++c7).length=t*3)
   have g1:(i:Int)<=(d:Int):=by omega
   have g2:((i+1:Nat):Int)<=(a.length:Int):=by omega
   clear B b3 b5 a4 b4 a9 e1 e2 b2 j a5 a8 c2 b8 d8 d2 d9 c0 a7 b6 J d5 d1 a0 d6
   go_enter func67,ntmps67
   go_upto_region 3 with(first|refine Kl b ?_|refine KB b 55 3 _ λ b7 y d3 b=>?_)
   refine RG b 8 [1,0] λ c6 b u=>?_
   refine VV [0,2001,2,3,4,2005,6] u ?_
   refine W2 7 21 (v:=O (i:Int)) rfl rfl (Or.inl ⟨by kernel_rfl,λ c5 e8=>by(go_simp;done)⟩) u ?_
   clear u
   refine WT ?_
   go_upto_region 7 with(first|refine Kl b ?_|refine KS b λ y b=>?_|refine KA b _ 6 Lw λ c9 y e9 b=>?_|refine dX rfl 210 3 rfl rfl (IX (b.U.get (i:=2) rfl) c8.U zR) rfl V ?_)
   have a9:ai (((bB a).drop 0).take (i*3)=(bB a).take (i*3)):=Z rfl
   go_upto_region 8 with(first|refine Kl b ?_|(with_reducible show wpList _ _ _ (⟨_,.makeSlice _ _ _,_,_,_,_⟩::_) _ _);(refine Mk b.U rfl 41 rfl (some d) 210 (ri d) (U6 rfl rfl f.U.2.2.2.2.2) λ J y d6 n=>?_;replace b:=Z n;clear n;simp only[bk]))
   go_upto_region 9 with(first|refine Kl b ?_|refine pJ b.U rfl tN rfl 0 rfl rfl rfl i ⟨aW _,f.U.2.2.2.2.1,.inl rfl⟩ (((bB a).drop 0).take (i*3)) (by rw[a9.U,ee];have:=f.U.2.1;have:=f.U.2.2.1;have:=f.U.2.2.2.2.1;omega) (λ j v a4=>qU b.U 4 rfl 0 (i*3) j v (by rw[IY _ _ _ _ (by have:=f.U.2.1;have:=f.U.2.2.1;have:=f.U.2.2.2.2.1;omega)];exact a4)) (by rw[yO];have:=f.U.2.2.2.2.1;omega) (λ v a7=>IW a v (pT (oq a7))) ?_;intro y n;simp only[au,ay] at n;replace b:=Z n;clear n)
   try simp only[uw,CP,aH,au,ay]
   have n:=b.U
   obtain⟨b4,b3⟩:∃b4,b4=(ri d).take 0++((((bB a).drop 0).take (i*3))++(ri d).drop (0+(((bB a).drop 0).take (i*3)).length)):=⟨_,rfl⟩
   rw[<-b3] at n
   clear b
   have b:=Z n
   have b5:(((bB a).drop 0).take (i*3)).length=i*3:=by rw[a9.U,ee];have:=f.U.2.1;have:=f.U.2.2.1;have:=f.U.2.2.2.2.1;omega
   have d1:b4.length=d*3:=by
    rw[b3,pU,fV,bA,hG,b5,yO];have:=f.U.2.2.2.2.1;omega
   have b8:=Z b3;have c0:=Z d1;have b6:=Z b5
   clear n b3 d1 b5
   go_cut [] from 50 to 60 (λ b3=>af I b3 m (Y.row J 210 (bB (a.eraseIdx i))::[Y.row c9 210 [O src,O G,ae s],Y.row b7 55 [O r,O C,O e0,U (e3:Int),ae e4],Y.row g 126 (ME.cells ⟨k,c,[p,q],a,o⟩ H (ad (some ⟨A,0,none⟩) 2 D) (ad (some ⟨d0,0,none⟩) a.length t)),Y.row d0 210 (bB a++c7),Y.row A 129 (jI ⟨E,N,pd,L⟩ ⟨F,R,P,Q⟩ X),Y.aQ E N p.n,Y.dk E.a pd p.n.d,Y.vw L p.a,Y.aQ F R q.n,Y.dk F.a P q.n.d,Y.vw Q q.a]))
   case first=>
    clear b0 b1
    by_cases a0:i=d
    ·have b5:i=d:=a0
     subst b5
     have f5:(0:Int)<=(i:Int)+1:=by omega
     have f6:(i:Int)+1<=(a.length:Int):=by have:=f.U.2.2.1;omega
     by_cases b3:t=i+1
     focus have f7:t=i+1:=b3
     rotate_left
     focus have f7:¬t=i+1:=b3
     all_goals
      clear a0 b3
      refine RG b 10 [3] λ c6 b u=>?_
      refine VV [0,1,2,3,4,5,2006,7,8,9] u ?_
      clear u
      refine WT ?_
      go_wp2_with((refine pJ b.U rfl tN rfl 0 rfl rfl rfl 0 ⟨bh _,bh _,.inr W⟩ [] rfl (λ j v a4=>by cases a4) (by rw[c0.U];omega) (λ v a7=>by cases a7) ?_;intro y n;simp only[au,ay] at n;replace b:=Z n;clear n))
      go_meet
      have n:=b.U
      rw[Ol b6.U (yO i) b8.U] at n
      rw[show((bB a).drop 0).take (i*3)=bB (a.eraseIdx i) from by rw[a9.U,<-f.U.1,jQ (by have:=f.U.2.1;have:=f.U.2.2.1;omega),pN]] at n
      exact n
    ·have b3:i<d:=by have:=f.U.2.2.2.2.1;omega
     have f1:¬(i:Int)=(d:Int):=by omega
     have f2:(i:Int)<(d:Int):=by omega
     have f3:¬(d:Int)=(i:Int):=by omega
     have f4:¬d=i:=by omega
     have f5:(0:Int)<=(i:Int)+1:=by omega
     have f6:(i:Int)+1<=(a.length:Int):=by have:=f.U.2.2.1;omega
     have f7:¬t=i+1:=by have:=f.U.2.2.1;have:=S.U.1;omega
     clear a0 b3
     refine RG b 10 [3] λ c6 b u=>?_
     refine VV [0,1,2,3,4,5,2006,7,8,9] u ?_
     clear u
     refine WT ?_
     go_wp2_with((refine pJ b.U rfl tN rfl 0 rfl rfl rfl (d-i) ⟨by have:=f.U.2.2.1;have:=f.U.2.2.2.2.1;omega,by omega,.inr W⟩ (((bB a).drop ((i+1)*3)).take ((d-i)*3)) (by rw[ee,hG];have:=f.U.2.1;have:=f.U.2.2.1;have:=f.U.2.2.2.2.1;omega) (λ j v a4=>qU b.U 4 rfl ((i+1)*3) ((d-i)*3) j v (by rw[IY _ _ _ _ (by have:=f.U.2.1;have:=f.U.2.2.1;have:=f.U.2.2.2.2.1;omega)];exact a4)) (by rw[c0.U];have:=f.U.2.2.2.2.1;omega) (λ v a7=>IW a v (pT (oq a7))) ?_;intro y n;simp only[au,ay] at n;replace b:=Z n;clear n))
     go_meet
     have n:=b.U
     have u:(((bB a).drop ((i+1)*3)).take ((d-i)*3)).length=(d-i)*3:=by rw[ee,hG];have:=f.U.2.1;have:=f.U.2.2.1;have:=f.U.2.2.2.2.1;omega
     rw[Om b6.U u (yO d) f.U.2.2.2.2.1 b8.U] at n
     rw[show((bB a).drop 0).take (i*3)++((bB a).drop ((i+1)*3)).take ((d-i)*3)=bB (a.eraseIdx i) from by rw[a9.U,<-f.U.1,cS (i:=(d-i)*3) (by rw[hG];have:=f.U.2.1;have:=f.U.2.2.1;omega)]] at n
     exact n
   case rest=>
    clear b
    have b:=Z hcut
    clear hcut
    by_cases k4:r=4
    ·subst k4
     have u:=a2.U
     rw[ax rfl] at u
     have a0:=Z u
     clear b0 a2 u
     go_wp2_with(first|refine Kl b ?_|refine KT b 3 ?_|refine KS b λ y b=>?_|go_at_call 146;have b3:=(show af I _ m (Y.row g 126 (ME.cells ⟨k,c,[p,q],a.eraseIdx i,o⟩ H (ad (some ⟨A,0,none⟩) 2 D) (ad (some ⟨J,0,none⟩) d d))::Y.ow 210 3 (ad (some ⟨J,0,none⟩) d d) (⟨k,c,[p,q],a.eraseIdx i,o⟩:ME).b.length (bB (a.eraseIdx i))::_) from by rw[show(⟨k,c,[p,q],a.eraseIdx i,o⟩:ME).b.length=d from f.U.2.2.2.1];exact(ie (b.U.ft [1,1000,1,1000,2,1000,8,8,8,8,8,8,8,7,8]) 1 rfl d d 3 (aW _) (by have:=f.U.2.2.2.2.2;unfold maxLen;omega) (by rw[mA,f.U.2.2.2.1]) (bB (a.eraseIdx i)) (by rw[cS (by rw[mA,f.U.2.2.2.1];exact aW _)]))).cr;(refine(ud (m:=⟨k,c,[p,q],a.eraseIdx i,o⟩) (b3.get (i:=0) rfl) b1.U ⟨src,G,s⟩).mono ?_);rintro e e6 ⟨rfl,c4,a6⟩;have n:=b3.at 0 rfl a6;simp only[au,ay] at n;replace b:=Z n;clear n;clear a6 b3)
     go_ret
     exact⟨rfl,by rw[<-a0.U];exact aZ.mk ⟨g,A,D,H,c4,⟨E,N,pd,L⟩,⟨F,R,P,Q⟩,X⟩ p q a1.U (sH _ _).1 b.U.fZ⟩
    ·have u:=a2.U
     rw[aj k4] at u
     have d5:(r==4)=false:=by rw[cc];exact k4
     by_cases k1:r=1
     ·subst k1
      rw[ax rfl] at u
      have a0:=Z u
      clear a2 u k4
      go_wp2_with(first|refine Kl b ?_|refine KT b 3 ?_|refine KS b λ y b=>?_|go_at_call 147;have b5:=aZ.mk (m:=⟨k,c,[p,q],a.eraseIdx i,o⟩) ⟨g,A,D,H,ad (some ⟨J,0,none⟩) d d,⟨E,N,pd,L⟩,⟨F,R,P,Q⟩,X⟩ p q a1.U rfl (show af I _ m (Y.row g 126 (ME.cells ⟨k,c,[p,q],a.eraseIdx i,o⟩ H (ad (some ⟨A,0,none⟩) 2 D) (ad (some ⟨J,0,none⟩) d d))::Y.ow 210 3 (ad (some ⟨J,0,none⟩) d d) (⟨k,c,[p,q],a.eraseIdx i,o⟩:ME).b.length (bB (a.eraseIdx i))::_) from by rw[show(⟨k,c,[p,q],a.eraseIdx i,o⟩:ME).b.length=d from f.U.2.2.2.1];exact(ie (b.U.ft [1,1000,1,1000,2,1000,8,8,8,8,8,8,8,7,8]) 1 rfl d d 3 (aW _) (by have:=f.U.2.2.2.2.2;unfold maxLen;omega) (by rw[mA,f.U.2.2.2.1]) (bB (a.eraseIdx i)) (by rw[cS (by rw[mA,f.U.2.2.2.1];exact aW _)])));(refine(b0.U _ b5).mono ?_);intro e e6 a5;obtain⟨rfl,d1⟩:=a5;clear b;have d2:=Z d1;clear b5 d1)
      go_ret
      exact⟨rfl,by rw[<-a0.U];exact d2.U⟩
     ·rw[aj k1] at u
      have a0:=Z u
      clear a2 u
      have u:(r==1)=false:=by rw[cc];exact k1
      clear b0 k1 k4
      go_wp2_with(first|refine Kl b ?_|refine KS b λ y b=>?_)
      go_ret
      exact⟨rfl,by rw[<-a0.U];exact aZ.mk ⟨g,A,D,H,ad (some ⟨J,0,none⟩) d d,⟨E,N,pd,L⟩,⟨F,R,P,Q⟩,X⟩ p q a1.U rfl (show af I _ m (Y.row g 126 (ME.cells ⟨k,c,[p,q],a.eraseIdx i,o⟩ H (ad (some ⟨A,0,none⟩) 2 D) (ad (some ⟨J,0,none⟩) d d))::Y.ow 210 3 (ad (some ⟨J,0,none⟩) d d) (⟨k,c,[p,q],a.eraseIdx i,o⟩:ME).b.length (bB (a.eraseIdx i))::_) from by rw[show(⟨k,c,[p,q],a.eraseIdx i,o⟩:ME).b.length=d from f.U.2.2.2.1];exact(ie (b.U.ft [1,1000,1,1000,2,1000,8,8,8,8,8,8,8,7,8]) 1 rfl d d 3 (aW _) (by have:=f.U.2.2.2.2.2;unfold maxLen;omega) (by rw[mA,f.U.2.2.2.1]) (bB (a.eraseIdx i)) (by rw[cS (by rw[mA,f.U.2.2.2.1];exact aW _)])))⟩
variable{C:CF}{f r:Int}
def Ud(k:KY)(c:CF)(p q:PL)(a:List PK)(b:Nat)(s:ag):ME.leaf ⟨k,c,[p,q],a,b⟩ 0 s=if 12<=p.a.length then⟨k,c,[p,q],a,b⟩ else⟨k,c,[⟨p.n,p.a++[fW s]⟩,q],a,b⟩:=by
 have d:ME.oR ⟨k,c,[p,q],a,b⟩ 0=decide (12<=p.a.length):=by
  simp[ME.oR,ME.oS,ME.aT,List.range,List.range.loop]
 unfold ME.leaf;rw[d];by_cases h:12<=p.a.length
 ·rw[ax (aS h),ax h]
 ·rw[aj (by rw[bu h];decide),aj h];rfl
def Ue(k:KY)(c:CF)(p q:PL)(a:List PK)(b:Nat)(s:ag):ME.leaf ⟨k,c,[p,q],a,b⟩ 1 s=if 12<=q.a.length then⟨k,c,[p,q],a,b⟩ else⟨k,c,[p,⟨q.n,q.a++[fW s]⟩],a,b⟩:=by
 have d:ME.oR ⟨k,c,[p,q],a,b⟩ 1=decide (12<=q.a.length):=by
  simp[ME.oR,ME.oS,ME.aT,List.range,List.range.loop]
 unfold ME.leaf;rw[d];by_cases h:12<=q.a.length
 ·rw[ax (aS h),ax h]
 ·rw[aj (by rw[bu h];decide),aj h];rfl
def Uh(k:KY)(c:CF)(p q:PL)(a:List PK)(b:Nat)(s:ag)(g:ME.aT ⟨k,c,[p,q],a,b⟩ r=false):ME.leaf ⟨k,c,[p,q],a,b⟩ r s=if 12<=p.a.length then⟨k,c,[p,q],a,b⟩ else if 12<=q.a.length then⟨k,c,[p,q],a,b⟩ else⟨k,c,[⟨p.n,p.a++[fW s]⟩,⟨q.n,q.a++[fW s]⟩],a,b⟩:=by
 have e:∀j,ME.oS ⟨k,c,[p,q],a,b⟩ r j=true:=λ j=>by
  unfold ME.oS;rw[g];rfl
 have f:ME.oR ⟨k,c,[p,q],a,b⟩ r=(decide (12<=p.a.length)||decide (12<=q.a.length)):=by
  unfold ME.oR;simp only[e];simp[List.range,List.range.loop]
 unfold ME.leaf;rw[f];simp only[e];by_cases h:12<=p.a.length
 ·rw[ax (by rw[aS h];rfl),ax h]
 ·by_cases d:12<=q.a.length
  ·rw[ax (by rw[aS d];simp),aj h,ax d]
  ·rw[aj (by rw[bu h,bu d];decide),aj h,aj d];rfl
def Ug{k:KY}{p q:PL}{c:List PK}{s:ag}{i:Int}(h:(f=0/\r=1/\i=0)\/(f=1/\r=2/\i=1)\/(f=0/\r=2/\ME.aT ⟨k,C,[p,q],c,g⟩ i=false)):ME.leaf ⟨k,C,[p,q],c,g⟩ i s=if(f=0/\12<=p.a.length)\/(r=2/\12<=q.a.length) then⟨k,C,[p,q],c,g⟩ else⟨k,C,[if f=0 then⟨p.n,p.a++[fW s]⟩ else p,if r=2 then⟨q.n,q.a++[fW s]⟩ else q],c,g⟩:=by
 rcases h with⟨rfl,rfl,rfl⟩|⟨rfl,rfl,rfl⟩|⟨rfl,rfl,h⟩
 ·rw[Ud];simp
 ·rw[Ue];simp
 ·rw[Uh _ _ _ _ _ _ _ h];by_cases a:12<=p.a.length<;>by_cases b:12<=q.a.length<;>simp[a,b]
def UN{b3 w:aa}{K:Nat}(h:aZ b3 w m g M)(a2:M.aI K)(x:AC)(hx:x.right=true):
 Calls prog 68 #[pV g,x.val] w (hI b3 m g (M.leaf x.a x.s)):=by
 have c9:x.s.size<=4096:=by
  unfold AC.right at hx
  simp only[cQ,dx] at hx
  omega
 obtain⟨e8,p,q,rfl,a,c7,E⟩:=h
 obtain⟨k,c,l,r,D⟩:=M
 simp only at c7
 subst c7
 have s:=a2.pl p zS
 have o:=a2.pl q zS
 have y:=a2.b
 have A:=a2.p1
 have z:=a2.now
 simp only at s o y A z
 obtain⟨g,X,G,b2,a0,⟨J,a3,pd,c1⟩,⟨L,a5,a4,c2⟩,b6⟩:=e8
 have a7:ai (2<=G):=Z a
 clear a
 have a:ai (af b3 w m [Y.row g 126 (ME.cells ⟨k,c,[p,q],r,D⟩ b2 (ad (some ⟨X,0,none⟩) 2 G) a0),Y.ow 210 3 a0 r.length (bB r),Y.row X 129 (jI ⟨J,a3,pd,c1⟩ ⟨L,a5,a4,c2⟩ b6),Y.aQ J a3 p.n,Y.dk J.a pd p.n.d,Y.vw c1 p.a,Y.aQ L a5 q.n,Y.dk L.a a4 q.n.d,Y.vw c2 q.a]):=Z E
 obtain⟨d5,d,d4,d6,e⟩:=x
 simp only at c9
 have b7:=Z (λ(c3:aa) (a8:(Y.row g 126 (ME.cells ⟨k,c,[p,q],r,D⟩ b2 (ad (some ⟨X,0,none⟩) 2 G) a0)).P c3)=>su (m:=⟨k,c,[p,q],r,D⟩) a8 d)
 show Calls prog 68 #[pV g,aG #[O d5,O d,O d4,U (d6:Int),ae e]] w (hI b3 m g (ME.leaf ⟨k,c,[p,q],r,D⟩ d e))
 obtain⟨d8,e0,f3,-⟩:=cF (show w.ownsRow 0 9 1 c1 p.a.length (aV p.a) from a.U.get (i:=5) rfl)
 obtain⟨d9,e1,f4,-⟩:=cF (show w.ownsRow 0 9 1 c2 q.a.length (aV q.a) from a.U.get (i:=8) rfl)
 subst f3 f4
 obtain⟨B,j⟩:=p
 obtain⟨C,n⟩:=q
 have b8:=s.len
 have b9:=o.len
 simp only at b8 b9
 have b4:=Z (⟨b8,b9⟩:j.length<=12/\n.length<=12)
 have f2:min (e.size:Int) 40=((min e.size 40:Nat):Int):=by omega
 have hcut:fW e=e.extract 0 (min e.size 40):=rfl
 have e6:=Z (sP j (fW e))
 have e7:=Z (sP n (fW e))
 have c4:ai (∀f:List ag,(f++[fW e]).length=f.length+1):=Z (λ f=>by simp)
 obtain⟨b1,c8⟩:∃b1,min e.size 40=b1:=⟨_,rfl⟩
 rw[c8] at f2 hcut
 have g0:(b1:Int)<=(e.size:Int):=by omega
 have g1:(0:Int)<=(b1:Int):=by omega
 have e3:=Z hcut
 obtain⟨R,c0⟩:∃R,ME.leaf ⟨k,c,[⟨B,j⟩,⟨C,n⟩],r,D⟩ d e=R:=⟨_,rfl⟩
 rw[c0]
 have c5:ai (∀f:List ag,∃b,decide ((12:Int)<=(f.length:Int))=b/\(b=true↔12<=f.length)):=Z (λ f=>⟨_,rfl,by simp;omega⟩)
 have f7:(1:Int)<=(G:Int):=by have:=a7.U;omega
 have f8:(2:Int)<=(G:Int):=by have:=a7.U;omega
 have f9:¬G=1:=by have:=a7.U;omega
 obtain⟨f,t,H,I⟩:∃f t:Int,ai ((f=0/\t=1/\d=0)\/(f=1/\t=2/\d=1)\/(f=0/\t=2/\(d<0\/2<=d)))/\(d=0\/d=1\/(decide (0<=d)&&decide (d<2))=false):=by
  by_cases b:d=0
  ·exact⟨0,1,Z (.inl ⟨rfl,rfl,b⟩),.inl b⟩
  by_cases u:d=1
  ·exact⟨1,2,Z (.inr (.inl ⟨rfl,rfl,u⟩)),.inr (.inl u)⟩
  have F:(decide (0<=d)&&decide (d<2))=false:=by simp;omega
  exact⟨0,2,Z (.inr (.inr ⟨rfl,rfl,by omega⟩)),.inr (.inr F)⟩
 have c6:ai (R=if(f=0/\12<=j.length)\/(t=2/\12<=n.length) then⟨k,c,[⟨B,j⟩,⟨C,n⟩],r,D⟩ else⟨k,c,[if f=0 then⟨B,j++[fW e]⟩ else⟨B,j⟩,if t=2 then⟨C,n++[fW e]⟩ else⟨C,n⟩],r,D⟩):=Z (by rw[<-c0];exact Ug (H.U.imp_right (λ h=>h.imp_right (λ h=>⟨h.1,h.2.1,by show(decide (0<=d)&&decide (d<2))=false;simp;omega⟩))))
 clear E a2 s o y A z hx hcut c8 c9 b8 b9 c0
 go_enter func68,ntmps68
 go_upto_region 1 with(refine KB a 55 3 _ λ f1 a6 f5 a=>?_)
 obtain⟨F,hF⟩:∃F:aa->List ag->Option Addr->Nat->List ag->Option Addr->Nat->Prop,∀wr b N Q s P S,F wr b N Q s P S=ai (af b3 wr m [Y.row f1 55 [O d5,O d,O d4,U (d6:Int),ae e],Y.row g 126 (ME.cells ⟨k,c,[⟨B,j⟩,⟨C,n⟩],r,D⟩ b2 (ad (some ⟨X,0,none⟩) 2 G) a0),Y.ow 210 3 a0 r.length (bB r),Y.row X 129 (jI ⟨J,a3,pd,ad N b.length Q⟩ ⟨L,a5,a4,ad P s.length S⟩ b6),Y.aQ J a3 B,Y.dk J.a pd B.d,Y.ow 9 1 (ad N b.length Q) b.length (aV b),Y.aQ L a5 C,Y.dk L.a a4 C.d,Y.ow 9 1 (ad P s.length S) s.length (aV s)]):=⟨_,λ _ _ _ _ _ _ _=>rfl⟩
 have a1:=Z hF
 clear hF
 refine RG a 6 [1] λ e2 a A=>?_
 refine VV [0,1,2,2003,4,5] A ?_
 clear A
 refine WT ?_
 rcases I with I|I|I
 iterate 2
  focus
   subst I
   go_upto_region 3 with(first|refine Kl a ?_|go_at_call 72;refine KC a (b7.U _ (a.U.get (i:=1) rfl)) λ u a=>?_)
   refine RG a 6 [0] λ e2 a A=>?_
   refine VV [0,2001,2,2003,4,5] A ?_
   clear A
   refine WT ?_
   go_wp2_with(refine Kl a ?_)
  rotate_left
 focus
  have y:d<0\/2<=d:=by simp at I;omega
  rw[I] at b7
  go_wp2_with(first|refine Kl a ?_|go_at_call 72;refine KC a (b7.U _ (a.U.get (i:=1) rfl)) λ u a=>?_)
 all_goals
  go_loopw [32] (λ T wr=>∃z:Int,T=O z/\(z=0\/z=1\/z=2)/\z<=t-f/\((f=0/\0<z)->¬12<=j.length)/\(f+z=2->¬12<=n.length)/\F wr j d8 e0 n d9 e1) (λ T _=>2-(intOf T).toNat)
  case atStart=>exact⟨0,rfl,.inl rfl,by have:=H.U;omega,by omega,by have:=H.U;omega,by rw[a1.U];exact a⟩
  case round=>
   clear a
   obtain⟨z,rfl,a9,b0,b5,d7,a⟩:=hrel
   rw[a1.U] at a
   rcases H.U with⟨u,y,E⟩|⟨u,y,E⟩|⟨u,y,E⟩
   all_goals try(exfalso;omega)
   rcases(show z<t-f\/z=t-f by omega) with hx|hx
   focus
    rcases a9 with rfl|rfl|rfl
    all_goals try(exfalso;omega)
    all_goals
     obtain⟨e9,d0,d2⟩:=c5.U j
     obtain⟨f0,d1,d3⟩:=c5.U n
     have e4:=Z (And.intro (And.intro u y) (And.intro d2 d3))
     have e5:=Z b5
     clear d2 d3 b5 d7 u y E hx b0
     cases e9<;>cases f0
     all_goals
      go_wp2_with(first|refine KT a 3 ?_|refine Kl a ?_|refine KS a λ a6 a=>?_|refine KA a _ 8 aaT λ d3 a6 f6 a=>?_)
      have d2:=e4.U
      have g2:=e5.U
      simp only[true_iff,false_iff,reduceCtorEq,fy] at d2
      first
       |go_ret
        have a8:(⟨k,c,[⟨B,j⟩,⟨C,n⟩],r,D⟩:ME)=R:=by rw[c6.U,ax W]
        subst a8
        exact⟨_,rfl,aZ.mk ⟨g,X,G,b2,a0,⟨J,a3,pd,ad d8 j.length e0⟩,⟨L,a5,a4,ad d9 n.length e1⟩,b6⟩ ⟨B,j⟩ ⟨C,n⟩ a7.U rfl a.U.tail.tail⟩
       |exact⟨⟨_,rfl,by omega,by omega,by omega,by omega,by rw[a1.U];exact Z a.U.tail⟩,by decide⟩
   have d3:ai (¬((f=0/\12<=j.length)\/(t=2/\12<=n.length))):=Z W
   first|(have o:z=1:=W;subst o)|(have o:z=2:=W;subst o)
   clear b5 d7 u y E hx a9 b0
   go_wp2_with fail
   go_loopw [9] (λ T wr=>∃(z:Int) (b s:List ag) (N:Option Addr) (Q:Nat) (P:Option Addr) (S:Nat),T=O z/\f<=z/\z<=t/\(if f=0/\0<z then j++[fW e] else j)=b/\(if z=2 then n++[fW e] else n)=s/\F wr b N Q s P S) (λ T _=>2-(intOf T).toNat)
   case atStart=>exact⟨_,_,_,_,_,_,_,rfl,by have:=H.U;omega,by have:=H.U;omega,aj (by have:=H.U;omega),aj zD,by rw[a1.U];exact a⟩
   case round=>
    clear a
    obtain⟨z,b,s,N,Q,P,S,rfl,a9,b0,T,b5,a⟩:=hrel
    rw[a1.U] at a
    rcases H.U with⟨u,y,E⟩|⟨u,y,E⟩|⟨u,y,E⟩
    all_goals try(exfalso;omega)
    rcases(show z<t\/z=t by omega) with hx|hx
    focus
     rcases(show z=0\/z=1 by omega) with rfl|rfl
     all_goals try(exfalso;omega)
     all_goals
      obtain rfl:n=s:=by rw[<-b5,aj zD]
      have d2:=Z (And.intro u y)
      first|(have o:j=b:=(by rw[<-T,aj W]);subst o)|(have o:j++[fW e]=b:=(by rw[<-T,ax W]);subst o)
      clear u y E hx a9 b0 T b5
      go_upto_region 13 with fail
      refine RG a 22 [1,0,3] λ e2 a A=>?_
      refine VV [0,1,2,2003,4,5,6,7,2008,9,10,11,2012,13,2014,15,2016,17] A ?_
      refine W2 18 65 (v:=O (b1:Int)) rfl rfl (Or.inl ⟨by kernel_rfl,λ c3 e5=>by(go_simp;done)⟩) A ?_
      refine W2 19 66 (v:=ae (fW e)) rfl rfl (Or.inl ⟨by kernel_rfl,λ c3 e5=>by(go_simp;rw[e3.U])⟩) A ?_
      clear A
      refine az.make a.U (i:=20) V zD rfl rfl 67 rfl (some 1) 9 [ae (fW e)] (by go_simp;rfl) ?_
      intro e9 a6 f0 A
      replace a:=Z A;clear A
      refine⟨bo a [2,1,4],?_⟩
      simp only[bk]
      simp only[aH,au,ay]
      first
       |refine az.app a.U (i:=21) V zD rfl rfl 68 rfl la rfl 7 rfl rfl 0 rfl rfl rfl rfl (by have:=b4.U.1;unfold maxLen;omega) (by have:=b4.U.1;omega) (λ e4 d7 a6 A=> ?_)
       |refine az.app a.U (i:=21) V zD rfl rfl 68 rfl la rfl 10 rfl rfl 0 rfl rfl rfl rfl (by have:=b4.U.2;unfold maxLen;omega) (by have:=b4.U.2;omega) (λ e4 d7 a6 A=> ?_)
      simp only[au,ay] at A
      replace a:=Z A;clear A
      refine⟨bo a [2,1,4],?_⟩
      try simp only[aH,au,ay]
      refine WT ?_
      go_wp2_with(refine KS a λ a6 a=>?_)
      have A:=a.U.tail
      first|rw[e6.U,<-c4.U j] at A|rw[e7.U,<-c4.U n] at A
      have I:=d2.U
      exact⟨⟨_,_,_,_,_,_,_,rfl,by omega,by omega,by first|rw[ax W]|rw[aj W],by first|rw[ax rfl]|rw[aj zD],by rw[a1.U];exact Z A⟩,by decide⟩
    have a8:(⟨k,c,[⟨B,b⟩,⟨C,s⟩],r,D⟩:ME)=R:=by
     rw[c6.U,aj d3.U,<-T,<-b5]
     simp[u,y,hx]
    first|(have o:z=1:=W;subst o)|(have o:z=2:=W;subst o)
    clear u y E hx a9 b0 T b5
    go_wp2_with fail
    go_ret
    subst a8
    exact⟨_,rfl,aZ.mk ⟨g,X,G,b2,a0,⟨J,a3,pd,ad N b.length Q⟩,⟨L,a5,a4,ad P s.length S⟩,b6⟩ ⟨B,b⟩ ⟨C,s⟩ a7.U rfl a.U.tail⟩
def rT(f:Nat)(m:ME)(h:m.b.length=0):ME.eO f m=m:=by
 cases f with
 |zero=>rfl
 |succ f=>unfold ME.eO;rw[ax h]
def OY(f:Nat)(m:ME)(h:¬m.b.length=0):ME.eO (f+1) m=ME.eO f (m.bW 1 0):=by
 rw[ME.eO,aj h]
def UR{s w:aa}{K:Nat}(c3:TM m s)(h:aZ s w m g M)(t:M.aI K)(g3:K<=40000):
 Calls prog 60 #[pV g] w (zv s m g M.round):=by
 obtain⟨m1,c7⟩:∃m1,M.tick 0 (bw M.now M.c.a) 0=m1:=⟨_,rfl⟩
 obtain⟨m2,c8⟩:∃m2,m1.tick 1 (bw m1.now m1.c.a) 0=m2:=⟨_,rfl⟩
 have e0:m1.aI (K+1):=by rw[<-c7];exact t.tick W zD (iX _ _) 0
 have f5:m2.aI (K+2):=by rw[<-c8];exact e0.tick W zD (iX _ _) 0
 have f7:M.round=ME.eO 200 m2:=by
  have a:=t.two
  unfold ME.round
  rw[a]
  show ME.eO 200 (ME.ja [0,1] M)=_
  rw[ME.ja,ME.ja,ME.ja,c7,c8]
 rw[f7]
 have f0:=Z (λ(d:aa) (o:ME) (b:Nat) (y:aZ s d m g o) (a:o.aI b)=>HQ c3 y a ⟨1,0,0,0,⟨#[]⟩⟩ (ze _) zD)
 have d9:=Z (λ(d:aa) (j:List Y) (a:NA) (x:NV) (n:ND) (c:CF) (b f:Nat) (y:af s d m (Y.aQ a x n::j)) (u:n.aI c b) (a1:c.bG=1) (a0:f<18446744073709551616)=>Di c3 y u.ok (u.bG a1) u.bN f 0 a0 zD)
 have d8:=Z (λ(d:aa) (a b:Nat) (e:a<18446744073709551616) (i:b<18446744073709551616)=>nR a b e i d)
 have e4:=Z t;have e5:=Z e0;have e6:=Z f5
 have d7:=Z h
 have e8:=Z c7;have e9:=Z c8
 have g0:=Z c3
 obtain⟨S,p,q,P,X,T,a9⟩:=d7.U
 have a:=Z a9
 obtain⟨N,g6,g5,g8,g7,g1,g2,g9⟩:=S
 simp only at P
 subst P
 clear a9 X T
 go_enter func60,ntmps60
 go_wp2_with(refine Kl a ?_)
 clear a
 go_loopw [8] (λ z wr=>(z=O 0/\ai (aZ s wr m N M))\/(z=O 1/\ai (aZ s wr m N m1))\/(z=O 2/\ai (aZ s wr m N m2))) (λ z _=>2-(intOf z).toNat)
 case atStart=>exact .inl ⟨rfl,d7⟩
 case round=>
  obtain⟨rfl,H⟩|⟨rfl,H⟩|⟨rfl,H⟩:=hrel
  ·obtain⟨S,p,q,P,X,T,a9⟩:=H.U
   obtain⟨B,E,D,J,a4,⟨F,Q,pd,a5⟩,⟨G,R,a6,a7⟩,b5⟩:=S
   simp only at P X
   subst P
   have t:=e4.U
   obtain⟨k,c,l,b,f⟩:=M
   simp only at T
   subst T
   have b3:=t.pl p zS
   have y:=t.pl q zS
   have b2:=t.b
   have a1:=t.p1
   have a0:=t.now
   have b1:=t.c
   simp only at b3 y b2 a1 a0 b1
   have a:ai (af s _ m [Y.row B 126 (ME.cells ⟨k,c,[p,q],b,f⟩ J (ad (some ⟨E,0,none⟩) 2 D) a4),Y.ow 210 3 a4 b.length (bB b),Y.row E 129 (jI ⟨F,Q,pd,a5⟩ ⟨G,R,a6,a7⟩ b5),Y.aQ F Q p.n,Y.dk F.a pd p.n.d,Y.vw a5 p.a,Y.aQ G R q.n,Y.dk G.a a6 q.n.d,Y.vw a7 q.a]):=Z a9
   have b8:ai (2<=D):=Z X
   have c5:c.a<18446744073709551616:=by have:=b1.b;omega
   have b9:=Z (λ d=>d8.U d f c.a a0 c5)
   have d0:=iX f c.a
   have e:ME.tick ⟨k,c,[p,q],b,f⟩ 0 (bw f c.a) 0=ME.send ⟨k,c,[⟨p.n.fP (bw f c.a) 0,p.a⟩,q],b,bw f c.a⟩ 0 (p.n.gA (bw f c.a) 0):=rfl
   generalize bw f c.a=n at*
   have c1:=Z (λ(d:aa) (j:List Y) (d3:af s d m (Y.aQ F Q p.n::j))=>d9.U d j F Q p.n c _ n d3 b3.n a1 d0)
   have c4:=uS b3.n.bN n 0
   have b0:=Z c4
   have c0:=Z (yr p.n n 0)
   have b7:ai (∀(d:aa) (L:List SD) (v nq:ab) (I:List PL) (j:List Y),af s d m (Y.mc B J (ad (some ⟨E,0,none⟩) 2 D) nq ⟨k,c,I,b,n⟩::Y.so v L::j)->∀(i:Nat),i<2->L.length<=10->(∀x∈L,-10<=x.1/\x.1<=10)->Calls prog 140 #[.pointer (some ⟨B,0,none⟩),O (i:Int),v] d λ r d4=>r=ao (aJ #[])/\∃b4,af s d4 m (Y.mc B J (ad (some ⟨E,0,none⟩) 2 D) b4 (ME.send ⟨k,c,I,b,n⟩ i L)::Y.so v L::j)):=Z (λ d L v nq I j h i c6 c2 hx=>ue (m:=⟨k,c,I,b,n⟩) h i c6 b2 c2 hx)
   have b6:=Z e
   generalize p.n.fP n 0=a3 at*
   generalize p.n.gA n 0=f2 at*
   go_upto_region 3 with fail
   refine RG a 13 [0] λ d5 a C=>?_
   refine VV [0,1,2,3,2004,5,6,7,8,2009] C ?_
   refine KV 10 (en 139) 21 ?_
   refine KQ (b9.U _) ?_
   refine⟨_,rfl,bo a [0],?_⟩
   simp only[aH,au,ay]
   have C:=bo a [0]
   refine VV [11,12] C ?_
   refine WT ?_
   go_upto_region 4 with(refine KS a λ f9 a=>?_)
   refine RG a 15 [0,2] λ d5 a C=>?_
   refine VV [0,1,2,3,4,2005,6,7,8,2009,10,11,12,2013] C ?_
   refine KV 14 (en 141) 38 ?_
   refine(c1.U _ _ (a.U.ft [8,8,8,8,8,7,7,7,8])).mono ?_
   intro e a8 a2
   obtain⟨A,f3,d6,rfl,u⟩:=a2
   replace a:=Z u
   refine⟨_,rfl,bo a [2,4],?_⟩
   simp only[aH,au,ay]
   refine WT ?_
   go_wp2_with((go_at_call 140;(refine(b7.U _ _ _ _ [⟨a3,p.a⟩,q] _ (a.U.ft [9,9,9,9,9,6,9,7,9,9]).cr 0 zD (by have:=b0.U.1;omega) (λ x hx=>by have:=b0.U.2 x hx;omega)).mono ?_);rintro e a8 ⟨rfl,b4,u⟩;replace a:=Z u))
   have u:=a.U.fs [1,1000,7,7,7,7,7,7,7,7]
   have c9:aZ s a8 m B (ME.tick ⟨k,c,[p,q],b,f⟩ 0 n 0):=by
    rw[b6.U]
    exact aZ.ko (M:=⟨B,E,D,J,a4,⟨F,d6,pd,a5⟩,⟨G,R,a6,a7⟩,b5⟩) (m:=⟨k,c,[⟨a3,p.a⟩,q],b,n⟩) (p:=⟨a3,p.a⟩) (q:=q) b8.U rfl (by(rw[c0.U];exact u))
   exact⟨.inr (.inl ⟨rfl,Z (by rw[<-e8.U];exact c9)⟩),by decide⟩
  ·obtain⟨S,p,q,P,X,T,a9⟩:=H.U
   obtain⟨B,E,D,J,a4,⟨F,Q,pd,a5⟩,⟨G,R,a6,a7⟩,b5⟩:=S
   simp only at P X
   subst P
   have t:=e5.U
   obtain⟨k,c,l,b,f⟩:=m1
   simp only at T
   subst T
   have b3:=t.pl p zS
   have y:=t.pl q zS
   have b2:=t.b
   have a1:=t.p1
   have a0:=t.now
   have b1:=t.c
   simp only at b3 y b2 a1 a0 b1
   have a:ai (af s _ m [Y.row B 126 (ME.cells ⟨k,c,[p,q],b,f⟩ J (ad (some ⟨E,0,none⟩) 2 D) a4),Y.ow 210 3 a4 b.length (bB b),Y.row E 129 (jI ⟨F,Q,pd,a5⟩ ⟨G,R,a6,a7⟩ b5),Y.aQ F Q p.n,Y.dk F.a pd p.n.d,Y.vw a5 p.a,Y.aQ G R q.n,Y.dk G.a a6 q.n.d,Y.vw a7 q.a]):=Z a9
   have b8:ai (2<=D):=Z X
   have c5:c.a<18446744073709551616:=by have:=b1.b;omega
   have b9:=Z (λ d=>d8.U d f c.a a0 c5)
   have d0:=iX f c.a
   have e:ME.tick ⟨k,c,[p,q],b,f⟩ 1 (bw f c.a) 0=ME.send ⟨k,c,[p,⟨q.n.fP (bw f c.a) 0,q.a⟩],b,bw f c.a⟩ 1 (q.n.gA (bw f c.a) 0):=rfl
   generalize bw f c.a=n at*
   have c1:=Z (λ(d:aa) (j:List Y) (d3:af s d m (Y.aQ G R q.n::j))=>d9.U d j G R q.n c _ n d3 y.n a1 d0)
   have c4:=uS y.n.bN n 0
   have b0:=Z c4
   have c0:=Z (yr q.n n 0)
   have b7:ai (∀(d:aa) (L:List SD) (v nq:ab) (I:List PL) (j:List Y),af s d m (Y.mc B J (ad (some ⟨E,0,none⟩) 2 D) nq ⟨k,c,I,b,n⟩::Y.so v L::j)->∀(i:Nat),i<2->L.length<=10->(∀x∈L,-10<=x.1/\x.1<=10)->Calls prog 140 #[.pointer (some ⟨B,0,none⟩),O (i:Int),v] d λ r d4=>r=ao (aJ #[])/\∃b4,af s d4 m (Y.mc B J (ad (some ⟨E,0,none⟩) 2 D) b4 (ME.send ⟨k,c,I,b,n⟩ i L)::Y.so v L::j)):=Z (λ d L v nq I j h i c6 c2 hx=>ue (m:=⟨k,c,I,b,n⟩) h i c6 b2 c2 hx)
   have b6:=Z e
   generalize q.n.fP n 0=a3 at*
   generalize q.n.gA n 0=f2 at*
   go_upto_region 3 with fail
   refine RG a 13 [0] λ d5 a C=>?_
   refine VV [0,1,2,3,2004,5,6,7,8,2009] C ?_
   refine KV 10 (en 139) 21 ?_
   refine KQ (b9.U _) ?_
   refine⟨_,rfl,bo a [0],?_⟩
   simp only[aH,au,ay]
   have C:=bo a [0]
   refine VV [11,12] C ?_
   refine WT ?_
   go_upto_region 4 with(refine KS a λ f9 a=>?_)
   refine RG a 15 [0,2] λ d5 a C=>?_
   refine VV [0,1,2,3,4,2005,6,7,8,2009,10,11,12,2013] C ?_
   refine KV 14 (en 141) 38 ?_
   refine(c1.U _ _ (a.U.ft [8,8,7,7,7,7,7,7,8])).mono ?_
   intro e a8 a2
   obtain⟨A,f3,d6,rfl,u⟩:=a2
   replace a:=Z u
   refine⟨_,rfl,bo a [2,4],?_⟩
   simp only[aH,au,ay]
   refine WT ?_
   go_wp2_with((go_at_call 140;(refine(b7.U _ _ _ _ [p,⟨a3,q.a⟩] _ (a.U.ft [9,9,3,9,9,9,9,7,9,9]).cr 1 zD (by have:=b0.U.1;omega) (λ x hx=>by have:=b0.U.2 x hx;omega)).mono ?_);rintro e a8 ⟨rfl,b4,u⟩;replace a:=Z u))
   have u:=a.U.fs [1,1000,7,7,7,7,7,7,7,7]
   have c9:aZ s a8 m B (ME.tick ⟨k,c,[p,q],b,f⟩ 1 n 0):=by
    rw[b6.U]
    exact aZ.ko (M:=⟨B,E,D,J,a4,⟨F,Q,pd,a5⟩,⟨G,d6,a6,a7⟩,b5⟩) (m:=⟨k,c,[p,⟨a3,q.a⟩],b,n⟩) (p:=p) (q:=⟨a3,q.a⟩) b8.U rfl (by(rw[c0.U];exact u))
   exact⟨.inr (.inr ⟨rfl,Z (by rw[<-e9.U];exact c9)⟩),by decide⟩
  ·go_wp2
   go_loopw [41] (λ z wr=>∃(j:Nat) (o:ME),j<=200/\z=O (j:Int)/\ai (o.aI (K+2+j))/\ai (ME.eO (200-j) o=ME.eO 200 m2)/\ai (aZ s wr m N o)) (λ z _=>200-(intOf z).toNat)
   case atStart=>exact⟨0,m2,bh _,rfl,e6,Z rfl,H⟩
   case round=>
    obtain⟨j,o,g4,rfl,d3,I,H⟩:=hrel
    by_cases e2:j<200
    ·have d1:decide (j<200)=true:=aS e2
     have d2:decide ((j:Int)<200)=true:=aS W
     have f4:∀z,o.oW 1=z->(z=5/\o.b.length=0)\/(z=0/\¬o.b.length=0):=by
      rintro z rfl
      unfold ME.oW
      by_cases i:o.b.length=0
      ·rw[ax i];exact .inl ⟨rfl,i⟩
      ·rw[aj i,aj zD];exact .inr ⟨rfl,i⟩
     have e3:=Z (λ(d:aa) (y:aZ s d m N o)=>f0.U d o _ y d3.U)
     have d4:=Z e2
     obtain⟨v,e1⟩:∃v,o.oW 1=v:=⟨_,rfl⟩
     have c6:ai (∀(d:aa) (y:aZ s d m N o),Calls prog 67 #[pV N,aG #[O 1,O 0,O 0,U 0,ae ⟨#[]⟩]] d (tk s m N v (o.bW 1 0))):=Z (λ d y=>by rw[<-e1];exact e3.U d y)
     rcases f4 v e1 with⟨rfl,i⟩|⟨rfl,i⟩
     ·have f8:o.bW 1 0=o:=by
       unfold ME.bW
       have:o.b=[]:=kC i
       rw[this];rfl
      have d:=I.U
      rw[rT _ _ i] at d
      have r:=Z d
      have f1:=Z f8
      go_wp2_with((go_at_call 67;(refine(c6.U _ H.U).mono ?_);intro e a8 a2;obtain⟨rfl,c2⟩:=a2;have L:=Z c2))
      go_end0
      refine⟨rfl,?_⟩
      rw[<-r.U,<-f1.U]
      exact L.U
     ·have d:=I.U
      rw[show 200-j=(200-(j+1))+1 by omega,OY _ _ i] at d
      have f6:=d3.U.bW W 1 0
      have e7:ai ((o.bW 1 0).aI (K+2+(j+1))):=Z f6
      have r:=Z d
      go_wp2_with((go_at_call 67;(refine(c6.U _ H.U).mono ?_);intro e a8 a2;obtain⟨rfl,c2⟩:=a2;have L:=Z c2))
      exact⟨⟨j+1,o.bW 1 0,by have:=d4.U;omega,by go_num,e7,r,L⟩,by have:=d4.U;simp[intOf];omega⟩
    ·obtain rfl:j=200:=by omega
     have d:=I.U
     have L:o=ME.eO 200 m2:=d
     have r:=Z L
     go_wp2
     go_end0
     refine⟨rfl,?_⟩
     rw[<-r.U]
     exact H.U
variable{A:Option Addr}
def Cj{j w:aa}{b:MA}{p q:PL}(n:M.l=[p,q])(f:af j w m (oU b M p q))(i:Nat)(l:i<2):
 CB 23 #[pV b.g,O (i:Int)] w (.pointer (some ⟨(if i=0 then b.p.a.g else b.q.a.g),0,none⟩)):=by
 have a:=Z (af.start w [])
 have e:=f.get (i:=0) rfl
 have c:=Z (aP e (aP (f.get (i:=2) rfl) bf))
 have d:=Z (λ(k:aa) (g:BW w k)=>su ((Y.lift _ e g)) (i:Int))
 have h:(decide (0<=(i:Int))&&decide ((i:Int)<2))=true:=by
  rw[cQ,dx,dx];omega
 rw[h] at d
 have h01:i=0\/i=1:=by omega
 rcases h01 with rfl|rfl
 focus
  rw[ax rfl]
  show Calls prog 23 #[pV b.g,O 0] w _
 rotate_left
 focus
  rw[aj zD]
  show Calls prog 23 #[pV b.g,O 1] w _
 all_goals
  go_enter func23,ntmps23
  go_wp2_with(first|(first|(refine il (a.U.bH c.U) 0 rfl rfl 124 rfl rfl V rfl ?_)|(refine il (a.U.bH c.U) 1 rfl rfl 56 rfl rfl V rfl ?_))|go_at_call 72;refine KC a (d.U _ a.U.ak) λ g a=>?_)
  go_ret
  exact⟨rfl,a.U.ak⟩
def Oa(A:Option Addr)(c:Nat)(w:aa):Calls prog 144 #[ad A 0 c] w λ r a=>∃B d,r=ao (ad B 0 d)/\BW w a:=by
 have b:=Z (af.start w []);cases A with
 |none=>
  have g:=λ a=>td (P:=prog) a 118 210 none 0 c 0 0 vL
  go_enter func144,ntmps144
  go_wp2_with(fail)
  go_ret
  exact⟨_,_,rfl,b.U.ak⟩
 |some x=>
  have g:=λ a=>td (P:=prog) a 118 210 (some x) 0 c 0 0 vL;have d:ai (∀a,Src prog 3 118 (.slice (some x) 0 c) 0 [] a):=Z (λ a=>(bD.src (t:=118) (e:=210) (size:=3) (w:=a) (v:= .slice (some x) 0 c) (xs:=[]) vL zD (λ y a=>by cases a) ⟨λ y a=>(by cases a),some x,c,rfl,by decide,λ i f=>absurd f (jm i)⟩))
  go_enter func144,ntmps144
  go_wp2_with(first|(with_reducible show cH);(refine Mk b.U rfl 5 rfl (some 0) 210 [] (by go_simp;(rfl)) ?_;intro j h k a;have a:=ie a 0 rfl 0 0 3 (aW _) zD rfl [] rfl;simp only[au,ay] at a;replace b:=Z a;simp only[bk])|refine sX b.U rfl tN rfl 0 rfl rfl rfl (d.U _) zD zD λ B q h a=>?_;simp only[au,ay] at a;replace b:=Z a)
  go_ret
  exact⟨_,_,rfl,b.U.ak⟩
def UO{w:aa}{i:ag}{f:ab}(h:(Y.row g 126 (M.cells i f (ad A 0 n))).P w):Calls prog 62 #[pV g] w λ r c=>∃B d,r=ao (ad B 0 d)/\BW w c:=by
 have a:=Z (af.start w []);have b:=Z (aP h bf)
 go_enter func62,ntmps62
 go_wp2_with(first|refine il (a.U.bH b.U) 0 rfl rfl 118 rfl rfl V rfl ?_|go_at_call 144;(refine(Oa _ _ _).mono ?_);rintro e j ⟨B,d,rfl,c⟩;replace a:=Z (a.U.below c))
 go_ret
 exact⟨_,_,rfl,a.U.ak⟩
