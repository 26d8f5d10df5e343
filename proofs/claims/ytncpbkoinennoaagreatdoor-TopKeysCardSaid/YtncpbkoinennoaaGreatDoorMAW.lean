import Derived.Test.YtncpbkoinennoaaGreatDoorMAS
import Derived.Test.YtncpbkoinennoaaGreatDoorMAU
set_option linter.all false
set_option maxRecDepth 100000
set_option maxHeartbeats 0
namespace Go.Proofs.YtncpbkoinennoaaGreatDoor
open Go.RowKit Proofs.Tryz
attribute [local irreducible] wpList Calls
variable{G:MG}
def qO(p:MG×RD)(c:Nat):MG×RD:=(p.1.qV c p.2,p.2.Cy c)
def iW(k:Nat)(x:RD):MG×RD:=(gh (gD k)).foldl qO ({fx with c:=k},x)
def dV(s:af):Except Nat MG:=
 if s=⟨#[]⟩ then .error 2 else if jf (⟨s,0⟩:RD).ei=false then .error 3 else
  if(iW (⟨s,0⟩:RD).ei ((⟨s,0⟩:RD).bu 1)).2.ea=0 then(if(iW (⟨s,0⟩:RD).ei ((⟨s,0⟩:RD).bu 1)).1.right=true then .ok (iW (⟨s,0⟩:RD).ei ((⟨s,0⟩:RD).bu 1)).1 else .error 3)
  else .error (iW (⟨s,0⟩:RD).ei ((⟨s,0⟩:RD).bu 1)).2.ea
structure MG.Small(y:MG):Prop where
 b:y.b.e.length<=48
 p:y.e.length<=48
 m:y.aP.length<=8
def SN(x:RD):x.nJ.length<=48:=by
 unfold RD.nJ;split
 ·simp
 ·rw[yB];omega
def JD:∀(k:Nat) (r:RD),(r.ks k).length=k
 |0,r=>rfl
 |k+1,r=>by simp[RD.ks,JD k]
def Jz(x:RD):x.kr.length<=8:=by
 unfold RD.kr;split
 ·simp
 ·rw[JD];omega
def IJ(h:G.Small)(c:Nat)(x:RD):(G.qV c x).Small:=by
 unfold MG.qV;by_cases a:c=108
 ·rw[au a];exact⟨h.b,h.p,h.m⟩
 rw[ar a];by_cases b:c=105
 ·rw[au b];exact⟨h.b,h.p,h.m⟩
 rw[ar b];by_cases d:c=109
 ·rw[au d];exact⟨h.b,h.p,h.m⟩
 rw[ar d];by_cases e:c=110
 ·rw[au e];exact⟨h.b,h.p,h.m⟩
 rw[ar e];by_cases f:c=104
 ·rw[au f];exact⟨h.b,h.p,h.m⟩
 rw[ar f];by_cases g:c=98
 ·rw[au g];exact⟨C2 x,h.p,h.m⟩
 rw[ar g];by_cases i:c=112
 ·rw[au i];exact⟨h.b,SN x,h.m⟩
 rw[ar i];exact⟨h.b,h.p,Jz x⟩
def At(s:af)(w:aa)(e:Ending)(d:aa):Prop:=
 (match dV s with| .error k=>e=ao (aM #[fx.val (ag none 0 0) (ag none 0 0) (ag none 0 0),O (k:Int)])/\k≠0| .ok y=>∃a c b,e=ao (aM #[y.val a c b,O 0])/\y.Rd d a c b)/\BW w d
def MG.Small.rd{w:aa}{a c b:ab}(h:G.Small)(h1:(Y.ow 9 1 a G.b.e.length (bh G.b.e)).P w)(h2:(Y.ow 9 1 c G.e.length (bh G.e)).P w)(h3:(Y.ow 240 4 b G.aP.length (cR G.aP)).P w):G.Rd w a c b:=
 ⟨pz h1 (by have:=h.b;unfold maxLen;omega),pz h2 (by have:=h.p;unfold maxLen;omega),tf (xs:=G.aP.map MK.cells) (λ x hx=>by
  obtain⟨k,-,rfl⟩:=eH.1 hx
  rfl) (by rw[cC];exact h3) (by rw[cC];have:=h.m;unfold maxLen;omega)⟩
def tS(s:af)(w:aa)(e:Ending)(d:aa):Prop:=
 (match dV s with| .error k=>e=ao (aM #[fx.val (ag none 0 0) (ag none 0 0) (ag none 0 0),O (k:Int)])/\k≠0| .ok y=>∃a c b,e=ao (aM #[y.val a c b,O 0])/\y.Small/\ae w d [] [Y.ow 9 1 a y.b.e.length (bh y.b.e),Y.ow 9 1 c y.e.length (bh y.e),Y.ow 240 4 b y.aP.length (cR y.aP)])/\BW w d
def Dd(s:af)(w:aa)(J:de w)(C:(Y.dQ 0 gC).P w)(u:∃y,dV s= .ok y/\y.b.a.size=y.b.b.size):Calls prog 83 #[ad s] w (tS s w):=by
 have e:=λ(b:aa) (h:BW w b)=>(Y.dQ 0 gC).st w b (λ k d=>h.block k ((Y.dQ 0 gC).lt _ C k d)) C;have a:=λ(b:aa) (h:BW w b)=>J.below h;have a2:=Z a;have G:=Z e;clear a e J C;have a:=Z (ae.start w []);obtain⟨x,hx⟩:∃x:RD,(⟨s,0⟩:RD)=x:=⟨_,rfl⟩;obtain⟨K,e⟩:∃K,x.ei=K:=⟨_,rfl⟩;obtain⟨x1,k⟩:∃x1,x.bu 1=x1:=⟨_,rfl⟩;have j:=λ b g (h:(Y.rd g x).P b)=>uv h;rw[e,k] at j;have P:=Z j;have f:dV s=if s=⟨#[]⟩ then .error 2 else if jf K=false then .error 3 else if(iW K x1).2.ea=0 then(if(iW K x1).1.right=true then .ok (iW K x1).1 else .error 3) else .error (iW K x1).2.ea:=by
  unfold dV;rw[hx,e,k]
 have a3:=Z hx;clear j hx e k;have a6:=ir s;have l:¬s=⟨#[]⟩:=λ h=>by obtain⟨y,k,-⟩:=u;rw[f,au h] at k;cases k
 rw[ar l] at f;rw[bm l] at a6;have e:=λ b=>J1 K b;have g:jf K=true:=by
  cases h:jf K with
  |true=>rfl
  |false=>obtain⟨y,k,-⟩:=u;rw[f,au h] at k;cases k
 have a0:=Z u;have d:K<11:=by unfold jf at g;simp at g;exact g.2
 rw[g] at f e;rw[ar zD] at f;have X:=Z e;have j:iW K x1=(gh (gD K)).foldl qO ({fx with c:=K},x1):=rfl;have n:=yi K d;have m:=yh K;generalize p:gD K=S at*;obtain⟨p0,o⟩:∃p0,iW K x1=p0:=⟨_,rfl⟩;rw[o] at f j;have HD:=Z f;have B:=Z j;have T:=Z n;have N:=Z m;have b9:(K:Int)<11:=by omega
 have c0:decide ((K:Int)<11)=true:=by simp;omega
 clear f j o n m p d e g l u
 go_enter func83,ntmps83
 go_upto_region 2 with(first|refine KA a _ 2 kF λ H q b4 a=>?_|go_at_call 10;(refine(ux s a.U).mono ?_);rintro e F ⟨a4,rfl,b6,d⟩;replace a:=Z d;clear d)
 rw[a3.U] at a
 go_wp2_with(first|refine Kl a ?_|refine KS a λ q a=>?_|refine KA a _ 5 kF λ a5 q b7 a=>?_|refine wW rfl 9 rfl rfl ((zB (G.U _ a.U.aq) _).trans T.U) V ?_|(with_reducible show yg);(refine Rg a.U rfl 28 rfl rfl S rfl λ z q b5 d=>?_;replace a:=Z d;clear d)|go_at_call 162;(refine(P.U _ _ (a.U.in mZ)).mono ?_);rintro e F ⟨rfl,I⟩;replace a:=Z (a.U.rep (by exact .head _) I);clear I|go_at_call 163;(refine(X.U _).mono ?_);rintro e F ⟨rfl,rfl⟩)
 try simp only[Act.put,aS,av,ax]
 have d:=((a.U.eM (Y.ow 240 4 (ag none 0 0) 0 (cR [])) (di _ _ _ _) rfl).eM (Y.ow 9 1 (ag none 0 0) 0 (bh [])) (di _ _ _ _) rfl).eM (Y.ow 9 1 (ag none 0 0) 0 (bh [])) (di _ _ _ _) rfl;replace a:=Z ((d.az 5 rfl).az 5 rfl)
 go_loopw [] (λ wr=>∃(j:Nat) (y:MG) (r:RD) (m o n:ab),j<=S.size/\ae w wr [] (AP a5 a4 y r m o n [Y.iter z S j,Y.row H 81 FG])/\((gh S).take j).foldl qO ({fx with c:=K},x1)=(y,r)/\y.Small) (λ wr=>S.size-iterPos wr z)
 case atStart=>exact⟨0,{fx with c:=K},x1,_,_,_,bf _,a.U,rfl,⟨bf _,bf _,bf _⟩⟩
 case round=>
  clear a;obtain⟨j,y,r,m,o,n,b8,t,l,v⟩:=hrel;have a1:=Z (iterPos_of (t.get (i:=5) rfl));have p:=Z v;have a:=Z t;clear t v;by_cases D:j<S.size
  ·obtain⟨c,L,t⟩:=yA S D;have A:=Z (N.U c (cX t));have v:=Ct qO ({fx with c:=K},x1) t;rw[l] at v;have R:=Z v;have Q:=Z L;have M:ai (c<128):=Z (by have:=A.U;unfold qf at this;omega);clear L t l v
   go_wp2_with(first|(with_reducible show fl);(refine Nx a.U 5 rfl rfl rfl rfl D c Q.U M.U λ q d=>?_;simp only[av,ax] at d;replace a:=Z d;clear d)|go_at_call 164;(have t:=Ny (y:=y) (x:=r) (qB:=m) (qP:=o) (qM:=n) (rest:=[Y.iter z S (j+1),Y.row H 81 FG]) a.U c A.U);(refine t.mono ?_);clear t;rintro e F ⟨rfl,v,a7,L,d⟩;replace a:=Z d;clear d)
   go_roundw
   case rel=>exact⟨j+1,_,_,_,_,_,by omega,a.U,R.U,IJ p.U _ _⟩
   case measure=>(rw[a1.U,iterPos_of (a.U.get (i:=5) rfl)];omega)
  ·obtain rfl:j=S.size:=by omega
   rw[bK (by rw[vz];exact aQ _)] at l;have Q:=Z (show p0=(y,r) by rw[B.U,l]);have f:dV s=if r.ea=0 then(if y.right=true then .ok y else .error 3) else .error r.ea:=by rw[HD.U,Q.U]
   clear l HD B;obtain⟨c1,l,M⟩:=a0.U;rw[f] at l;have t:r.ea=0:=Ni λ h=>by rw[ar h] at l;cases l
   rw[au t] at l;have v:y.right=true:=Ni λ h=>by rw[ar h] at l;cases l
   rw[au v] at l;cases l
   rw[au t,au v] at f;have L:=λ(b:aa) (k:(Y.ow 9 1 m y.b.e.length (bh y.b.e)).P b) (A:(Y.ow 9 1 o y.e.length (bh y.e)).P b) (B:(Y.ow 240 4 n y.aP.length (cR y.aP)).P b)=>p.U.rd k A B;have p1:=λ(b:aa) (g:BW w b) (k:(Y.ow 9 1 m y.b.e.length (bh y.b.e)).P b) (A:(Y.ow 9 1 o y.e.length (bh y.e)).P b) (B:(Y.ow 240 4 n y.aP.length (cR y.aP)).P b)=>JM y m o n b (a2.U b g) (G.U b g) (p.U.rd k A B) (by have:=p.U.m;omega) M;have a7:=Z L;clear L;obtain⟨a8,b1,B,-⟩:=da (show wr.ownsRow 0 9 1 m _ _ from a.U.get (i:=2) rfl);obtain⟨b0,b3,R,-⟩:=da (show wr.ownsRow 0 9 1 o _ _ from a.U.get (i:=3) rfl);obtain⟨a9,b2,L,-⟩:=da (show wr.ownsRow 0 240 4 n _ _ from a.U.get (i:=4) rfl);subst B R L;rw[v] at p1;have b:=Z t;clear M;have HD:=Z f;have A:=Z p1;clear f p1 v t
   go_wp2_with(first|refine KT a 20 ?_|refine KS a λ q a=>?_|(with_reducible show fl);(refine xh a.U 5 rfl rfl rfl rfl D ?_)|go_at_call 14;(refine(uw (a.U.in (by exact mQ mZ))).mono ?_);rintro e f ⟨rfl,rfl⟩;rw[b.U]|go_at_call 88;(refine(A.U _ a.U.aq (a.U.get (i:=2) rfl) (a.U.get (i:=3) rfl) (a.U.get (i:=4) rfl)).mono ?_);rintro e f ⟨rfl,g⟩;replace a:=Z (a.U.below g);clear g)
   refine fb a.U 6 rfl 81 20 rfl rfl rfl V rfl rfl ?_;unfold tS;rw[HD.U];exact⟨⟨_,_,_,rfl,p.U,((a.U.tail.tail.az 3 rfl).tail.az 3 rfl).tail⟩,a.U.aq⟩
def VF(s:af)(w:aa)(j:de w)(l:(Y.dQ 0 gC).P w)(m:∃y,dV s= .ok y/\y.b.a.size=y.b.b.size):Calls prog 83 #[ad s] w (At s w):=(Dd s w j l m).mono λ e b h=>by
 unfold tS at h;unfold At;revert h;cases dV s with
 |error k=>exact id
 |ok y=>exact λ⟨⟨a,b,c,e,f,d⟩,g⟩=>⟨⟨a,b,c,e,f.rd (d.get (i:=0) rfl) (d.get (i:=1) rfl) (d.get (i:=2) rfl)⟩,g⟩
def aak(k:Nat):∀v∈(eP k).toList,v.oneCell'=true:=by
 intro v a;simp only[eP,eH] at a;obtain⟨j,_,rfl⟩:=a;rfl
def aai(k:Nat)(a:k<16):(eP 16)[k]?=some (.int .u32 (rF k)):=by simp[eP,a]
def Iw(n:Nat)(h:n<4294967296):bits .xor .u32 IntKind.u32.max (n:Int)=((4294967295-n:Nat):Int):=by
 have:=wB 4294967295 n W h;rw[CrcM.Sg n h,<-this];rfl
def U8(m c:Nat)(a:m<4294967296)(b:c<256):bits .xor .u32 (m:Int) (c:Int)=((m^^^c:Nat):Int):=wB m c a W
def IM(m:Nat)(b:m<4294967296):bits .xor .u32 ((m:Int)/16) (rF (m%16):Int)=((CrcM.gH m:Nat):Int):=by
 have a:rF (m%16)<4294967296:=CrcM.zx _ W;have:=wB (m/16) (rF (m%16)) W a;rw[show((m/16:Nat):Int)=(m:Int)/16 by omega] at this;rw[this,CrcM.ZV m];rfl
def Y5(m:Nat)(l:List UInt8)(c:UInt8):CrcM.run m (l++[c])=CrcM.gH (CrcM.gH (CrcM.run m l^^^c.toNat)):=by simp[CrcM.run,CrcM.byte,CrcM.EP]
def Wn(n:Nat)(F:n<4294967296)(s:af)(R:s.size<=140737488351232)(w:aa):
 CB 277 #[.int .u32 n,ad s] w (.int .u32 (CrcM.on n s.data.toList)):=by
 have N:=Iw n F
 go_enter func277,ntmps277
 go_wp2_with fail
 refine(aao _).mono ?_
 rintro e a ⟨rfl,g⟩
 have H:=g.size
 have i:=wg (P:=prog) a (eP 0) 365 (eP 16).toList (by simp[eP]) (aak 16)
 rw[Mt,mU] at i
 have X:=aam 16
 have D:=Z aai
 generalize eP 16=I at*
 obtain⟨J,d,m,h,p,L,b⟩:=uS (P:=prog) (a.alloc (.cells I 365)) 9 29 5 s df cP eJ
 have B:BW w d:=(g.alloc H _).trans (h.mono (by simp;omega))
 have l:∀k,k<16->d.cell? ⟨a.heap.size,k,none⟩=some (.int .u32 (rF k)):=by
  intro k j
  rw[h.cell zS,nD _ _ _ _ _ _ (pg a _)]
  exact D.U k j
 have f:=Z l;clear l
 have o:=Z b;clear b
 clear p
 have E:4294967295-n<4294967296:=by omega
 go_wp2
 generalize b:4294967295-n=m0 at*
 have q:=Z b;clear b
 clear m i
 go_loop [6,15] (λ v i=>∃k:Nat,k<=s.size/\i=O k/\v= .int .u32 (CrcM.run m0 (s.data.toList.take k))) (λ _ i=>s.size-(intOf i).toNat)
 case atStart=>exact⟨0,by omega,rfl,rfl⟩
 case round=>
  obtain⟨k,j,rfl,rfl⟩:=hrel
  have b:=CrcM.LG (s.data.toList.take k) m0 E
  have l:=Y5 m0 (s.data.toList.take k)
  generalize i:CrcM.run m0 (s.data.toList.take k)=r at*
  have t:=Z i;clear i
  have u:=Z l;clear l
  by_cases l:k<s.size
  ·have K:d.cell? ⟨a.heap.size+1,k,none⟩=some (.int .u8 (s[k].toNat:Int)):=by simpa using o.U k l
   have C:s[k].toNat<256:=s[k].toNat_lt
   have A:=Z (aax s k l)
   generalize s[k]=c at*
   have a0:=U8 r c.toNat b C
   have m:r^^^c.toNat<4294967296:=F8 (n:=32) b W
   have v:=Z (u.U c)
   generalize r^^^c.toNat=x at*
   have S:=f.U (x%16) W
   have ym:=IM x m
   have G:=CrcM.zx x m
   generalize CrcM.gH x=y at*
   have T:=f.U (y%16) W
   have Q:=IM y G
   generalize CrcM.gH y=z at*
   go_wp2
   go_round
   case rel=>exact⟨k+1,by omega,by go_num,by rw[A.U,v.U]⟩
   case measure=>simp[intOf];omega
  ·obtain rfl:k=s.size:=by omega
   have M:=Iw r b
   have i:CrcM.on n s.data.toList=4294967295-r:=by
    rw[CrcM.on,q.U,<-t.U,bK zS]
   have p:=Z i;clear i
   go_wp2
   go_ret
   exact⟨by rw[p.U];rfl,B⟩
def Wm(s:af)(b:s.size<=140737488351232)(w:aa):
 CB 224 #[ad s] w (.int .u32 (CrcM.on 0 s.data.toList)):=by
 go_enter func224,ntmps224
 go_wp2_with fail
 refine(Wn 0 W s b _).mono ?_
 rintro e c ⟨rfl,a⟩
 go_wp2
 go_ret
 exact⟨rfl,a⟩
def rA(n:Nat):List Int:=[(n:Int)/16777216,(n:Int)/65536%256,(n:Int)/256%256,(n:Int)%256]
def Xr(n:Nat)(d:n<4294967296)(w:aa):
 CB 223 #[.int .u32 n] w (ad (strOfNums (rA n))):=by
 have a:=uT (P:=prog) w 29 9 5 (rA n) cP eJ df 4 4 rfl 5
 have b:=Z a;clear a
 generalize c:strOfNums (rA n)=e at*
 have a:=b.U;clear c b
 simp only[rA,bZ,eg] at a
 go_enter func223,ntmps223
 go_wp2
 go_ret
 exact⟨rfl,(bp _ _).alloc (aQ _) _⟩
variable{I:List Y}{m:List Nat}{g:Nat}
structure DK where
 f0:af
 f1:af
 a:List (Nat×Nat)
 room:Nat
variable{d:DK}
def jY(L:List (Nat×Nat)):List ab:=(L.map λ p=>[Value.int .i64 (p.1:Int),Value.int .i64 (p.2:Int)]).flatten
abbrev DK.cells(d:DK)(a:ab):List ab:=[ad d.f0,ad d.f1,a,O (d.room:Int)]
def Y.dk(g:Nat)(a:ab)(d:DK):Y:=Y.star (Y.row g 146 (d.cells a)) (Y.ow 169 2 a d.a.length (jY d.a))
structure DK.Ok(d:DK):Prop where
 fit:d.f0.size+d.f1.size<=d.room
 room:d.room<=16777216
def Hg(f:Nat)(w:aa):Calls prog 221 #[O (f:Int)] w λ e a=>e=ao (aK (decide (f<2)))/\w=a:=by
 have c:decide ((f:Int)<2)=decide (f<2):=by rw[bw];simp;omega
 generalize decide (f<2)=b at*
 go_enter func221,ntmps221
 go_wp2
 go_ret
 exact⟨rfl,rfl⟩
def Qd{d w:aa}(h:ae d w m I)(a:Nat)(o:a<=16777216):Calls prog 26 #[O (a:Int)] w λ r b=>
 ∃g,r=ao (aM #[pV g,O 0])/\w.heap.size<=g/\ae d b m (Y.dk g (ag none 0 0) ⟨⟨#[]⟩,⟨#[]⟩,[],a⟩::I):=by
 have e:=Z h
 have b:=Z (ae.start w [])
 have l:decide ((a:Int)<0)=false:=by simp
 have n:decide ((16777216:Int)<(a:Int))=false:=by simp;omega
 clear h
 go_enter func26,ntmps26
 go_wp2_with((refine KB b 146 12 (DK.cells ⟨⟨#[]⟩,⟨#[]⟩,[],a⟩ (ag none 0 0)) λ c p f b=>?_))
 have j:=e.U.join b.U.aq (Y.row c 146 _) (b.U.get (i:=0) rfl) (by intro k g;exact b.U.nQ mZ k g)
 exact jv rfl rfl rfl rfl ⟨c,rfl,f,((j.eM (Y.ow 169 2 (ag none 0 0) 0 (jY [])) (di _ _ _ _) rfl).az 1 rfl).eX⟩
def Qb{w:aa}{k:ab}(h:(Y.row g 146 (d.cells k)).P w)(hd:d.Ok):CB 316 #[pV g] w (O ((d.room-d.f0.size-d.f1.size:Nat):Int)):=by
 obtain⟨b,j⟩:=hd;have a:=Z (ae.start w []);have i:=Z (aX h bg);have e:((d.room-d.f0.size-d.f1.size:Nat):Int)=(d.room:Int)-(d.f0.size:Int)-(d.f1.size:Int):=by omega
 rw[e];have c:ai (IntKind.i64.wrap ((d.room:Int)-(d.f0.size:Int))=(d.room:Int)-(d.f0.size:Int)):=Z (aO _ W);have f:ai (IntKind.i64.wrap ((d.room:Int)-(d.f0.size:Int)-(d.f1.size:Int))=(d.room:Int)-(d.f0.size:Int)-(d.f1.size:Int)):=Z (aO _ W);clear h e b j
 go_enter func316,ntmps316
 go_upto_region 1 with fail
 refine ma a i 18 [] λ e a b=>?_;refine VV [0,1,2,2003,4,5,6,7,2008,9,10,11,12,13,14,2015,16,17] b ?_;clear b;refine WT ?_
 go_wp2
 go_ret
 exact⟨by show Ending.returned (O (IntKind.i64.wrap (IntKind.i64.wrap ((d.room:Int)-(d.f0.size:Int))-(d.f1.size:Int))))=_;rw[c.U,f.U],a.U.aq⟩
def Qg{w:aa}{l:ab}(h:(Y.row g 146 (d.cells l)).P w)(f:Nat)(k:f<2):CB 159 #[pV g,O (f:Int)] w (ad (if f=0 then d.f0 else d.f1)):=by
 have j:=Z (aX h bg);have b:=λ a=>Hg f a;rw[aT k] at b;have c:=Z b;clear h b;rcases f with _|_|f
 ·have i:ai (∀a,Calls prog 221 #[O 0] a λ e b=>e=ao (aK true)/\a=b):=Z (λ a=>c.U a);clear c;show Calls prog 159 #[pV g,O 0] w _
  go_enter func159,ntmps159
  go_wp2_with(first|refine oI (j.U) 0 rfl rfl 9 rfl rfl V rfl ?_|go_at_call 221;(refine(i.U _).mono ?_);rintro e b ⟨rfl,rfl⟩)
  go_ret
  exact⟨rfl,bp _ _⟩
 ·have i:ai (∀a,Calls prog 221 #[O 1] a λ e b=>e=ao (aK true)/\a=b):=Z (λ a=>c.U a);clear c;show Calls prog 159 #[pV g,O 1] w _
  go_enter func159,ntmps159
  go_wp2_with(first|refine oI (j.U) 0 rfl rfl 9 rfl rfl V rfl ?_|go_at_call 221;(refine(i.U _).mono ?_);rintro e b ⟨rfl,rfl⟩)
  go_ret
  exact⟨rfl,bp _ _⟩
 ·omega
def jQ(L:List (Nat×Nat)):Nat:=(L.map Prod.snd).sum
def Hh{w:aa}{c:ab}(h:(Y.dk g c d).P w):Calls prog 96 #[pV g] w λ r a=>r=ao (aM #[])/\bk (Y.dk g c d) w a (Y.dk g (ag none 0 0) {d with a:=[]}):=by
 have a:=(ae.self h).kE;have b:=Z a;clear a h
 go_enter func96,ntmps96
 go_wp2_with(refine KS b λ f b=>?_)
 go_end0
 have a:=((b.U.az 1 rfl).tail.eM (Y.ow 169 2 (ag none 0 0) 0 (jY [])) (di _ _ _ _) rfl).az 1 rfl;exact⟨rfl,(a.eX).iL⟩
variable{k:Nat}{X:Operand}{t:TypeId}
def One(P:Program)(l:List Oper)(Q:Exit->Act->aa->Prop)(S:aa->Prop)(n f:Nat)(listed:Array Bool)(a:Act)(w:aa)(i:Nat)(o:Oper):Prop:=
 ∀b:Act->aa->Prop,Shut (∀a w,S w->(S w->ay P l Q S n f (listed.setIfInBounds i true) a w)->b a w)->if Region.wanted o (yielded l.toArray a.tmps)=true then Oper.wp P o a w b Q else b (a.put o.dst undef) w
section
variable{P:Program}{Q:Exit->Act->aa->Prop}{S:aa->Prop}{n:Nat}{l:List Oper}{i j f:Nat}{o oj:Oper}{listed:Array Bool}{a:Act}{w:aa}
def ay.mE(d:Region.ready .any l.toArray listed=[i])(b:i<n)(c:l.toArray[i]?=some o)(h:One P l Q S n f listed a w i o):ay P l Q S n (f+1) listed a w:=ay.one d b c h
def ay.two(p:Region.ready .any l.toArray listed=[i,j])(c:i<n)(d:j<n)(e:l.toArray[i]?=some o)(g:l.toArray[j]?=some oj)(h:One P l Q S n f listed a w i o)(k:One P l Q S n f listed a w j oj):ay P l Q S n (f+1) listed a w:=
 ay.many p zS (λ k b=>by
  rcases bO.1 b with rfl|b
  ·exact c
  ·rcases bO.1 b with rfl|b
   ·exact d
   ·cases b) (ia.cons e h (ia.cons g k ia.nil))
def Jv{a:Act}:∀(c:List Operand) (b:List ab),c.mapM (fk a)=some b->c.map a.eval=b:=λ _ _ h=>Ju h
def One.eL(y:Region.wanted o (yielded l.toArray a.tmps)=true)(k:Tmp)(hd:o.dst=some k){c:Call}(s:o.op= .call c)(d:FuncId)(u:c.callee= .value (.func d))
 (t:∀e b,(callFunc d e).run P b= .ok (.enter d e) b) (g:List ab) (x:c.args.toList.mapM (fk a)=some g)
 (h:Calls P d g.toArray w λ e b=>∃v,e=ao v/\S b/\ay P l Q S n f (listed.setIfInBounds i true) {a with tmps:=a.tmps.setIfInBounds k v} b):One P l Q S n f listed a w i o:=by
 intro z p
 rw[au y]
 refine tL s u (vs:=g.toArray) ?_ t (h.mono ?_)
 ·apply ju
  simpa using Jv _ _ x
 ·rintro e b ⟨v,rfl,q,r⟩
  refine⟨v,rfl,?_⟩
  refine p _ _ q (λ _=> ?_)
  rw[hd]
  exact r
end
section
variable{Q:Exit->Act->aa->Prop}{S:aa->Prop}{n:Nat}{l:List Oper}{i f:Nat}{o:Oper}{listed:Array Bool}{a:Act}{w0 w:aa}{m:List Nat}{aj:List Y}
def One.alloc(e:ae w0 w m aj)(s:Region.wanted o (yielded l.toArray a.tmps)=true)(b:TypeId)(k:Tmp)(hd:o.dst=some k)(q:o.op= .alloc b)(c:List ab)(r:eY b c)
 (h:∀g d,w0.heap.size<=g->ae w0 d m (Y.row g b c::aj)->S d/\ay prog l Q S n f (listed.setIfInBounds i true) {a with tmps:=a.tmps.setIfInBounds k (pV g)} d):One prog l Q S n f listed a w i o:=by
 intro t p
 rw[au s]
 unfold Oper.wp execOp
 simp only[q,cO,r w,dd,dN]
 obtain⟨d,g⟩:=h _ _ e.size (e.alloc c b)
 refine p _ _ d (λ _=> ?_)
 rw[hd]
 exact g
def One.str(u:ae w0 w m aj)(C:Region.wanted o (yielded l.toArray a.tmps)=true)(hd:o.dst=none)(p:Nat){c:List ab}(r:aj[p]?=some (Y.row g t c))(q:TypeId)(d:Nat){y:Operand}(B:o.op= .store q X y)(hx:a.eval X= .pointer (some ⟨g,k,none⟩))
 (b:List ab) (D:a.eval y=aG b.toArray) (s:b.length=d) (v:jm q d=true) (z:decide (k+d<=c.length)=true) (h1:b.all (·.oneCell')=true)
 (h:∀e,ae w0 e m (aj.set p (Y.row g t (fo c k b)))->S e/\ay prog l Q S n f (listed.setIfInBounds i true) a e):One prog l Q S n f listed a w i o:=by
 intro F x
 rw[au C]
 have A:k+d<=c.length:=iH z
 obtain⟨E,q2⟩:=h _ (u.cells p r k b)
 refine wp_store_mid q X y B g k b.toArray hx D ((u.row r).rH (by simpa[s] using A)) (by rw[wi v];simp[s]) (by simpa using h1) (x _ _ ?_ (λ _=> ?_))
 ·simpa using E
 ·rw[hd]
  have e:a.put none undef=a:=rfl
  rw[e]
  simpa using q2
def One.wo(r:ae w0 w m aj)(G:Region.wanted o (yielded l.toArray a.tmps)=true)(hd:o.dst=none)(e:Nat){c:List ab}(p:aj[e]?=some (Y.row g t c))(b:TypeId){y:Operand}(E:o.op= .store b X y)(hx:a.eval X= .pointer (some ⟨g,k,none⟩))
 {v:ab} (H:a.eval y=v) (z:jm b 1=true) (h1:v.oneCell'=true) (C:decide (k<c.length)=true)
 (h:∀d,ae w0 d m (aj.set e (Y.row g t (c.set k v)))->S d/\ay prog l Q S n f (listed.setIfInBounds i true) a d):One prog l Q S n f listed a w i o:=by
 intro J B
 rw[au G]
 have A:=r.row p
 have K:k<c.length:=iH C
 have D:v.cells=#[v]:=by cases v<;>simp_all[Value.oneCell',Value.cells]
 have x:=A.rH (o:=k) (n:=1) (by simp;omega)
 have s:=LH (P:=prog) g k [v] 0 w (λ j d=>by simpa using(x j (by simpa using d)).1) (λ j d=>by simpa using(x j (by simpa using d)).2) (λ u d=>by
  have:u=v:=by simpa using d
  rw[this];exact h1)
 simp only[fA] at s
 have q:(prog.info? b).map (·.size)=some 1:=wi z
 have u:(storeVar b ⟨g,k,none⟩ v).run prog w= .ok () (w.setCells g k [v]):=by
  cases d:prog.info? b with
  |none=>simp[d] at q
  |some I=>
   have F:I.size=1:=by simpa[d] using q
   simp[storeVar,sizeOf,typeInfo,d,F,D,s]
 unfold Oper.wp execOp
 simp only[E,hx,H,Instr.storeAt,Instr.sureAddr,cO,dN,dd,u]
 obtain⟨d,q2⟩:=h _ (r.cells e p k [v])
 refine B _ _ d (λ _=> ?_)
 rw[hd]
 exact q2
end
namespace DA
structure DS where
 f0:af
 f1:af
 a:List (Nat×Nat)
 room:Nat
def re(l:List (Nat×Nat)):List ab:=l.flatMap λ p=>[Value.int .i64 (p.1:Int),Value.int .i64 (p.2:Int)]
def xL(d:DS)(v:ab):Array ab:=#[ad d.f0,ad d.f1,v,O (d.room:Int)]
structure eQ(w:aa)(base g:Nat)(v:ab)(d:DS):Prop where
 a:ah w g 146 (xL d v)
 hb:base<=g
 own:w.ownsRow base 169 2 v d.a.length (re d.a)
def jb(f:Nat)(l:List (Nat×Nat)):Nat:=(l.map λ p=>if p.1=f then p.2 else 0).sum
def gj(l:List (Nat×Nat)):Nat:=(l.map λ p=>p.2).sum
structure DS.ok(d:DS):Prop where
 fits:d.f0.size+d.f1.size<=d.room
 room:d.room<=16777216
 a:d.a.length<=1000000
 two:∀p∈d.a,p.1<2
 l0:jb 0 d.a<=d.f0.size
 l1:jb 1 d.a<=d.f1.size
def DS.file(d:DS)(f:Nat):af:=if f=0 then d.f0 else d.f1
section
variable{w:aa}{base g:Nat}{v:ab}{d:DS}
def eQ.c0(h:eQ w base g v d):w.cell? ⟨g,0,none⟩=some (ad d.f0):=h.a.cell 0
def eQ.c1(h:eQ w base g v d):w.cell? ⟨g,1,none⟩=some (ad d.f1):=h.a.cell 1
def eQ.c2(h:eQ w base g v d):w.cell? ⟨g,2,none⟩=some v:=h.a.cell 2
def eQ.fr(h:eQ w base g v d)(i:Nat):w.frozen? ⟨g,i,none⟩=false:=h.a.frozen i
end
def yk(f:Int)(b:0<=f)(h2:f<2)(w:aa):Calls prog 221 #[O f] w λ e a=>e=ao (aK true)/\w=a:=by
 go_enter func221,ntmps221
 go_wp2
 go_ret
 simp
def DS.sync(d:DS):DS:={d with a:=[]}
def U7(l:List (Nat×Nat))(p:Nat×Nat):gj (l++[p])=gj l+p.2:=by simp[gj]
def U5(l:List (Nat×Nat))(k:Nat):gj (l.take k)<=gj l:=by
 have:gj l=gj (l.take k)+gj (l.drop k):=by
  simp only[gj,<-List.sum_append,<-jy,nf]
 omega
def Jn:∀(l:List (Nat×Nat)),(∀p∈l,p.1<2)->gj l=jb 0 l+jb 1 l
 |[],_=>rfl
 |p::l,h=>by
  have b:=Jn l (λ q a=>h q (mQ a))
  have c:=h p (mZ ..)
  simp only[gj,jb,bZ,List.sum_cons] at b⊢
  grind
def DS.ok.all{d:DS}(h:d.ok):gj d.a<=16777216:=by
 have a:=Jn d.a h.two;have b:=h.l0;have c:=h.l1;have e:=h.fits;have f:=h.room;omega
def Jp(l:List (Nat×Nat))(k:Nat)(b:k<l.length):(re l)[k*2]?=some (O (l[k].1:Int))/\(re l)[k*2+1]?=some (O (l[k].2:Int)):=by
 induction l generalizing k with
 |nil=>grind
 |cons p l a=>
  cases k with
  |zero=>simp[re]
  |succ k=>
   have:=a k (by grind);simp only[re,List.flatMap_cons,lR,jA,List.getElem_cons_succ] at this⊢;grind
def Jo{base g:Nat}{v:ab}{d:DS}{w:aa}(h:eQ w base g v d)(f:d.ok):CB 225 #[pV g] w (O (gj d.a:Int)):=by
 have o:=h.c2;have r:=f.all;have x:=f.a;have a:=h.own;have H:=Z h;clear h;rcases a.2 with⟨rfl,c⟩|⟨b,p,q,rfl,s,i,c,z,j,k⟩
 ·have e0:d.a=[]:=by grind
  rw[e0];clear c a e0
  go_enter func225,ntmps225
  go_wp2
  refine M0 1 ?_;rw[gG]
  go_wp2
  go_ret
  exact⟨rfl,bp _ _⟩
 ·have c:=a.cellAt;have e:=Z c;clear c;clear a;clear j;clear k;have A:b<w.heap.size:=by grind
  clear i
  go_enter func225,ntmps225
  go_wp2
  go_loopw [3,11] (λ n i wr=>∃k:Nat,k<=d.a.length/\i=O k/\n=O (gj (d.a.take k):Int)/\BW w wr) (λ _ i _=>d.a.length-(intOf i).toNat)
  case atStart=>exact⟨0,bf _,rfl,rfl,bp _ _⟩
  case round=>
   obtain⟨k,y,rfl,rfl,a⟩:=hrel;have m:=a.size;by_cases c:k<d.a.length
   ·have t:wr.cell? ⟨b,k*2,none⟩=some (O (d.a[k].1:Int)):=by
     rw[a.cell W,e.U (k*2) W];exact(Jp _ k c).1
    have u:wr.cell? ⟨b,k*2+1,none⟩=some (O (d.a[k].2:Int)):=by
     rw[a.cell W,e.U (k*2+1) W];exact(Jp _ k c).2
    have i:gj (d.a.take (k+1))=gj (d.a.take k)+d.a[k].2:=by
     rw[eC c,U7]
    have l:=U5 d.a (k+1);have n:gj (d.a.take k)+d.a[k].2<=16777216:=by omega
    have j:=Z i;clear i l
    go_wp2
    go_roundw
    case rel=>exact⟨k+1,by omega,by go_num,by rw[j.U];go_num,a.alloc m _⟩
    case measure=>simp[intOf];omega
   ·obtain rfl:k=d.a.length:=by omega
    go_wp2
    go_ret
    simp_all
end DA
variable{n:Nat}
namespace DA
def eQ.cf{w:aa}{v:ab}{d:DS}(h:eQ w n g v d)(f:Nat)(a:f<2):w.cell? ⟨g,f,none⟩=some (ad (d.file f)):=by
 have:f=0\/f=1:=by omega
 rcases this with rfl|rfl
 ·exact h.c0
 ·exact h.c1
def R1{d:DS}(a:d.ok)(f:Nat):(d.file f).size<=16777216:=by
 have:=a.fits;have:=a.room;unfold DS.file;split<;>omega
end DA
namespace DA
def eQ.only{w e:aa}{a g B:Nat}{v:ab}{d:DS}{l:List Nat}(h:eQ w a g v d)(c:aW B l w e)(b:g<B/\g∉l)(f:∀k,v.ownBlock=some k->k<B/\k∉l):eQ e a g v d:=
 ⟨h.a.only c b.1 b.2,h.hb,WI h.own c f⟩
def eQ.below{w a:aa}{v:ab}{d:DS}(h:eQ w n g v d)(b:BW w a):eQ a n g v d:=
 h.only (aW.px b []) ⟨h.a.lt,by simp⟩ (λ k c=>⟨DC h.own k c,by simp⟩)
def DS.cd(d:DS):DS:={d with f0:=d.f1,f1:=d.f0}
def DS.trim(d:DS)(f n:Nat):DS:=if f=0 then{d with f0:=d.f0.extract 0 n} else{d with f1:=d.f1.extract 0 n}
def aaL(d:DS)(v:ab)(f:Nat)(a:f<2)(n:Nat):(xL d v).setIfInBounds f (ad ((d.file f).extract 0 n))=xL (d.trim f n) v:=by
 have:f=0\/f=1:=by omega
 rcases this with rfl|rfl<;>rfl
def aaM(d:DS)(f:Nat)(a:f<2)(n:Nat):(d.trim f n).a=d.a:=by unfold DS.trim;split<;>rfl
def aaK{v:ab}{d:DS}{w:aa}(h:eQ w n g v d)(j:d.ok)(f:Nat)(i:f<2)(a:Int)(b:a<0\/((d.file f).size:Int)<a):Calls prog 161 #[pV g,O (f:Int),O a] w λ e c=>e=ao (O 1)/\w=c:=by
 have k:=h.cf f i;have l:(f:Int)<2:=by omega
 have e:=R1 j f;clear h;rcases b with b|b
 ·have c:decide (a<0)=true:=by simp;omega
  go_enter A9,Bh
  go_wp2_with fail
  refine KQ (yk _ W W _) ?_
  go_wp2
  go_ret
  exact⟨rfl,rfl⟩
 ·have c:decide (a<0)=false:=by simp;omega
  go_enter A9,Bh
  go_wp2_with fail
  refine KQ (yk _ W W _) ?_
  go_wp2
  go_ret
  exact⟨rfl,rfl⟩
def aaN{v:ab}{d:DS}{w:aa}(h:eQ w n g v d)(i:d.ok)(f:Nat)(c:f<2)(a:Nat)(m:a<=(d.file f).size)(l:0<gj d.a):CB 161 #[pV g,O (f:Int),O (a:Int)] w (O 7):=by
 have j:=h.cf f c;have k:(f:Int)<2:=by omega
 go_enter A9,Bh
 go_wp2_with fail
 refine KQ (yk _ W W _) ?_
 go_wp2_with fail
 refine(Jo h i).mono ?_;rintro e o ⟨rfl,b⟩
 go_wp2
 go_ret
 exact⟨rfl,b⟩
def aaO{v:ab}{d:DS}{w:aa}(h:eQ w n g v d)(t:d.ok)(f:Nat)(i:f<2)(a:Nat)(y:a<=(d.file f).size)(x:gj d.a=0):Calls prog 161 #[pV g,O (f:Int),O (a:Int)] w λ e b=>e=ao (O 0)/\eQ b n g v (d.trim f a)/\aW w.heap.size [g] w b:=by
 have k:=h.cf f i;have u:(f:Int)<2:=by omega
 have z:(a:Int)<=((d.file f).size:Int):=by omega
 go_enter A9,Bh
 go_wp2_with fail
 refine KQ (yk _ W W _) ?_
 go_wp2_with fail
 refine(Jo h t).mono ?_;rintro e j ⟨rfl,l⟩;have c:=h.below l;clear k;have k:=c.cf f i;have r:=c.fr f;have b:=Z c;clear c h;have q:=Z l;clear l
 go_wp2
 go_region
 have c:=b.U.a;have s:=tj b.U.own c zD;have l:ah (j.setCell ⟨g,f,none⟩ (ad ((d.file f).extract 0 a))).drew g 146 (xL (d.trim f a) v):=by
  rw[<-aaL d v f i a];exact c.dx f _
 have o:(j.setCell ⟨g,f,none⟩ (ad ((d.file f).extract 0 a))).drew.ownsRow n 169 2 v d.a.length (re d.a):=DD (p:=⟨g,f,none⟩) b.U.own s _;have m:aW w.heap.size [g] w (j.setCell ⟨g,f,none⟩ (ad ((d.file f).extract 0 a))).drew:=((aW.px q.U [g]).setCell (p:=⟨g,f,none⟩) (.inl zS) _).drew;clear c k r;generalize(j.setCell ⟨g,f,none⟩ (ad ((d.file f).extract 0 a))).drew=k at*;have c:=Z (And.intro l (And.intro o m));clear l o m
 go_wp2
 go_ret
 refine⟨rfl,⟨c.U.1,b.U.hb,?_⟩,c.U.2.2⟩;rw[aaM d f i a];exact c.U.2.1
end DA
namespace DA
def stay(a:Int)(n:Nat):Nat:=(max 0 (min a (n:Int))).toNat
def stays:List (Nat×Nat)->Int->List Nat
 |[],_=>[]
 |p::l,a=>stay a p.2::stays l (a-stay a p.2)
def kept:List (Nat×Nat)->Int->Int
 |[],a=>a
 |p::l,a=>kept l (a-stay a p.2)
def EO(l:List (Nat×Nat)):∀a,(stays l a).length=l.length:=by
 induction l with
 |nil=>intro _;rfl
 |cons p l b=>intro a;simp[stays,b]
def Mg(l:List (Nat×Nat))(p:Nat×Nat):∀a,stays (l++[p]) a=stays l a++[stay (kept l a) p.2]:=by
 induction l with
 |nil=>intro _;rfl
 |cons q l b=>intro a;simp only[lR,stays,kept,b]
def IA(bb:Nat)(p:Nat×Nat):ab:= .func (.func 95) #[] #[pV bb,pV p.1,pV p.2]
def Cx(bb:Nat)(L:List (Nat×Nat)):List ab:=L.map (IA bb)
end DA
variable{r:Int}
namespace DA
structure uG(w wr:aa)(bb:Nat)(l:List (Nat×Nat))(cg:Int)(L:List (Nat×Nat))(v:ab):Prop where
 len:L.length=l.length
 own:wr.ownsRow (bb+1) 1 1 v l.length (Cx bb L)
 at_:∀(j:Nat) (p q:Nat×Nat) (s:Nat),l[j]?=some p->L[j]?=some q->(stays l cg)[j]?=some s->ah wr q.1 169 #[O (p.1:Int),O (p.2:Int)]/\ah wr q.2 3 #[O (s:Int)]/\bb<q.1/\bb<q.2
 aJ:Below (bb+1) w wr
 lt:bb<wr.heap.size
def uG.start(w:aa)(bb:Nat)(b:Int)(a:bb<w.heap.size):uG w w bb [] b [] (ag none 0 0):=
 ⟨rfl,di _ _ _ _,λ j p q s h=>by simp at h,bp _ _,a⟩
def uG.step{w wr u:aa}{bb:Nat}{l:List (Nat×Nat)}{L:List (Nat×Nat)}{v z:ab}(h:uG w wr bb l r L v)(p:Nat×Nat)(f:ab)
 (B:u.ownsRow (bb+1) 1 1 z (l.length+1) (Cx bb L++[IA bb (wr.heap.size,wr.heap.size+1)]))
 (n:(((wr.alloc (.cells #[O (p.1:Int),O (p.2:Int)] 169)).alloc (.cells #[O (stay (kept l r) p.2:Int)] 3)).alloc (.cells #[f] 1)).grownBy u v.ownBlock):
 uG w u bb (l++[p]) r (L++[(wr.heap.size,wr.heap.size+1)]) z:=by
 have y:=h.lt
 have D:∀(g:Nat) (t:TypeId) (x:Array ab),t≠1->ah wr g t x->ah u g t x:=by
  intro g t x b a
  refine((((a.alloc _).alloc _).alloc _).grown n ?_)
  exact λ e=>tj h.own a (gr b) e.symm
 refine⟨by simp[h.len],by simpa[Cx] using B,?_,?_,?_⟩
 ·intro j C q s d i m
  rcases lX j l.length with o|o
  ·rw[kO o] at d
   rw[kO (by rw[h.len];exact o)] at i
   rw[Mg,kO (by rw[EO];exact o)] at m
   obtain⟨a,b,c,e⟩:=h.at_ j C q s d i m
   grind
  ·have A:j=l.length:=by
    have:=(cw.1 d).1
    simp at this;omega
   subst A
   rw[iR (aQ _)] at d
   rw[iR (by rw[h.len];omega),h.len] at i
   rw[Mg,iR (by rw[EO];omega),EO] at m
   simp at d i m
   subst d i m
   have E:=DC h.own
   refine⟨?_,?_,y,by omega⟩
   ·have k:ah (wr.alloc (.cells #[O (p.1:Int),O (p.2:Int)] 169)) wr.heap.size 169 #[O (p.1:Int),O (p.2:Int)]:=ah.new _ _ _
    exact((k.alloc _).alloc _).grown n (λ e=>by grind)
   ·have k:=ah.new (wr.alloc (.cells #[O (p.1:Int),O (p.2:Int)] 169)) 3 #[O (stay (kept l r) p.2:Int)]
    have e1:(wr.alloc (.cells #[O (p.1:Int),O (p.2:Int)] 169)).heap.size=wr.heap.size+1:=by simp
    rw[e1] at k
    exact(k.alloc _).grown n (λ e=>by grind)
 ·refine h.aJ.trans ?_
  have b:bb+1<=wr.heap.size:=y
  refine((((bp (bb+1) wr).alloc b _).alloc (by simp;omega) _).alloc (by simp;omega) _).grown n (by simp;omega) ?_
  intro k a
  exact(h.own.lt k a).1
 ·have:=n.size;simp at this;omega
def sz(d:DS)(p:Nat×Nat)(s:Nat):DS:=
 if p.1=0 then{d with f0:=d.f0.extract 0 (d.f0.size-p.2+s)} else{d with f1:=d.f1.extract 0 (d.f1.size-p.2+s)}
def kD(d:DS):List (Nat×Nat)->List Nat->DS
 |p::l,s::a=>sz (kD d l a) p s
 |_,_=>d
def Qa(d:DS)(p:Nat×Nat)(s:Nat):(sz d p s).a=d.a/\(sz d p s).room=d.room:=by unfold sz;grind
def Fa(d:DS):∀(l:List (Nat×Nat)) (a:List Nat),(kD d l a).a=d.a/\(kD d l a).room=d.room
 |[],_=>⟨rfl,rfl⟩
 |_::_,[]=>⟨rfl,rfl⟩
 |p::l,s::a=>by
  have b:=Fa d l a
  have c:=Qa (kD d l a) p s
  exact⟨c.1.trans b.1,c.2.trans b.2⟩
def P9(d:DS)(p:Nat×Nat)(s:Nat)(f:Nat)(e:p.1<2)(c:f<2):(sz d p s).file f=if p.1=f then(d.file f).extract 0 ((d.file f).size-p.2+s) else d.file f:=by
 have b:f=0\/f=1:=by omega
 have a:p.1=0\/p.1=1:=by omega
 rcases b with rfl|rfl<;>rcases a with a|a<;>simp[sz,DS.file,a]
def Fb(d:DS)(f:Nat)(b:f<2):∀(l:List (Nat×Nat)) (a:List Nat),(∀p∈l,p.1<2)->jb f l<=(d.file f).size->
 (d.file f).size<=((kD d l a).file f).size+jb f l/\((kD d l a).file f).size<=(d.file f).size
 |[],a,_,_=>by cases a<;>simp[kD]
 |p::l,[],_,h=>by simp[kD]
 |p::l,s::a,c,h=>by
  have g:jb f (p::l)=(if p.1=f then p.2 else 0)+jb f l:=by simp[jb]
  have i:=Fb d f b l a (λ q e=>c q (mQ e)) W
  simp only[kD]
  rw[P9 _ _ _ _ (c p (mZ ..)) b]
  rw[g]
  split
  ·rw[ib];omega
  ·omega
end DA
abbrev Y.arr(g:Nat)(t:TypeId)(b:Array ab):Y:=Y.row g t b.toList
section
variable{ops:Array Oper}{rest:List Oper}{op:Oper}{a:Act}{Q:Exit->Act->aa->Prop}{w wr:aa}{m:List Nat}{aj:List Y}
def Nk(h:ae w wr m aj)(i:Nat){b:Array ab}(k:aj[i]?=some (Y.arr g t b))(j:Region.wanted op (yielded ops a.tmps)=true)(c n:Nat)(l:op.op= .load c X)(hx:a.eval X=pV g)
 (e:hU c n=true) (d:b.size=n) (f:wpList prog ops Q rest (a.put op.dst (aG b)) wr):wpList prog ops Q (op::rest) a wr:=by
 refine AA h i k j c n l hx e b.toList (by rw[kd,bK (by simp[d])]) (by simp[d]) ?_
 rw[mU];exact f
def A5(h:ae w wr m aj)(i:Nat){d:Array ab}(x:aj[i]?=some (Y.arr g t d))(s:Region.wanted op (yielded ops a.tmps)=true)(k n:Nat){y:Operand}(z:op.op= .store k X y)(hx:a.eval X=pV g)
 (b:Array ab) (A:a.eval y=aG b) (o:b.size=n) (l:d.size=n) (q:jm k n=true) (h1:∀u∈b.toList,u.oneCell'=true)
 (r:∀j,ae w j m (aj.set i (Y.arr g t b))->wpList prog ops Q rest (a.put op.dst undef) j):wpList prog ops Q (op::rest) a wr:=by
 refine A6 h i x s k n z hx b.toList (by rw[mU];exact A) (by simp[o]) q (by simp[l]) (by rw[hl];exact h1) (λ j p=>r j ?_)
 have e:fo d.toList 0 b.toList=b.toList:=by
  have u:d.toList.length=b.toList.length:=by simp[o,l]
  have C:∀(b d f:List ab),d.length=b.length->fo (f++d) f.length b=f++b:=by
   intro b
   induction b with
   |nil=>intro d f h;have:d=[]:=ig h;subst this;simp[fo]
   |cons v b B=>
    intro d f h
    cases d with
    |nil=>simp at h
    |cons c d=>
     have:=B d (f++[v]) (by simpa using h)
     simp only[fo]
     rw[kQ _ _ (aQ _),qm,lW]
     simpa using this
  simpa using C b.toList d.toList [] u
 rw[e] at p
 exact p
end
section
variable{ops:Array Oper}{op:Oper}{a:Act}{L:List Y}
def YA(j:Region.wanted op (yielded ops a.tmps)=true)(i:Nat){b:Array ab}(f:L[i]?=some (Y.arr g t b))(c n:Nat)(h:op.op= .load c X)(hx:a.eval X=pV g)
 (e:hU c n=true) (d:b.size=n):YieldsIf prog ops (ba L) op (aG b) a:=by
 have:=Yr j i f c n h hx e b.toList (by rw[kd,bK (by simp[d])]) (by simp[d])
 rwa[mU] at this
end
def FH:eY 92 zeroCells92.toList:=λ w=>by
 rw[mU]
 go_simp
structure cq(w:aa):Prop where
 a:de w
 wide:WD.jE w
 ord:la w
 bz:(Y.dQ 0 gC).P w
def cq.below{w c:aa}(h:cq w)(b:BW w c):cq c:=
 ⟨h.a.below b,h.wide.below b,h.ord.below b h.ord.lt,(Y.dQ 0 gC).st w c (λ k d=>b.block k ((Y.dQ 0 gC).lt w h.bz k d)) h.bz⟩
def wa{w:aa}{L:List af}(h:(Y.row g 9 (bh L)).P w)(d:L.length<=maxLen):bq w (ag (some ⟨g,0,none⟩) L.length L.length) L:=by
 have b:ah w g 9 (bh L).toArray:=h;refine⟨some ⟨g,0,none⟩,L.length,rfl,d,λ i c=>⟨g,0,rfl,⟨b.lt,aQ _⟩,?_⟩⟩;rw[dz,b.cell];simp[bh,c]
def Rv:ie 44:=ln func44 V V
def Rq:ie 35:=ln func35 V V
def Rr:ie 36:=ln func36 V V
def Rt:ie 37:=ln func37 V V
def Ru:ie 43:=ln func43 V V
def KY.val(k:KY):ab:=aG #[ad k.a,ad k.pre,ad k.pub]
def OF(f p m:af):(f++(p++m)).data.toList=(([f,p,m]:List af).map (·.data.toList)).flatten:=by simp[rN]
def OE(p m:af):(p++m).data.toList=(([p,m]:List af).map (·.data.toList)).flatten:=by simp[rN]
def OD(m:af):m.data.toList=(([m]:List af).map (·.data.toList)).flatten:=by simp
def Z7{w:aa}(a:cq w)(f p m:af)(h:(Y.row g 9 [ad f,ad p,ad m]).P w)(b:f.size+(p.size+m.size)<=1000000):CB 33 #[ag (some ⟨g,0,none⟩) 3 3] w (ad (cB (f++(p++m)))):=
 Fi a.wide (wa (L:=[f,p,m]) h (by simp[maxLen])) zS zS _ (OF f p m) (by rw[gX,gX];exact b)
def Z6{w:aa}(a:cq w)(p m:af)(h:(Y.row g 9 [ad p,ad m]).P w)(b:p.size+m.size<=1000000):CB 33 #[ag (some ⟨g,0,none⟩) 2 2] w (ad (cB (p++m))):=
 Fi a.wide (wa (L:=[p,m]) h (by simp[maxLen])) zS zS _ (OE p m) (by rw[gX];exact b)
def Z5{w:aa}(a:cq w)(m:af)(h:(Y.row g 9 [ad m]).P w)(b:m.size<=1000000):CB 33 #[ag (some ⟨g,0,none⟩) 1 1] w (ad (cB m)):=
 Fi a.wide (wa (L:=[m]) h (by simp[maxLen])) zS zS _ (OD m) b
def JI{w:aa}(e:cq w)(f p m:af)(h:f.size+(p.size+m.size)<=1000000):CB 44 #[ad f,ad p,ad m] w (ad (gE f p m)):=by
 have a:=Z (ae.start w []);have b:=Z e;have d:=Z h;have c:ai (gE f p m=db (cB (f++(p++m)))):=Z rfl
 go_enter func44,ntmps44
 go_wp2_with(first|((with_reducible show cn);first|(refine Mk a.U rfl 10 rfl (some 3) 9 [_,_,_] (by go_simp;first|rfl|exact⟨rfl,rfl⟩) ?_;intro k n l g;replace a:=Z g;simp only[bc]))|go_at_call 33;refine KC a (Z7 (b.U.below a.U.aq) _ _ _ (a.U.get (i:=0) rfl) d.U) λ j a=>?_|go_at_call 42;refine KC a (EB (b.U.below a.U.aq).ord _) λ j a=>?_)
 go_ret
 exact⟨by rw[c.U];rfl,a.U.aq⟩
def Jm(d m a:af)(w:aa):CB 49 #[aG #[ad d,ad m,ad a]] w (aK (decide (a.size=64))):=by
 have c:=Z (ae.start w []);have e1:((a.size:Int)==64)=decide (a.size=64):=by rw[bw];simp;omega
 generalize decide (a.size=64)=b at*
 go_enter func49,ntmps49
 go_wp2_with(first|refine Kl c ?_|refine KB c 106 1 _ λ e g f c=>?_)
 go_ret
 exact⟨rfl,c.U.aq⟩
def wm{w:aa}(f:cq w)(i m b:af)(h:b.size=64):CB 50 #[aG #[ad i,ad m,ad b]] w (aK (hY (b.extract 32 64))):=by
 have a:=Z (ae.start w []);have e:=λ j (g:BW w j)=>Za (f.below g).ord (b.extract 32 64);have c:=Z e;have d:ai (b.extract 32 b.size=b.extract 32 64):=Z (by rw[h])
 go_enter func50,ntmps50
 go_wp2_with(first|refine Kl a ?_|refine KB a 106 1 _ λ g l j a=>?_|go_at_call 118;(try rw[d.U]);refine KC a (c.U _ a.U.aq) λ k a=>?_)
 go_ret
 exact⟨rfl,a.U.aq⟩
def DO(k:KY)(w:aa):CB 16 #[aG #[ad k.a,ad k.pre,ad k.pub]] w (ad k.pub):=by
 have b:=Z (ae.start w []);obtain⟨a,p,u⟩:=k;simp only
 go_enter func16,ntmps16
 go_wp2_with(first|refine Kl b ?_|refine KB b 23 1 _ λ c e d b=>?_)
 go_ret
 exact⟨rfl,b.U.aq⟩
section
open PT
def Fw(s:af):(cB s).size=64:=rfl
def gf(n:Nat):(FM.enc n).size=32:=by simp[FM.enc,ByteArray.size,FM.iw]
def HQ(q:Q4):(hK q).size=32:=gf _
def rD(s:af):(db s).size=32:=gf _
def ZE(a b c:af):(lI a b c).size=32:=gf _
def zo(s:af):(lG s).size=min 32 s.size:=by
 show(sy (s.data.toList.take 32)).toArray.size=_;rw[oD];unfold sy;rw[fc,fc,eA,iO];rfl
structure KY.Ok(k:KY):Prop where
 a:k.a.size=32
 pre:k.pre.size=32
 pub:k.pub.size=32
def vD(s:af):(bC s).Ok:=by
 refine⟨?_,?_,HQ _⟩
 ·show(lG _).size=32;rw[zo,ib,Fw];rfl
 ·show((cB s).extract 32 64).size=32;rw[ib,Fw];rfl
def EG{w:aa}(k:cq w)(s:af)(I:s.size=32):CB 5 #[ad s] w (aM #[(bC s).val,O 0]):=by
 have a:=Z (ae.start w []);have C:=Z k;have J:(s.size:Int)=32:=by omega
 have l:bC s=⟨lG ((cB s).extract 0 32),(cB s).extract 32 64,hK (fR dO (lG ((cB s).extract 0 32)))⟩:=rfl;have j:=Fw s;have r:=λ(f:aa) (g:Nat) (d:BW w f) (h:(Y.row g 9 [ad s]).P f)=>Z5 (k.below d) s h W;generalize cB s=S at*;have K:(S.size:Int)=64:=by omega
 have x:(S.extract 0 32).size=32:=by rw[ib];omega
 have q:=λ f=>Y8 (S.extract 0 32) x f;generalize lG (S.extract 0 32)=A at*;have o:=Z q;have B:=Z l;have p:=Z r;have D:ai (S.extract 32 S.size=S.extract 32 64):=Z (by rw[j]);rw[l];unfold KY.val;simp only
 go_enter func5,ntmps5
 go_upto_region 5 with(first|(refine KA a 23 2 zW λ g m H a=>?_)|((with_reducible show cn);(refine Mk a.U rfl 11 rfl (some 1) 9 [_] (by go_simp;(exact⟨rfl,rfl⟩)) ?_;intro E m G b;replace a:=Z b;simp only[bc]))|(go_at_call 33;refine KC a (p.U _ _ a.U.aq (a.U.get (i:=0) rfl)) λ y a=>?_)|(go_at_call 34;refine KC a (o.U _) λ y a=>?_))
 refine ae.region a.U (n:=8) (S:=ba [Y.row g 23 [ad ⟨#[]⟩,ad ⟨#[]⟩,ad ⟨#[]⟩]]) V V (λ z j=>(aX (j.in (by exact mQ mZ)) bg)) (λ z b c=> ?_);replace a:=Z b;refine V2 0 16 c ?_;refine V2 1 17 c ?_;refine W2 2 18 (v:=ad (S.extract 32 64)) rfl rfl (Or.inl ⟨by kernel_rfl,λ f F=>by go_simp;(done)⟩) c ?_;refine V2 4 20 c ?_;refine ay.eL (i:=3) V zD rfl rfl 19 rfl rfl 35 rfl Rq _ rfl ?_;refine(DF _).mono ?_;rintro e h ⟨⟨L,rfl,t⟩,d⟩;have b:=a.U.below d;replace a:=Z b;refine⟨_,rfl,(aX (a.U.in (by exact mQ mZ)) bg),?_⟩;simp only[aS,av,ax];refine ay.eL (i:=5) V zD rfl rfl 21 rfl rfl 36 rfl Rr _ rfl ?_;refine(yQ t _ _).mono ?_;rintro e h ⟨⟨M,rfl,u⟩,d⟩;have b:=a.U.below d;replace a:=Z b;refine⟨_,rfl,(aX (a.U.in (by exact mQ mZ)) bg),?_⟩;simp only[aS,av,ax];refine ay.eL (i:=6) V zD rfl rfl 22 rfl rfl 37 rfl Rt _ rfl ?_;refine KC a (DG u _) λ h a=>?_;refine⟨_,rfl,(aX (a.U.in (by exact mQ mZ)) bg),?_⟩;simp only[aS,av,ax];have c:ba [Y.row g 23 [ad ⟨#[]⟩,ad ⟨#[]⟩,ad ⟨#[]⟩]] _:=(aX (a.U.in (by exact mQ mZ)) bg);refine V2 7 23 c ?_;refine ay.tail V ?_;simp only[ck,bH]
 go_wp2_with((refine K7 a 1 23 3 λ m a=>?_))
 refine fb a.U 1 rfl 23 3 rfl rfl rfl V rfl rfl ?_;exact⟨rfl,a.U.aq⟩
def L5{w:aa}(o:cq w)(k:KY)(u:k.Ok)(m:af)(a1:m.size<=900000):CB 7 #[aG #[ad k.a,ad k.pre,ad k.pub],ad m] w (ad (k.sign m)):=by
 have b:=Z (ae.start w []);have B:=Z o;have r:k.sign m=k.first m++lI (gE (k.first m) k.pub m) k.a (db (cB (k.pre++m))):=by
  unfold KY.sign;rw[ar];intro h;have:=u.pub;rw[h] at this;exact absurd this zD
 have t:k.first m=hK (fR dO (db (cB (k.pre++m)))):=rfl;obtain⟨a,j,f⟩:=k;obtain⟨a6,a7,p⟩:=u;simp only at*;have v:=λ(c:aa) (g:Nat) (d:BW w c) (h:(Y.row g 9 [ad j,ad m]).P c)=>Z6 (o.below d) j m h W;obtain⟨l,E⟩:∃l,cB (j++m)=l:=⟨_,rfl⟩;rw[E] at v r t;obtain⟨F,hF⟩:∃F,hK (fR dO (db l))=F:=⟨_,rfl⟩;have R:F.size=32:=by rw[<-hF];exact HQ _
 rw[t,hF] at r;rw[r];have H:=λ(c:aa) (d:BW w c)=>JI (o.below d) F f m W;have a2:(gE F f m).size=32:=rD _;generalize gE F f m=X at*;have G:=λ(c:aa) (d:BW w c)=>Y9 (o.below d).ord X a (db l);have a5:(lI X a (db l)).size=32:=ZE _ _ _;generalize lI X a (db l)=P at*;have a3:(f.toList==(⟨#[]⟩:af).toList)=false:=by rw[rE];apply bm;intro h;rw[h] at p;exact absurd p zD
 have a4:f.toList.isEmpty=false:=by rw[ir];apply bm;intro h;rw[h] at p;exact absurd p zD
 have a8:F.size+P.size<=9223372036854775807:=by omega
 have A:=Z v;have z:=Z H;have y:=Z G;have x:=Z hF
 go_enter func7,ntmps7
 go_upto_region 5 with(first|(refine KL b 0 9 ?_)|(refine KB b 23 2 ([ad a,ad j,ad f]) λ s M a0 b=>?_)|((with_reducible show cn);(refine Mk b.U rfl 13 rfl (some 2) 9 [_,_] (by go_simp;(exact⟨rfl,rfl⟩)) ?_;intro Q M T g;replace b:=Z g;simp only[bc]))|(go_at_call 33;refine KC b (A.U _ _ b.U.aq (b.U.get (i:=0) rfl)) λ L b=>?_)|(go_at_call 42;refine KC b (EB (B.U.below b.U.aq).ord _) λ L b=>?_)|(go_at_call 35;refine(DF _).mono ?_;rintro e q ⟨⟨a9,rfl,I⟩,d⟩;have g:=b.U.below d;replace b:=Z g;have C:=Z I)|(go_at_call 36;refine(yQ C.U _ _).mono ?_;rintro e q ⟨⟨b0,rfl,J⟩,d⟩;have g:=b.U.below d;replace b:=Z g;have D:=Z J)|(go_at_call 37;refine KC b (DG D.U _) λ q b=>?_;rw[x.U]))
 refine ae.region b.U (n:=11) (S:=ba [Y.row s 23 [ad a,ad j,ad f]]) V V (λ N K=>(aX (K.in (by exact mQ mZ)) bg)) (λ N g c=> ?_);replace b:=Z g;refine V2 0 20 c ?_;refine V2 1 21 c ?_;refine V2 2 22 c ?_;refine L2 3 23 0 9 c ?_;refine V2 4 24 c ?_;refine V2 6 26 c ?_;refine L2 7 27 0 9 c ?_;refine V2 8 28 c ?_;refine ay.eL (i:=5) V zD rfl rfl 25 rfl rfl 44 rfl Rv _ rfl ?_;refine KC b (z.U _ b.U.aq) λ q b=>?_;refine⟨_,rfl,(aX (b.U.in (by exact mQ mZ)) bg),?_⟩;simp only[aS,av,ax];refine ay.eL (i:=9) V zD rfl rfl 29 rfl rfl 43 rfl Ru _ rfl ?_;refine KC b (y.U _ b.U.aq) λ q b=>?_;refine⟨_,rfl,(aX (b.U.in (by exact mQ mZ)) bg),?_⟩;simp only[aS,av,ax];have c:ba [Y.row s 23 [ad a,ad j,ad f]] _:=(aX (b.U.in (by exact mQ mZ)) bg);refine V2 10 30 c ?_;refine ay.tail V ?_;simp only[ck,bH]
 go_wp2
 go_ret
 exact⟨rfl,b.U.aq⟩
end
