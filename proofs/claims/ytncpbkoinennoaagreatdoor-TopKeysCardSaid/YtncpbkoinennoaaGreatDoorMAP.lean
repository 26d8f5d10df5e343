import Derived.Test.YtncpbkoinennoaaGreatDoorMAM
set_option linter.all false
set_option maxRecDepth 100000
set_option maxHeartbeats 0
namespace Go.Proofs.YtncpbkoinennoaaGreatDoor
open Go.RowKit Proofs.Tryz
attribute [local irreducible] wpList Calls
variable{g:Nat}
structure MK where
 log:Nat
 size:Nat
 aE:af
 aR:Bool
 deriving DecidableEq
abbrev MK.cells(k:MK):List ab:=[O (k.log:Int),U (k.size:Int),ad k.aE,aK k.aR]
def cR(L:List MK):List ab:=(L.map MK.cells).flatten
def yE(L M:List MK):cR (L++M)=cR L++cR M:=by simp[cR]
def vd:cW 79 240 4 40:=cW.mk' underlying79 (z:= .agg #[O 0,U 0,.string ⟨#[]⟩,.bool false]) V rfl zD
def RD.rj(r:RD):RD:=if 1<(r.bu 1).ei then((r.bu 1).bu 1).fail 3 else(r.bu 1).bu 1
def RD.jc(r:RD):MK:=⟨r.ei,r.rj.cx,if 0<r.rj.cx then r.rj.bW.cA 32 else⟨#[]⟩,decide ((r.bu 1).ei=1)⟩
def RD.mC(r:RD):RD:=if 0<r.rj.cx then r.rj.bW.bu 32 else r.rj.bW
def RD.ks:Nat->RD->List MK
 |0,_=>[]
 |k+1,r=>r.jc::r.mC.ks k
def RD.nO:Nat->RD->RD
 |0,r=>r
 |k+1,r=>r.mC.nO k
def RD.kr(x:RD):List MK:=if 8<x.ei then [] else(x.bu 1).ks x.ei
def RD.sX(x:RD):RD:=if 8<x.ei then(x.bu 1).fail 4 else(x.bu 1).nO x.ei
def NB{w:aa}{x:RD}(h:(Y.rd g x).P w):Calls prog 227 #[pV g] w λ r k=>∃b,r=ao b/\bk (Y.rd g x) w k (Y.star (Y.rd g x.sX) (Y.ow 240 4 b x.kr.length (cR x.kr))):=by
 have a:=Z (ae.self h);obtain⟨N,F⟩:∃N,x.ei=N:=⟨_,rfl⟩;obtain⟨p,I⟩:∃p,x.bu 1=p:=⟨_,rfl⟩;have b1:=λ n (h:(Y.rd g x).P n)=>uv h;rw[F,I] at b1;have a7:=Z b1;by_cases z:8<N
 ·have P:ai (x.kr=[]):=Z (by unfold RD.kr;rw[F,au z]);have Q:ai (x.sX=p.fail 4):=Z (by unfold RD.sX;rw[F,I,au z]);have hd:decide ((8:Int)<(N:Int))=true:=by simp;omega
  go_enter func227,ntmps227
  go_wp2_with(first|go_at_call 162;refine KP a (a7.U _ (a.U.in mZ)) λ k a=>?_|go_at_call 151;refine KP a (xj (a.U.in mZ) 4 4 rfl) λ k a=>?_)
  have e:=a.U.eM (Y.ow 240 4 (ag none 0 0) 0 (cR [])) (di _ _ _ _) rfl;refine lP rfl rfl rfl ⟨_,rfl,?_⟩;rw[P.U,Q.U];exact(e.az 1 rfl).oe
 ·have P:ai (x.kr=p.ks N):=Z (by unfold RD.kr;rw[F,I,ar z]);have Q:ai (x.sX=p.nO N):=Z (by unfold RD.sX;rw[F,I,ar z]);have hd:decide ((8:Int)<(N:Int))=false:=by simp;omega
  have b9:N<=8:=by omega
  go_enter func227,ntmps227
  go_wp2_with((go_at_call 162;refine KP a (a7.U _ (a.U.in mZ)) λ k a=>?_))
  replace a:=Z (a.U.eM (Y.ow 240 4 (ag none 0 0) 0 (cR [])) (di _ _ _ _) rfl)
  go_loopw [4,14] (λ b c wr=>∃(j:Nat) (L:List MK) (r:RD) (pA:Option Addr) (a3:Nat),b=ag pA L.length a3/\j<=N/\c=O (j:Int)/\ae w wr (Y.rd g x).bs [Y.ow 240 4 (ag pA L.length a3) L.length (cR L),Y.rd g r]/\L.length=j/\p.ks N=L++r.ks (N-j)/\p.nO N=r.nO (N-j)) (λ _ c _=>N-(intOf c).toNat)
  case atStart=>exact⟨0,[],p,none,0,rfl,by omega,rfl,a.U,rfl,by simp,by simp⟩
  case round=>
   obtain⟨j,L,r,pA,a3,rfl,c1,rfl,c,b,G,hx⟩:=hrel;have a:=Z c;clear c;by_cases c3:j<N
   ·have b7:decide (j<N)=true:=by simp;omega
    rw[show N-j=(N-(j+1))+1 by omega] at G hx;have C:=Z (show p.ks N=(L++[r.jc])++r.mC.ks (N-(j+1)) by rw[G,RD.ks,gK];rfl);have D:=Z (show p.nO N=r.mC.nO (N-(j+1)) by rw[hx,RD.nO]);have s:=Z (show(L++[r.jc]).length=j+1 by rw[bV,b];rfl);have c2:L.length<=8:=by omega
    clear G hx b;obtain⟨H,a0⟩:∃H,r.bu 1=H:=⟨_,rfl⟩;obtain⟨E,b3⟩:∃E,H.bu 1=E:=⟨_,rfl⟩;obtain⟨q,a1⟩:∃q,r.rj=q:=⟨_,rfl⟩;obtain⟨c,a2⟩:∃c,q.bW=c:=⟨_,rfl⟩;obtain⟨l,b2⟩:∃l,r.ei=l:=⟨_,rfl⟩;obtain⟨o,T⟩:∃o,H.ei=o:=⟨_,rfl⟩;obtain⟨b,J⟩:∃b,q.cx=b:=⟨_,rfl⟩;have c4:b<18446744073709551616:=by rw[<-J];exact jS q
    have a6:ai (q=if 1<o then E.fail 3 else E):=Z (by rw[<-a1,<-T,<-b3,<-a0];rfl);have a8:=λ n (h:(Y.rd g r).P n)=>uv h;rw[b2,a0] at a8;have a9:=λ n (h:(Y.rd g H).P n)=>uv h;rw[T,b3] at a9;have b0:=λ n (h:(Y.rd g q).P n)=>qp h;rw[J,a2] at b0;have t:ai (r.jc=⟨l,b,if 0<b then c.cA 32 else⟨#[]⟩,decide (o=1)⟩):=Z (by unfold RD.jc;rw[a1,J,a2,b2,a0,T]);have u:ai (r.mC=if 0<b then c.bu 32 else c):=Z (by unfold RD.mC;rw[a1,J,a2]);have a4:=Z a8;have a5:=Z a9;have C3:=Z b0;have c0:((o:Int)==1)=decide (o=1):=by rw[bw];simp;omega
    generalize decide (o=1)=bb at*;by_cases z:1<o
    ·have d1:decide ((1:Int)<(o:Int))=true:=by simp;omega
     have M:=Z (show q=E.fail 3 by rw[a6.U,au z]);by_cases i:0<b;focus
      have d2:decide (0<b)=true:=by simp;omega
      have d:=Z (show r.jc=⟨l,b,c.cA 32,bb⟩ by rw[t.U,au i]);have f:=Z (show r.mC=c.bu 32 by rw[u.U,au i]);obtain⟨S,y⟩:∃S,c.cA 32=S:=⟨_,rfl⟩;obtain⟨B,A⟩:∃B,c.bu 32=B:=⟨_,rfl⟩;have v:=λ n (h:(Y.rd g c).P n)=>se h 32;rw[y,A] at v;rw[y] at d;rw[A] at f;rw[d.U] at s;have K:=Z v;clear v y A i t u
     rotate_left;focus
      have d2:decide (0<b)=false:=by simp;omega
      have d:=Z (show r.jc=⟨l,b,⟨#[]⟩,bb⟩ by rw[t.U,ar i]);have f:=Z (show r.mC=c by rw[u.U,ar i]);rw[d.U] at s;clear i t u
     all_goals
      go_upto_region 12 with(first|refine KS a λ m a=>?_|refine KA a _ 5 jt λ b5 m b8 a=>?_|go_at_call 162;refine KP a (a4.U _ (a.U.in (by exact mQ mZ))) λ k a=>?_|go_at_call 162;refine KP a (a5.U _ (a.U.in (by exact mQ (mQ mZ)))) λ k a=>?_|go_at_call 151;refine KP a (xj (a.U.in (by exact mQ (mQ mZ))) 3 3 rfl) λ k a=>?_)
      rw[<-M.U] at a
      go_wp2_with(first|refine Kl a ?_|refine KT a 4 ?_|refine KS a λ m a=>?_|(with_reducible show cn);(refine Mk a.U rfl 39 rfl (some 1) 240 [O (l:Int),U (b:Int),ad ⟨#[]⟩,aK bb] (by go_simp;(rfl)) ?_;intro R m X e;replace a:=Z e;simp only[bc])|(with_reducible show cn);(refine Mk a.U rfl 39 rfl (some 1) 240 [O (l:Int),U (b:Int),ad S,aK bb] (by go_simp;(rfl)) ?_;intro R m X e;replace a:=Z e;simp only[bc])|refine Ap a.U rfl vd rfl 2 rfl rfl 0 rfl rfl rfl rfl (by unfold maxLen;omega) W ?_;intro b6 b4 m e;simp only[av,ax] at e;replace a:=Z e|go_at_call 47;refine KP a (C3.U _ (a.U.in (by exact mQ (mQ mZ)))) λ k a=>?_|go_at_call 13;refine KP a (K.U _ (a.U.in (by exact mQ (mQ mZ)))) λ k a=>?_)
      go_roundw
      first
       |case rel=>exact⟨j+1,L++[r.jc],B,_,_,by rw[bV];rfl,by omega,by go_num,by rw[yE,bV,d.U];exact a.U.tail.tail,by rw[d.U];exact s.U,C.U.trans (by rw[f.U]),D.U.trans (by rw[f.U])⟩
       |case rel=>exact⟨j+1,L++[r.jc],c,_,_,by rw[bV];rfl,by omega,by go_num,by rw[yE,bV,d.U];exact a.U.tail.tail,by rw[d.U];exact s.U,C.U.trans (by rw[f.U]),D.U.trans (by rw[f.U])⟩
      case measure=>simp[intOf];omega
    ·have d1:decide ((1:Int)<(o:Int))=false:=by simp;omega
     have M:=Z (show q=E by rw[a6.U,ar z]);by_cases i:0<b;focus
      have d2:decide (0<b)=true:=by simp;omega
      have d:=Z (show r.jc=⟨l,b,c.cA 32,bb⟩ by rw[t.U,au i]);have f:=Z (show r.mC=c.bu 32 by rw[u.U,au i]);obtain⟨S,y⟩:∃S,c.cA 32=S:=⟨_,rfl⟩;obtain⟨B,A⟩:∃B,c.bu 32=B:=⟨_,rfl⟩;have v:=λ n (h:(Y.rd g c).P n)=>se h 32;rw[y,A] at v;rw[y] at d;rw[A] at f;rw[d.U] at s;have K:=Z v;clear v y A i t u
     rotate_left;focus
      have d2:decide (0<b)=false:=by simp;omega
      have d:=Z (show r.jc=⟨l,b,⟨#[]⟩,bb⟩ by rw[t.U,ar i]);have f:=Z (show r.mC=c by rw[u.U,ar i]);rw[d.U] at s;clear i t u
     all_goals
      go_upto_region 12 with(first|refine KS a λ m a=>?_|refine KA a _ 5 jt λ b5 m b8 a=>?_|go_at_call 162;refine KP a (a4.U _ (a.U.in (by exact mQ mZ))) λ k a=>?_|go_at_call 162;refine KP a (a5.U _ (a.U.in (by exact mQ (mQ mZ)))) λ k a=>?_)
      rw[<-M.U] at a
      go_wp2_with(first|refine Kl a ?_|refine KT a 4 ?_|refine KS a λ m a=>?_|(with_reducible show cn);(refine Mk a.U rfl 39 rfl (some 1) 240 [O (l:Int),U (b:Int),ad ⟨#[]⟩,aK bb] (by go_simp;(rfl)) ?_;intro R m X e;replace a:=Z e;simp only[bc])|(with_reducible show cn);(refine Mk a.U rfl 39 rfl (some 1) 240 [O (l:Int),U (b:Int),ad S,aK bb] (by go_simp;(rfl)) ?_;intro R m X e;replace a:=Z e;simp only[bc])|refine Ap a.U rfl vd rfl 2 rfl rfl 0 rfl rfl rfl rfl (by unfold maxLen;omega) W ?_;intro b6 b4 m e;simp only[av,ax] at e;replace a:=Z e|go_at_call 47;refine KP a (C3.U _ (a.U.in (by exact mQ (mQ mZ)))) λ k a=>?_|go_at_call 13;refine KP a (K.U _ (a.U.in (by exact mQ (mQ mZ)))) λ k a=>?_)
      go_roundw
      first
       |case rel=>exact⟨j+1,L++[r.jc],B,_,_,by rw[bV];rfl,by omega,by go_num,by rw[yE,bV,d.U];exact a.U.tail.tail,by rw[d.U];exact s.U,C.U.trans (by rw[f.U]),D.U.trans (by rw[f.U])⟩
       |case rel=>exact⟨j+1,L++[r.jc],c,_,_,by rw[bV];rfl,by omega,by go_num,by rw[yE,bV,d.U];exact a.U.tail.tail,by rw[d.U];exact s.U,C.U.trans (by rw[f.U]),D.U.trans (by rw[f.U])⟩
      case measure=>simp[intOf];omega
   ·have b7:decide (j<N)=false:=by simp;omega
    have e0:N-j=0:=by omega
    rw[e0,RD.ks,oz] at G;rw[e0,RD.nO] at hx;have C:=Z G;have D:=Z hx
    go_wp2
    refine lP rfl rfl rfl ⟨_,rfl,?_⟩;rw[P.U,Q.U,C.U,D.U];exact(a.U.az 1 rfl).oe
variable{n:Nat}{A:Option Addr}
def qD(b:Bool):Int:=if b=true then 1 else 0
def WS.mark(x:WS)(k:MK):WS:=if 0<k.size then(((x.byte (k.log:Int)).byte (qD k.aR)).num k.size).raw k.aE 32 else((x.byte (k.log:Int)).byte (qD k.aR)).num k.size
def WS.aP(x:WS)(L:List MK):WS:=L.foldl WS.mark x
def Vt{x:WS}{L:List MK}(h:g<L.length):(x.aP (L.take g)).mark L[g]=x.aP (L.take (g+1)):=by
 unfold WS.aP;rw[eC h,tZ];rfl
def bN.at{size:Nat}{w:aa}{a:List (List ab)}(h:bN size w (ag A n g) a){j:Nat}(e:j<a.length):∃b o,A=some ⟨b,o,none⟩/\w.rangeAt b (o+j*size) a[j]:=by
 obtain⟨-,i,k,d,l,c⟩:=h;injection d with e1 e2 e3;subst e1;obtain⟨b,o,f,q2,q3⟩:=c j e;exact⟨b,o,f,q3⟩
def bN.form{size:Nat}{w:aa}{v:ab}{b:List (List ab)}(h:bN size w v b):∃A a,v=ag A b.length a/\b.length<=maxLen:=by
 obtain⟨-,A,a,c,d,-⟩:=h;exact⟨A,a,c,d⟩
structure MK.Ok(k:MK):Prop where
 size:k.size<18446744073709551616
 aE:k.aE.size<=1000
def NL{w:aa}{v:ab}{x:WS}{K:Nat}(a1:(Y.wr g v x).P w)(c:x.b.length<=K)(L:List MK)(a4:L.length<=8)(T:∀k∈L,k.Ok)(a3:K<=5000000)(t:ab)(E:(Y.er 4 t (L.map MK.cells)).P w)(R:∀k∈(Y.er 4 t (L.map MK.cells)).bs,k∉(Y.wr g v x).bs):
 Calls prog 94 #[pV g,t] w λ r l=>r=ao (aM #[])/\∃h,bk (Y.wr g v x) w l (Y.wr g h ((x.byte L.length).aP L))/\((x.byte L.length).aP L).b.length<=K+10000:=by
 have J:=Z T
 have C:=Z E;have B:=Z R
 obtain⟨A,M,rfl,-⟩:=bN.form E
 rw[cC] at C B⊢
 have a:=Z (ae.self a1)
 have b:=Z c
 have b0:L.length<=9223372036854775807:=by omega
 go_enter func94,ntmps94
 go_wp2_with((go_at_call 89;(refine(uH (a.U.in mZ) b.U _ W).mono ?_);rintro e l ⟨rfl,h,d,c⟩;have f:=a.U.rep (by exact .head _) d;have a:=Z f;have b:=Z c))
 obtain⟨y,F⟩:∃y,x.byte L.length=y:=⟨_,rfl⟩
 have I:=Z F
 rw[F] at a b
 generalize a6:K+1=H at*
 go_loopw [13] (λ i wr=>∃(j:Nat) (h:ab),j<=L.length/\i=O (j:Int)/\ae w wr (Y.wr g v x).bs [Y.wr g h (y.aP (L.take j))]/\(y.aP (L.take j)).b.length<=H+1012*j) (λ i _=>L.length-(intOf i).toNat)
 case atStart=>exact⟨0,_,by omega,rfl,a.U,b.U⟩
 case round=>
  obtain⟨j,h,a8,rfl,a0,c⟩:=hrel
  have a:=Z a0;have b:=Z c
  by_cases s:j<L.length
  ·have Q:bN 4 wr (ag A L.length M) (L.map MK.cells):=a.U.ro C.U B.U
   have n:=Z (Vt (x:=y) s)
   have a2:=J.U _ (eR s)
   obtain⟨bb,o,P,hx⟩:=Q.at (j:=j) (by rw[cC];exact s)
   subst P
   rw[ua] at hx
   generalize a9:L[j]=k at*
   obtain⟨r,i,u,m⟩:=k
   obtain⟨z1,z2⟩:=a2
   simp only at z1 z2
   have D:=Z hx
   obtain⟨q,X⟩:∃q,y.aP (L.take j)=q:=⟨_,rfl⟩
   rw[X] at a b n
   have a7:decide (j<L.length)=true:=by simp;omega
   generalize a5:H+1012*j=b1 at*
   by_cases G:0<i
   ·have d2:decide (0<i)=true:=by simp;omega
    have p:=Z (show q.mark ⟨r,i,u,m⟩=(((q.byte (r:Int)).byte (qD m)).num i).raw u 32 by unfold WS.mark;rw[au G])
    cases m
    all_goals
     go_wp2_with(first|refine Kl a ?_|refine KS a λ z a=>?_|refine KA a _ 5 jt λ N z S a=>?_|refine hj rfl 240 4 rfl rfl D.U rfl V ?_|go_at_call 89;(refine(uH (a.U.in (by exact mQ mZ)) b.U _ W).mono ?_);rintro e l ⟨rfl,h,d,c⟩;have f:=a.U.rep (by exact .tail _ (.head _)) d;have a:=Z f;have b:=Z c|go_at_call 90;(refine(oQ (a.U.in (by exact mQ mZ)) b.U _ W W).mono ?_);rintro e l ⟨rfl,h,d,c⟩;have f:=a.U.rep (by exact .tail _ (.head _)) d;have a:=Z f;have b:=Z c|go_at_call 9;(refine(xw (a.U.in (by exact mQ mZ)) b.U _ _ W).mono ?_);rintro e l ⟨rfl,h,d,c⟩;have f:=a.U.rep (by exact .tail _ (.head _)) d;have a:=Z f;have b:=Z c)
     go_roundw
     case rel=>exact⟨j+1,_,by omega,by go_num,by rw[<-n.U,p.U];exact a.U.tail,by rw[<-n.U,p.U];exact hy b.U W⟩
     case measure=>simp[intOf];omega
   ·have d2:decide (0<i)=false:=by simp;omega
    have p:=Z (show q.mark ⟨r,i,u,m⟩=((q.byte (r:Int)).byte (qD m)).num i by unfold WS.mark;rw[ar G])
    cases m
    all_goals
     go_wp2_with(first|refine Kl a ?_|refine KS a λ z a=>?_|refine KA a _ 5 jt λ N z S a=>?_|refine hj rfl 240 4 rfl rfl D.U rfl V ?_|go_at_call 89;(refine(uH (a.U.in (by exact mQ mZ)) b.U _ W).mono ?_);rintro e l ⟨rfl,h,d,c⟩;have f:=a.U.rep (by exact .tail _ (.head _)) d;have a:=Z f;have b:=Z c|go_at_call 90;(refine(oQ (a.U.in (by exact mQ mZ)) b.U _ W W).mono ?_);rintro e l ⟨rfl,h,d,c⟩;have f:=a.U.rep (by exact .tail _ (.head _)) d;have a:=Z f;have b:=Z c)
     go_roundw
     case rel=>exact⟨j+1,_,by omega,by go_num,by rw[<-n.U,p.U];exact a.U.tail,by rw[<-n.U,p.U];exact hy b.U W⟩
     case measure=>simp[intOf];omega
  ·obtain rfl:j=L.length:=by omega
   rw[AM] at a b
   go_wp2
   go_end0
   rw[I.U]
   exact⟨rfl,_,a.U.iL,hy b.U W⟩
variable{r:Int}
def MK.eb(q:Int)(k:MK):Bool:=!(decide ((k.log:Int)<=q)||(decide (8<=k.log)||(decide (1099511627776<k.size)||(!(decide (k.aE.size=32)||(decide (k.size=0)&&decide (k.aE=⟨#[]⟩)))||(decide (k.size=0)&& !decide (k.aE=⟨#[]⟩))))))
def nN(q:Int):List MK->Bool
 |[]=>true
 |k::L=>k.eb q&&nN (k.log:Int) L
def vA(L:List MK):Bool:=nN (-1) L&&decide (L.length<=8)
def Vp{L:List MK}(h:g<L.length):nN r (L.drop g)=(L[g].eb r&&nN (L[g].log:Int) (L.drop (g+1))):=by
 rw[iQ h,nN]
def ir(s:af):s.toList.isEmpty=decide (s=⟨#[]⟩):=by
 rw[bw,List.isEmpty_iff,jL];constructor
 ·intro h;rw[kI] at h;exact su h
 ·rintro rfl;rw[kI]
def Vq{w:aa}(L:List MK)(J:L.length<=1000000)(y:ab)(x:(Y.er 4 y (L.map MK.cells)).P w):
 CB 243 #[y] w (aK (vA L)):=by
 have p:=Z x
 obtain⟨A,B,rfl,-⟩:=bN.form x
 rw[cC] at p⊢
 obtain⟨R,l⟩:∃R,vA L=R:=⟨_,rfl⟩
 rw[l]
 unfold vA at l
 have F:decide ((L.length:Int)<=8)=decide (L.length<=8):=by rw[bw];simp;omega
 generalize decide (L.length<=8)=T at l F
 have Q:L.length<=9223372036854775807:=by omega
 have a:=Z (ae.start w [])
 have c:=Z l
 go_enter func243,ntmps243
 go_wp2
 go_loopw [3,9] (λ qv b wr=>∃(j:Nat) (q:Int),j<=L.length/\b=O (j:Int)/\qv=O q/\ae w wr [] []/\(nN q (L.drop j)&&T)=R) (λ _ b _=>L.length-(intOf b).toNat)
 case atStart=>exact⟨0,-1,by omega,rfl,rfl,a.U,c.U⟩
 case round=>
  obtain⟨j,q,N,rfl,rfl,G,b⟩:=hrel
  have a:=Z G
  by_cases v:j<L.length
  focus
   have E:bN 4 wr (ag A L.length B) (L.map MK.cells):=p.U.below a.U.aq
   obtain⟨bb,o,C,hx⟩:=E.at (j:=j) (by rw[cC];exact v)
   subst C
   rw[ua] at hx
   rw[Vp v] at b
   generalize P:L[j]=k at*
   generalize D:L.drop (j+1)=M at*
   obtain⟨m,d,e,H⟩:=k
   simp only at b
   unfold MK.eb at b
   simp only at b
   have n:=Z hx
   have HD:=Z D
   have K:decide (j<L.length)=true:=by simp;omega
   have e1:((e.size:Int)==32)=decide (e.size=32):=by rw[bw];simp;omega
   have e2:((d:Int)==0)=decide (d=0):=by rw[bw];simp
   have e3:=ir e
   have e5:decide ((8:Int)<=(m:Int))=decide (8<=m):=by rw[bw];simp;omega
   have e6:decide ((1099511627776:Int)<(d:Int))=decide (1099511627776<d):=by rw[bw];simp;omega
   generalize decide (e.size=32)=z at*
   generalize decide (d=0)=r at*
   generalize decide (e=⟨#[]⟩)=s at*
   generalize I:decide ((m:Int)<=q)=g at*
   generalize decide (8<=m)=h at*
   generalize decide (1099511627776<d)=i at*
   have c:=Z b
   cases z
   focus
    cases r
    focus
     cases g
     focus
      cases h
      focus cases i
    rotate_left 4
    focus
     cases s
     focus
      cases g
      focus
       cases h
       focus cases i
     rotate_left 4
     focus
      cases g
      focus
       cases h
       focus cases i
   rotate_left 12
   focus
    cases g
    focus
     cases h
     focus
      cases i
      focus
       cases r
       rotate_left
       focus cases s
     rotate_left 4
     ·have b:=c.U
      simp only[sB] at b
      have c:=Z b
      clear b
      go_wp2_with(first|(first|(refine KL a 0 9 ?_)|(refine KL a 0 3 ?_))|(refine K7 a 0 240 4 λ f a=>?_)|(refine KA a 240 5 jt λ t f u a=>?_)|((with_reducible show wpList _ _ _ (⟨_,.load 240 _,_,_,_,_⟩::_) _ _);(refine hj rfl 240 4 rfl rfl n.U rfl V ?_)))
      go_ret
      exact⟨by rw[<-c.U];rfl,a.U.aq⟩
    rotate_left 4
    ·have b:=c.U
     simp only[sB] at b
     have c:=Z b
     go_wp2_with(first|(first|(refine KL a 0 9 ?_)|(refine KL a 0 3 ?_))|(refine K7 a 0 240 4 λ f a=>?_)|(refine KA a 240 5 jt λ t f u a=>?_)|((with_reducible show wpList _ _ _ (⟨_,.load 240 _,_,_,_,_⟩::_) _ _);(refine hj rfl 240 4 rfl rfl n.U rfl V ?_)))
     go_ret
     exact⟨by rw[<-c.U];rfl,a.U.aq⟩
  rotate_left 16
  ·obtain rfl:j=L.length:=by omega
   rw[List.drop_length,nN,gW] at b
   subst b
   go_wp2
   go_ret
   exact⟨rfl,a.U.aq⟩
  all_goals
   have b:=c.U
   simp only[sB] at b
   have c:=Z b
   clear b
   go_wp2_with(first|(first|(refine KL a 0 9 ?_)|(refine KL a 0 46 ?_)|(refine KL a 0 3 ?_))|(refine K7 a 0 240 4 λ f a=>?_)|(refine KA a 240 5 jt λ t f u a=>?_)|((with_reducible show wpList _ _ _ (⟨_,.load 240 _,_,_,_,_⟩::_) _ _);(refine hj rfl 240 4 rfl rfl n.U rfl V ?_)))
   first
    |go_roundw
     case rel=>exact⟨j+1,_,by omega,by go_num,rfl,a.U.tail,by rw[HD.U];exact c.U⟩
     case measure=>simp[intOf];omega
    |go_ret
     exact⟨by rw[<-c.U];rfl,a.U.aq⟩
variable{a:Act}{I:List Y}{k:Nat}{o:Oper}{X:Operand}
def Y.ri(b o:Nat)(e:List ab):Y:=
 ⟨[b],λ w=>w.rangeAt b o e/\b<w.heap.size,(λ w f h a=>by
  have c:f.heap[b]?=w.heap[b]?:=h b zS
  refine⟨λ j v d=> ?_,?_⟩
  ·rw[<-a.1 j v d]
   unfold World.cell?
   rw[c]
  grind),(λ _ _=>by simp),(λ w a k a=>by
  grind)⟩
def Ym{ops:Array Oper}(q:Region.wanted o (yielded ops a.tmps)=true)(i:Nat){b:List ab}(l:I[i]?=some (Y.ri g n b))(c e:Nat)(p:o.op= .load c X)(hx:a.eval X= .pointer (some ⟨g,n,none⟩))
 (k:hU c e=true) (t:b.length=e):YieldsIf prog ops (ba I) o (aG b.toArray) a:=by
 obtain⟨⟨d,f,h⟩,s⟩:=pK k
 exact M9 q c X p g n hx b d (λ w r j v m=>(r _ (cX l)).1 j v m) f h (by grind)
def bN.ri{size:Nat}{w:aa}{A:Option Addr}{n c:Nat}{a:List (List ab)}(h:bN size w (ag A n c) a){j:Nat}(f:j<a.length):∃b o,A=some ⟨b,o,none⟩/\(Y.ri b (o+j*size) a[j]).P w:=by
 obtain⟨-,i,k,e,l,d⟩:=h;injection e with e1 e2 e3;subst e1;obtain⟨b,o,g,q2,q3⟩:=d j f;exact⟨b,o,g,q3,q2⟩
def MK.eq_iff{p q:MK}:p=q↔((p.log:Int)=(q.log:Int)/\(p.size:Int)=(q.size:Int)/\p.aE.toList=q.aE.toList/\p.aR=q.aR):=by
 obtain⟨a,b,c,d⟩:=p;obtain⟨e,f,g,h⟩:=q;simp only[MK.mk.injEq,uP];grind
def Y4(p q:MK)(o:Oper)(a:Act)(x y:Operand)(f:o.op= .binOp .neq 240 x y 240)(hx:a.eval x=aG p.cells.toArray)(g:a.eval y=aG q.cells.toArray)(w:aa):(execOp a.eval o).run prog w= .ok (.value (aK (!decide (p=q)))) w:=by
 unfold execOp;simp only[f,hx,g]
 go_simp
 by_cases b:(p.log:Int)=(q.log:Int)
 ·by_cases c:(p.size:Int)=(q.size:Int)
  ·by_cases d:p.aE.toList=q.aE.toList
   ·by_cases e:p.aR=q.aR
    ·have h:p=q:=MK.eq_iff.2 ⟨b,c,d,e⟩;grind
    ·have h:¬p=q:=by grind
     grind
   ·have h:¬p=q:=by grind
    grind
  ·have h:¬p=q:=by grind
   grind
 ·have h:¬p=q:=by grind
  grind
def F9{ops:Array Oper}{rest:List Oper}{w:aa}{Q:Exit->Act->aa->Prop}(p q:MK)(b:Region.wanted o (yielded ops a.tmps)=true){y:Operand}(c:o.op= .binOp .neq 240 X y 240)(hx:a.eval X=aG p.cells.toArray)(d:a.eval y=aG q.cells.toArray)
 (f:wpList prog ops Q rest (a.put o.dst (aK (!decide (p=q)))) w):wpList prog ops Q (o::rest) a w:=by
 refine eF b λ K e=> ?_
 unfold Oper.wp
 rw[Y4 p q o a X y c hx d w,jC]
 grind
def qs(L M:List MK)(k:Nat):Prop:=L.take k=M.take k
def qs.succ{L M:List MK}(h:qs L M k)(h1:k<L.length)(h2:k<M.length)(e:L[k]=M[k]):qs L M (k+1):=by
 unfold qs at h⊢;rw[eC h1,eC h2,h,e]
def Zc{w:aa}{v u:ab}{L M:List MK}(h:(Y.er 4 v (L.map MK.cells)).P w)(k:(Y.er 4 u (M.map MK.cells)).P w):
 CB 241 #[v,u] w (aK (decide (L=M))):=by
 have g:=Z h
 have i:=Z k
 obtain⟨A,P,rfl,a⟩:=bN.form h
 obtain⟨N,Q,rfl,b⟩:=bN.form k
 rw[cC] at g i a b⊢
 rw[cC]
 have X:L.length<=9223372036854775807:=a
 have a0:M.length<=9223372036854775807:=b
 clear h k a b
 have a:=Z (ae.start w [])
 by_cases f:L.length=M.length
 ·obtain⟨R,b⟩:∃R,decide (L=M)=R:=⟨_,rfl⟩
  rw[b]
  have l:=Z b;have r:=Z f
  have H:((L.length:Int) !=(M.length:Int))=false:=by rw[sx];omega
  clear b f
  go_enter func241,ntmps241
  go_wp2
  go_loopw [13] (λ b wr=>∃j:Nat,j<=L.length/\b=O j/\qs L M j/\ae w wr [] []) (λ b _=>L.length-(intOf b).toNat)
  case atStart=>exact⟨0,bf _,rfl,rfl,a.U⟩
  case round=>
   obtain⟨j,S,rfl,I,G⟩:=hrel
   have m:=Z I;have a:=Z G
   by_cases E:j<L.length
   ·have F:j<M.length:=by have:=r.U;omega
    obtain⟨b,o,C,hx⟩:=bN.ri g.U (j:=j) (by grind)
    obtain⟨B,K,D,p⟩:=bN.ri i.U (j:=j) (by grind)
    subst C D
    rw[ua] at hx p
    have T:decide (j<L.length)=true:=by simp;omega
    have a1:(j:Int)<(L.length:Int):=by omega
    have q2:(j:Int)<(M.length:Int):=by omega
    have J:=λ e=>qs.succ m.U E F e
    have t:=Z J
    have s:ai (L[j]≠M[j]->R=false):=Z (λ c=>by rw[<-l.U];grind)
    have q:ai (ba [Y.ri b (o+j*4) L[j].cells,Y.ri B (K+j*4) M[j].cells] w):=Z (aX hx (aX p bg))
    generalize L[j]=x at*
    generalize M[j]=y at*
    go_upto_region 6 with fail
    refine ma a q 8 [] λ a2 a c=>?_
    refine VV [0,1,2] c ?_
    refine W2 3 19 rfl rfl (Ym zR 0 rfl 240 4 rfl rfl zR rfl) c ?_
    refine VV [4,5,6] c ?_
    refine W2 7 23 rfl rfl (Ym zR 1 rfl 240 4 rfl rfl zR rfl) c ?_
    refine WT ?_
    by_cases n:x=y
    ·have z:=Z (t.U n)
     have d:ai ((!decide (x=y))=false):=by grind
     go_wp2_with(refine F9 x y rfl rfl rfl rfl ?_;rw[d.U])
     go_roundw
     case rel=>exact⟨j+1,by omega,by go_num,z.U,a.U⟩
     case measure=>simp[intOf];omega
    ·have e:=Z (s.U n)
     have d:ai ((!decide (x=y))=true):=by grind
     go_wp2_with(refine F9 x y rfl rfl rfl rfl ?_;rw[d.U])
     go_ret
     exact⟨by rw[e.U];rfl,a.U.aq⟩
   ·have e:ai (R=true):=Z (by
     rw[<-l.U];simp
     have d:=m.U
     unfold qs at d
     grind)
    go_wp2
    go_ret
    exact⟨by rw[e.U];rfl,a.U.aq⟩
 ·have hd:decide (L=M)=false:=by simp;rintro rfl;exact f rfl
  rw[hd]
  have H:((L.length:Int) !=(M.length:Int))=true:=by rw[ml];omega
  go_enter func241,ntmps241
  go_wp2
  go_ret
  exact⟨rfl,a.U.aq⟩
structure MG where
 c:Nat
 log:Nat
 id:Nat
 m:Nat
 n:Nat
 h:HD
 b:BD
 e:List af
 aP:List MK
 deriving DecidableEq
abbrev MG.cells(y:MG)(a c b:ab):List ab:=[O (y.c:Int),O (y.log:Int),U (y.id:Int),U (y.m:Int),U (y.n:Int),U (y.h.size:Int),U (y.h.time:Int),ad y.h.aE,ad y.h.a,
 U (y.b.a.size:Int),U (y.b.a.time:Int),ad y.b.a.aE,ad y.b.a.a,U (y.b.b.size:Int),U (y.b.b.time:Int),ad y.b.b.aE,ad y.b.b.a,a,c,b]
abbrev MG.val(y:MG)(a c b:ab):ab:=aG #[O (y.c:Int),O (y.log:Int),U (y.id:Int),U (y.m:Int),U (y.n:Int),U (y.h.size:Int),U (y.h.time:Int),ad y.h.aE,ad y.h.a,
 U (y.b.a.size:Int),U (y.b.a.time:Int),ad y.b.a.aE,ad y.b.a.a,U (y.b.b.size:Int),U (y.b.b.time:Int),ad y.b.b.aE,ad y.b.b.a,a,c,b]
def fw:HD:=⟨0,0,⟨#[]⟩,⟨#[]⟩⟩
def fx:MG:=⟨0,0,0,0,0,fw,pT,[],[]⟩
def MG.qV(y:MG)(c:Nat)(x:RD):MG:=
 if c=108 then{y with log:=x.ei} else if c=105 then{y with id:=x.cx} else if c=109 then{y with m:=x.cx} else if c=110 then{y with n:=x.cx}
 else if c=104 then{y with h:=x.jO} else if c=98 then{y with b:=x.gQ} else if c=112 then{y with e:=x.nJ} else{y with aP:=x.kr}
def RD.Cy(c:Nat)(x:RD):RD:=
 if c=108 then x.bu 1 else if c=105 then x.bW else if c=109 then x.bW else if c=110 then x.bW
 else if c=104 then x.jP else if c=98 then x.mm else if c=112 then x.sP else x.sX
structure MG.Rd(x:MG)(w:aa)(pB pP pM:ab):Prop where
 b:bq w pB x.b.e
 p:bq w pP x.e
 m:bN 4 w pM (x.aP.map MK.cells)
def MG.Rd.below{x:MG}{w c:aa}{pB b pM:ab}(h:x.Rd w pB b pM)(a:BW w c):x.Rd c pB b pM:=⟨h.b.below a rfl,h.p.below a rfl,h.m.below a⟩
def mq(a b:Nat):((a:Int)==(b:Int))=decide (a=b):=by rw[bw];simp;omega
def VG(x y:MG)(pB n pM l p o:ab)(w:aa)(j:x.Rd w pB n pM)(k:y.Rd w l p o):CB 173 #[x.val pB n pM,y.val l p o] w (aK (decide (x=y))):=by
 have p7:=λ(a:aa) (h:BW w a)=>RW x.b y.b pB l a (j.b.below h rfl) (k.b.below h rfl);have p8:=λ(a:aa) (h:BW w a)=>LI (j.p.below h rfl) (k.p.below h rfl);have p9:=λ(a:aa) (h:BW w a)=>Zc (j.m.below h) (k.m.below h);have e1:=mq x.c y.c;have e2:=mq x.log y.log;have e3:=mq x.id y.id;have e4:=mq x.m y.m;have e5:=mq x.n y.n;obtain⟨b,d1⟩:∃b,decide (x.c=y.c)=b:=⟨_,rfl⟩;obtain⟨c,d2⟩:∃c,decide (x.log=y.log)=c:=⟨_,rfl⟩;obtain⟨d,d3⟩:∃d,decide (x.id=y.id)=d:=⟨_,rfl⟩;obtain⟨e,d4⟩:∃e,decide (x.m=y.m)=e:=⟨_,rfl⟩;obtain⟨f,d5⟩:∃f,decide (x.n=y.n)=f:=⟨_,rfl⟩;obtain⟨g,d6⟩:∃g,decide (x.h=y.h)=g:=⟨_,rfl⟩;obtain⟨h,d7⟩:∃h,decide (x.b=y.b)=h:=⟨_,rfl⟩;obtain⟨b8,d8⟩:∃b8,decide (x.e=y.e)=b8:=⟨_,rfl⟩;obtain⟨i,d9⟩:∃i,decide (x.aP=y.aP)=i:=⟨_,rfl⟩;have s:decide (x=y)=(b&&c&&d&&e&&f&&g&&h&&b8&&i):=by
  rw[<-d1,<-d2,<-d3,<-d4,<-d5,<-d6,<-d7,<-d8,<-d9,bw];obtain⟨⟩:=x;obtain⟨⟩:=y;simp[and_assoc]
 rw[s];rw[d7] at p7;rw[d8] at p8;have q:decide (x.aP=y.aP)=i:=d9;simp only[q] at p9;rw[d1] at e1;rw[d2] at e2;rw[d3] at e3;rw[d4] at e4;rw[d5] at e5;obtain⟨R,m⟩:∃R,(b&&c&&d&&e&&f&&g&&h&&b8&&i)=R:=⟨_,rfl⟩;rw[m];have r:=Z m;have N:=Z p7;have P:=Z p8;have Q:=Z p9;have M:=Z d6;have a:=Z (ae.start w []);clear s m p7 p8 p9 d1 d2 d3 d4 d5 d6 d7 d8 d9 q j k;obtain⟨t,u,v,z,A,m,B,C,D⟩:=x;obtain⟨E,F,G,H,I,q,J,K,L⟩:=y;simp only at e1 e2 e3 e4 e5
 go_enter func173,ntmps173
 cases b
 rotate_left;focus
  cases c
  rotate_left;focus
   cases d
   rotate_left;focus
    cases e
    rotate_left;focus
     cases f
     rotate_left;focus
      cases g
      rotate_left;focus
       cases h
       rotate_left;focus cases b8
 all_goals
  have s:=r.U;simp only[sB] at s;subst s;clear r
  go_wp2_with(first|(first|(refine KL a 0 3 ?_)|(refine KL a 1 3 ?_)|(refine KL a 0 46 ?_)|(refine KL a 1 46 ?_)|(refine KR a 0 59 4 ?_)|(refine KR a 1 59 4 ?_)|(refine KR a 0 66 9 ?_)|(refine KR a 1 66 9 ?_)|(refine KL a 0 64 ?_)|(refine KL a 1 64 ?_)|(refine KL a 0 79 ?_)|(refine KL a 1 79 ?_))|(first|(refine KL a 0 3 ?_)|(refine KL a 1 3 ?_)|(refine KL a 0 46 ?_)|(refine KL a 1 46 ?_)|(refine KR a 0 59 4 ?_)|(refine KR a 1 59 4 ?_)|(refine KR a 0 66 9 ?_)|(refine KR a 1 66 9 ?_)|(refine KL a 0 64 ?_)|(refine KL a 1 64 ?_))|(first|(refine KL a 0 3 ?_)|(refine KL a 1 3 ?_)|(refine KL a 0 46 ?_)|(refine KL a 1 46 ?_)|(refine KR a 0 59 4 ?_)|(refine KR a 1 59 4 ?_)|(refine KR a 0 66 9 ?_)|(refine KR a 1 66 9 ?_))|(first|(refine KL a 0 3 ?_)|(refine KL a 1 3 ?_)|(refine KL a 0 46 ?_)|(refine KL a 1 46 ?_)|(refine KR a 0 59 4 ?_)|(refine KR a 1 59 4 ?_))|(first|(refine KL a 0 3 ?_)|(refine KL a 1 3 ?_)|(refine KL a 0 46 ?_)|(refine KL a 1 46 ?_))|(first|(refine KL a 0 3 ?_)|(refine KL a 1 3 ?_))|refine KB a 81 2 (MG.cells ⟨t,u,v,z,A,m,B,C,D⟩ pB n pM) λ T S a0 a=>?_|refine KB a 81 3 (MG.cells ⟨E,F,G,H,I,q,J,K,L⟩ l p o) λ X S a1 a=>?_|(with_reducible show wpList _ _ _ (⟨_,.binOp .eql 59 _ _ 59,_,_,_,_⟩::_) _ _);(refine rO m q rfl rfl rfl rfl ?_;rw[M.U])|go_at_call 239;refine KC a (N.U _ a.U.aq) λ r a=>?_|go_at_call 240;refine KC a (P.U _ a.U.aq) λ r a=>?_|go_at_call 241;refine KC a (Q.U _ a.U.aq) λ r a=>?_)
  go_ret
  exact⟨rfl,a.U.aq⟩
def gC:List ab:=[ad ⟨#[]⟩,ad ⟨#[107]⟩,ad ⟨#[107]⟩,ad ⟨#[108,104]⟩,ad ⟨#[108,98]⟩,ad ⟨#[108,105]⟩,ad ⟨#[108,105,109,110]⟩,ad ⟨#[108,105,104]⟩,ad ⟨#[108,105,109,110,112]⟩,ad ⟨#[108]⟩,ad ⟨#[108,110]⟩]
def gD(k:Nat):af:=if k=1 then⟨#[107]⟩ else if k=2 then⟨#[107]⟩ else if k=3 then⟨#[108,104]⟩ else if k=4 then⟨#[108,98]⟩ else if k=5 then⟨#[108,105]⟩ else if k=6 then⟨#[108,105,109,110]⟩ else if k=7 then⟨#[108,105,104]⟩ else if k=8 then⟨#[108,105,109,110,112]⟩ else if k=9 then⟨#[108]⟩ else if k=10 then⟨#[108,110]⟩ else⟨#[]⟩
def gh(s:af):List Nat:=s.data.toList.map UInt8.toNat
def qf(c:Nat):Prop:=c=108\/c=105\/c=109\/c=110\/c=104\/c=98\/c=112\/c=107
instance(c:Nat):Decidable (qf c):=by unfold qf;infer_instance
def yi(k:Nat)(a:k<11):gC[k]?=some (ad (gD k)):=by
 rcases k with _|_|_|_|_|_|_|_|_|_|_|k<;>first|rfl|omega
def yh(k:Nat):∀c∈gh (gD k),qf c:=by
 rcases k with _|_|_|_|_|_|_|_|_|_|_|k;all_goals first|decide|(rw[show gD (k+11)=⟨#[]⟩ by rfl];decide)
def vz(s:af):(gh s).length=s.size:=by
 unfold gh;simp
def yA(s:af)(h:g<s.size):∃c,(s[g]'h).toNat=c/\(gh s)[g]?=some c:=⟨_,rfl,by
 unfold gh;rw[ef,aU (by simp_all)];rfl⟩
def Ct{α β:Type}(f:β->α->β)(z:β){L:List α}{c:α}(h:L[g]?=some c):(L.take (g+1)).foldl f z=f ((L.take g).foldl f z) c:=by
 obtain⟨a,rfl⟩:=cw.1 h;rw[eC a,tZ];rfl
def MG.take(x z:MG)(c:Nat):MG:=
 if c=108 then{z with log:=x.log} else if c=105 then{z with id:=x.id} else if c=109 then{z with m:=x.m} else if c=110 then{z with n:=x.n}
 else if c=104 then{z with h:=x.h} else if c=98 then{z with b:=x.b} else if c=112 then{z with e:=x.e} else if c=107 then{z with aP:=x.aP} else z
def MG.bare(x:MG):MG:=(gh (gD x.c)).foldl x.take {fx with c:=x.c}
def aci(k:Nat)(w:aa):MG.Rd {fx with c:=k} w (ag none 0 0) (ag none 0 0) (ag none 0 0):=
 ⟨⟨none,0,rfl,bf _,λ i a=>absurd a (ij i)⟩,⟨none,0,rfl,bf _,λ i a=>absurd a (ij i)⟩,bN.nil 4 w⟩
def bq.form{w:aa}{v:ab}{L:List af}(h:bq w v L):∃A c,v=ag A L.length c:=by
 obtain⟨A,c,a,-⟩:=h;grind
def bN.jN{w:aa}{v:ab}{L:List MK}(h:bN 4 w v (L.map MK.cells)):∃A c,v=ag A L.length c:=by
 obtain⟨A,c,a,-⟩:=bN.form h;grind
def iterPos(w:aa)(g:Nat):Nat:=match w.heap[g]? with|some (.stringIter _ p)=>p|_=>0
def iterPos_of{w:aa}{s:af}(h:(Y.iter g s n).P w):iterPos w g=n:=by
 unfold iterPos;rw[show w.heap[g]?=some (.stringIter s n) from h]
abbrev FG:List ab:=[O 0,O 0,U 0,U 0,U 0,U 0,U 0,ad ⟨#[]⟩,ad ⟨#[]⟩,U 0,U 0,ad ⟨#[]⟩,ad ⟨#[]⟩,U 0,U 0,ad ⟨#[]⟩,ad ⟨#[]⟩,ag none 0 0,ag none 0 0,ag none 0 0]
def OH(x:MG)(pB J pM:ab)(w:aa)(q:x.Rd w pB J pM)(v:x.c<11)(T:(Y.dQ 0 gC).P w):
 Calls prog 174 #[x.val pB J pM] w λ e f=>∃a d b,e=ao (x.bare.val a d b)/\BW w f/\x.bare.Rd f a d b:=by
 have r:=Z q
 have A:=Z T
 obtain⟨C,F,rfl⟩:=q.b.form
 obtain⟨E,H,rfl⟩:=q.p.form
 obtain⟨D,G,rfl⟩:=q.m.jN
 obtain⟨y,u⟩:∃y,x.bare=y:=⟨_,rfl⟩
 rw[u]
 unfold MG.bare at u
 have f:=aci x.c w
 have a2:=yi x.c v
 have X:=yh x.c
 generalize a7:gD x.c=S at*
 generalize a3:({fx with c:=x.c}:MG)=z0 at*
 have a4:=Z u;have N:=Z f;have L:=Z a2;have K:=Z X;have B:=Z a3
 have a:=Z (ae.start w [])
 have b3:(x.c:Int)<11:=by omega
 have b4:decide ((x.c:Int)<11)=true:=by simp;omega
 go_enter func174,ntmps174
 go_wp2_with(first|refine Kl a ?_|refine KS a λ d a=>?_|refine KA a _ 2 kF λ Q d b0 a=>?_|refine KA a _ 3 kF λ R d b1 a=>?_|refine KB a 81 1 (x.cells _ _ _) λ P d a8 a=>?_|refine wW rfl 9 rfl rfl ((zB ((Y.dQ 0 gC).st _ _ (λ k v=>a.U.aq.block k ((Y.dQ 0 gC).lt _ A.U k v)) A.U) _).trans L.U) zR ?_|(with_reducible show yg);(refine Rg a.U rfl 13 rfl rfl S rfl λ t d a9 b=>?_;replace a:=Z b))
 go_loopw [] (λ wr=>∃(j:Nat) (z:MG) (l n m:Option Addr) (sB p o:Nat),j<=S.size/\ae w wr [] [Y.iter t S j,Y.row R 81 (z.cells (ag l z.b.e.length sB) (ag n z.e.length p) (ag m z.aP.length o)),Y.row Q 81 FG,Y.row P 81 (x.cells (ag C x.b.e.length F) (ag E x.e.length H) (ag D x.aP.length G))]/\((gh S).take j).foldl x.take z0=z/\z.Rd w (ag l z.b.e.length sB) (ag n z.e.length p) (ag m z.aP.length o)) (λ wr=>S.size-iterPos wr t)
 case atStart=>
  refine⟨0,z0,none,none,none,0,0,0,bf _,?_,rfl,?_⟩
  ·rw[<-B.U];exact a.U
  ·have:=N.U;rw[<-B.U] at this⊢;exact this
 case round=>
  obtain⟨j,z,l,n,m,sB,p,o,b2,g,f,I⟩:=hrel
  have a:=Z g;have s:=Z f;have e:=Z I
  have h:iterPos wr t=j:=iterPos_of (g.get (i:=0) rfl)
  have M:=Z h
  clear g f I h
  by_cases f:j<S.size
  focus
   obtain⟨c,a0,I⟩:=yA S f
   have a1:=K.U c (cX I)
   have h:=Z (Ct x.take z0 I)
   rw[s.U] at h
   have g:=Z a0
   obtain⟨k0,b7,b5,m0,b9,a6,a5,p0,b8⟩:=z
   rcases a1 with rfl|rfl|rfl|rfl|rfl|rfl|rfl|rfl
  rotate_left 8
  ·obtain rfl:j=S.size:=by omega
   rw[bK (by rw[vz];omega)] at s
   have I:=Z (show z=y by rw[<-s.U];omega)
   obtain rfl:=I.U
   go_wp2_with(first|refine KT a 20 ?_|refine KS a λ d a=>?_|(with_reducible show fl);(refine xh a.U 0 rfl rfl rfl rfl f ?_))
   refine ha a.U 2 rfl 81 20 rfl rfl zR rfl rfl ?_
   exact⟨_,_,_,rfl,a.U.aq,e.U.below a.U.aq⟩
  all_goals
   have I:=h.U
   simp only[MG.take,Nat.reduceEqDiff,↓reduceIte] at I
   have h:=Z I
   go_wp2_with(first|refine KT a 9 ?_|refine KT a 4 ?_|refine Kl a ?_|refine KS a λ d a=>?_|(with_reducible show fl);(refine Nx a.U 0 rfl rfl rfl rfl f 107 g.U zD λ d b=>?_;simp only[av,ax] at b;replace a:=Z b)|(with_reducible show fl);(refine Nx a.U 0 rfl rfl rfl rfl f 112 g.U zD λ d b=>?_;simp only[av,ax] at b;replace a:=Z b)|(with_reducible show fl);(refine Nx a.U 0 rfl rfl rfl rfl f 98 g.U zD λ d b=>?_;simp only[av,ax] at b;replace a:=Z b)|(with_reducible show fl);(refine Nx a.U 0 rfl rfl rfl rfl f 104 g.U zD λ d b=>?_;simp only[av,ax] at b;replace a:=Z b)|(with_reducible show fl);(refine Nx a.U 0 rfl rfl rfl rfl f 110 g.U zD λ d b=>?_;simp only[av,ax] at b;replace a:=Z b)|(with_reducible show fl);(refine Nx a.U 0 rfl rfl rfl rfl f 109 g.U zD λ d b=>?_;simp only[av,ax] at b;replace a:=Z b)|(with_reducible show fl);(refine Nx a.U 0 rfl rfl rfl rfl f 105 g.U zD λ d b=>?_;simp only[av,ax] at b;replace a:=Z b)|(with_reducible show fl);(refine Nx a.U 0 rfl rfl rfl rfl f 108 g.U zD λ d b=>?_;simp only[av,ax] at b;replace a:=Z b))
   go_roundw
   first
    |case rel=>exact⟨j+1,by omega,_,l,n,m,sB,p,o,a.U,h.U,⟨e.U.b,e.U.p,e.U.m⟩⟩
    |case rel=>exact⟨j+1,by omega,_,C,n,m,F,p,o,a.U,h.U,⟨r.U.b,e.U.p,e.U.m⟩⟩
    |case rel=>exact⟨j+1,by omega,_,l,E,m,sB,H,o,a.U,h.U,⟨e.U.b,r.U.p,e.U.m⟩⟩
    |case rel=>exact⟨j+1,by omega,_,l,n,D,sB,p,G,a.U,h.U,⟨e.U.b,e.U.p,r.U.m⟩⟩
   case measure=>(rw[M.U,iterPos_of (a.U.get (i:=0) rfl)];omega)
namespace ShaM
structure V8 where
 a:UInt32
 b:UInt32
 c:UInt32
 d:UInt32
 e:UInt32
 f:UInt32
 g:UInt32
 h:UInt32
def K:List UInt32:=[
 0x428a2f98,0x71374491,0xb5c0fbcf,0xe9b5dba5,0x3956c25b,0x59f111f1,0x923f82a4,0xab1c5ed5,
 0xd807aa98,0x12835b01,0x243185be,0x550c7dc3,0x72be5d74,0x80deb1fe,0x9bdc06a7,0xc19bf174,
 0xe49b69c1,0xefbe4786,0x0fc19dc6,0x240ca1cc,0x2de92c6f,0x4a7484aa,0x5cb0a9dc,0x76f988da,
 0x983e5152,0xa831c66d,0xb00327c8,0xbf597fc7,0xc6e00bf3,0xd5a79147,0x06ca6351,0x14292967,
 0x27b70a85,0x2e1b2138,0x4d2c6dfc,0x53380d13,0x650a7354,0x766a0abb,0x81c2c92e,0x92722c85,
 0xa2bfe8a1,0xa81a664b,0xc24b8b70,0xc76c51a3,0xd192e819,0xd6990624,0xf40e3585,0x106aa070,
 0x19a4c116,0x1e376c08,0x2748774c,0x34b0bcb5,0x391c0cb3,0x4ed8aa4a,0x5b9cca4f,0x682e6ff3,
 0x748f82ee,0x78a5636f,0x84c87814,0x8cc70208,0x90befffa,0xa4506ceb,0xbef9a3f7,0xc67178f2]
def eK:V8:=⟨0x6a09e667,0xbb67ae85,0x3c6ef372,0xa54ff53a,0x510e527f,0x9b05688c,0x1f83d9ab,0x5be0cd19⟩
def aL(n:Nat)(x:UInt32):UInt32:=UInt32.ofNat (x.toNat/2^n+x.toNat%2^n*2^(32-n))
def shr(n:Nat)(x:UInt32):UInt32:=UInt32.ofNat (x.toNat/2^n)
def word(a b c d:UInt8):UInt32:=UInt32.ofNat (a.toNat*16777216+b.toNat*65536+c.toNat*256+d.toNat)
def tE(x:UInt32):UInt32:=aL 7 x^^^aL 18 x^^^shr 3 x
def tF(x:UInt32):UInt32:=aL 17 x^^^aL 19 x^^^shr 10 x
def fS(b:List UInt8)(w:List UInt32):UInt32:=
 if w.length<16 then word (b.getD (4*w.length) 0) (b.getD (4*w.length+1) 0) (b.getD (4*w.length+2) 0) (b.getD (4*w.length+3) 0)
 else w.getD (w.length-16) 0+w.getD (w.length-7) 0+tE (w.getD (w.length-15) 0)+tF (w.getD (w.length-2) 0)
def wl(b:List UInt8):Nat->List UInt32
 |0=>[]
 |i+1=>wl b i++[fS b (wl b i)]
def bx(e:UInt32):UInt32:=aL 6 e^^^aL 11 e^^^aL 25 e
def BK(a:UInt32):UInt32:=aL 2 a^^^aL 13 a^^^aL 22 a
def ch(e f g:UInt32):UInt32:=(e&&&f)^^^(~~~e&&&g)
def C7(a b c:UInt32):UInt32:=(a&&&b)^^^(a&&&c)^^^(b&&&c)
def rx(v:V8)(k w:UInt32):UInt32:=v.h+bx v.e+ch v.e v.f v.g+k+w
def ry(v:V8):UInt32:=BK v.a+C7 v.a v.b v.c
def iJ(v:V8)(k w:UInt32):V8:=⟨rx v k w+ry v,v.a,v.b,v.c,v.d+rx v k w,v.e,v.f,v.g⟩
def rounds(w:List UInt32)(h:V8):Nat->V8
 |0=>h
 |i+1=>iJ (rounds w h i) (K.getD i 0) (w.getD i 0)
def gu(x y:V8):V8:=⟨x.a+y.a,x.b+y.b,x.c+y.c,x.d+y.d,x.e+y.e,x.f+y.f,x.g+y.g,x.h+y.h⟩
def compress(h:V8)(b:List UInt8):V8:=gu h (rounds (wl b 64) h 64)
def chain(l:List UInt8):Nat->V8
 |0=>eK
 |k+1=>compress (chain l k) ((l.drop (64*k)).take 64)
def cb(n:Nat):Nat:=(119-n%64)%64
def len8(n:Nat):List UInt8:=[UInt8.ofNat (n/72057594037927936),UInt8.ofNat (n/281474976710656),UInt8.ofNat (n/1099511627776),UInt8.ofNat (n/4294967296),UInt8.ofNat (n/16777216),UInt8.ofNat (n/65536),UInt8.ofNat (n/256),UInt8.ofNat n]
def dF(l:List UInt8):List UInt8:=l++[128]++List.replicate (cb l.length) 0++len8 (8*l.length)
def fH(x:UInt32):List UInt8:=[UInt8.ofNat (x.toNat/16777216),UInt8.ofNat (x.toNat/65536),UInt8.ofNat (x.toNat/256),UInt8.ofNat x.toNat]
def U(v:V8):List UInt8:=fH v.a++fH v.b++fH v.c++fH v.d++fH v.e++fH v.f++fH v.g++fH v.h
def sum(l:List UInt8):List UInt8:=U (chain (dF l) ((dF l).length/64))
def cU(b:List UInt8):∀i,(wl b i).length=i
 |0=>rfl
 |i+1=>by simp[wl,cU b i]
def sW(n:Nat):(len8 n).length=8:=rfl
def Mp(l:List UInt8):(sum l).length=32:=rfl
def tm(l:List UInt8):(dF l).length=l.length+1+cb l.length+8:=by simp[dF,sW];omega
def Kg(l:List UInt8):(dF l).length%64=0:=by rw[tm];unfold cb;omega
def B0(l m:List UInt8):∀k,64*k<=l.length->chain (l++m) k=chain l k
 |0,_=>rfl
 |k+1,h=>by
  simp only[chain]
  rw[B0 l m k W]
  congr 1
  rw[wX W,w7 (by simp;omega)]
structure aI(on:Bool)(st:V8)(left l:List UInt8):Prop where
 hlen:left.length=64
 j:on=decide (64<=l.length)
 i:(bif on then st else eK)=chain l (l.length/64)
 o:left.take (l.length%64)=l.drop (64*(l.length/64))
def mS:V8:=⟨0,0,0,0,0,0,0,0⟩
def aI.start:aI false mS (List.replicate 64 0) []:=⟨by simp,rfl,rfl,rfl⟩
def MB(left:List UInt8)(k:Nat)(c:UInt8)(h:k<left.length):(left.set k c).take (k+1)=left.take k++[c]:=by
 rw[List.take_set,eC h,kQ _ _ (by simp;omega)];simp[hz (kR h)]
section
variable{on:Bool}{st:V8}{left l:List UInt8}
def aI.put(h:aI on st left l)(c:UInt8)(b:¬(l.length+1)%64=0):aI on st (left.set (l.length%64) c) (l++[c]):=by
 have hd:(l.length+1)/64=l.length/64:=by omega
 have a:(l.length+1)%64=l.length%64+1:=by omega
 refine⟨by simp[h.hlen],?_,?_,?_⟩
 ·rw[h.j];simp only[bV,rS,decide_eq_decide];omega
 ·rw[h.i];simp only[bV,rS,hd];exact(B0 l [c] _ W).symm
 ·simp only[bV,rS,hd,a];rw[MB _ _ _ (by rw[h.hlen];omega),h.o,wX W]
def aI.QO(h:aI on st left l)(c:UInt8)(d:(l.length+1)%64=0):aI true (compress (bif on then st else eK) (left.set (l.length%64) c)) (left.set (l.length%64) c) (l++[c]):=by
 have hd:(l.length+1)/64=l.length/64+1:=by omega
 have b:l.length%64+1=64:=by omega
 have a:left.set (l.length%64) c=l.drop (64*(l.length/64))++[c]:=by
  have:=MB left (l.length%64) c (by rw[h.hlen];omega);rw[h.o,b,bK (by simp[h.hlen])] at this;exact this
 refine⟨by simp[h.hlen],?_,?_,?_⟩
 ·symm;simp only[bV,rS,ej];omega
 ·simp only[cond_true,bV,rS,hd,chain];rw[h.i,B0 l [c] _ W];congr 1;rw[a,wX W,bK (by simp;omega)]
 ·simp only[bV,rS,d,hd];rw[kc (by simp;omega)];rfl
def aI.sum(t:List UInt8)(h:aI on st left (dF t)):U st=ShaM.sum t:=by
 have a:=h.j;have b:=Kg t;have c:=tm t;have:on=true:=by rw[a];simp only[ej];omega
 subst this;have:=h.i;simp only[cond_true] at this;rw[this];rfl
end
end ShaM
def og(x y:UInt32):IntKind.u32.wrap ((x.toNat:Int)+(y.toNat:Int))=((x+y).toNat:Int):=by
 rfl
def E7(x y:UInt32):bits .xor .u32 (x.toNat:Int) (y.toNat:Int)=((x^^^y).toNat:Int):=by
 rw[wB _ _ x.toNat_lt y.toNat_lt,UInt32.toNat_xor]
def E5(x y:UInt32):bits .and .u32 (x.toNat:Int) (y.toNat:Int)=((x&&&y).toNat:Int):=by
 rw[u32_and_nat _ _ x.toNat_lt y.toNat_lt,UInt32.toNat_and]
def wD(x:UInt32):(4294967295:Int)-(x.toNat:Int)=((~~~x).toNat:Int):=by
 have:=x.toNat_lt;rw[UInt32.toNat_not];grind
def Cs(n:Nat)(h:n<4294967296):4294967295^^^n=4294967295-n:=by
 have a:(~~~(UInt32.ofNat n)).toNat=4294967295-n:=by
  rw[UInt32.toNat_not,si];simp only[UInt32.size];omega
 have b:(UInt32.ofNat 4294967295^^^UInt32.ofNat n).toNat=4294967295^^^n:=by
  rw[UInt32.toNat_xor,si,si,bY h]
 have c:UInt32.ofNat 4294967295^^^UInt32.ofNat n= ~~~(UInt32.ofNat n):=by
  show(-1:UInt32)^^^_=_;simp
 grind
def E6(x:UInt32):bits .xor .u32 IntKind.u32.max (x.toNat:Int)=((~~~x).toNat:Int):=by
 have h:=wB 4294967295 x.toNat W x.toNat_lt;rw[Cs _ x.toNat_lt] at h;rw[<-wD];have:=x.toNat_lt;rw[show(4294967295:Int)-(x.toNat:Int)=((4294967295-x.toNat:Nat):Int) by omega,<-h];rfl
def cp(x y:UInt32):UInt32:=x^^^y
def dY(x y:UInt32):UInt32:=x&&&y
def jW(x:UInt32):UInt32:= ~~~x
def iU(x y:UInt32):bits .xor .u32 (x.toNat:Int) (y.toNat:Int)=((cp x y).toNat:Int):=E7 x y
def oX(x y:UInt32):bits .and .u32 (x.toNat:Int) (y.toNat:Int)=((dY x y).toNat:Int):=E5 x y
def BR(x:UInt32):bits .xor .u32 IntKind.u32.max (x.toNat:Int)=((jW x).toNat:Int):=E6 x
def xI(a b:UInt32):((a.toNat:Int)+(b.toNat:Int))%4294967296=((a+b).toNat:Int):=by
 rfl
def G3(a b c d:UInt32):((a.toNat:Int)+(b.toNat:Int)+(c.toNat:Int)+(d.toNat:Int))%4294967296=((a+b+c+d).toNat:Int):=by
 simp
variable{m:List Nat}{b:List UInt8}{i:Nat}{t:TypeId}
section
section
variable{P:Program}{w:aa}
def Mh{ops:Array Oper}{K:Act->aa->Prop}{Q:Exit->Act->aa->Prop}{E:Prop}(A:o.guard=none)(s x:Operand)(t:TypeId)
 (F:o.op= .call {callee:= .builtin .append,args:=#[s,x],argTypes:=#[t,t]})
 (f:Nat) (e:TypeId) (i:TypeInfo) (z:ab) (bytes:Nat) (J:P.underlying t=some (.slice e)) (B:P.info? e=some i) (M:i.zero=some z)
 (I:i.size=1) (r:i.bytes=bytes) (N:z.cells.size=1)
 (v:ab) (n:Nat) (j:List ab) (H:a.eval s=v) (G:w.ownsRow f e 1 v n j)
 (g m:Nat) (hx:a.eval x=ag (some ⟨g,0,none⟩) m m) (c:Array ab) (R:TypeId) (k:Nat×Nat) (L:w.heap[g]?=some (.cells c R k)) (C:c.size=m) (D:0<m) (h1:∀u∈c.toList,u.oneCell'=true)
 (h63:n+m<=maxLen) (y:(n+m)*bytes<=140737488355328) (q:f<=w.heap.size)
 (h:∀b d,d.ownsRow f e 1 b (n+m) (j++c.toList)->w.grownBy d v.ownBlock->(b.ownBlock=v.ownBlock\/b.ownBlock=some w.heap.size)->K (a.put o.dst b) d):
 if Region.wanted o (yielded ops a.tmps)=true then Oper.wp P o a w K Q else E:=by
 refine Mj w A s x t F f e i z 1 bytes J B M I r N zD v n j H G ⟨g,0,none⟩ m m c.toList hx (by simp[C]) (Gs L) h1 D h63 y q _ rfl ?_
 intro S u d l p b T
 refine h _ d l p ?_
 rcases b with b|b
 ·exact .inl b.symm
 ·subst b;exact .inr rfl
def ab4{ops:Array Oper}{rest:List Oper}{Q:Exit->Act->aa->Prop}(A:o.guard=none)(s x:Operand)(t:TypeId)
 (E:o.op= .call {callee:= .builtin .append,args:=#[s,x],argTypes:=#[t,t]})
 (f:Nat) (e:TypeId) (i:TypeInfo) (z:ab) (bytes:Nat) (I:P.underlying t=some (.slice e)) (B:P.info? e=some i) (K:i.zero=some z)
 (H:i.size=1) (r:i.bytes=bytes) (L:z.cells.size=1)
 (v:ab) (n:Nat) (j:List ab) (G:a.eval s=v) (F:w.ownsRow f e 1 v n j)
 (g m:Nat) (hx:a.eval x=ag (some ⟨g,0,none⟩) m m) (c:Array ab) (M:TypeId) (k:Nat×Nat) (J:w.heap[g]?=some (.cells c M k)) (C:c.size=m) (D:0<m) (h1:∀u∈c.toList,u.oneCell'=true)
 (h63:n+m<=maxLen) (y:(n+m)*bytes<=140737488355328) (q:f<=w.heap.size)
 (h:∀b d,d.ownsRow f e 1 b (n+m) (j++c.toList)->w.grownBy d v.ownBlock->(b.ownBlock=v.ownBlock\/b.ownBlock=some w.heap.size)->wpList P ops Q rest (a.put o.dst b) d):wpList P ops Q (o::rest) a w:=by
 refine wpList_append_lies w A s x t E f e i z 1 bytes I B K H r L zD v n j G F ⟨g,0,none⟩ m m c.toList hx (by simp[C]) (Gs J) h1 D h63 y q _ rfl ?_
 intro N u d l p b R
 refine h _ d l p ?_
 rcases b with b|b
 ·exact .inl b.symm
 ·subst b;exact .inr rfl
end
def World.jI{w a:aa}(h:a.heap[g]?=w.heap[g]?):a.cell? ⟨g,i,none⟩=w.cell? ⟨g,i,none⟩:=by simp[World.cell?,h]
def aW.OK{B:Nat}{w a:aa}(h:aW B m w a)(b:g<=B)(d:∀k∈m,g<=k):Below g w a:=⟨h.os,h.tape,h.output,h.size,λ k c=>h.block k W (λ e=>by grind)⟩
def Dy{w:aa}{size:Nat}{v:ab}{a:List ab}(h:w.ownsRow g t size v n a)(o:Obj):(w.alloc o).ownsRow g t size v n a:=DB h ((bp _ _).alloc (aQ _) o)
structure gI(w wr:aa)(v:ab)(l:List UInt8):Prop where
 own:wr.ownsRow w.heap.size 5 1 v l.length (bB l)
 aJ:BW w wr
def gI.nil{w wr:aa}(h:BW w wr):gI w wr (ag none 0 0) []:=⟨di _ _ _ _,h⟩
def gI.new{w wr:aa}(h:BW w wr):gI w (wr.alloc (.cells #[] 5)) (ag (some ⟨wr.heap.size,0,none⟩) 0 0) []:=⟨sj wr #[] 0 h.size zD rfl,h.alloc h.size _⟩
def gI.append{w wr X c:aa}{v f:ab}{m:List UInt8}(h:gI w wr v b)(d:BW wr X){e:List ab}(a:b.length=k)(j:m.length=g)(n:c.ownsRow w.heap.size 5 1 f (k+g) (bB b++e))(i:X.grownBy c v.ownBlock)(l:e=bB m):gI w c f (b++m):=by
 subst l a j;refine⟨?_,?_⟩
 ·rw[bV,qG];exact n
 ·exact(h.aJ.trans (d.mono h.aJ.size)).grown i (hy h.aJ.size d.size) (λ k a=>(h.own.lt k a).1)
end
