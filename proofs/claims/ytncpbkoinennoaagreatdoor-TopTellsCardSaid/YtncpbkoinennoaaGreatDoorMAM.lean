import Derived.Test.YtncpbkoinennoaaGreatDoorMAL
set_option linter.all false
set_option maxRecDepth 100000
set_option maxHeartbeats 0
namespace Go.Proofs.YtncpbkoinennoaaGreatDoor
open Go.RowKit Proofs.Tryz
attribute [local irreducible] wpList Calls
variable{g:Nat}
structure MK where
 log:Nat
 size:Nat
 aE:ag
 aM:Bool
 deriving DecidableEq
abbrev MK.cells(k:MK):List ab:=[O (k.log:Int),U (k.size:Int),ae k.aE,aF k.aM]
def cy(L:List MK):List ab:=(L.map MK.cells).flatten
def xq(L M:List MK):cy (L++M)=cy L++cy M:=by simp[cy]
def tO:dh 79 240 4 40:=dh.mk' underlying79 (z:= .agg #[O 0,U 0,.string ⟨#[]⟩,.bool false]) V rfl zD
def RD.qE(r:RD):RD:=if 1<(r.bF 1).dG then((r.bF 1).bF 1).fail 3 else(r.bF 1).bF 1
def RD.iS(r:RD):MK:=⟨r.dG,r.qE.cB,if 0<r.qE.cB then r.qE.cg.cK 32 else⟨#[]⟩,decide ((r.bF 1).dG=1)⟩
def RD.mw(r:RD):RD:=if 0<r.qE.cB then r.qE.cg.bF 32 else r.qE.cg
def RD.kl:Nat->RD->List MK
 |0,_=>[]
 |k+1,r=>r.iS::r.mw.kl k
def RD.nH:Nat->RD->RD
 |0,r=>r
 |k+1,r=>r.mw.nH k
def RD.kk(x:RD):List MK:=if 8<x.dG then [] else(x.bF 1).kl x.dG
def RD.sv(x:RD):RD:=if 8<x.dG then(x.bF 1).fail 4 else(x.bF 1).nH x.dG
def LX{w:aa}{x:RD}(h:(Y.rd g x).P w):Calls prog 227 #[pV g] w λ r k=>∃b,r=ao b/\bj (Y.rd g x) w k (Y.star (Y.rd g x.sv) (Y.ow 240 4 b x.kk.length (cy x.kk))):=by
 have a:=Z (af.self h);obtain⟨N,F⟩:∃N,x.dG=N:=⟨_,rfl⟩;obtain⟨p,I⟩:∃p,x.bF 1=p:=⟨_,rfl⟩;have b1:=λ n (h:(Y.rd g x).P n)=>ts h;rw[F,I] at b1;have a7:=Z b1;by_cases z:8<N
 ·have P:ai (x.kk=[]):=Z (by unfold RD.kk;rw[F,ax z]);have Q:ai (x.sv=p.fail 4):=Z (by unfold RD.sv;rw[F,I,ax z]);have hd:decide ((8:Int)<(N:Int))=true:=by simp;omega
  go_enter func227,ntmps227
  go_wp2_with(first|go_at_call 162;refine KP a (a7.U _ (a.U.in mZ)) λ k a=>?_|go_at_call 151;refine KP a (vG (a.U.in mZ) 4 4 rfl) λ k a=>?_)
  have e:=a.U.dj (Y.ow 240 4 (ad none 0 0) 0 (cy [])) (ct _ _ _ _) rfl;refine vi rfl rfl rfl ⟨_,rfl,?_⟩;rw[P.U,Q.U];exact(e.ar 1 rfl).kt
 ·have P:ai (x.kk=p.kl N):=Z (by unfold RD.kk;rw[F,I,aj z]);have Q:ai (x.sv=p.nH N):=Z (by unfold RD.sv;rw[F,I,aj z]);have hd:decide ((8:Int)<(N:Int))=false:=by simp;omega
  have b9:N<=8:=by omega
  go_enter func227,ntmps227
  go_wp2_with((go_at_call 162;refine KP a (a7.U _ (a.U.in mZ)) λ k a=>?_))
  replace a:=Z (a.U.dj (Y.ow 240 4 (ad none 0 0) 0 (cy [])) (ct _ _ _ _) rfl)
  go_loopw [4,14] (λ b c wr=>∃(j:Nat) (L:List MK) (r:RD) (pA:Option Addr) (a3:Nat),b=ad pA L.length a3/\j<=N/\c=O (j:Int)/\af w wr (Y.rd g x).bs [Y.ow 240 4 (ad pA L.length a3) L.length (cy L),Y.rd g r]/\L.length=j/\p.kl N=L++r.kl (N-j)/\p.nH N=r.nH (N-j)) (λ _ c _=>N-(intOf c).toNat)
  case atStart=>exact⟨0,[],p,none,0,rfl,by omega,rfl,a.U,rfl,by simp,by simp⟩
  case round=>
   obtain⟨j,L,r,pA,a3,rfl,c1,rfl,c,b,G,hx⟩:=hrel;have a:=Z c;clear c;by_cases c3:j<N
   ·have b7:decide (j<N)=true:=by simp;omega
    rw[show N-j=(N-(j+1))+1 by omega] at G hx;have C:=Z (show p.kl N=(L++[r.iS])++r.mw.kl (N-(j+1)) by rw[G,RD.kl,di];rfl);have D:=Z (show p.nH N=r.mw.nH (N-(j+1)) by rw[hx,RD.nH]);have s:=Z (show(L++[r.iS]).length=j+1 by rw[bA,b];rfl);have c2:L.length<=8:=by omega
    clear G hx b;obtain⟨H,a0⟩:∃H,r.bF 1=H:=⟨_,rfl⟩;obtain⟨E,b3⟩:∃E,H.bF 1=E:=⟨_,rfl⟩;obtain⟨q,a1⟩:∃q,r.qE=q:=⟨_,rfl⟩;obtain⟨c,a2⟩:∃c,q.cg=c:=⟨_,rfl⟩;obtain⟨l,b2⟩:∃l,r.dG=l:=⟨_,rfl⟩;obtain⟨o,T⟩:∃o,H.dG=o:=⟨_,rfl⟩;obtain⟨b,J⟩:∃b,q.cB=b:=⟨_,rfl⟩;have c4:b<18446744073709551616:=by rw[<-J];exact jC q
    have a6:ai (q=if 1<o then E.fail 3 else E):=Z (by rw[<-a1,<-T,<-b3,<-a0];rfl);have a8:=λ n (h:(Y.rd g r).P n)=>ts h;rw[b2,a0] at a8;have a9:=λ n (h:(Y.rd g H).P n)=>ts h;rw[T,b3] at a9;have b0:=λ n (h:(Y.rd g q).P n)=>qd h;rw[J,a2] at b0;have t:ai (r.iS=⟨l,b,if 0<b then c.cK 32 else⟨#[]⟩,decide (o=1)⟩):=Z (by unfold RD.iS;rw[a1,J,a2,b2,a0,T]);have u:ai (r.mw=if 0<b then c.bF 32 else c):=Z (by unfold RD.mw;rw[a1,J,a2]);have a4:=Z a8;have a5:=Z a9;have C3:=Z b0;have c0:((o:Int)==1)=decide (o=1):=by rw[bI];simp;omega
    generalize decide (o=1)=bb at*;by_cases z:1<o
    ·have d1:decide ((1:Int)<(o:Int))=true:=by simp;omega
     have M:=Z (show q=E.fail 3 by rw[a6.U,ax z]);by_cases i:0<b;focus
      have d2:decide (0<b)=true:=by simp;omega
      have d:=Z (show r.iS=⟨l,b,c.cK 32,bb⟩ by rw[t.U,ax i]);have f:=Z (show r.mw=c.bF 32 by rw[u.U,ax i]);obtain⟨S,y⟩:∃S,c.cK 32=S:=⟨_,rfl⟩;obtain⟨B,A⟩:∃B,c.bF 32=B:=⟨_,rfl⟩;have v:=λ n (h:(Y.rd g c).P n)=>tt h 32;rw[y,A] at v;rw[y] at d;rw[A] at f;rw[d.U] at s;have K:=Z v;clear v y A i t u
     rotate_left;focus
      have d2:decide (0<b)=false:=by simp;omega
      have d:=Z (show r.iS=⟨l,b,⟨#[]⟩,bb⟩ by rw[t.U,aj i]);have f:=Z (show r.mw=c by rw[u.U,aj i]);rw[d.U] at s;clear i t u
     all_goals
      go_upto_region 12 with(first|refine KS a λ m a=>?_|refine KA a _ 5 jc λ b5 m b8 a=>?_|go_at_call 162;refine KP a (a4.U _ (a.U.in (by exact mQ mZ))) λ k a=>?_|go_at_call 162;refine KP a (a5.U _ (a.U.in (by exact mQ (mQ mZ)))) λ k a=>?_|go_at_call 151;refine KP a (vG (a.U.in (by exact mQ (mQ mZ))) 3 3 rfl) λ k a=>?_)
      rw[<-M.U] at a
      go_wp2_with(first|refine Kl a ?_|refine KT a 4 ?_|refine KS a λ m a=>?_|(with_reducible show cH);(refine Mk a.U rfl 39 rfl (some 1) 240 [O (l:Int),U (b:Int),ae ⟨#[]⟩,aF bb] (by go_simp;(rfl)) ?_;intro R m X e;replace a:=Z e;simp only[bk])|(with_reducible show cH);(refine Mk a.U rfl 39 rfl (some 1) 240 [O (l:Int),U (b:Int),ae S,aF bb] (by go_simp;(rfl)) ?_;intro R m X e;replace a:=Z e;simp only[bk])|refine Ap a.U rfl tO rfl 2 rfl rfl 0 rfl rfl rfl rfl (by unfold maxLen;omega) W ?_;intro b6 b4 m e;simp only[au,ay] at e;replace a:=Z e|go_at_call 47;refine KP a (C3.U _ (a.U.in (by exact mQ (mQ mZ)))) λ k a=>?_|go_at_call 13;refine KP a (K.U _ (a.U.in (by exact mQ (mQ mZ)))) λ k a=>?_)
      go_roundw
      first
       |case rel=>exact⟨j+1,L++[r.iS],B,_,_,by rw[bA];rfl,by omega,by go_num,by rw[xq,bA,d.U];exact a.U.tail.tail,by rw[d.U];exact s.U,C.U.trans (by rw[f.U]),D.U.trans (by rw[f.U])⟩
       |case rel=>exact⟨j+1,L++[r.iS],c,_,_,by rw[bA];rfl,by omega,by go_num,by rw[xq,bA,d.U];exact a.U.tail.tail,by rw[d.U];exact s.U,C.U.trans (by rw[f.U]),D.U.trans (by rw[f.U])⟩
      case measure=>simp[intOf];omega
    ·have d1:decide ((1:Int)<(o:Int))=false:=by simp;omega
     have M:=Z (show q=E by rw[a6.U,aj z]);by_cases i:0<b;focus
      have d2:decide (0<b)=true:=by simp;omega
      have d:=Z (show r.iS=⟨l,b,c.cK 32,bb⟩ by rw[t.U,ax i]);have f:=Z (show r.mw=c.bF 32 by rw[u.U,ax i]);obtain⟨S,y⟩:∃S,c.cK 32=S:=⟨_,rfl⟩;obtain⟨B,A⟩:∃B,c.bF 32=B:=⟨_,rfl⟩;have v:=λ n (h:(Y.rd g c).P n)=>tt h 32;rw[y,A] at v;rw[y] at d;rw[A] at f;rw[d.U] at s;have K:=Z v;clear v y A i t u
     rotate_left;focus
      have d2:decide (0<b)=false:=by simp;omega
      have d:=Z (show r.iS=⟨l,b,⟨#[]⟩,bb⟩ by rw[t.U,aj i]);have f:=Z (show r.mw=c by rw[u.U,aj i]);rw[d.U] at s;clear i t u
     all_goals
      go_upto_region 12 with(first|refine KS a λ m a=>?_|refine KA a _ 5 jc λ b5 m b8 a=>?_|go_at_call 162;refine KP a (a4.U _ (a.U.in (by exact mQ mZ))) λ k a=>?_|go_at_call 162;refine KP a (a5.U _ (a.U.in (by exact mQ (mQ mZ)))) λ k a=>?_)
      rw[<-M.U] at a
      go_wp2_with(first|refine Kl a ?_|refine KT a 4 ?_|refine KS a λ m a=>?_|(with_reducible show cH);(refine Mk a.U rfl 39 rfl (some 1) 240 [O (l:Int),U (b:Int),ae ⟨#[]⟩,aF bb] (by go_simp;(rfl)) ?_;intro R m X e;replace a:=Z e;simp only[bk])|(with_reducible show cH);(refine Mk a.U rfl 39 rfl (some 1) 240 [O (l:Int),U (b:Int),ae S,aF bb] (by go_simp;(rfl)) ?_;intro R m X e;replace a:=Z e;simp only[bk])|refine Ap a.U rfl tO rfl 2 rfl rfl 0 rfl rfl rfl rfl (by unfold maxLen;omega) W ?_;intro b6 b4 m e;simp only[au,ay] at e;replace a:=Z e|go_at_call 47;refine KP a (C3.U _ (a.U.in (by exact mQ (mQ mZ)))) λ k a=>?_|go_at_call 13;refine KP a (K.U _ (a.U.in (by exact mQ (mQ mZ)))) λ k a=>?_)
      go_roundw
      first
       |case rel=>exact⟨j+1,L++[r.iS],B,_,_,by rw[bA];rfl,by omega,by go_num,by rw[xq,bA,d.U];exact a.U.tail.tail,by rw[d.U];exact s.U,C.U.trans (by rw[f.U]),D.U.trans (by rw[f.U])⟩
       |case rel=>exact⟨j+1,L++[r.iS],c,_,_,by rw[bA];rfl,by omega,by go_num,by rw[xq,bA,d.U];exact a.U.tail.tail,by rw[d.U];exact s.U,C.U.trans (by rw[f.U]),D.U.trans (by rw[f.U])⟩
      case measure=>simp[intOf];omega
   ·have b7:decide (j<N)=false:=by simp;omega
    have e0:N-j=0:=by omega
    rw[e0,RD.kl,pN] at G;rw[e0,RD.nH] at hx;have C:=Z G;have D:=Z hx
    go_wp2
    refine vi rfl rfl rfl ⟨_,rfl,?_⟩;rw[P.U,Q.U,C.U,D.U];exact(a.U.ar 1 rfl).kt
variable{n:Nat}{A:Option Addr}
def qk(b:Bool):Int:=if b=true then 1 else 0
def WS.mark(x:WS)(k:MK):WS:=if 0<k.size then(((x.byte (k.log:Int)).byte (qk k.aM)).num k.size).raw k.aE 32 else((x.byte (k.log:Int)).byte (qk k.aM)).num k.size
def WS.aL(x:WS)(L:List MK):WS:=L.foldl WS.mark x
def U4{x:WS}{L:List MK}(h:g<L.length):(x.aL (L.take g)).mark L[g]=x.aL (L.take (g+1)):=by
 unfold WS.aL;rw[dC h,ti];rfl
def bD.at{size:Nat}{w:aa}{a:List (List ab)}(h:bD size w (ad A n g) a){j:Nat}(e:j<a.length):∃b o,A=some ⟨b,o,none⟩/\w.rangeAt b (o+j*size) a[j]:=by
 obtain⟨-,k,l,d,m,c⟩:=h;injection d with e1 e2 e3;subst e1;obtain⟨b,o,f,p,i⟩:=c j e;exact⟨b,o,f,i⟩
def bD.form{size:Nat}{w:aa}{v:ab}{b:List (List ab)}(h:bD size w v b):∃A a,v=ad A b.length a/\b.length<=maxLen:=by
 obtain⟨-,A,a,c,d,-⟩:=h;exact⟨A,a,c,d⟩
structure MK.Ok(k:MK):Prop where
 size:k.size<18446744073709551616
 aE:k.aE.size<=1000
def L5{w:aa}{v:ab}{x:WS}{K:Nat}(a1:(Y.wr g v x).P w)(c:x.b.length<=K)(L:List MK)(a4:L.length<=8)(T:∀k∈L,k.Ok)(a3:K<=5000000)(t:ab)(E:(Y.er 4 t (L.map MK.cells)).P w)(R:∀k∈(Y.er 4 t (L.map MK.cells)).bs,k∉(Y.wr g v x).bs):
 Calls prog 94 #[pV g,t] w λ r l=>r=ao (aJ #[])/\∃h,bj (Y.wr g v x) w l (Y.wr g h ((x.byte L.length).aL L))/\((x.byte L.length).aL L).b.length<=K+10000:=by
 have J:=Z T
 have C:=Z E;have B:=Z R
 obtain⟨A,M,rfl,-⟩:=bD.form E
 rw[cR] at C B⊢
 have a:=Z (af.self a1)
 have b:=Z c
 have b0:L.length<=9223372036854775807:=by omega
 go_enter func94,ntmps94
 go_wp2_with((go_at_call 89;(refine(tA (a.U.in mZ) b.U _ W).mono ?_);rintro e l ⟨rfl,h,d,c⟩;have f:=a.U.rep (by exact .head _) d;have a:=Z f;have b:=Z c))
 obtain⟨y,F⟩:∃y,x.byte L.length=y:=⟨_,rfl⟩
 have I:=Z F
 rw[F] at a b
 generalize a6:K+1=H at*
 go_loopw [13] (λ i wr=>∃(j:Nat) (h:ab),j<=L.length/\i=O (j:Int)/\af w wr (Y.wr g v x).bs [Y.wr g h (y.aL (L.take j))]/\(y.aL (L.take j)).b.length<=H+1012*j) (λ i _=>L.length-(intOf i).toNat)
 case atStart=>exact⟨0,_,by omega,rfl,a.U,b.U⟩
 case round=>
  obtain⟨j,h,a8,rfl,a0,c⟩:=hrel
  have a:=Z a0;have b:=Z c
  by_cases s:j<L.length
  ·have Q:bD 4 wr (ad A L.length M) (L.map MK.cells):=a.U.ro C.U B.U
   have n:=Z (U4 (x:=y) s)
   have a2:=J.U _ (cY s)
   obtain⟨bb,o,P,hx⟩:=Q.at (j:=j) (by rw[cR];exact s)
   subst P
   rw[lJ] at hx
   generalize a9:L[j]=k at*
   obtain⟨r,i,u,m⟩:=k
   obtain⟨z1,z2⟩:=a2
   simp only at z1 z2
   have D:=Z hx
   obtain⟨q,X⟩:∃q,y.aL (L.take j)=q:=⟨_,rfl⟩
   rw[X] at a b n
   have a7:decide (j<L.length)=true:=by simp;omega
   generalize a5:H+1012*j=b1 at*
   by_cases G:0<i
   ·have d2:decide (0<i)=true:=by simp;omega
    have p:=Z (show q.mark ⟨r,i,u,m⟩=(((q.byte (r:Int)).byte (qk m)).num i).raw u 32 by unfold WS.mark;rw[ax G])
    cases m
    all_goals
     go_wp2_with(first|refine Kl a ?_|refine KS a λ z a=>?_|refine KA a _ 5 jc λ N z S a=>?_|refine dX rfl 240 4 rfl rfl D.U rfl V ?_|go_at_call 89;(refine(tA (a.U.in (by exact mQ mZ)) b.U _ W).mono ?_);rintro e l ⟨rfl,h,d,c⟩;have f:=a.U.rep (by exact .tail _ (.head _)) d;have a:=Z f;have b:=Z c|go_at_call 90;(refine(oF (a.U.in (by exact mQ mZ)) b.U _ W W).mono ?_);rintro e l ⟨rfl,h,d,c⟩;have f:=a.U.rep (by exact .tail _ (.head _)) d;have a:=Z f;have b:=Z c|go_at_call 9;(refine(vR (a.U.in (by exact mQ mZ)) b.U _ _ W).mono ?_);rintro e l ⟨rfl,h,d,c⟩;have f:=a.U.rep (by exact .tail _ (.head _)) d;have a:=Z f;have b:=Z c)
     go_roundw
     case rel=>exact⟨j+1,_,by omega,by go_num,by rw[<-n.U,p.U];exact a.U.tail,by rw[<-n.U,p.U];exact iM b.U W⟩
     case measure=>simp[intOf];omega
   ·have d2:decide (0<i)=false:=by simp;omega
    have p:=Z (show q.mark ⟨r,i,u,m⟩=((q.byte (r:Int)).byte (qk m)).num i by unfold WS.mark;rw[aj G])
    cases m
    all_goals
     go_wp2_with(first|refine Kl a ?_|refine KS a λ z a=>?_|refine KA a _ 5 jc λ N z S a=>?_|refine dX rfl 240 4 rfl rfl D.U rfl V ?_|go_at_call 89;(refine(tA (a.U.in (by exact mQ mZ)) b.U _ W).mono ?_);rintro e l ⟨rfl,h,d,c⟩;have f:=a.U.rep (by exact .tail _ (.head _)) d;have a:=Z f;have b:=Z c|go_at_call 90;(refine(oF (a.U.in (by exact mQ mZ)) b.U _ W W).mono ?_);rintro e l ⟨rfl,h,d,c⟩;have f:=a.U.rep (by exact .tail _ (.head _)) d;have a:=Z f;have b:=Z c)
     go_roundw
     case rel=>exact⟨j+1,_,by omega,by go_num,by rw[<-n.U,p.U];exact a.U.tail,by rw[<-n.U,p.U];exact iM b.U W⟩
     case measure=>simp[intOf];omega
  ·obtain rfl:j=L.length:=by omega
   rw[lO] at a b
   go_wp2
   go_end0
   rw[I.U]
   exact⟨rfl,_,a.U.gQ,iM b.U W⟩
variable{r:Int}
def MK.cd(q:Int)(k:MK):Bool:=!(decide ((k.log:Int)<=q)||(decide (8<=k.log)||(decide (1099511627776<k.size)||(!(decide (k.aE.size=32)||(decide (k.size=0)&&decide (k.aE=⟨#[]⟩)))||(decide (k.size=0)&& !decide (k.aE=⟨#[]⟩))))))
def nG(q:Int):List MK->Bool
 |[]=>true
 |k::L=>k.cd q&&nG (k.log:Int) L
def uh(L:List MK):Bool:=nG (-1) L&&decide (L.length<=8)
def UZ{L:List MK}(h:g<L.length):nG r (L.drop g)=(L[g].cd r&&nG (L[g].log:Int) (L.drop (g+1))):=by
 rw[gE h,nG]
def gn(s:ag):s.toList.isEmpty=decide (s=⟨#[]⟩):=by
 rw[bI,List.isEmpty_iff,ju];constructor
 ·intro h;rw[ky] at h;exact v7 h
 ·rintro rfl;rw[ky]
def U0{w:aa}(L:List MK)(J:L.length<=1000000)(y:ab)(x:(Y.er 4 y (L.map MK.cells)).P w):
 CB 243 #[y] w (aF (uh L)):=by
 have p:=Z x
 obtain⟨A,B,rfl,-⟩:=bD.form x
 rw[cR] at p⊢
 obtain⟨R,l⟩:∃R,uh L=R:=⟨_,rfl⟩
 rw[l]
 unfold uh at l
 have F:decide ((L.length:Int)<=8)=decide (L.length<=8):=by rw[bI];simp;omega
 generalize decide (L.length<=8)=T at l F
 have Q:L.length<=9223372036854775807:=by omega
 have a:=Z (af.start w [])
 have c:=Z l
 go_enter func243,ntmps243
 go_wp2
 go_loopw [3,9] (λ d b wr=>∃(j:Nat) (q:Int),j<=L.length/\b=O (j:Int)/\d=O q/\af w wr [] []/\(nG q (L.drop j)&&T)=R) (λ _ b _=>L.length-(intOf b).toNat)
 case atStart=>exact⟨0,-1,by omega,rfl,rfl,a.U,c.U⟩
 case round=>
  obtain⟨j,q,N,rfl,rfl,G,b⟩:=hrel
  have a:=Z G
  by_cases v:j<L.length
  focus
   have E:bD 4 wr (ad A L.length B) (L.map MK.cells):=p.U.below a.U.ak
   obtain⟨bb,o,C,hx⟩:=E.at (j:=j) (by rw[cR];exact v)
   subst C
   rw[lJ] at hx
   rw[UZ v] at b
   generalize P:L[j]=k at*
   generalize D:L.drop (j+1)=M at*
   obtain⟨m,d,e,H⟩:=k
   simp only at b
   unfold MK.cd at b
   simp only at b
   have n:=Z hx
   have HD:=Z D
   have K:decide (j<L.length)=true:=by simp;omega
   have e1:((e.size:Int)==32)=decide (e.size=32):=by rw[bI];simp;omega
   have e2:((d:Int)==0)=decide (d=0):=by rw[bI];simp
   have e3:=gn e
   have e5:decide ((8:Int)<=(m:Int))=decide (8<=m):=by rw[bI];simp;omega
   have e6:decide ((1099511627776:Int)<(d:Int))=decide (1099511627776<d):=by rw[bI];simp;omega
   generalize decide (e.size=32)=z at*
   generalize decide (d=0)=r at*
   generalize decide (e=⟨#[]⟩)=s at*
   generalize I:decide ((m:Int)<=q)=g at*
   generalize decide (8<=m)=h at*
   generalize decide (1099511627776<d)=i at*
   have c:=Z b
   cases z
   focus
    cases r
    focus
     cases g
     focus
      cases h
      focus cases i
    rotate_left 4
    focus
     cases s
     focus
      cases g
      focus
       cases h
       focus cases i
     rotate_left 4
     focus
      cases g
      focus
       cases h
       focus cases i
   rotate_left 12
   focus
    cases g
    focus
     cases h
     focus
      cases i
      focus
       cases r
       rotate_left
       focus cases s
     rotate_left 4
     ·have b:=c.U
      simp only[sB] at b
      have c:=Z b
      clear b
      go_wp2_with(first
       |(first
        |(refine KL a 0 9 ?_)
        |(refine KL a 0 3 ?_))
       |(refine K7 a 0 240 4 λ f a=>?_)
       |(refine KA a 240 5 jc λ t f u a=>?_)
       |((with_reducible show wpList _ _ _ (⟨_,.load 240 _,_,_,_,_⟩::_) _ _);(refine dX rfl 240 4 rfl rfl n.U rfl V ?_)))
      go_ret
      exact⟨by rw[<-c.U];rfl,a.U.ak⟩
    rotate_left 4
    ·have b:=c.U
     simp only[sB] at b
     have c:=Z b
     go_wp2_with(first
      |(first
       |(refine KL a 0 9 ?_)
       |(refine KL a 0 3 ?_))
      |(refine K7 a 0 240 4 λ f a=>?_)
      |(refine KA a 240 5 jc λ t f u a=>?_)
      |((with_reducible show wpList _ _ _ (⟨_,.load 240 _,_,_,_,_⟩::_) _ _);(refine dX rfl 240 4 rfl rfl n.U rfl V ?_)))
     go_ret
     exact⟨by rw[<-c.U];rfl,a.U.ak⟩
  rotate_left 16
  ·obtain rfl:j=L.length:=by omega
   rw[zk,nG,mR] at b
   subst b
   go_wp2
   go_ret
   exact⟨rfl,a.U.ak⟩
  all_goals
   have b:=c.U
   simp only[sB] at b
   have c:=Z b
   clear b
   go_wp2_with(first
    |(first
     |(refine KL a 0 9 ?_)
     |(refine KL a 0 46 ?_)
     |(refine KL a 0 3 ?_))
    |(refine K7 a 0 240 4 λ f a=>?_)
    |(refine KA a 240 5 jc λ t f u a=>?_)
    |((with_reducible show wpList _ _ _ (⟨_,.load 240 _,_,_,_,_⟩::_) _ _);(refine dX rfl 240 4 rfl rfl n.U rfl V ?_)))
   first
    |go_roundw
     case rel=>exact⟨j+1,_,by omega,by go_num,rfl,a.U.tail,by rw[HD.U];exact c.U⟩
     case measure=>simp[intOf];omega
    |go_ret
     exact⟨by rw[<-c.U];rfl,a.U.ak⟩
variable{a:Act}{I:List Y}{k:Nat}{o:Oper}{X:Operand}
def Y.km(b o:Nat)(e:List ab):Y:=
 ⟨[b],λ w=>w.rangeAt b o e/\b<w.heap.size,(λ w f h a=>by
  have c:f.heap[b]?=w.heap[b]?:=h b zS
  refine⟨λ j v d=> ?_,?_⟩
  ·rw[<-a.1 j v d]
   unfold World.cell?
   rw[c]
  grind),(λ _ _=>by simp),(λ w a k a=>by
  grind)⟩
def Ym{ops:Array Oper}(q:Region.wanted o (yielded ops a.tmps)=true)(i:Nat){b:List ab}(l:I[i]?=some (Y.km g n b))(c e:Nat)(p:o.op= .load c X)(hx:a.eval X= .pointer (some ⟨g,n,none⟩))
 (k:ic c e=true) (t:b.length=e):YieldsIf prog ops (bc I) o (aG b.toArray) a:=by
 obtain⟨⟨d,f,h⟩,s⟩:=pn k
 exact Ls q c X p g n hx b d (λ w r j v m=>(r _ (dB l)).1 j v m) f h (by grind)
def bD.km{size:Nat}{w:aa}{A:Option Addr}{n c:Nat}{a:List (List ab)}(h:bD size w (ad A n c) a){j:Nat}(f:j<a.length):∃b o,A=some ⟨b,o,none⟩/\(Y.km b (o+j*size) a[j]).P w:=by
 obtain⟨-,l,m,e,p,d⟩:=h;injection e with e1 e2 e3;subst e1;obtain⟨b,o,g,i,k⟩:=d j f;exact⟨b,o,g,k,i⟩
def MK.eq_iff{p q:MK}:p=q↔((p.log:Int)=(q.log:Int)/\(p.size:Int)=(q.size:Int)/\p.aE.toList=q.aE.toList/\p.aM=q.aM):=by
 obtain⟨a,b,c,d⟩:=p;obtain⟨e,f,g,h⟩:=q;simp only[MK.mk.injEq,tH];grind
def XB(p q:MK)(o:Oper)(a:Act)(x y:Operand)(f:o.op= .binOp .neq 240 x y 240)(hx:a.eval x=aG p.cells.toArray)(g:a.eval y=aG q.cells.toArray)(w:aa):(execOp a.eval o).run prog w= .ok (.value (aF (!decide (p=q)))) w:=by
 unfold execOp;simp only[f,hx,g]
 go_simp
 by_cases b:(p.log:Int)=(q.log:Int)
 ·by_cases c:(p.size:Int)=(q.size:Int)
  ·by_cases d:p.aE.toList=q.aE.toList
   ·by_cases e:p.aM=q.aM
    ·have h:p=q:=MK.eq_iff.2 ⟨b,c,d,e⟩;grind
    ·have h:¬p=q:=by grind
     grind
   ·have h:¬p=q:=by grind
    grind
  ·have h:¬p=q:=by grind
   grind
 ·have h:¬p=q:=by grind
  grind
def EA{ops:Array Oper}{rest:List Oper}{w:aa}{Q:Exit->Act->aa->Prop}(p q:MK)(b:Region.wanted o (yielded ops a.tmps)=true){y:Operand}(c:o.op= .binOp .neq 240 X y 240)(hx:a.eval X=aG p.cells.toArray)(d:a.eval y=aG q.cells.toArray)
 (f:wpList prog ops Q rest (a.put o.dst (aF (!decide (p=q)))) w):wpList prog ops Q (o::rest) a w:=by
 refine dW b λ K e=> ?_
 unfold Oper.wp
 rw[XB p q o a X y c hx d w,jV]
 grind
def qe(L M:List MK)(k:Nat):Prop:=L.take k=M.take k
def qe.succ{L M:List MK}(h:qe L M k)(h1:k<L.length)(h2:k<M.length)(e:L[k]=M[k]):qe L M (k+1):=by
 unfold qe at h⊢;rw[dC h1,dC h2,h,e]
def XH{w:aa}{v u:ab}{L M:List MK}(h:(Y.er 4 v (L.map MK.cells)).P w)(k:(Y.er 4 u (M.map MK.cells)).P w):
 CB 241 #[v,u] w (aF (decide (L=M))):=by
 have g:=Z h
 have i:=Z k
 obtain⟨A,P,rfl,a⟩:=bD.form h
 obtain⟨N,Q,rfl,b⟩:=bD.form k
 rw[cR] at g i a b⊢
 rw[cR]
 have X:L.length<=9223372036854775807:=a
 have a0:M.length<=9223372036854775807:=b
 clear h k a b
 have a:=Z (af.start w [])
 by_cases f:L.length=M.length
 ·obtain⟨R,b⟩:∃R,decide (L=M)=R:=⟨_,rfl⟩
  rw[b]
  have l:=Z b;have r:=Z f
  have H:((L.length:Int) !=(M.length:Int))=false:=by rw[AX];omega
  clear b f
  go_enter func241,ntmps241
  go_wp2
  go_loopw [13] (λ b wr=>∃j:Nat,j<=L.length/\b=O j/\qe L M j/\af w wr [] []) (λ b _=>L.length-(intOf b).toNat)
  case atStart=>exact⟨0,bh _,rfl,rfl,a.U⟩
  case round=>
   obtain⟨j,S,rfl,I,G⟩:=hrel
   have m:=Z I;have a:=Z G
   by_cases E:j<L.length
   ·have F:j<M.length:=by have:=r.U;omega
    obtain⟨b,o,C,hx⟩:=bD.km g.U (j:=j) (by grind)
    obtain⟨B,K,D,p⟩:=bD.km i.U (j:=j) (by grind)
    subst C D
    rw[lJ] at hx p
    have T:decide (j<L.length)=true:=by simp;omega
    have a1:(j:Int)<(L.length:Int):=by omega
    have a2:(j:Int)<(M.length:Int):=by omega
    have J:=λ e=>qe.succ m.U E F e
    have t:=Z J
    have s:ai (L[j]≠M[j]->R=false):=Z (λ c=>by rw[<-l.U];grind)
    have q:ai (bc [Y.km b (o+j*4) L[j].cells,Y.km B (K+j*4) M[j].cells] w):=Z (aP hx (aP p bf))
    generalize L[j]=x at*
    generalize M[j]=y at*
    go_upto_region 6 with fail
    refine kJ a q 8 [] λ a3 a c=>?_
    refine VV [0,1,2] c ?_
    refine W2 3 19 rfl rfl (Ym zR 0 rfl 240 4 rfl rfl zR rfl) c ?_
    refine VV [4,5,6] c ?_
    refine W2 7 23 rfl rfl (Ym zR 1 rfl 240 4 rfl rfl zR rfl) c ?_
    refine WT ?_
    by_cases n:x=y
    ·have z:=Z (t.U n)
     have d:ai ((!decide (x=y))=false):=by grind
     go_wp2_with(refine EA x y rfl rfl rfl rfl ?_;rw[d.U])
     go_roundw
     case rel=>exact⟨j+1,by omega,by go_num,z.U,a.U⟩
     case measure=>simp[intOf];omega
    ·have e:=Z (s.U n)
     have d:ai ((!decide (x=y))=true):=by grind
     go_wp2_with(refine EA x y rfl rfl rfl rfl ?_;rw[d.U])
     go_ret
     exact⟨by rw[e.U];rfl,a.U.ak⟩
   ·have e:ai (R=true):=Z (by
     rw[<-l.U];simp
     have d:=m.U
     unfold qe at d
     grind)
    go_wp2
    go_ret
    exact⟨by rw[e.U];rfl,a.U.ak⟩
 ·have hd:decide (L=M)=false:=by simp;rintro rfl;exact f rfl
  rw[hd]
  have H:((L.length:Int) !=(M.length:Int))=true:=by rw[nu];omega
  go_enter func241,ntmps241
  go_wp2
  go_ret
  exact⟨rfl,a.U.ak⟩
structure MG where
 c:Nat
 log:Nat
 id:Nat
 m:Nat
 n:Nat
 h:HD
 b:BD
 e:List ag
 aL:List MK
 deriving DecidableEq
abbrev MG.cells(y:MG)(a c b:ab):List ab:=[O (y.c:Int),O (y.log:Int),U (y.id:Int),U (y.m:Int),U (y.n:Int),U (y.h.size:Int),U (y.h.time:Int),ae y.h.aE,ae y.h.a,
 U (y.b.a.size:Int),U (y.b.a.time:Int),ae y.b.a.aE,ae y.b.a.a,U (y.b.b.size:Int),U (y.b.b.time:Int),ae y.b.b.aE,ae y.b.b.a,a,c,b]
abbrev MG.val(y:MG)(a c b:ab):ab:=aG #[O (y.c:Int),O (y.log:Int),U (y.id:Int),U (y.m:Int),U (y.n:Int),U (y.h.size:Int),U (y.h.time:Int),ae y.h.aE,ae y.h.a,
 U (y.b.a.size:Int),U (y.b.a.time:Int),ae y.b.a.aE,ae y.b.a.a,U (y.b.b.size:Int),U (y.b.b.time:Int),ae y.b.b.aE,ae y.b.b.a,a,c,b]
def ec:HD:=⟨0,0,⟨#[]⟩,⟨#[]⟩⟩
def dL:MG:=⟨0,0,0,0,0,ec,mO,[],[]⟩
def MG.ln(y:MG)(c:Nat)(x:RD):MG:=
 if c=108 then{y with log:=x.dG} else if c=105 then{y with id:=x.cB} else if c=109 then{y with m:=x.cB} else if c=110 then{y with n:=x.cB}
 else if c=104 then{y with h:=x.jx} else if c=98 then{y with b:=x.gZ} else if c=112 then{y with e:=x.nA} else{y with aL:=x.kk}
def RD.qv(c:Nat)(x:RD):RD:=
 if c=108 then x.bF 1 else if c=105 then x.cg else if c=109 then x.cg else if c=110 then x.cg
 else if c=104 then x.jy else if c=98 then x.mb else if c=112 then x.sj else x.sv
structure MG.Rd(x:MG)(w:aa)(pB pP pM:ab):Prop where
 b:bg w pB x.b.e
 p:bg w pP x.e
 m:bD 4 w pM (x.aL.map MK.cells)
def MG.Rd.below{x:MG}{w d:aa}{b c pM:ab}(h:x.Rd w b c pM)(a:BW w d):x.Rd d b c pM:=⟨h.b.below a rfl,h.p.below a rfl,h.m.below a⟩
def js(a b:Nat):((a:Int)==(b:Int))=decide (a=b):=by rw[bI];simp;omega
def Vc(x y:MG)(l o pM m q p:ab)(w:aa)(j:x.Rd w l o pM)(k:y.Rd w m q p):CB 173 #[x.val l o pM,y.val m q p] w (aF (decide (x=y))):=by
 have p7:=λ(a:aa) (h:BW w a)=>Qj x.b y.b l m a (j.b.below h rfl) (k.b.below h rfl);have p8:=λ(a:aa) (h:BW w a)=>J3 (j.p.below h rfl) (k.p.below h rfl);have p9:=λ(a:aa) (h:BW w a)=>XH (j.m.below h) (k.m.below h);have e1:=js x.c y.c;have e2:=js x.log y.log;have e3:=js x.id y.id;have e4:=js x.m y.m;have e5:=js x.n y.n;obtain⟨b,d1⟩:∃b,decide (x.c=y.c)=b:=⟨_,rfl⟩;obtain⟨c,d2⟩:∃c,decide (x.log=y.log)=c:=⟨_,rfl⟩;obtain⟨d,d3⟩:∃d,decide (x.id=y.id)=d:=⟨_,rfl⟩;obtain⟨e,d4⟩:∃e,decide (x.m=y.m)=e:=⟨_,rfl⟩;obtain⟨f,d5⟩:∃f,decide (x.n=y.n)=f:=⟨_,rfl⟩;obtain⟨g,d6⟩:∃g,decide (x.h=y.h)=g:=⟨_,rfl⟩;obtain⟨h,d7⟩:∃h,decide (x.b=y.b)=h:=⟨_,rfl⟩;obtain⟨b8,d8⟩:∃b8,decide (x.e=y.e)=b8:=⟨_,rfl⟩;obtain⟨i,d9⟩:∃i,decide (x.aL=y.aL)=i:=⟨_,rfl⟩;have t:decide (x=y)=(b&&c&&d&&e&&f&&g&&h&&b8&&i):=by
  rw[<-d1,<-d2,<-d3,<-d4,<-d5,<-d6,<-d7,<-d8,<-d9,bI];obtain⟨⟩:=x;obtain⟨⟩:=y;simp[and_assoc]
 rw[t];rw[d7] at p7;rw[d8] at p8;have r:decide (x.aL=y.aL)=i:=d9;simp only[r] at p9;rw[d1] at e1;rw[d2] at e2;rw[d3] at e3;rw[d4] at e4;rw[d5] at e5;obtain⟨R,n⟩:∃R,(b&&c&&d&&e&&f&&g&&h&&b8&&i)=R:=⟨_,rfl⟩;rw[n];have s:=Z n;have P:=Z p7;have Q:=Z p8;have S:=Z p9;have N:=Z d6;have a:=Z (af.start w []);clear t n p7 p8 p9 d1 d2 d3 d4 d5 d6 d7 d8 d9 r j k;obtain⟨u,v,z,A,B,n,C,D,E⟩:=x;obtain⟨F,G,H,I,J,r,K,L,M⟩:=y;simp only at e1 e2 e3 e4 e5
 go_enter func173,ntmps173
 cases b
 rotate_left;focus
  cases c
  rotate_left;focus
   cases d
   rotate_left;focus
    cases e
    rotate_left;focus
     cases f
     rotate_left;focus
      cases g
      rotate_left;focus
       cases h
       rotate_left;focus cases b8
 all_goals
  have t:=s.U;simp only[sB] at t;subst t;clear s
  go_wp2_with(first
   |(first
    |(refine KL a 0 3 ?_)
    |(refine KL a 1 3 ?_)
    |(refine KL a 0 46 ?_)
    |(refine KL a 1 46 ?_)
    |(refine KR a 0 59 4 ?_)
    |(refine KR a 1 59 4 ?_)
    |(refine KR a 0 66 9 ?_)
    |(refine KR a 1 66 9 ?_)
    |(refine KL a 0 64 ?_)
    |(refine KL a 1 64 ?_)
    |(refine KL a 0 79 ?_)
    |(refine KL a 1 79 ?_))
   |(first
    |(refine KL a 0 3 ?_)
    |(refine KL a 1 3 ?_)
    |(refine KL a 0 46 ?_)
    |(refine KL a 1 46 ?_)
    |(refine KR a 0 59 4 ?_)
    |(refine KR a 1 59 4 ?_)
    |(refine KR a 0 66 9 ?_)
    |(refine KR a 1 66 9 ?_)
    |(refine KL a 0 64 ?_)
    |(refine KL a 1 64 ?_))
   |(first
    |(refine KL a 0 3 ?_)
    |(refine KL a 1 3 ?_)
    |(refine KL a 0 46 ?_)
    |(refine KL a 1 46 ?_)
    |(refine KR a 0 59 4 ?_)
    |(refine KR a 1 59 4 ?_)
    |(refine KR a 0 66 9 ?_)
    |(refine KR a 1 66 9 ?_))
   |(first
    |(refine KL a 0 3 ?_)
    |(refine KL a 1 3 ?_)
    |(refine KL a 0 46 ?_)
    |(refine KL a 1 46 ?_)
    |(refine KR a 0 59 4 ?_)
    |(refine KR a 1 59 4 ?_))
   |(first
    |(refine KL a 0 3 ?_)
    |(refine KL a 1 3 ?_)
    |(refine KL a 0 46 ?_)
    |(refine KL a 1 46 ?_))
   |(first
    |(refine KL a 0 3 ?_)
    |(refine KL a 1 3 ?_))
   |refine KB a 81 2 (MG.cells ⟨u,v,z,A,B,n,C,D,E⟩ l o pM) λ X T a1 a=>?_
   |refine KB a 81 3 (MG.cells ⟨F,G,H,I,J,r,K,L,M⟩ m q p) λ a0 T a2 a=>?_
   |(with_reducible show wpList _ _ _ (⟨_,.binOp .eql 59 _ _ 59,_,_,_,_⟩::_) _ _);(refine rn n r rfl rfl rfl rfl ?_;rw[N.U])
   |go_at_call 239;refine KC a (P.U _ a.U.ak) λ s a=>?_
   |go_at_call 240;refine KC a (Q.U _ a.U.ak) λ s a=>?_
   |go_at_call 241;refine KC a (S.U _ a.U.ak) λ s a=>?_)
  go_ret
  exact⟨rfl,a.U.ak⟩
def gI:List ab:=[ae ⟨#[]⟩,ae ⟨#[107]⟩,ae ⟨#[107]⟩,ae ⟨#[108,104]⟩,ae ⟨#[108,98]⟩,ae ⟨#[108,105]⟩,ae ⟨#[108,105,109,110]⟩,ae ⟨#[108,105,104]⟩,ae ⟨#[108,105,109,110,112]⟩,ae ⟨#[108]⟩,ae ⟨#[108,110]⟩]
def eQ(k:Nat):ag:=if k=1 then⟨#[107]⟩ else if k=2 then⟨#[107]⟩ else if k=3 then⟨#[108,104]⟩ else if k=4 then⟨#[108,98]⟩ else if k=5 then⟨#[108,105]⟩ else if k=6 then⟨#[108,105,109,110]⟩ else if k=7 then⟨#[108,105,104]⟩ else if k=8 then⟨#[108,105,109,110,112]⟩ else if k=9 then⟨#[108]⟩ else if k=10 then⟨#[108,110]⟩ else⟨#[]⟩
def eC(s:ag):List Nat:=s.data.toList.map UInt8.toNat
def pL(c:Nat):Prop:=c=108\/c=105\/c=109\/c=110\/c=104\/c=98\/c=112\/c=107
instance(c:Nat):Decidable (pL c):=by unfold pL;infer_instance
def wX(k:Nat)(a:k<11):gI[k]?=some (ae (eQ k)):=by
 rcases k with _|_|_|_|_|_|_|_|_|_|_|k<;>first|rfl|omega
def wW(k:Nat):∀c∈eC (eQ k),pL c:=by
 rcases k with _|_|_|_|_|_|_|_|_|_|_|k;all_goals first|decide|(rw[show eQ (k+11)=⟨#[]⟩ by rfl];decide)
def ub(s:ag):(eC s).length=s.size:=by
 unfold eC;simp
def xf(s:ag)(h:g<s.size):∃c,(s[g]'h).toNat=c/\(eC s)[g]?=some c:=⟨_,rfl,by
 unfold eC;rw[eI,ba (by simp_all)];rfl⟩
def BJ{α β:Type}(f:β->α->β)(z:β){L:List α}{c:α}(h:L[g]?=some c):(L.take (g+1)).foldl f z=f ((L.take g).foldl f z) c:=by
 obtain⟨a,rfl⟩:=ed.1 h;rw[dC a,ti];rfl
def MG.take(x z:MG)(c:Nat):MG:=
 if c=108 then{z with log:=x.log} else if c=105 then{z with id:=x.id} else if c=109 then{z with m:=x.m} else if c=110 then{z with n:=x.n}
 else if c=104 then{z with h:=x.h} else if c=98 then{z with b:=x.b} else if c=112 then{z with e:=x.e} else if c=107 then{z with aL:=x.aL} else z
def MG.bare(x:MG):MG:=(eC (eQ x.c)).foldl x.take {dL with c:=x.c}
def LC(k:Nat)(w:aa):MG.Rd {dL with c:=k} w (ad none 0 0) (ad none 0 0) (ad none 0 0):=
 ⟨⟨none,0,rfl,bh _,λ i a=>absurd a (jm i)⟩,⟨none,0,rfl,bh _,λ i a=>absurd a (jm i)⟩,bD.nil 4 w⟩
def bg.form{w:aa}{v:ab}{L:List ag}(h:bg w v L):∃A c,v=ad A L.length c:=by
 obtain⟨A,c,a,-⟩:=h;grind
def bD.iQ{w:aa}{v:ab}{L:List MK}(h:bD 4 w v (L.map MK.cells)):∃A c,v=ad A L.length c:=by
 obtain⟨A,c,a,-⟩:=bD.form h;grind
def iterPos(w:aa)(g:Nat):Nat:=match w.heap[g]? with|some (.stringIter _ p)=>p|_=>0
def iterPos_of{w:aa}{s:ag}(h:(Y.iter g s n).P w):iterPos w g=n:=by
 unfold iterPos;rw[show w.heap[g]?=some (.stringIter s n) from h]
abbrev D8:List ab:=[O 0,O 0,U 0,U 0,U 0,U 0,U 0,ae ⟨#[]⟩,ae ⟨#[]⟩,U 0,U 0,ae ⟨#[]⟩,ae ⟨#[]⟩,U 0,U 0,ae ⟨#[]⟩,ae ⟨#[]⟩,ad none 0 0,ad none 0 0,ad none 0 0]
def M3(x:MG)(J K pM:ab)(w:aa)(q:x.Rd w J K pM)(v:x.c<11)(X:(Y.dP 0 gI).P w):
 Calls prog 174 #[x.val J K pM] w λ e d=>∃a c b,e=ao (x.bare.val a c b)/\BW w d/\x.bare.Rd d a c b:=by
 have r:=Z q
 have A:=Z X
 obtain⟨C,F,rfl⟩:=q.b.form
 obtain⟨E,H,rfl⟩:=q.p.form
 obtain⟨D,G,rfl⟩:=q.m.iQ
 obtain⟨y,u⟩:∃y,x.bare=y:=⟨_,rfl⟩
 rw[u]
 unfold MG.bare at u
 have c:=LC x.c w
 have a3:=wX x.c v
 have a0:=wW x.c
 generalize a8:eQ x.c=S at*
 generalize a4:({dL with c:=x.c}:MG)=z0 at*
 have a5:=Z u;have P:=Z c;have M:=Z a3;have L:=Z a0;have B:=Z a4
 have a:=Z (af.start w [])
 have b4:(x.c:Int)<11:=by omega
 have b5:decide ((x.c:Int)<11)=true:=by simp;omega
 go_enter func174,ntmps174
 go_wp2_with(first|refine Kl a ?_|refine KS a λ d a=>?_|refine KA a _ 2 ei λ R d b1 a=>?_|refine KA a _ 3 ei λ T d b2 a=>?_|refine KB a 81 1 (x.cells _ _ _) λ Q d a9 a=>?_|refine vq rfl 9 rfl rfl ((yq ((Y.dP 0 gI).st _ _ (λ k v=>a.U.ak.block k ((Y.dP 0 gI).lt _ A.U k v)) A.U) _).trans M.U) zR ?_|(with_reducible show wV);(refine Rg a.U rfl 13 rfl rfl S rfl λ t d b0 b=>?_;replace a:=Z b))
 go_loopw [] (λ wr=>∃(j:Nat) (z:MG) (l n m:Option Addr) (sB p o:Nat),j<=S.size/\af w wr [] [Y.iter t S j,Y.row T 81 (z.cells (ad l z.b.e.length sB) (ad n z.e.length p) (ad m z.aL.length o)),Y.row R 81 D8,Y.row Q 81 (x.cells (ad C x.b.e.length F) (ad E x.e.length H) (ad D x.aL.length G))]/\((eC S).take j).foldl x.take z0=z/\z.Rd w (ad l z.b.e.length sB) (ad n z.e.length p) (ad m z.aL.length o)) (λ wr=>S.size-iterPos wr t)
 case atStart=>
  refine⟨0,z0,none,none,none,0,0,0,bh _,?_,rfl,?_⟩
  ·rw[<-B.U];exact a.U
  ·have:=P.U;rw[<-B.U] at this⊢;exact this
 case round=>
  obtain⟨j,z,l,n,m,sB,p,o,b3,f,c,h⟩:=hrel
  have a:=Z f;have s:=Z c;have e:=Z h
  have g:iterPos wr t=j:=iterPos_of (f.get (i:=0) rfl)
  have N:=Z g
  clear f c h g
  by_cases f:j<S.size
  focus
   obtain⟨c,a1,I⟩:=xf S f
   have a2:=L.U c (dB I)
   have h:=Z (BJ x.take z0 I)
   rw[s.U] at h
   have g:=Z a1
   obtain⟨k0,b8,b6,m0,c0,a7,a6,p0,b9⟩:=z
   rcases a2 with rfl|rfl|rfl|rfl|rfl|rfl|rfl|rfl
  rotate_left 8
  ·obtain rfl:j=S.size:=by omega
   rw[cS (by rw[ub];omega)] at s
   have c:=Z (show z=y by rw[<-s.U];omega)
   obtain rfl:=c.U
   go_wp2_with(first|refine KT a 20 ?_|refine KS a λ d a=>?_|(with_reducible show eP);(refine rE a.U 0 rfl rfl rfl rfl f ?_))
   refine iH a.U 2 rfl 81 20 rfl rfl zR rfl rfl ?_
   exact⟨_,_,_,rfl,a.U.ak,e.U.below a.U.ak⟩
  all_goals
   have c:=h.U
   simp only[MG.take,Nat.reduceEqDiff,↓reduceIte] at c
   have h:=Z c
   go_wp2_with(first|refine KT a 9 ?_|refine KT a 4 ?_|refine Kl a ?_|refine KS a λ d a=>?_|(with_reducible show eP);(refine Nx a.U 0 rfl rfl rfl rfl f 107 g.U zD λ d b=>?_;simp only[au,ay] at b;replace a:=Z b)|(with_reducible show eP);(refine Nx a.U 0 rfl rfl rfl rfl f 112 g.U zD λ d b=>?_;simp only[au,ay] at b;replace a:=Z b)|(with_reducible show eP);(refine Nx a.U 0 rfl rfl rfl rfl f 98 g.U zD λ d b=>?_;simp only[au,ay] at b;replace a:=Z b)|(with_reducible show eP);(refine Nx a.U 0 rfl rfl rfl rfl f 104 g.U zD λ d b=>?_;simp only[au,ay] at b;replace a:=Z b)|(with_reducible show eP);(refine Nx a.U 0 rfl rfl rfl rfl f 110 g.U zD λ d b=>?_;simp only[au,ay] at b;replace a:=Z b)|(with_reducible show eP);(refine Nx a.U 0 rfl rfl rfl rfl f 109 g.U zD λ d b=>?_;simp only[au,ay] at b;replace a:=Z b)|(with_reducible show eP);(refine Nx a.U 0 rfl rfl rfl rfl f 105 g.U zD λ d b=>?_;simp only[au,ay] at b;replace a:=Z b)|(with_reducible show eP);(refine Nx a.U 0 rfl rfl rfl rfl f 108 g.U zD λ d b=>?_;simp only[au,ay] at b;replace a:=Z b))
   go_roundw
   first
    |case rel=>exact⟨j+1,by omega,_,l,n,m,sB,p,o,a.U,h.U,⟨e.U.b,e.U.p,e.U.m⟩⟩
    |case rel=>exact⟨j+1,by omega,_,C,n,m,F,p,o,a.U,h.U,⟨r.U.b,e.U.p,e.U.m⟩⟩
    |case rel=>exact⟨j+1,by omega,_,l,E,m,sB,H,o,a.U,h.U,⟨e.U.b,r.U.p,e.U.m⟩⟩
    |case rel=>exact⟨j+1,by omega,_,l,n,D,sB,p,G,a.U,h.U,⟨e.U.b,e.U.p,r.U.m⟩⟩
   case measure=>(rw[N.U,iterPos_of (a.U.get (i:=0) rfl)];omega)
namespace ShaM
structure V8 where
 a:UInt32
 b:UInt32
 c:UInt32
 d:UInt32
 e:UInt32
 f:UInt32
 g:UInt32
 h:UInt32
def K:List UInt32:=[
 0x428a2f98,0x71374491,0xb5c0fbcf,0xe9b5dba5,0x3956c25b,0x59f111f1,0x923f82a4,0xab1c5ed5,
 0xd807aa98,0x12835b01,0x243185be,0x550c7dc3,0x72be5d74,0x80deb1fe,0x9bdc06a7,0xc19bf174,
 0xe49b69c1,0xefbe4786,0x0fc19dc6,0x240ca1cc,0x2de92c6f,0x4a7484aa,0x5cb0a9dc,0x76f988da,
 0x983e5152,0xa831c66d,0xb00327c8,0xbf597fc7,0xc6e00bf3,0xd5a79147,0x06ca6351,0x14292967,
 0x27b70a85,0x2e1b2138,0x4d2c6dfc,0x53380d13,0x650a7354,0x766a0abb,0x81c2c92e,0x92722c85,
 0xa2bfe8a1,0xa81a664b,0xc24b8b70,0xc76c51a3,0xd192e819,0xd6990624,0xf40e3585,0x106aa070,
 0x19a4c116,0x1e376c08,0x2748774c,0x34b0bcb5,0x391c0cb3,0x4ed8aa4a,0x5b9cca4f,0x682e6ff3,
 0x748f82ee,0x78a5636f,0x84c87814,0x8cc70208,0x90befffa,0xa4506ceb,0xbef9a3f7,0xc67178f2]
def fl:V8:=⟨0x6a09e667,0xbb67ae85,0x3c6ef372,0xa54ff53a,0x510e527f,0x9b05688c,0x1f83d9ab,0x5be0cd19⟩
def aN(n:Nat)(x:UInt32):UInt32:=UInt32.ofNat (x.toNat/2^n+x.toNat%2^n*2^(32-n))
def shr(n:Nat)(x:UInt32):UInt32:=UInt32.ofNat (x.toNat/2^n)
def word(a b c d:UInt8):UInt32:=UInt32.ofNat (a.toNat*16777216+b.toNat*65536+c.toNat*256+d.toNat)
def uI(x:UInt32):UInt32:=aN 7 x^^^aN 18 x^^^shr 3 x
def uJ(x:UInt32):UInt32:=aN 17 x^^^aN 19 x^^^shr 10 x
def hl(b:List UInt8)(w:List UInt32):UInt32:=
 if w.length<16 then word (b.getD (4*w.length) 0) (b.getD (4*w.length+1) 0) (b.getD (4*w.length+2) 0) (b.getD (4*w.length+3) 0)
 else w.getD (w.length-16) 0+w.getD (w.length-7) 0+uI (w.getD (w.length-15) 0)+uJ (w.getD (w.length-2) 0)
def wl(b:List UInt8):Nat->List UInt32
 |0=>[]
 |i+1=>wl b i++[hl b (wl b i)]
def bx(e:UInt32):UInt32:=aN 6 e^^^aN 11 e^^^aN 25 e
def A4(a:UInt32):UInt32:=aN 2 a^^^aN 13 a^^^aN 22 a
def ch(e f g:UInt32):UInt32:=(e&&&f)^^^(~~~e&&&g)
def Ck(a b c:UInt32):UInt32:=(a&&&b)^^^(a&&&c)^^^(b&&&c)
def rx(v:V8)(k w:UInt32):UInt32:=v.h+bx v.e+ch v.e v.f v.g+k+w
def ry(v:V8):UInt32:=A4 v.a+Ck v.a v.b v.c
def mB(v:V8)(k w:UInt32):V8:=⟨rx v k w+ry v,v.a,v.b,v.c,v.d+rx v k w,v.e,v.f,v.g⟩
def rounds(w:List UInt32)(h:V8):Nat->V8
 |0=>h
 |i+1=>mB (rounds w h i) (K.getD i 0) (w.getD i 0)
def gX(x y:V8):V8:=⟨x.a+y.a,x.b+y.b,x.c+y.c,x.d+y.d,x.e+y.e,x.f+y.f,x.g+y.g,x.h+y.h⟩
def compress(h:V8)(b:List UInt8):V8:=gX h (rounds (wl b 64) h 64)
def chain(l:List UInt8):Nat->V8
 |0=>fl
 |k+1=>compress (chain l k) ((l.drop (64*k)).take 64)
def cA(n:Nat):Nat:=(119-n%64)%64
def len8(n:Nat):List UInt8:=[UInt8.ofNat (n/72057594037927936),UInt8.ofNat (n/281474976710656),UInt8.ofNat (n/1099511627776),UInt8.ofNat (n/4294967296),UInt8.ofNat (n/16777216),UInt8.ofNat (n/65536),UInt8.ofNat (n/256),UInt8.ofNat n]
def fq(l:List UInt8):List UInt8:=l++[128]++List.replicate (cA l.length) 0++len8 (8*l.length)
def fK(x:UInt32):List UInt8:=[UInt8.ofNat (x.toNat/16777216),UInt8.ofNat (x.toNat/65536),UInt8.ofNat (x.toNat/256),UInt8.ofNat x.toNat]
def U(v:V8):List UInt8:=fK v.a++fK v.b++fK v.c++fK v.d++fK v.e++fK v.f++fK v.g++fK v.h
def sum(l:List UInt8):List UInt8:=U (chain (fq l) ((fq l).length/64))
def dK(b:List UInt8):∀i,(wl b i).length=i
 |0=>rfl
 |i+1=>by simp[wl,dK b i]
def ua(n:Nat):(len8 n).length=8:=rfl
def V1(v:V8):(U v).length=32:=rfl
def yp(l:List UInt8):(sum l).length=32:=rfl
def uq(l:List UInt8):(fq l).length=l.length+1+cA l.length+8:=by simp[fq,ua];omega
def IP(l:List UInt8):(fq l).length%64=0:=by rw[uq];unfold cA;omega
def A9(l m:List UInt8):∀k,64*k<=l.length->chain (l++m) k=chain l k
 |0,_=>rfl
 |k+1,h=>by
  simp only[chain]
  rw[A9 l m k W]
  congr 1
  rw[vr W,vx (by simp;omega)]
structure aI(on:Bool)(st:V8)(left l:List UInt8):Prop where
 hlen:left.length=64
 j:on=decide (64<=l.length)
 i:(bif on then st else fl)=chain l (l.length/64)
 o:left.take (l.length%64)=l.drop (64*(l.length/64))
def mN:V8:=⟨0,0,0,0,0,0,0,0⟩
def aI.start:aI false mN (List.replicate 64 0) []:=⟨by simp,rfl,rfl,rfl⟩
def KN(left:List UInt8)(k:Nat)(c:UInt8)(h:k<left.length):(left.set k c).take (k+1)=left.take k++[c]:=by
 rw[zu,dC h,kE _ _ (by simp;omega)];simp[jT (vz h)]
section
variable{on:Bool}{st:V8}{left l:List UInt8}
def aI.put(h:aI on st left l)(c:UInt8)(b:¬(l.length+1)%64=0):aI on st (left.set (l.length%64) c) (l++[c]):=by
 have hd:(l.length+1)/64=l.length/64:=by omega
 have a:(l.length+1)%64=l.length%64+1:=by omega
 refine⟨by simp[h.hlen],?_,?_,?_⟩
 ·rw[h.j];simp only[bA,pQ,decide_eq_decide];omega
 ·rw[h.i];simp only[bA,pQ,hd];exact(A9 l [c] _ W).symm
 ·simp only[bA,pQ,hd,a];rw[KN _ _ _ (by rw[h.hlen];omega),h.o,vr W]
def aI.Pq(h:aI on st left l)(c:UInt8)(d:(l.length+1)%64=0):aI true (compress (bif on then st else fl) (left.set (l.length%64) c)) (left.set (l.length%64) c) (l++[c]):=by
 have hd:(l.length+1)/64=l.length/64+1:=by omega
 have b:l.length%64+1=64:=by omega
 have a:left.set (l.length%64) c=l.drop (64*(l.length/64))++[c]:=by
  have:=KN left (l.length%64) c (by rw[h.hlen];omega);rw[h.o,b,cS (by simp[h.hlen])] at this;exact this
 refine⟨by simp[h.hlen],?_,?_,?_⟩
 ·symm;simp only[bA,pQ,dx];omega
 ·simp only[cond_true,bA,pQ,hd,chain];rw[h.i,A9 l [c] _ W];congr 1;rw[a,vr W,cS (by simp;omega)]
 ·simp only[bA,pQ,d,hd];rw[jQ (by simp;omega)];rfl
def aI.sum(t:List UInt8)(h:aI on st left (fq t)):U st=ShaM.sum t:=by
 have a:=h.j;have b:=IP t;have c:=uq t;have:on=true:=by rw[a];simp only[dx];omega
 subst this;have:=h.i;simp only[cond_true] at this;rw[this];rfl
end
def digit(n:Nat):UInt8:=if n<10 then UInt8.ofNat (48+n) else UInt8.ofNat (87+n)
def hex:List UInt8->List UInt8
 |[]=>[]
 |c::l=>digit (c.toNat/16)::digit (c.toNat%16)::hex l
def Rj:∀l m,hex (l++m)=hex l++hex m
 |[],_=>rfl
 |c::l,m=>by simp[hex,Rj l m]
def Rk:∀l,(hex l).length=2*l.length
 |[]=>rfl
 |c::l=>by simp[hex,Rk l];omega
def F6(a b:Nat)(d:a<16)(e:b<16)(h:digit a=digit b):a=b:=by
 have c:=congrArg UInt8.toNat h;unfold digit at c;split at c<;>split at c<;>simp at c<;>omega
def hex_inj:∀l m,hex l=hex m->l=m
 |[],[],_=>rfl
 |[],c::m,h=>by simp[hex] at h
 |c::l,[],h=>by simp[hex] at h
 |c::l,d::m,h=>by
  simp only[hex,zj] at h
  obtain⟨a,b,e⟩:=h
  have e1:=F6 _ _ (by have:=c.toNat_lt;omega) (by have:=d.toNat_lt;omega) a
  have e2:=F6 _ _ W W b
  rw[hex_inj l m e]
  congr 1
  apply AG.1;omega
def F7(n:Nat)(h:n<16):(48<=(digit n).toNat/\(digit n).toNat<=57)\/(97<=(digit n).toNat/\(digit n).toNat<=102):=by
 unfold digit;split
 ·left;simp;omega
 ·right;simp;omega
def Rl:∀l,∀c∈hex l,(48<=c.toNat/\c.toNat<=57)\/(97<=c.toNat/\c.toNat<=102)
 |[],c,h=>by cases h
 |d::l,c,h=>by
  simp only[hex,bV] at h
  rcases h with rfl|rfl|h
  ·exact F7 _ (by have:=d.toNat_lt;omega)
  ·exact F7 _ W
  ·exact Rl l c h
end ShaM
def nY(x y:UInt32):IntKind.u32.wrap ((x.toNat:Int)+(y.toNat:Int))=((x+y).toNat:Int):=by
 rfl
def Dv(x y:UInt32):bits .xor .u32 (x.toNat:Int) (y.toNat:Int)=((x^^^y).toNat:Int):=by
 rw[uU _ _ x.toNat_lt y.toNat_lt,UInt32.toNat_xor]
def Dt(x y:UInt32):bits .and .u32 (x.toNat:Int) (y.toNat:Int)=((x&&&y).toNat:Int):=by
 rw[u32_and_nat _ _ x.toNat_lt y.toNat_lt,UInt32.toNat_and]
def yu(x:UInt32):(4294967295:Int)-(x.toNat:Int)=((~~~x).toNat:Int):=by
 have:=x.toNat_lt;rw[UInt32.toNat_not];grind
def BI(n:Nat)(h:n<4294967296):4294967295^^^n=4294967295-n:=by
 have a:(~~~(UInt32.ofNat n)).toNat=4294967295-n:=by
  rw[UInt32.toNat_not,rI];simp only[UInt32.size];omega
 have b:(UInt32.ofNat 4294967295^^^UInt32.ofNat n).toNat=4294967295^^^n:=by
  rw[UInt32.toNat_xor,rI,rI,ik h]
 have c:UInt32.ofNat 4294967295^^^UInt32.ofNat n= ~~~(UInt32.ofNat n):=by
  show(-1:UInt32)^^^_=_;simp
 grind
def Du(x:UInt32):bits .xor .u32 IntKind.u32.max (x.toNat:Int)=((~~~x).toNat:Int):=by
 have h:=uU 4294967295 x.toNat W x.toNat_lt;rw[BI _ x.toNat_lt] at h;rw[<-yu];have:=x.toNat_lt;rw[show(4294967295:Int)-(x.toNat:Int)=((4294967295-x.toNat:Nat):Int) by omega,<-h];rfl
def dz(x y:UInt32):UInt32:=x^^^y
def fh(x y:UInt32):UInt32:=x&&&y
def mI(x:UInt32):UInt32:= ~~~x
def nw(x y:UInt32):bits .xor .u32 (x.toNat:Int) (y.toNat:Int)=((dz x y).toNat:Int):=Dv x y
def rR(x y:UInt32):bits .and .u32 (x.toNat:Int) (y.toNat:Int)=((fh x y).toNat:Int):=Dt x y
def A6(x:UInt32):bits .xor .u32 IntKind.u32.max (x.toNat:Int)=((mI x).toNat:Int):=Du x
def wj(a b:UInt32):((a.toNat:Int)+(b.toNat:Int))%4294967296=((a+b).toNat:Int):=by
 rfl
def FD(a b c d:UInt32):((a.toNat:Int)+(b.toNat:Int)+(c.toNat:Int)+(d.toNat:Int))%4294967296=((a+b+c+d).toNat:Int):=by
 simp
variable{m:List Nat}{b:List UInt8}{i:Nat}{t:TypeId}
section
section
variable{P:Program}{w:aa}
def YC{ops:Array Oper}{K:Act->aa->Prop}{Q:Exit->Act->aa->Prop}{E:Prop}(A:o.guard=none)(s x:Operand)(t:TypeId)
 (F:o.op= .call {callee:= .builtin .append,args:=#[s,x],argTypes:=#[t,t]})
 (f:Nat) (e:TypeId) (i:TypeInfo) (z:ab) (bytes:Nat) (J:P.underlying t=some (.slice e)) (B:P.info? e=some i) (M:i.zero=some z)
 (I:i.size=1) (r:i.bytes=bytes) (N:z.cells.size=1)
 (v:ab) (n:Nat) (j:List ab) (H:a.eval s=v) (G:w.ownsRow f e 1 v n j)
 (g m:Nat) (hx:a.eval x=ad (some ⟨g,0,none⟩) m m) (c:Array ab) (R:TypeId) (k:Nat×Nat) (L:w.heap[g]?=some (.cells c R k)) (C:c.size=m) (D:0<m) (h1:∀u∈c.toList,u.oneCell'=true)
 (h63:n+m<=maxLen) (y:(n+m)*bytes<=140737488355328) (q:f<=w.heap.size)
 (h:∀b d,d.ownsRow f e 1 b (n+m) (j++c.toList)->w.grownBy d v.ownBlock->(b.ownBlock=v.ownBlock\/b.ownBlock=some w.heap.size)->K (a.put o.dst b) d):
 if Region.wanted o (yielded ops a.tmps)=true then Oper.wp P o a w K Q else E:=by
 refine Ks w A s x t F f e i z 1 bytes J B M I r N zD v n j H G ⟨g,0,none⟩ m m c.toList hx (by simp[C]) (AI L) h1 D h63 y q _ rfl ?_
 intro S u d l p b T
 refine h _ d l p ?_
 rcases b with b|b
 ·exact .inl b.symm
 ·subst b;exact .inr rfl
def yE{ops:Array Oper}{rest:List Oper}{Q:Exit->Act->aa->Prop}(A:o.guard=none)(s x:Operand)(t:TypeId)
 (E:o.op= .call {callee:= .builtin .append,args:=#[s,x],argTypes:=#[t,t]})
 (f:Nat) (e:TypeId) (i:TypeInfo) (z:ab) (bytes:Nat) (I:P.underlying t=some (.slice e)) (B:P.info? e=some i) (K:i.zero=some z)
 (H:i.size=1) (r:i.bytes=bytes) (L:z.cells.size=1)
 (v:ab) (n:Nat) (j:List ab) (G:a.eval s=v) (F:w.ownsRow f e 1 v n j)
 (g m:Nat) (hx:a.eval x=ad (some ⟨g,0,none⟩) m m) (c:Array ab) (M:TypeId) (k:Nat×Nat) (J:w.heap[g]?=some (.cells c M k)) (C:c.size=m) (D:0<m) (h1:∀u∈c.toList,u.oneCell'=true)
 (h63:n+m<=maxLen) (y:(n+m)*bytes<=140737488355328) (q:f<=w.heap.size)
 (h:∀b d,d.ownsRow f e 1 b (n+m) (j++c.toList)->w.grownBy d v.ownBlock->(b.ownBlock=v.ownBlock\/b.ownBlock=some w.heap.size)->wpList P ops Q rest (a.put o.dst b) d):wpList P ops Q (o::rest) a w:=by
 refine wpList_append_lies w A s x t E f e i z 1 bytes I B K H r L zD v n j G F ⟨g,0,none⟩ m m c.toList hx (by simp[C]) (AI J) h1 D h63 y q _ rfl ?_
 intro N u d l p b R
 refine h _ d l p ?_
 rcases b with b|b
 ·exact .inl b.symm
 ·subst b;exact .inr rfl
end
def World.oI{w a:aa}(h:a.heap[g]?=w.heap[g]?):a.cell? ⟨g,i,none⟩=w.cell? ⟨g,i,none⟩:=by simp[World.cell?,h]
def aR.M9{B:Nat}{w a:aa}(h:aR B m w a)(b:g<=B)(d:∀k∈m,g<=k):Below g w a:=⟨h.os,h.tape,h.output,h.size,λ k c=>h.block k W (λ e=>by grind)⟩
def xE{w:aa}{size:Nat}{v:ab}{a:List ab}(h:w.ownsRow g t size v n a)(o:Obj):(w.alloc o).ownsRow g t size v n a:=xG h ((bz _ _).alloc (aW _) o)
structure iG(w wr:aa)(v:ab)(l:List UInt8):Prop where
 own:wr.ownsRow w.heap.size 5 1 v l.length (ca l)
 aK:BW w wr
def iG.nil{w wr:aa}(h:BW w wr):iG w wr (ad none 0 0) []:=⟨ct _ _ _ _,h⟩
def iG.new{w wr:aa}(h:BW w wr):iG w (wr.alloc (.cells #[] 5)) (ad (some ⟨wr.heap.size,0,none⟩) 0 0) []:=⟨vT wr #[] 0 h.size zD rfl,h.alloc h.size _⟩
def iG.append{w wr X c:aa}{v f:ab}{m:List UInt8}(h:iG w wr v b)(d:BW wr X){e:List ab}(a:b.length=k)(j:m.length=g)(n:c.ownsRow w.heap.size 5 1 f (k+g) (ca b++e))(i:X.grownBy c v.ownBlock)(l:e=ca m):iG w c f (b++m):=by
 subst l a j;refine⟨?_,?_⟩
 ·rw[bA,wh];exact n
 ·exact(h.aK.trans (d.mono h.aK.size)).grown i (iM h.aK.size d.size) (λ k a=>(h.own.lt k a).1)
end
