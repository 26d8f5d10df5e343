import Derived.Test.YtncpbkoinennoaaGreatDoorMAL
set_option linter.all false
set_option maxRecDepth 100000
set_option maxHeartbeats 0
namespace Go.Proofs.YtncpbkoinennoaaGreatDoor
open Go.RowKit Proofs.Tryz
attribute [local irreducible] wpList Calls
structure pW(w wr:aa)(gx gy gt:Nat)(x y t:List Nat):Prop where
 aK:BW w wr
 ht:w.heap.size<=gt
 x:ah wr gx 46 (aU x)
 y:ah wr gy 46 (aU y)
 t:ah wr gt 46 (aU t)
 ex:gx≠gt
 a:gy≠gt
def pW.set{w wr:aa}{b c a:Nat}{x y t:List Nat}(h:pW w wr b c a x y t)(k v:Nat):pW w (wr.setCell ⟨a,k,none⟩ (U (v:Int))) b c a x y (t.set k v):=
 ⟨h.aK.setCell h.ht _,h.ht,h.x.cG h.ex _,h.y.cG h.a _,by rw[<-xx];exact h.t.cN k _,h.ex,h.a⟩
def AK(x y:Nat)(w:aa):(callFunc 116 #[U (x:Int),U (y:Int),U 0]).run prog w=
 .ok (.value (aJ #[U (((x+y+0)%18446744073709551616:Nat):Int),U (((x+y+0)/18446744073709551616:Nat):Int)])) w:=EZ x y 0 W w
def Rn(p q c z:Nat)(j:p<18446744073709551616)(k:q<18446744073709551616)(i:c<18446744073709551616)(n:z<18446744073709551616):
 ∃h l f d a g b e,p*q/18446744073709551616=h/\p*q%18446744073709551616=l/\(l+c+0)%18446744073709551616=a/\(l+c+0)/18446744073709551616=f/\h+f=d/\(z+a+0)%18446744073709551616=e/\(z+a+0)/18446744073709551616=g/\d+g=b/\
  e+b*18446744073709551616=z+c+p*q/\e<18446744073709551616/\b<18446744073709551616/\d<18446744073709551616/\l<18446744073709551616/\a<18446744073709551616:=by
 have a:p*q<=18446744073709551615*18446744073709551615:=zC W W
 refine⟨_,_,_,_,_,_,_,_,rfl,rfl,rfl,rfl,rfl,rfl,rfl,rfl,?_,?_,?_,?_,?_,?_⟩<;>(generalize p*q=m at*;omega)
def XE{w:aa}(a1:kM w)(a b c:ag):CB 43 #[ae a,ae b,ae c] w (ae (qW a b c)):=by
 have b4:=Z a1;have b0:=a1.lt;clear a1
 go_enter func43,ntmps43
 go_wp2_with fail
 refine(yk (n:=4) zD a w).mono ?_;rintro e L ⟨x,rfl,hx,f,k,l,p⟩
 go_wp2_with fail
 refine(yk (n:=4) zD b L).mono ?_;rintro e g ⟨y,rfl,h,J,q,r,s⟩;have j:ah g w.heap.size 46 (aU x):=(J.block _ hx.lt).trans hx;have i:BW w g:=f.trans (J.mono f.size);have d4:=hx.lt;have d5:=h.lt;obtain⟨o,d⟩:∃o,List.replicate 9 0=o:=⟨_,rfl⟩;have A:(Instr.makeSlice 186 (O 9) (O 9)).run prog g= .ok (ad (some ⟨g.heap.size,0,none⟩) 9 9) (g.alloc (.cells (aU o) 46)):=by rw[<-d];exact HS 9 W g
 have c5:(aU o).size=9:=by rw[<-d];rfl
 have c4:((aU o).toList.take 0++(aU ([]:List Nat)).toList++(aU o).toList.drop 4)=(aU (List.replicate 5 0)).toList:=by rw[<-d];rfl
 clear d;have H:=Z (And.intro k (And.intro l p));have I:=Z (And.intro q (And.intro r s));have b5:=Z j;have b6:=Z h;have F:=Z i;clear hx f J k l p q r s j h i
 go_wp2_with fail
 refine(yk (n:=4) zD c _).mono ?_;rintro e E ⟨z,rfl,i,B,d,t,u⟩;have f:(g.alloc (.cells (aU o) 46)).heap.size=g.heap.size+1:=by simp
 rw[f] at i⊢;have B:Below (g.heap.size+1) (g.alloc (.cells (aU o) 46)) E:=by rw[<-f];exact B
 have d6:((9:Nat):Int)=9:=rfl;have h:ah E g.heap.size 46 (aU o):=(B.block _ W).trans (ah.new g 46 _);have r:ah E w.heap.size 46 (aU x):=(B.block _ W).trans (b5.U.alloc _);have s:ah E L.heap.size 46 (aU y):=(B.block _ W).trans (b6.U.alloc _);have p:BW w E:=F.U.trans (((bz g.heap.size g).alloc (aW _) (.cells (aU o) 46)).trans (B.mono (gh _))|>.mono F.U.size);have c6:=λ j=>run_copy_row (P:=prog) E 186 186 j 46 g.heap.size 0 9 9 ⟨g.heap.size+1,0,none⟩ 4 4 (aU o) 46 (aU z).toList underlying186 V h (by simp[aU,d]) (λ j v Q=>by
  rw[iF,eu,i.cell];simpa using Q) (by rw[c5];simp[aU,d]) (um _)
 have e1:((aU o).toList.take 0++(aU z).toList++(aU o).toList.drop (0+(aU z).toList.length)).toArray=aU (z++List.replicate 5 0):=by
  have:(aU z).toList.length=4:=by simp[aU,d]
  rw[this,pU,fV,eu];have hd:(aU o).toList.drop 4=(aU (List.replicate 5 0)).toList:=by simpa[aU] using c4
  rw[hd];simp[aU]
 have q:(aU z).toList.length=4:=by simp[aU,d]
 rw[e1,q] at c6;have k:pW w (E.setRow g.heap.size (aU (z++List.replicate 5 0))) w.heap.size L.heap.size g.heap.size x y (z++List.replicate 5 0):=
  ⟨bY p (by have:=F.U.size;omega) _,F.U.size,r.cJ _ W,s.cJ _ W,h.setRow _,by omega,by omega⟩
 generalize E.setRow g.heap.size (aU (z++List.replicate 5 0))=f6 at*;have M:=Z (And.intro d (And.intro t u));have l:=Z k;clear i d t u B h r s p e1 k q f A
 go_wp2
 go_loopw [30] (λ i wr=>∃(k:Nat) (t:List Nat),k<=4/\i=O (k:Int)/\pW w wr w.heap.size L.heap.size g.heap.size x y t/\SC.pG t (SC.mulN x y z k 0) k 0) (λ i _=>4-(intOf i).toNat)
 case atStart=>
  refine⟨0,_,by omega,rfl,l.U,⟨by rw[bA,M.U.1];rfl,?_,by decide,?_⟩⟩
  ·intro d hd;rcases eJ.1 hd with h|h
   ·exact M.U.2.1 d h
   ·rw[(List.mem_replicate.1 h).2];decide
  ·rw[SC.yy,SC.DC,SC.Vj];omega
 case round=>
  clear l;obtain⟨i,t,d2,rfl,f,d⟩:=hrel;by_cases b1:i<4
  ·obtain⟨p,l⟩:∃p,x[i]?=some p:=⟨_,ba (by rw[H.U.1];exact b1)⟩;have b3:=H.U.2.1.get l;have a7:=(f.x.cell i).trans (lv l);have a6:=Z l;have r:=Z f;have G:=Z d;have d7:(0:Int)<=(i:Int):=by omega
   have d8:(i:Int)<4:=by omega
   clear l f d
   go_wp2
   clear a7
   go_loopw [37,12] (λ l a0 v=>∃(j:Nat) (t:List Nat) (c:Nat),j<=4/\l=O (j:Int)/\a0=U (c:Int)/\pW w v w.heap.size L.heap.size g.heap.size x y t/\SC.pG t (SC.mulN x y z i j) (i+j) c) (λ l _ _=>4-(intOf l).toNat)
   case atStart=>exact⟨0,t,0,by omega,rfl,rfl,r.U,G.U⟩
   case round=>
    clear r G;obtain⟨j,t,c,d3,rfl,rfl,f,d⟩:=hrel;by_cases b2:j<4
    ·obtain⟨q,R⟩:∃q,y[j]?=some q:=⟨_,ba (by rw[I.U.1];exact b2)⟩;have a3:=I.U.2.1.get R;obtain⟨s,C⟩:∃s,t[i+j]?=some s:=⟨_,ba (by rw[d.len];omega)⟩;have S:=d.ok.get C;obtain⟨h,l,c8,N,c7,c9,A,K,e1,e2,e3,e4,e5,e6,e7,e8,e9,a8,a9,c1,c2,c3⟩:=Rn p q c s b3 a3 d.a S;have D:=d.mul C e9 a8 a9;rw[SC.Vi a6.U R] at D;have a7:=(f.y.cell j).trans (lv R);obtain⟨u,a2⟩:∃u,i+j=u:=⟨_,rfl⟩;rw[a2] at C D;have c0:=(f.t.cell u).trans (lv C);have f1:=f.t.frozen u;have X:=λ v=>AK l c v;have b9:=λ v=>AK s c7 v;rw[e3,e4] at X;rw[e6,e7] at b9;have f0:(i:Int)+(j:Int)=(u:Int):=by omega
     have a5:IntKind.i64.wrap (u:Int)=(u:Int):=bd _ W;have f2:(h:Int)+(c8:Int)=(N:Int):=by omega
     have f3:IntKind.u64.wrap (N:Int)=(N:Int):=by rw[rh];omega
     have f4:(N:Int)+(c9:Int)=(A:Int):=by omega
     have f5:IntKind.u64.wrap (A:Int)=(A:Int):=by rw[rh];omega
     have d9:(0:Int)<=(j:Int):=by omega
     have e0:(j:Int)<4:=by omega
     have d0:(0:Int)<=(u:Int):=by omega
     have d1:(u:Int)<9:=by omega
     have a4:=λ v=>Vd p q b3 a3 v;rw[e1,e2] at a4;have b8:=Z a4;have T:=Z D;have r:=Z f;have b7:=Z a2;clear D f d R C e1 e2 e3 e4 e5 e6 e7 e8 e9 a8 a9 c1 c2 c3 a3 S a2 a4
     go_wp2_with((go_at_call 115;refine(b8.U _).mono ?_;rintro e a8 ⟨rfl,rfl⟩))
     refine⟨⟨j+1,_,A,by omega,by go_num,rfl,r.U.set u K,?_⟩,?_⟩
     ·rw[show i+(j+1)=u+1 by have:=b7.U;omega];exact T.U
     ·simp[intOf];omega
    ·obtain rfl:j=4:=by omega
     rw[SC.Vh a6.U I.U.1] at d;have r:=Z f;have G:=Z d;have a5:IntKind.i64.wrap ((i:Int)+4)=(i:Int)+4:=bd _ W;have R:=SC.Vg (i:=i+1) H.U.2.1 I.U.2.1 M.U.2.1 H.U.1 I.U.1 M.U.1;have a2:=Z R;clear f d b2 R
     go_wp2
     clear a5
     go_loopw [18,12] (λ R a0 v=>∃(k:Nat) (t:List Nat) (c:Nat),k<=9/\R=O (k:Int)/\a0=U (c:Int)/\pW w v w.heap.size L.heap.size g.heap.size x y t/\SC.pG t (SC.mulN x y z (i+1) 0) k c) (λ R _ _=>9-(intOf R).toNat)
     case atStart=>exact⟨i+4,t,c,by omega,by go_num,rfl,r.U,G.U⟩
     case round=>
      clear r G;obtain⟨k,t,c,a3,rfl,rfl,f,d⟩:=hrel;by_cases R:c=0
      ·subst R;have r:=Z f;have G:ai (SC.pG t (SC.mulN x y z (i+1) 0) (i+1) 0):=Z ⟨d.len,d.ok,by decide,by have:=d.eq;omega⟩;clear f d
       go_wp2
       exact⟨⟨i+1,t,by omega,by go_num,r.U,G.U⟩,by simp[intOf];omega⟩
      ·have a4:k<9:=by
        rcases jk k 9 with h|h
        ·exact h
        ·obtain rfl:k=9:=by omega
         have N:=d.eq;have a0:=a2.U;have b0:1*18446744073709551616^9<=c*18446744073709551616^9:=lR _ W;omega
       obtain⟨s,C⟩:∃s,t[k]?=some s:=⟨_,ba (by rw[d.len];omega)⟩;have S:=d.ok.get C;have a0:=d.a;obtain⟨K,e1⟩:∃K,(s+c+0)%18446744073709551616=K:=⟨_,rfl⟩;obtain⟨A,e2⟩:∃A,(s+c+0)/18446744073709551616=A:=⟨_,rfl⟩;have D:=d.mul (m:=0) (z':=K) (c':=A) C W W W;rw[tn,hJ] at D;have c0:=(f.t.cell k).trans (lv C);have f1:=f.t.frozen k;have X:=λ v=>AK s c v;rw[e1,e2] at X;have v:0<c:=by omega
       have d0:(0:Int)<=(k:Int):=by omega
       have d1:(k:Int)<9:=by omega
       have T:=Z D;have r:=Z f;have a5:IntKind.i64.wrap ((k:Int)+1)=(k:Int)+1:=bd _ W;clear D f d C e1 e2 S a0 R a3
       go_wp2
       refine⟨⟨k+1,_,A,by omega,by go_num,rfl,r.U.set k K,T.U⟩,?_⟩;simp[intOf];omega
  ·obtain rfl:i=4:=by omega
   rw[SC.Vf H.U.1] at d;have Q:=d.eq;rw[tn,hJ,H.U.2.2,I.U.2.2,M.U.2.2] at Q;have u:=Z Q;have q:=b4.U.below f.aK b0;have h:=Z f.aK;have hcut:=J6 q _ t 9 d.len W f.t d.ok 9;have s:=Z hcut;clear Q q f d hcut b1
   go_wp2_with((go_at_call 112;refine s.U.mono ?_))
   rintro e A ⟨l,rfl,J,q,v,d⟩;have F:=Z (h.U.trans (J.mono h.U.size));have f:ai (FM.enc (SC.vW l)=qW a b c):=Z (by rw[d,u.U];rfl);clear J d
   go_wp2_with fail
   refine(Ku l q v _).mono ?_;rintro e C ⟨rfl,B⟩;have d:=Z (F.U.trans (B.mono F.U.size));rw[f.U];clear B
   go_wp2
   go_ret
   exact⟨rfl,d.U⟩
