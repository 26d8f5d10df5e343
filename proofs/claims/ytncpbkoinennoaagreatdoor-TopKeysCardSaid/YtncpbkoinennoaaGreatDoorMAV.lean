import Derived.Test.YtncpbkoinennoaaGreatDoorMAQ
import Derived.Test.YtncpbkoinennoaaGreatDoorMAT
set_option linter.all false
set_option maxRecDepth 100000
set_option maxHeartbeats 0
namespace Go.Proofs.YtncpbkoinennoaaGreatDoor
open Go.RowKit Proofs.Tryz
attribute [local irreducible] wpList Calls
namespace WD
abbrev qv(L:List UInt64):List ab:=L.map λ x=>U (x.toNat:Int)
def CP:(prog.info? 46).map (λ i=>(i.zero,i.size,i.bytes))=some (some (U 0),1,8):=by kernel_rfl
def QZ:cW 186 46 1 8:=cW.mk' uA CP rfl zD
def vY(x:UInt64)(n:Nat)(h1:1<=n)(f:n<64)(w:aa):Calls prog 206 #[U (x.toNat:Int),O (n:Int)] w λ e a=>e=ao (U ((WM.aL n x).toNat:Int))/\w=a:=by
 have d:=fq n _ _ (kR f) rfl rfl x;have hx:=x.toNat_lt;have a:x.toNat/2^n<18446744073709551616:=ui (ng _ _) hx;have c:((x.toNat:Int)*((2^(64-n):Nat):Int)%18446744073709551616)=((x.toNat*2^(64-n)%18446744073709551616:Nat):Int):=by rw[Int.natCast_emod,qc];rfl
 have b:bits .or .u64 ((x.toNat:Int)/((2^n:Nat):Int)) ((x.toNat:Int)*((2^(64-n):Nat):Int)%18446744073709551616)=((WM.aL n x).toNat:Int):=by
  rw[<-d,c,show(x.toNat:Int)/((2^n:Nat):Int)=((x.toNat/2^n:Nat):Int) from(FP _ _).symm,wC _ _ a (cy _ zD),wC _ _ (cy _ zD) a,uk]
 rw[qd,qd] at b;have e:ai (bits .or .u64 ((x.toNat:Int)/2^n) ((x.toNat:Int)*2^(64-n)%18446744073709551616)=((WM.aL n x).toNat:Int)):=Z b;have e1:IntKind.i64.wrap (64-(n:Int))=64-(n:Int):=aO _ W;have t1:(64-(n:Int)).toNat=64-n:=by omega
 have g:(0:Int)<=64-(n:Int):=by omega
 clear d c b a
 go_enter func206,ntmps206
 go_wp2
 go_ret
 exact⟨by rw[<-e.U];rfl,rfl⟩
def US(n:Nat):hO n 8=WM.len8 n:=by simp[hO,WM.len8]
def G2(n:Nat)(j:n<18446744073709551616)(w:aa):Calls prog 137 #[U (n:Int)] w λ e a=>(∃s:af,e=ao (ad s)/\s.data.toList=WM.len8 n/\s.size=8)/\BW w a:=by
 have d:∀(a:aa) (x:Int),(convert 29 9 (ag (some ⟨a.heap.size,0,none⟩) 1 1)).run prog (a.alloc (.cells #[.int .u8 x] 5))= .ok (ad (strOfNums [x])) (a.alloc (.cells #[.int .u8 x] 5)):=
  λ a x=>uT (P:=prog) a 29 9 5 [x] cP eJ df 1 1 rfl 5
 have p:=Z d;clear d;have o:=Z j;clear j
 go_enter func137,ntmps137
 go_upto_region 3 with fail
 go_loopw [0,3,4] (λ b a i c=>∃(k m:Nat) (e:af),k<=8/\i=O k/\b=U (m:Int)/\m=n/256^k/\a=ad e/\e.data.toList=hO n k/\BW w c) (λ _ _ i _=>8-(intOf i).toNat)
 case atStart=>exact⟨0,n,_,by omega,rfl,rfl,by simp,rfl,rfl,bp _ _⟩
 case round=>
  obtain⟨k,m,e,s,rfl,rfl,a,rfl,g,f⟩:=hrel;have l:n/256^(k+1)=m/256:=by rw[a,ca,gM]
  have h:m<=n:=by rw[a];exact ng _ _
  have i:hO n (k+1)=UInt8.ofNat m::hO n k:=by rw[a];rfl
  have r:=Z l;have q:=Z i;have c:=Z g;have b:=Z f;have t:=ui h o.U;clear l i g f a h;by_cases i:k<8
  ·have d1:decide ((k:Int)<8)=true:=aT W;have d:=p.U;have l:=λ x=>Mm [x];have h:e.size<=8:=by rw[ny,c.U,yz];omega
   have e1:IntKind.u64.wrap ((m:Int)/256)=((m/256:Nat):Int):=FR _ W
   go_wp2
   go_roundw
   case rel=>exact⟨k+1,m/256,_,by omega,by go_num,by go_num,r.U.symm,rfl,by rw[nx,c.U,q.U,BM];rfl,b.U.alloc b.U.size _⟩
   case measure=>simp[intOf];omega
  ·have d1:decide ((k:Int)<8)=false:=bm W;obtain rfl:k=8:=by omega
   have a:e.data.toList=WM.len8 n:=by rw[c.U,US]
   have f:=Z a;have g:ai (e.size=8):=Z (by rw[ny,a];rfl);clear a
   go_wp2
   go_ret
   exact⟨⟨_,rfl,f.U,g.U⟩,b.U⟩
def lq(n:Nat):Nat:=(239-n%128)%128
def Sz(n:Nat):List.replicate (lq n) (0:UInt8)++List.replicate 8 0=List.replicate (WM.cb n) 0++(if WM.cb n<8 then List.replicate 128 0 else []):=by
 rw[Np];split
 ·rw[Np];congr 1;unfold lq;unfold WM.cb at*;omega
 ·rw[oz];congr 1;unfold lq;unfold WM.cb at*;omega
def YT(s:af)(x:s.size<=100000000)(w:aa):CB 134 #[ad s] w (ad ⟨(WM.dF s.data.toList).toArray⟩):=by
 have i:=Z (λ n b a=>G2 n b a);have c:=Z (ae.start w [])
 go_enter func134,ntmps134
 go_upto_region 2 with fail
 go_loopg [3] (lq s.size) (λ q t wr=>∃(j:Nat) (b:af),j+q=lq s.size/\t=ad b/\b.data.toList=s.data.toList++[128]++List.replicate j 0/\w=wr)
 case atStart=>exact⟨0,_,dz _,rfl,by simp,rfl⟩
 case round=>
  obtain⟨j,b,d,rfl,f,rfl⟩:=hrel;have g:b.size=s.size+1+j:=by rw[ny,f];simp;omega
  have k:=Z f;have u:=Z g;have v:b.size<=100000200:=by unfold lq at d;omega
  by_cases h:j<lq s.size
  ·have r:((b.size:Int)%128 !=112)=true:=by rw[ml];unfold lq at h;omega
   have l:=Z d;clear f g d
   go_wp2
   go_roundg (gk-1)
   case measure=>have:=l.U;omega
   case rel=>exact⟨j+1,_,by have:=l.U;omega,rfl,by rw[nx,k.U,AJ];simp,rfl⟩
  ·have r:((b.size:Int)%128 !=112)=false:=by rw[sx];unfold lq at h d;omega
   obtain rfl:j=lq s.size:=by omega
   have e1:IntKind.u64.wrap ((s.size:Int)*8)=((s.size*8:Nat):Int):=by rw[FR _ W];omega
   have p:s.size*8<18446744073709551616:=by omega
   have o:=Z (i.U (s.size*8) p);have n:ai (∀a,Calls prog 137 #[U 0] a λ e m=>(∃t:af,e=ao (ad t)/\t.data.toList=WM.len8 0/\t.size=8)/\BW a m):=Z (λ a=>i.U 0 zD a);clear f g d h
   go_wp2_with(first|(go_at_call 137;refine(n.U _).mono ?_;rintro e t ⟨⟨t0,rfl,f,y⟩,a⟩;have h:=Z f;replace c:=Z (c.U.below a);clear f a)|(go_at_call 137;refine(o.U _).mono ?_;rintro e t ⟨⟨t1,rfl,g,z⟩,d⟩;have m:=Z g;replace c:=Z (c.U.below d);clear g d))
   go_ret
   have q:b++t0++t1=⟨(WM.dF s.data.toList).toArray⟩:=su (by
    rw[nx,nx,k.U,h.U,m.U];have e1:s.size=s.data.toList.length:=by simp
    have e2:=Sz s.size;unfold WM.dF;rw[<-e1,show WM.len8 0=List.replicate 8 0 from rfl];simp only[gK] at e2⊢;rw[<-gK (List.replicate (lq s.size) 0),e2];simp only[gK])
   exact⟨by rw[<-q];rfl,c.U.aq⟩
def Zm{w:aa}{A:Array ab}(L:List UInt64)(h:A=(qv L).toArray):ae w (w.alloc (.cells A 46)) [] [Y.row w.heap.size 46 (qv L)]:=by
 subst h;exact(ae.start w []).alloc _ 46
def Yx(w:aa):Calls prog 133 #[] w λ e a=>∃g,e=ao (ag (some ⟨g,0,none⟩) 80 80)/\ae w a [] [Y.row g 46 (qv WM.K)]:=by
 go_enter func133,ntmps133
 go_wp2
 refine lP rfl rfl rfl ⟨_,rfl,Zm WM.K ?_⟩;kernel_rfl
end WD
variable{g n:Nat}
namespace WD
def hE(a:Nat)(w:aa)(v:ab)(l:List UInt64):Prop:=∃g b,v=ag (some ⟨g,0,none⟩) l.length b/\a<=g/\g<w.heap.size/\∀i,i<l.length->w.cell? ⟨g,i,none⟩=some (U ((l.getD i 0).toNat:Int))
def hE.mono{w:aa}{v:ab}{l:List UInt64}(h:hE g w v l)(e:n<=g):hE n w v l:=by
 obtain⟨b,a,c,d,r⟩:=h;exact⟨b,a,c,by omega,r⟩
def hE.new(w:aa)(t:TypeId)(l:List UInt64)(a:Nat):hE w.heap.size (w.alloc (.cells (br l) t)) (ag (some ⟨w.heap.size,0,none⟩) l.length a) l:=
 ⟨_,_,rfl,aQ _,by simp,λ i b=>by
  rw[(ah.new w t (br l)).cell]
  exact pF l i b⟩
def Uh(x:UInt64):(18446744073709551615:Int)-(x.toNat:Int)=((jW x).toNat:Int):=wD x
def Ug(x:UInt64):(x.toNat:Int)%18446744073709551616=(x.toNat:Int):=by have:=x.toNat_lt;omega
def hE.Dj(w:aa)(t:TypeId)(a b c d e f g h:UInt64):hE w.heap.size (w.alloc (.cells #[U (a.toNat:Int),U (b.toNat:Int),U (c.toNat:Int),U (d.toNat:Int),U (e.toNat:Int),U (f.toNat:Int),U (g.toNat:Int),U (h.toNat:Int)] t)) (ag (some ⟨w.heap.size,0,none⟩) 8 8) [a,b,c,d,e,f,g,h]:=hE.new w t [a,b,c,d,e,f,g,h] 8
def A3(w:aa)(l:List UInt64)(e:Ending)(a:aa):Prop:=(∃v,e=ao v/\hE w.heap.size a v l)/\BW w a
def CU(x:UInt64):IntKind.u64.wrap (x.toNat:Int)=(x.toNat:Int):=FR _ (by have:=x.toNat_lt;omega)
def ze(x:UInt64)(n:Int)(h1:1<=n)(h2:n<64)(w:aa):Calls prog 206 #[U (x.toNat:Int),O n] w λ e a=>e=ao (U ((WM.aL n.toNat x).toNat:Int))/\w=a:=by
 have h:=vY x n.toNat W W w;rwa[show((n.toNat:Nat):Int)=n by omega] at h
def YW{w:aa}{base:Nat}{x:ab}{v:WM.V8}(h:hE base w x (vl v))(k l:UInt64):
 Calls prog 136 #[x,U (k.toNat:Int),U (l.toNat:Int)] w (A3 w (vl (WM.iJ v k l))):=by
 obtain⟨g,r,rfl,-,m,i⟩:=h
 obtain⟨a,b,c,d,e,f,j,h⟩:=v
 have s:w.cell? ⟨g,0,none⟩=some (U (a.toNat:Int)):=i 0 (show 0<8 by decide)
 have t:w.cell? ⟨g,1,none⟩=some (U (b.toNat:Int)):=i 1 (show 1<8 by decide)
 have u:w.cell? ⟨g,2,none⟩=some (U (c.toNat:Int)):=i 2 (show 2<8 by decide)
 have y:w.cell? ⟨g,3,none⟩=some (U (d.toNat:Int)):=i 3 (show 3<8 by decide)
 have z:w.cell? ⟨g,4,none⟩=some (U (e.toNat:Int)):=i 4 (show 4<8 by decide)
 have A:w.cell? ⟨g,5,none⟩=some (U (f.toNat:Int)):=i 5 (show 5<8 by decide)
 have B:w.cell? ⟨g,6,none⟩=some (U (j.toNat:Int)):=i 6 (show 6<8 by decide)
 have C:w.cell? ⟨g,7,none⟩=some (U (h.toNat:Int)):=i 7 (show 7<8 by decide)
 clear i m
 have o:=iU;have U2:=oX;have p:=Uh;have q:=Ug
 rw[show(vl ⟨a,b,c,d,e,f,j,h⟩).length=8 from rfl]
 go_enter func136,ntmps136
 go_wp2
 go_quiet (fail)
 go_wp2
 go_quiet ((go_at_call 206;exact(ze e _ zD zD _).mono λ _ _ ⟨i,m⟩=>⟨i,_,m.symm⟩))
 rw[CU (jW e),oX,iU,zn]
 generalize i:h+cp (cp (WM.aL 14 e) (WM.aL 18 e)) (WM.aL 41 e)+cp (dY e f) (dY (jW e) j)+k+l=X
 have m:ai (WM.rx ⟨a,b,c,d,e,f,j,h⟩ k l=X):=Z i
 clear i
 go_wp2_with((go_at_call 206;refine(ze a _ zD zD _).mono ?_;rintro e D ⟨rfl,rfl⟩))
 simp only[tA]
 have i:vl (WM.iJ ⟨a,b,c,d,e,f,j,h⟩ k l)=[X+(cp (cp (WM.aL 28 a) (WM.aL 34 a)) (WM.aL 39 a)+cp (cp (dY a b) (dY a c)) (dY b c)),a,b,c,d+X,e,f,j]:=by
  unfold WM.iJ;rw[m.U];rfl
 have n:=Z i;clear i
 go_ret
 exact⟨⟨_,rfl,by rw[n.U];exact hE.Dj (w.drewN _) 46 _ _ _ _ _ _ _ _⟩,(gv (bp _ _) _).alloc (aQ _) _⟩
end WD
variable{r:Int}{t:TypeId}
namespace WD
def WJ{w wr:aa}{v:ab}{b:List ab}(h:ae w wr [] [Y.ow t g v n b]):wr.ownsRow w.heap.size t g v n b:=by
 have k:wr.ownsRow 0 t g v n b:=h.get (i:=0) rfl;rcases k with⟨d,j|⟨c,e,f,rfl,l,r⟩⟩
 ·exact⟨d,.inl j⟩
 ·refine⟨d,.inr ⟨c,e,f,rfl,?_,r⟩⟩;rcases h.own c (by simp[blocks,Y.ow,Value.ownBlock]) with a|a
  ·cases a
  ·exact a
structure QW(w wr:aa)(v:ab)(l:List UInt64):Prop where
 own:wr.ownsRow w.heap.size 46 1 v l.length (qv l)
 aJ:BW w wr
def QW.append{w wr a X:aa}{v d:ab}{l:List UInt64}(h:QW w wr v l)(b:BW wr X)(x:UInt64)(i:l.length=g)(m:a.ownsRow w.heap.size 46 1 d (g+1) (qv l++[U r]))(e:X.grownBy a v.ownBlock)(j:r=(x.toNat:Int)):QW w a d (l++[x]):=by
 subst i j;refine⟨?_,?_⟩
 ·rw[bV,qv,jy];exact m
 ·have c:=h.aJ.size;exact(h.aJ.trans (b.mono c)).grown e (hy c b.size) (λ k f=>(h.own.lt k f).1)
def QW.form{w wr:aa}{v:ab}{l:List UInt64}(h:QW w wr v l)(m:0<l.length):∃g a,v=ag (some ⟨g,0,none⟩) l.length a/\w.heap.size<=g/\g<wr.heap.size/\∀i,i<l.length->wr.cell? ⟨g,i,none⟩=some (U ((l.getD i 0).toNat:Int)):=by
 rcases h.own.2 with⟨b,f⟩|⟨g,a,j,b,d,e,f,n,k,o⟩
 ·omega
 ·refine⟨g,a,b,d,(mT.1 e).1,λ i c=> ?_⟩;subst b;have:=h.own.cells rfl i (U ((l.getD i 0).toNat:Int)) (by rw[ef,aU c,dc,aU c];rfl);rw[gp,dz] at this;exact this
def QW.post{w wr:aa}{v:ab}{l:List UInt64}(h:QW w wr v l)(e:0<l.length):A3 w l (ao v) wr:=by
 obtain⟨g,a,f,b,d,c⟩:=h.form e;exact⟨⟨v,rfl,g,a,f,b,d,c⟩,h.aJ⟩
def Ui(v a z b:UInt64):IntKind.u64.wrap (IntKind.u64.wrap (IntKind.u64.wrap ((v.toNat:Int)+(a.toNat:Int))+(z.toNat:Int))+(b.toNat:Int))=((v+z+a+b).toNat:Int):=by
 simp only[tA];rw[UInt64.add_assoc v z a,UInt64.add_comm z a,<-UInt64.add_assoc]
def abY(b:List UInt8)(i:Nat):WM.wl b (i+1)=WM.wl b i++[WM.fS b (WM.wl b i)]:=rfl
def Y7(s:af)(c:s.size=128)(w:aa):Calls prog 135 #[ad s] w (A3 w (WM.wl s.data.toList 80)):=by
 obtain⟨a0,Q,S,T,X⟩:=iB CP;have a:=Z (ae.start w []);have k:ai (s.data.toList.length=128):=Z (by simpa using c);have h128:128<=s.size:=by omega
 clear c
 go_enter func135,ntmps135
 go_upto_region 3 with((with_reducible show cn);(refine Mk a.U rfl 10 rfl (some 0) 46 [] (by go_simp;rfl) ?_;intro a7 M a8 b;replace a:=Z b;clear b;simp only[bc]))
 replace a:=Z (pL a.U 0 rfl 0 0 1 (aQ _) (bf _) rfl [] rfl)
 go_loopw [3,4] (λ v f wr=>∃(i:Nat) (A:Option Addr) (C:Nat),i<=16/\f=O (i:Int)/\v=ag A i C/\ae w wr [] [Y.ow 46 1 (ag A i C) i (qv (WM.wl s.data.toList i))]) (λ _ f _=>16-(intOf f).toNat)
 case atStart=>exact⟨0,_,_,bf _,rfl,rfl,a.U⟩
 case round=>
  clear a;obtain⟨i,A,C,t,rfl,rfl,c⟩:=hrel;have a:=Z c;clear c;by_cases E:i<16
  ·have d1:decide ((i:Int)<16)=true:=aT W;have e1:IntKind.i64.wrap ((i:Int)+1)=((i+1:Nat):Int):=aO _ W;have I:=Z (vF s.data.toList i E);obtain⟨P,d⟩:∃P,(s.data.toList.drop (8*i)).take 8=P:=⟨_,rfl⟩;have p:ai (P.length=8):=Z (by rw[<-d,eA,lT,k.U];omega);have N:ai (∀j (r:j<8) (h:8*i+j<s.size),∃e:j<P.length,P[j]=s[8*i+j]):=Z (λ j r h=>⟨by rw[p.U];exact r,by
    subst d;rw[FW,List.getElem_drop];rfl⟩)
   rw[d] at I;clear d
   go_upto_region 7 with fail
   go_loopw [5,6] (λ e d wr=>∃(j m:Nat),j<=8/\d=O (j:Int)/\e=U (m:Int)/\m=WM.iu (P.take j)/\ae w wr [] [Y.ow 46 1 (ag A i C) i (qv (WM.wl s.data.toList i))]) (λ _ d _=>8-(intOf d).toNat)
   case atStart=>exact⟨0,0,bf _,rfl,rfl,rfl,a.U⟩
   case round=>
    clear a;obtain⟨j,m,l,rfl,rfl,e,c⟩:=hrel;have a:=Z c;have d:=Z e;have g:=WM.xD P j (by rw[p.U];exact l);rw[<-e] at g;have x:256^j<=256^8:=kU zD l;clear c e;by_cases r:j<8
    ·have d2:decide ((j:Int)<8)=true:=aT W;have D:256^j<=256^7:=kU zD W;have q:8*i+j<s.size:=by omega
     obtain⟨u,n⟩:=N.U j r q;have h:=WM.GQ P j u;rw[<-d.U,n] at h;have F:=(s[8*i+j]).toNat_lt;have o:=Z h;have y:IntKind.i64.wrap (8*(i:Int))=8*(i:Int):=aO _ W;have z:IntKind.i64.wrap (8*(i:Int)+(j:Int))=8*(i:Int)+(j:Int):=aO _ W;have t1:(8*(i:Int)+(j:Int)).toNat=8*i+j:=by omega
     have G:(0:Int)<=8*(i:Int)+(j:Int):=by omega
     have H:8*(i:Int)+(j:Int)<(s.size:Int):=by omega
     have e2:IntKind.i64.wrap ((j:Int)+1)=((j+1:Nat):Int):=aO _ W;clear h n
     go_wp2
     go_roundw
     case rel=>exact⟨j+1,m*256+(s[8*i+j]).toNat,by omega,by go_num,by congr 1,o.U.symm,a.U⟩
     case measure=>simp[intOf];omega
    ·have d2:decide ((j:Int)<8)=false:=bm W;obtain rfl:j=8:=by omega
     have h:(m:Int)=((WM.fS s.data.toList (WM.wl s.data.toList i)).toNat:Int):=by
      rw[I.U,uF,bY]
      ·rw[d.U,bK (by rw[p.U];exact aQ _)]
      ·have:=d.U;rw[bK (by rw[p.U];exact aQ _)] at this;rw[<-this];exact g
     have n:=Z h;clear h g x
     go_wp2_with(first|((with_reducible show cn);(refine Mk a.U rfl 31 rfl (some 1) 46 [U (m:Int)] (by go_simp;rfl) ?_;intro h M B b;replace a:=Z b;clear b;simp only[bc]))|(refine Ap a.U rfl QZ rfl 1 rfl rfl 0 rfl rfl rfl rfl (by unfold maxLen;omega) W ?_;intro x g M b;simp only[av,ax] at b;replace a:=Z b;clear b))
     go_roundw
     case rel=>exact⟨i+1,_,_,by omega,by go_num,rfl,by rw[abY,qv,jy,bZ,eg,<-n.U];exact a.U.tail⟩
     case measure=>simp[intOf];omega
  ·have d1:decide ((i:Int)<16)=false:=bm W;obtain rfl:i=16:=by omega
   have d:ai (QW w wr (ag A 16 C) (WM.wl s.data.toList 16)):=Z ⟨by rw[WM.cU];exact WJ a.U,a.U.aq⟩;clear a E t k
   go_upto_region 12 with fail
   rw[show((16:Nat):Int)=16 from rfl]
   go_loopw [3,7] (λ v f wr=>∃k:Nat,16<=k/\k<=80/\f=O (k:Int)/\QW w wr v (WM.wl s.data.toList k)) (λ _ f _=>80-(intOf f).toNat)
   case atStart=>exact⟨16,by omega,by omega,rfl,d.U⟩
   case round=>
    clear d;obtain⟨k,b0,a9,rfl,f⟩:=hrel;by_cases E:k<80
    ·have o:=WM.cU s.data.toList k;obtain⟨g,q,R,-,u,h⟩:=f.form W;subst R;rw[o] at h;have B:=h (k-15) W;have D:=h (k-2) W;have l:=h (k-16) W;have n:=h (k-7) W;have t:=vE s.data.toList k W;have a:=f.own;rw[o] at a;have d:=Z f;rw[o];clear f h u;generalize(WM.wl s.data.toList k).getD (k-15) 0=x at*;generalize(WM.wl s.data.toList k).getD (k-2) 0=y at*;generalize(WM.wl s.data.toList k).getD (k-16) 0=v at*;generalize(WM.wl s.data.toList k).getD (k-7) 0=z at*;have K:=Z t;have J:=Z o;clear t o;have d2:decide ((k:Int)<80)=true:=aT W;have a3:IntKind.i64.wrap ((k:Int)-15)=(k:Int)-15:=aO _ W;have a5:IntKind.i64.wrap ((k:Int)-2)=(k:Int)-2:=aO _ W;have a4:IntKind.i64.wrap ((k:Int)-16)=(k:Int)-16:=aO _ W;have a6:IntKind.i64.wrap ((k:Int)-7)=(k:Int)-7:=aO _ W;have t15:((k:Int)-15).toNat=k-15:=by omega
     have t2:((k:Int)-2).toNat=k-2:=by omega
     have t16:((k:Int)-16).toNat=k-16:=by omega
     have t7:((k:Int)-7).toNat=k-7:=by omega
     have p2:(0:Int)<=(k:Int)-2:=by omega
     have m15:(15:Int)<=(k:Int):=by omega
     have m2:(2:Int)<=(k:Int):=by omega
     have m16:(16:Int)<=(k:Int):=by omega
     have m7:(7:Int)<=(k:Int):=by omega
     have vR:(k:Int)-15<(k:Int):=by omega
     have q2:(k:Int)-2<(k:Int):=by omega
     have vS:(k:Int)-16<(k:Int):=by omega
     have q7:(k:Int)-7<(k:Int):=by omega
     have a2:=iU
     go_wp2
     go_quiet ((go_at_call 206;exact(ze x _ zD zD _).mono λ _ _ ⟨t,e⟩=>⟨t,_,e.symm⟩))
     rw[L4,CU (WM.shr 7 x),iU];generalize h:cp (cp (WM.aL 1 x) (WM.aL 8 x)) (WM.shr 7 x)=o;have F:ai (WM.tE x=o):=Z h;have u:ai (QW w (wr.drewN nq) (ag (some ⟨g,0,none⟩) k q) (WM.wl s.data.toList k)):=Z ⟨by rw[J.U];exact a,gv d.U.aJ nq⟩;replace D:(wr.drewN nq).cell? ⟨g,k-2,none⟩=some (U y.toNat):=D;replace l:(wr.drewN nq).cell? ⟨g,k-16,none⟩=some (U v.toNat):=l;replace n:(wr.drewN nq).cell? ⟨g,k-7,none⟩=some (U z.toNat):=n;replace a:(wr.drewN nq).ownsRow w.heap.size 46 1 (ag (some ⟨g,0,none⟩) k q) k (qv (WM.wl s.data.toList k)):=a;clear h d B;generalize wr.drewN nq=h at*
     go_wp2
     go_quiet ((go_at_call 206;exact(ze y _ zD zD _).mono λ _ _ ⟨t,e⟩=>⟨t,_,e.symm⟩))
     rw[L3,CU (WM.shr 6 y),iU];generalize L:cp (cp (WM.aL 19 y) (WM.aL 61 y)) (WM.shr 6 y)=t;have G:ai (WM.tF y=t):=Z L;have B:ai (QW w (h.drewN nq) (ag (some ⟨g,0,none⟩) k q) (WM.wl s.data.toList k)):=Z ⟨u.U.own,gv u.U.aJ nq⟩;replace l:(h.drewN nq).cell? ⟨g,k-16,none⟩=some (U v.toNat):=l;replace n:(h.drewN nq).cell? ⟨g,k-7,none⟩=some (U z.toNat):=n;replace a:(h.drewN nq).ownsRow w.heap.size 46 1 (ag (some ⟨g,0,none⟩) k q) k (qv (WM.wl s.data.toList k)):=a;have H:ai (WM.fS s.data.toList (WM.wl s.data.toList k)=v+z+o+t):=Z (by rw[K.U,F.U,G.U]);clear L u D K F G;generalize h.drewN nq=u at*
     go_wp2
     go_region_law (refine ER rfl _ _ 186 rfl w.heap.size 46 a0 (U 0) 8 uA Q S T X rfl _ _ _ rfl (Dx a _).drew u.heap.size rfl _ (BX u _ _) rfl (by unfold maxLen;omega) W (by have:=B.U.aJ.size;simp;omega) ?_;intro L a1 F D K)
     all_goals
      have G:ai (QW w a1 L (WM.wl s.data.toList (k+1))):=Z (B.U.append ((bJ u _).drew) _ J.U F D (by rw[H.U];exact Ui v o z t));clear F D K a B H l n
      go_wp2
      go_roundw
      case rel=>exact⟨k+1,by omega,by omega,by go_num,G.U⟩
      case measure=>simp[intOf];omega
    ·obtain rfl:k=80:=by omega
     have d:=Z f;have d2:decide (((80:Nat):Int)<80)=false:=by decide
     clear f
     go_wp2
     go_ret
     exact d.U.post (by rw[WM.cU];omega)
end WD
namespace WD
def BF:(#[U 7640891576956012808,U 13503953896175478587,U 4354685564936845355,U 11912009170470909681,U 5840696475078001361,U 11170449401992604703,U 2270897969802886507,U 6620516959819538809]:Array ab)=br (vl WM.eK):=by kernel_rfl
structure kY(w wr:aa)(gk:Nat)(hs:List UInt64):Prop where
 aJ:BW w wr
 h:ah wr w.heap.size 46 (br hs)
 k:w.heap.size<gk/\gk<wr.heap.size/\∀i,i<80->wr.cell? ⟨gk,i,none⟩=some (U ((WM.K.getD i 0).toNat:Int))
def kY.below{w wr c:aa}{gk:Nat}{b:List UInt64}(h:kY w wr gk b)(a:BW wr c):kY w c gk b:=
 ⟨h.aJ.trans (a.mono h.aJ.size),(a.block _ h.h.lt).trans h.h,h.k.1,kS h.k.2.1 a.size,λ i d=>(a.cell (p:=⟨gk,i,none⟩) h.k.2.1).trans (h.k.2.2 i d)⟩
def kY.set{w wr:aa}{gk:Nat}{a b:List UInt64}(h:kY w wr gk a)(i:Nat)(u:ab)(c:(br a).setIfInBounds i u=br b):kY w (wr.setCell ⟨w.heap.size,i,none⟩ u) gk b:=
 ⟨h.aJ.setCell (p:=⟨w.heap.size,i,none⟩) (aQ _) u,by rw[<-c];exact h.h.dx i u,h.k.1,by simpa[World.setCell] using h.k.2.1,λ j d=>by
  have e:gk≠w.heap.size:=by have:=h.k.1;omega
  exact(World.jI (tQ wr ⟨w.heap.size,i,none⟩ u gk e)).trans (h.k.2.2 j d)⟩
def XJ(l:List UInt64)(i:Nat)(x:UInt64):(br l).setIfInBounds i (U (x.toNat:Int))=br (l.set i x):=by
 simp only[br,qh,lU];rfl
def ji(l:List UInt64)(k:Nat):List UInt8:=(l.take k).flatMap λ x=>WM.len8 x.toNat
def Dv(v:WM.V8):ji (vl v) 8=WM.U v:=by rfl
def vM(l:List UInt64)(k:Nat)(h:k<l.length):ji l (k+1)=ji l k++WM.len8 (l.getD k 0).toNat:=by
 unfold ji;rw[eC h,FV,dc,aU h];simp
def vL(l:List UInt64):∀k,k<=l.length->(ji l k).length=8*k
 |0,_=>rfl
 |k+1,h=>by rw[vM l k W,bV,vL l k W];rfl
def EM{X:aa}{l:List UInt64}(h:ah X g 46 (br l))(c:Nat):Src prog 1 186 (ag (some ⟨g,0,none⟩) l.length c) l.length (qv l) X:=by
 refine qw X uA _ _ _ _ zS (λ j u a=> ?_) (λ u a=>DU l u (by
  have:u∈l.map tu:=a;simpa[br] using this))
 rw[gp,dz,h.cell];have:(l.map tu)[j]?=some u:=a;simpa[br] using this
def QW.read{w wr:aa}{v:ab}{l:List UInt64}(h:QW w wr v l)(e:0<l.length):hE w.heap.size wr v l:=by
 obtain⟨g,a,f,b,d,c⟩:=h.form e;exact⟨g,a,f,b,d,c⟩
def XL{w:aa}:∀{a:aa} {g:Nat},ae w a [] [Y.row g 46 (qv WM.K)]->w.heap.size<=g/\g<a.heap.size/\∀i,i<80->a.cell? ⟨g,i,none⟩=some (U ((WM.K.getD i 0).toNat:Int)):=by
 intro a g h;refine⟨?_,h.lt g (by simp[blocks,Y.row]),λ i c=> ?_⟩
 ·rcases h.own g (by simp[blocks,Y.row]) with b|b
  ·cases b
  ·exact b
 ·have d:ah a g 46 (br WM.K):=h.row (i:=0) rfl;rw[d.cell];exact pF WM.K i c
def WU(l:List UInt8):(WM.dF l).length<=l.length+300:=by
 unfold WM.dF;split<;>simp[WM.sW]<;>unfold WM.cb at* <;>omega
def abz(x:UInt64):x.toNat<18446744073709551616:=x.toNat_lt
def wb(s:af)(b2:s.size<=100000000)(w:aa):CB 55 #[ad s] w (ad ⟨(WM.sum s.data.toList).toArray⟩):=by
 obtain⟨b6,o,b3,b4,b5⟩:=iB CP
 go_enter func55,ntmps55
 go_wp2_with fail
 rw[BF];refine(Yx _).mono ?_;rintro e b8 ⟨gk,rfl,c⟩;have a:=c.aq;obtain⟨f,g,h⟩:=XL c;have d:kY w b8 gk (vl WM.eK):=⟨(bJ w _).trans (a.mono zS),(a.block _ zS).trans (ah.new w 46 _),by simp at f;omega,g,h⟩;have b:=Z d;clear f g h a d c
 go_wp2_with fail
 refine(YT s b2 _).mono ?_;rintro e b9 ⟨rfl,a⟩;have d:=Z (b.U.below a);clear b a;have f:=WU s.data.toList;have k:=WM.tm s.data.toList;have g:s.data.toList.length=s.size:=by simp
 have a5:ai (WM.sum s.data.toList=WM.U (WM.chain (WM.dF s.data.toList) ((WM.dF s.data.toList).length/128))):=Z rfl;rw[g] at f;generalize i:WM.dF s.data.toList=P at*;obtain⟨t,a⟩:∃t:af,t=⟨P.toArray⟩:=⟨_,rfl⟩;rw[<-a];have b:t.data.toList=P:=by rw[a]
 have m:t.size=P.length:=by rw[ny,b]
 have j:P.length=128*(P.length/128):=by omega
 have c6:P.length/128<=2000000:=by omega
 generalize P.length/128=B at*;have h:t.size=128*B:=by omega
 have a6:=Z b;have F:=Z h;clear f k g i a b m j h
 go_wp2
 go_loopw [6] (λ i wr=>∃q A:Nat,q<=B/\A=128*q/\i=O (A:Int)/\kY w wr gk (vl (WM.chain P q))) (λ i _=>128*B-(intOf i).toNat)
 case atStart=>exact⟨0,0,by omega,rfl,rfl,d.U⟩
 case round=>
  clear d;obtain⟨q,A,d0,E,rfl,a⟩:=hrel;have z:=Z a;clear a;by_cases c9:q<B
  ·have a9:(A:Int)<(t.size:Int):=by have:=F.U;omega
   have c4:A+128<=t.size:=by have:=F.U;omega
   have c5:A<=300000000:=by omega
   have a:ai ((t.extract A (A+128)).data.toList=(P.drop (128*q)).take 128):=Z (by rw[uL,a6.U,E];simp);have X:ai ((t.extract A (A+128)).size=128):=Z (by simp_all);have a0:ai (WM.chain P (q+1)=WM.gu (WM.chain P q) (WM.rounds (WM.wl ((P.drop (128*q)).take 128) 80) (WM.chain P q) 80)):=Z rfl;have a1:ai (WM.wl (t.extract A (A+128)).data.toList 80=WM.wl ((P.drop (128*q)).take 128) 80):=Z (by rw[a.U]);have r:=Z E;have b:=WM.cU ((P.drop (128*q)).take 128) 80;generalize WM.wl ((P.drop (128*q)).take 128) 80=g at*;generalize WM.chain P q=H at*;have a2:=Z b;clear E b a
   go_wp2_with fail
   refine(Y7 (t.extract A (A+128)) X.U _).mono ?_;rintro e f ⟨⟨d2,rfl,K⟩,j⟩;rw[a1.U] at K;have h:=z.U.below j;obtain⟨D,c0,rfl,m,k,a⟩:=K;rw[a2.U] at a⊢;have u:=Z a;have b:=Z h;have d:=Z k;clear m k a j h;have y:(f.alloc (.cells #[] 46)).ownsRow f.heap.size 46 1 (ag (some ⟨f.heap.size,0,none⟩) 0 0) 0 []:=sj f #[] 0 (aQ _) zD rfl;have G:Src prog 1 186 (ag (some ⟨w.heap.size,0,none⟩) 8 8) 8 (qv (vl H)) (f.alloc (.cells #[] 46)):=EM (l:=vl H) (b.U.h.alloc _) 8
   go_wp2_with(at_builtin;refine mM rfl _ _ 186 186 rfl f.heap.size 46 b6 _ 1 8 uA o b3 b4 b5 rfl _ _ _ rfl y _ 8 (qv (vl H)) rfl G zD zD zS ?_)
   intro Q j C x I;have a:BW f j:=(bJ f _).grown x zS (by intro k c;simp[Value.ownBlock] at c;omega);have v:hE f.heap.size j Q (vl H):=QW.read ⟨C,a⟩ (show 0<8 by decide);have h:=Z (b.U.below a);have m:ai (D<j.heap.size/\∀i,i<80->j.cell? ⟨D,i,none⟩=some (U ((g.getD i 0).toNat:Int))):=Z ⟨kS d.U a.size,λ i o=>(a.cell (p:=⟨D,i,none⟩) d.U).trans (u.U i o)⟩;have n:ai (hE (w.heap.size+1) j Q (vl H)):=Z (v.mono (by have:=b.U.h.lt;omega));clear v a C x I G y b u d z
   go_wp2
   go_loopw [8,9] (λ v i a=>∃k:Nat,k<=80/\i=O (k:Int)/\BW j a/\hE (w.heap.size+1) a v (vl (WM.rounds g H k))) (λ _ i _=>80-(intOf i).toNat)
   case atStart=>exact⟨0,by omega,rfl,bp _ _,n.U⟩
   case round=>
    clear n;obtain⟨k,c,rfl,d,G⟩:=hrel;by_cases a:k<80
    ·have c1:=(h.U.below d).k.2.2 k a;have c3:=(d.cell (p:=⟨D,k,none⟩) m.U.1).trans (m.U.2 k a);have a4:ai (WM.rounds g H (k+1)=WM.iJ (WM.rounds g H k) (WM.K.getD k 0) (g.getD k 0)):=Z rfl;have b0:=d.size;have d1:=h.U.h.lt;generalize WM.rounds g H k=n at*;generalize WM.K.getD k 0=L at*;generalize g.getD k 0=S at*;have a7:=Z G;have T:=Z d;clear G d;have M:(0:Int)<=(k:Int):=by omega
     have N:(k:Int)<80:=by omega
     go_wp2
     go_still_tail 9,zR
     show wpList _ _ _ _ _ wr.drew
     go_wp2_with fail
     refine(YW (w:=wr.drew) (base:=w.heap.size+1) a7.U L S).mono ?_;rintro e R ⟨⟨b7,rfl,b⟩,u⟩;have I:ai (BW j R/\hE (w.heap.size+1) R b7 (vl (WM.iJ n L S))):=Z ⟨(T.U.drew).trans (u.mono b0),b.mono (by show w.heap.size+1<=wr.heap.size;omega)⟩;clear b u
     go_wp2
     go_roundw
     case rel=>exact⟨k+1,by omega,by go_num,I.U.1,by rw[a4.U];exact I.U.2⟩
     case measure=>simp[intOf];omega
    ·obtain rfl:k=80:=by omega
     obtain⟨C,c2,rfl,y,J,b⟩:=G;rw[zJ] at b⊢;generalize WM.rounds g H 80=n at*;have a8:=Z y;have u:=Z b;have x:=Z (h.U.below d);clear y J b d h m a c
     go_wp2
     rw[show((80:Nat):Int)=80 from rfl]
     go_loopw [10] (λ i a=>∃k:Nat,k<=8/\i=O (k:Int)/\kY w a gk (acc (vl H) (vl n) k)/\∀i,i<8->a.cell? ⟨C,i,none⟩=some (U (((vl n).getD i 0).toNat:Int))) (λ i _=>8-(intOf i).toNat)
     case atStart=>exact⟨0,by omega,rfl,x.U,u.U⟩
     case round=>
      clear x u;obtain⟨k,c,rfl,a,b⟩:=hrel;by_cases h:k<8
      ·have c7:=b k h;have b1:=a.h.cell k;rw[pF _ k (by rw[xy _ _ _ rfl rfl c];exact h),uJ _ _ k rfl rfl h] at b1;have c8:=a.h.frozen k;have J:=uK (vl H) (vl n) k rfl rfl h;generalize(vl H).getD k 0=x at*;generalize(vl n).getD k 0=y at*;have a3:=Z J;have m:=Z a;have u:=Z b;clear J a b;have M:(0:Int)<=(k:Int):=by omega
       have N:(k:Int)<8:=by omega
       have J:=nA
       go_wp2
       go_still_tail 12,zR
       show wpList _ _ _ _ _ wr.drew
       go_wp2
       go_roundw
       case rel=>exact⟨k+1,by omega,by go_num,kY.set (wr:=wr.drew) (m.U.below ((bp _ _).drew)) k _ (by rw[tA,XJ,<-a3.U]),λ i o=>(World.jI (tQ wr.drew ⟨w.heap.size,k,none⟩ _ C (by have:=a8.U;show C≠w.heap.size;omega))).trans (u.U i o)⟩
       case measure=>simp[intOf];omega
      ·obtain rfl:k=8:=by omega
       have m:=Z a;clear a b
       go_wp2
       go_roundw
       case rel=>exact⟨q+1,A+128,by omega,by have:=r.U;omega,by go_num,by rw[a0.U,<-uI];exact m.U⟩
       case measure=>have:=r.U;simp[intOf];omega
  ·obtain rfl:q=B:=by omega
   have r:=Z E;have a9:¬(A:Int)<(t.size:Int):=by have:=F.U;have:=r.U;omega
   generalize WM.chain P q=C at*
   go_wp2
   go_loopw [11,12] (λ v i wr=>∃(k:Nat) (e:af),k<=8/\i=O (k:Int)/\v=ad e/\e.data.toList=ji (vl C) k/\kY w wr gk (vl C)) (λ _ i _=>8-(intOf i).toNat)
   case atStart=>exact⟨0,_,by omega,rfl,rfl,rfl,z.U⟩
   case round=>
    clear z;obtain⟨k,e,c,rfl,rfl,n,a⟩:=hrel;by_cases h:k<8
    ·have L:=(a.h.cell k).trans (pF _ k h);have u:e.size=8*k:=by rw[ny,n,vL (vl C) k c]
     have R:e.size<=64:=by omega
     have b:=vM (vl C) k h;generalize(vl C).getD k 0=x at*;have G:=Z b;have m:=Z a;have z:=Z n;clear b a n u;have M:(0:Int)<=(k:Int):=by omega
     have N:(k:Int)<8:=by omega
     go_wp2_with fail
     refine(G2 x.toNat (abz x) _).mono ?_;rintro I b9 ⟨⟨b,rfl,u,J⟩,d⟩;have v:=Z (m.U.below d);have y:=Z u;clear u d m
     go_wp2
     go_roundw
     case rel=>exact⟨k+1,_,by omega,by go_num,rfl,by rw[nx,z.U,y.U,G.U],v.U⟩
     case measure=>simp[intOf];omega
    ·obtain rfl:k=8:=by omega
     have d:e=⟨(WM.sum s.data.toList).toArray⟩:=su (by rw[n,Dv,a5.U]);have m:=Z d;have u:=Z a.aJ;clear d a n
     go_wp2
     go_ret
     exact⟨by rw[m.U];rfl,u.U⟩
end WD
