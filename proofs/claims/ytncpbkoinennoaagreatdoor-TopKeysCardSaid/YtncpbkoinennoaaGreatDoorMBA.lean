import Derived.Test.YtncpbkoinennoaaGreatDoorMAO
import Derived.Test.YtncpbkoinennoaaGreatDoorMAX
set_option linter.all false
set_option maxRecDepth 100000
set_option maxHeartbeats 0
namespace Go.Proofs.YtncpbkoinennoaaGreatDoor
open Go.RowKit Proofs.Tryz
attribute [local irreducible] wpList Calls
variable{g:Nat}
section
open FM PT GL
section
variable{l:List Oper}{Q:Exit->Act->aa->Prop}{n f:Nat}{B B':List Bool}{M:List ab}{d:List Deferred}{w w0:aa}{m:List Nat}{aj Li:List Y}{o:Oper}{c:Call}{i:Nat}{k:Tmp}{x:Operand}
def uo(p:ai (ae w0 w m aj))(j:ba Li w)(s:af)(h:∀g L a,Norm L->val L=(aH (s.data.toList.take 32):Int)->ai (ae w0 a m (Y.row g 3 (aZ L++[])::aj))->ba Li a->ay prog l Q (ba Li) n f B'.toArray ⟨(M.set k (ag (some ⟨g,0,none⟩) 16 16)).toArray,d⟩ a)
 (A:Region.wanted o (yielded l.toArray M.toArray)=true:=by kernel_rfl) (hd:o.dst=some k:=by exact rfl) (v:o.op= .call c:=by exact rfl) (y:c.callee= .value (.func 200):=by exact rfl) (z:c.args.toList.mapM (fk ⟨M.toArray,d⟩)=some [ad s]:=by exact rfl)
 (u:B.set i true=B':=by first|(simp only[av,ax];exact rfl)|(simp only[ff,hq,av,ax];exact rfl)|exact rfl):One prog l Q (ba Li) n f B.toArray ⟨M.toArray,d⟩ w i o:=
 One.eL A k hd v 200 y (en 200) [ad s] z ((sF s w).mono λ e a ⟨g,L,q,_,r,t,b⟩=>⟨_,q,j.st b.aq,by subst u;simpa only[aS] using h g L a r t (Z (p.U.tp b)) (j.st b.aq)⟩)
def AZ(b:ai (ae w0 w m aj))(e:ba Li w)(z:Nat)(r:z<=1000)(h:∀g a,ai (ae w0 a m (Y.row g 3 (aZ (List.replicate z 0)++[])::aj))->ba Li a->ay prog l Q (ba Li) n f B'.toArray ⟨(M.set k (ag (some ⟨g,0,none⟩) z z)).toArray,d⟩ a)
 (p:o.op= .makeSlice 193 x x:=by exact rfl) (hx:(⟨M.toArray,d⟩:Act).eval x=O (z:Int):=by exact rfl)
 (q:Region.wanted o (yielded l.toArray M.toArray)=true:=by kernel_rfl) (hd:o.dst=some k:=by exact rfl)
 (j:B.set i true=B':=by first|(simp only[av,ax];exact rfl)|(simp only[ff,hq,av,ax];exact rfl)|exact rfl):One prog l Q (ba Li) n f B.toArray ⟨M.toArray,d⟩ w i o:=by
 intro s g
 rw[au q]
 have a:=e.st (bJ w (.cells (aZ (List.replicate z 0)++[]).toArray 3))
 unfold Oper.wp
 rw[yD z r p hx,jC,hd]
 refine g _ _ a (λ _=> ?_)
 subst j
 simp only[Act.put,aS]
 exact h _ _ (Z (b.U.alloc _ 3)) a
end
def YB(a b:af)(w:aa):CB 124 #[ad a,ad b] w (ad (enc (nB a*nB b%PN))):=by
 have g:=Z (ae.start w [])
 go_enter func124,ntmps124
 go_upto_region 1 with fail
 go_cut [5,6,7] from 10 to 14 (λ s5 s6 s7 e=>∃C v y L M,s5=ag (some ⟨C,0,none⟩) 16 16/\s6=ag (some ⟨v,0,none⟩) 16 16/\s7=ag (some ⟨y,0,none⟩) 31 31/\Norm L/\val L=(nB a:Int)/\Norm M/\val M=(nB b:Int)/\ae w e [] [Y.row y 3 (aZ (List.replicate 31 0)++[]),Y.row v 3 (aZ M++[]),Y.row C 3 (aZ L++[])])
 case first=>
  refine RG g 7 [] λ z g e=> ?_;refine VV [0,2] e ?_;refine T2 1 4 ?_ ?_;focus
   refine uo g e a λ C q u r s g e=>?_;refine T2 3 4 ?_ ?_;focus
    refine uo g e b λ v h t j p g e=>?_;refine VV [5,6] e ?_;refine T1 4 ?_;refine AZ g e 31 zD λ y wt g e=>?_
   rotate_left;focus
    refine AZ g e 31 zD λ y wt g e=>?_;refine T1 3 ?_;refine uo g e b λ v h t j p g e=>?_;refine VV [5,6] e ?_
  rotate_left 2;focus
   refine AZ g e 31 zD λ y wt g e=>?_;refine T1 1 ?_;refine uo g e a λ C q u r s g e=>?_;refine T1 3 ?_;refine uo g e b λ v h t j p g e=>?_;refine VV [5,6] e ?_
  all_goals
   refine WT ?_
   go_wp2
   go_meet
   exact⟨C,v,y,q,h,rfl,rfl,rfl,r,s,j,p,by first|exact g.U|exact g.U.az 1 rfl|exact g.U.az 2 rfl⟩
 case rest=>
  obtain⟨C,v,y,L,M,rfl,rfl,rfl,h,s,r,t,e⟩:=hcut;have D:=Z h;have P:=Z s;have E:=Z r;have R:=Z t;have j:ai (ih L M (List.replicate 31 0++[0]) 0 0):=Z (ih.start L M);have q:ai (∀d∈List.replicate 31 (0:Int),0<=d):=Z (λ d hd=>by rw[(AI.1 hd).2];decide);have p:ai ((List.replicate 31 (0:Int)).length=31):=Z zS;generalize List.replicate 31 (0:Int)=z at*;have g:=Z e;clear h s r t e
  go_upto_region 3 with fail
  go_loopw [8] (λ h wr=>∃(i:Nat) (t:List Int),i<=16/\h=O (i:Int)/\t.length=31/\(∀d∈t,0<=d)/\ih L M (t++[0]) i 0/\ae w wr [] [Y.row y 3 (aZ t++[]),Y.row v 3 (aZ M++[]),Y.row C 3 (aZ L++[])]) (λ h _=>16-(intOf h).toNat)
  case atStart=>exact⟨0,z,bf _,rfl,p.U,q.U,j.U,g.U⟩
  case round=>
   clear g j q p;obtain⟨i,t,b3,rfl,A,q,s,e⟩:=hrel;have r:=Z A;have u:=Z q;have h:=Z s;have g:=Z e;clear A q s e;by_cases G:i<16
   ·have d1:decide ((i:Int)<16)=true:=aT W;obtain⟨p,q⟩:∃p,L[i]?=some p:=⟨_,aU (by rw[D.U.len];exact G)⟩;have N:=Z q;have a3:=ev.get D.U.e q;have e1:IntKind.i64.wrap ((i:Int)+1)=((i+1:Nat):Int):=aO _ W;clear q
    go_wp2
    go_loopw [9] (λ F wr=>∃(j:Nat) (t:List Int),j<=16/\F=O (j:Int)/\t.length=31/\(∀d∈t,0<=d)/\ih L M (t++[0]) i j/\ae w wr [] [Y.row y 3 (aZ t++[]),Y.row v 3 (aZ M++[]),Y.row C 3 (aZ L++[])]) (λ F _=>16-(intOf F).toNat)
    case atStart=>exact⟨0,t,bf _,rfl,r.U,u.U,h.U,g.U⟩
    case round=>
     clear g h u r;obtain⟨j,t,b4,rfl,A,q,s,e⟩:=hrel;have r:=Z A;have u:=Z q;have h:=Z s;have g:=Z e;clear A q s e;by_cases S:j<16
     ·have d2:decide ((j:Int)<16)=true:=aT W;obtain⟨q,F⟩:∃q,M[j]?=some q:=⟨_,aU (by rw[E.U.len];exact S)⟩;obtain⟨s,e⟩:∃s,t[i+j]?=some s:=⟨_,aU (by rw[r.U];omega)⟩;have a6:=ev.get E.U.e F;have H:i+j<t.length:=(cw.1 e).1;have I:(t++[0])[i+j]?=some s:=by rw[kO H];exact e
      have J:=h.U.step G S N.U F I W W;rw[AK _ _ H] at J;have a0:=Z J;have a8:=h.U.small s (cX I);have a7:=u.U s (cX e);have a4:=DN (p:=p) (q:=q) W W;have a5:0<=p*q:=Int.mul_nonneg a3.1 a6.1;have X:ai (∀d∈t.set (i+j) (s+p*q),0<=d):=Z (λ d hd=>by
       rcases nb hd with hd|rfl
       ·exact u.U d hd
       ·omega)
      have a1:ai ((t.set (i+j) (s+p*q)).length=31):=Z (by rw[fc];exact r.U);have b0:=fm (g.U.get (i:=0) rfl) e;have b1:=fm (g.U.get (i:=1) rfl) F;have b2:=fm (g.U.get (i:=2) rfl) N.U;have a9:IntKind.i64.wrap ((i:Int)+(j:Int))=(i:Int)+(j:Int):=aO _ W;have t1:((i:Int)+(j:Int)).toNat=i+j:=by omega
      have b5:(i:Int)<16:=by omega
      have b6:(j:Int)<16:=by omega
      have b7:(i:Int)+(j:Int)<31:=by omega
      have b8:(0:Int)<=(i:Int)+(j:Int):=by omega
      have e2:IntKind.i64.wrap ((j:Int)+1)=((j+1:Nat):Int):=aO _ W;have K:IntKind.i64.wrap (p*q)=p*q:=aO _ W;have T:IntKind.i64.wrap (s+p*q)=s+p*q:=aO _ W;have a2:=Z K;have W2:=Z T;clear F e I J h u r a8 a7 a4 a5 K T
      go_wp2
      go_still_tail 21,zR
      show wpList _ _ _ _ _ wr.drew;replace g:=Z g.U.drew
      go_wp2_with(refine kN g H λ F g=> ?_)
      rw[a2.U,W2.U] at g
      go_roundw
      case rel=>exact⟨j+1,_,by omega,by go_num,a1.U,X.U,a0.U,g.U⟩
      case measure=>simp[intOf];omega
     ·have d2:decide ((j:Int)<16)=false:=bm W;obtain rfl:j=16:=by omega
      have e:=Z (h.U.next G D.U.len E.U.len);clear h
      go_wp2
      go_roundw
      case rel=>exact⟨i+1,t,by omega,by go_num,r.U,u.U,e.U,g.U⟩
      case measure=>simp[intOf];omega
   ·have d1:decide ((i:Int)<16)=false:=bm W;obtain rfl:i=16:=by omega
    have F:val t=((nB a*nB b:Nat):Int):=by
     have q:=h.U.eq;rw[zI,rR,rQ,bK (by rw[D.U.len];exact aQ _),P.U,R.U,oE] at q;rw[q];simp[val]
    have H:∀d∈t,0<=d/\d<=1000000000000000:=λ d hd=>by
     have:=h.U.small d (oB _ hd);have:=u.U d hd;omega
    have I:val t<65536^32:=by
     have q:=D.U.bounds.2;have s:=E.U.bounds.2;rw[P.U] at q;rw[R.U] at s;have e:(65536:Int)^16=((65536^16:Nat):Int):=qd 65536 16|>.symm;rw[e] at q s;have J:=Nat.mul_lt_mul'' (Int.ofNat_lt.1 q) (Int.ofNat_lt.1 s);have e2:(65536:Int)^32=((65536^32:Nat):Int):=(qd 65536 32).symm;rw[F,e2];refine Int.ofNat_lt.2 (kS J ?_);decide+kernel
    have A:=zC (cap:=31) (g.U.get (i:=0) rfl) H (by rw[r.U];decide) (by rw[r.U];decide) I;rw[r.U,sJ F] at A;have e:=Z A;clear A I H F h u
    go_wp2_with(go_at_call 201;refine KC g e.U λ K g=> ?_)
    go_ret
    exact⟨rfl,g.U.aq⟩
def D9{x:Nat}(hx:x<PN)(a:g<PN)(w:aa):CB 124 #[ad (enc x),ad (enc g)] w (ad (enc (aF x g))):=by
 have:=YB (enc x) (enc g) w;rwa[vC hx,vC a] at this
end
section
open FM PT GL
def YC(n:Nat)(w:aa):CB 204 #[ad (enc n)] w (aK (decide (n%2=1))):=by
 have h:=HS n;have e1:(((n%256:Nat):Int)%2==1)=decide (n%2=1):=by rw[bw];simp;omega
 obtain⟨b,a⟩:∃b,decide (n%2=1)=b:=⟨_,rfl⟩;rw[a] at e1⊢;generalize enc n=s at*;generalize n%256=q at*
 go_enter func204,ntmps204
 go_wp2
 go_ret
 exact⟨rfl,bp _ _⟩
def YD(s:af)(w:aa):CB 123 #[ad s] w (aM #[ad (if dq s=0 then s else enc 0),O (dq s)]):=by
 have a:=Z (ae.start w []);have b:=λ d=>tw 0 zD d;rw[AY] at b;have f:=Z b;have j:=Z (λ d=>X2 s d);clear b;by_cases g:s.size<32
 ·have b:dq s=2:=by unfold dq;rw[au g]
  rw[b,ar zD];have d1:decide ((s.size:Int)<32)=true:=aT W
  go_enter A8,Bg
  go_wp2_with(go_at_call 127;refine KC a (f.U _) λ e a=> ?_)
  exact jv rfl rfl rfl rfl ⟨rfl,a.U.aq⟩
 ·have d1:decide ((s.size:Int)<32)=false:=bm W;by_cases i:32<s.size
  ·have b:dq s=4:=by unfold dq;rw[ar g,au i]
   rw[b,ar zD];have d2:decide ((32:Int)<(s.size:Int))=true:=aT W
   go_enter A8,Bg
   go_wp2_with(go_at_call 127;refine KC a (f.U _) λ e a=> ?_)
   exact jv rfl rfl rfl rfl ⟨rfl,a.U.aq⟩
  ·have d2:decide ((32:Int)<(s.size:Int))=false:=bm W;have h:iv s=aH s.data.toList%PN:=by unfold iv;rw[bK (by simp;omega)]
   have f1:=wv (enc (iv s)) s;have f2:=rE (enc (iv s)) s;by_cases d:enc (iv s)=s
   ·have b:dq s=0:=by unfold dq;rw[ar g,ar i,<-h,au d]
    rw[b,au rfl];rw[aT d] at f1 f2;simp only[vi] at f1;clear d h b;generalize enc (iv s)=c at*
    go_enter A8,Bg
    go_wp2_with(first|(go_at_call 127;refine KC a (f.U _) λ e a=> ?_)|(go_at_call 199;refine KC a (j.U _) λ e a=> ?_))
    exact jv rfl rfl rfl rfl ⟨rfl,a.U.aq⟩
   ·have b:dq s=3:=by unfold dq;rw[ar g,ar i,<-h,ar d]
    rw[b,ar zD];rw[bm d] at f1 f2;simp only[eG] at f1;clear d h b;generalize enc (iv s)=c at*
    go_enter A8,Bg
    go_wp2_with(first|(go_at_call 127;refine KC a (f.U _) λ e a=> ?_)|(go_at_call 199;refine KC a (j.U _) λ e a=> ?_))
    exact jv rfl rfl rfl rfl ⟨rfl,a.U.aq⟩
end
variable{n:Nat}
section
open FM PT GL
def LC(hx:g<PN)(s:af)(D:s.size<=100)(w:aa):CB 202 #[ad (enc g),ad s] w (ad (enc (yT g (aH s.data.toList)))):=by
 have d:=Z (ae.start w []);have f:=λ e=>tw 1 zD e;rw[show(1:Nat)%PN=1 from bY (by unfold PN;decide)] at f;have r:=Z f;have p:=Z (λ(a b:Nat) (j:a<PN) (l:b<PN) e=>D9 j l e);have y:=Z hx;have h:=λ i=>xE s i;have a:=qZ s.data.toList;rw[show s.data.toList.length=s.size by simp] at a;obtain⟨E,j⟩:∃E,aH s.data.toList=E:=⟨_,rfl⟩;rw[j] at h a⊢;have v:=Z h;have b:1=g^(E/2^(8*s.size))%PN:=by
  rw[F4 (by rw[iT];exact a),sd];exact(bY (by unfold PN;decide)).symm
 have u:=Z b;have B:IntKind.i64.wrap (8*(s.size:Int))=8*(s.size:Int):=aO _ W;clear f hx h a j b
 go_enter func202,ntmps202
 go_upto_region 3 with(go_at_call 127;refine KC d (r.U _) λ m d=> ?_)
 go_loopw [5,6] (λ b a wr=>∃(k c:Nat),k<=8*s.size/\a=O ((k:Int)-1)/\b=ad (enc c)/\c<PN/\c=g^(E/2^k)%PN/\ae w wr [] []) (λ _ a _=>(intOf a+1).toNat)
 case atStart=>exact⟨8*s.size,1,aQ _,by go_num,rfl,by unfold PN;decide,u.U,d.U⟩
 case round=>
  clear d;obtain⟨k,c,C,rfl,rfl,b,f,h⟩:=hrel;have d:=Z h;have a:=Z f;have n:=Z b;clear h f b;cases k with
  |zero=>
   rw[sd,rW] at a;have f:ai (yT g E=c):=Z a.U.symm;have d1:decide ((0:Int)<=((0:Nat):Int)-1)=false:=by decide
   clear a
   go_wp2
   go_ret
   rw[f.U];exact⟨rfl,d.U.aq⟩
  |succ j=>
   rw[show(((j+1:Nat):Int)-1)=(j:Int) by omega];have h:=Z (Xb (i:=j) c a.U);have t:j/8<s.size:=by omega
   have l:dt s j=(s[j/8].toNat/2^(j%8))%2:=by
    unfold dt;rw[au t];have b:j/8<s.data.toList.length:=by simpa using t
    rw[dc,aU b];rfl
   have A:=s[j/8].toNat_lt;have z:s[j/8].toNat/2^(j%8)<=s[j/8].toNat:=ng _ _;have i:bits .and .u8 ((s[j/8].toNat/2^(j%8):Nat):Int) 1=((dt s j:Nat):Int):=by
    have:=zE (s[j/8].toNat/2^(j%8)) 1 W W;rw[yF] at this;rw[show((1:Nat):Int)=1 from rfl] at this;rw[this,l]
   rw[v.U j] at i;have b:bits .and .u8 ((s[j/8].toNat:Int)/2^(j%8)) 1=((E/2^j%2:Nat):Int):=by
    rw[<-i];push_cast;rfl
   have d1:decide ((0:Int)<=(j:Int))=true:=aT W;have e1:IntKind.i64.wrap ((j:Int)-1)=(j:Int)-1:=aO _ W;have q:=Z (λ e=>p.U c c n.U n.U e);have x:=Z (λ e=>p.U (aF c c) g (dC _ _) y.U e);have o:ai (j<=8*s.size):=Z W;clear l A z i a r;by_cases e:E/2^j%2=1
   ·rw[e] at b;have i:bits .and .u8 ((s[j/8].toNat:Int)/2^(j%8)) 1=1:=b;have a:=h.U;rw[au e] at a;have f:ai (aF (aF c c) g=g^(E/2^j)%PN):=Z a;clear b a h e
    go_wp2_with(first|(go_at_call 124;refine KC d (q.U _) λ m d=> ?_)|(go_at_call 124;refine KC d (x.U _) λ m d=> ?_))
    go_roundw
    case rel=>exact⟨j,aF (aF c c) g,o.U,by go_num,rfl,dC _ _,f.U,d.U⟩
    case measure=>simp[intOf]
   ·rw[show E/2^j%2=0 by omega] at b;have i:bits .and .u8 ((s[j/8].toNat:Int)/2^(j%8)) 1=0:=b;have a:=h.U;rw[ar e] at a;have f:ai (aF c c=g^(E/2^j)%PN):=Z a;clear b a h e
    go_wp2_with((go_at_call 124;refine KC d (q.U _) λ m d=> ?_))
    go_roundw
    case rel=>exact⟨j,aF c c,o.U,by go_num,rfl,dC _ _,f.U,d.U⟩
    case measure=>simp[intOf]
def Ch:cW 29 5 1 1:=cW.mk' cP tK rfl zD
def Ec(n f:Nat)(d:8<=n)(T:n<=256)(S:1<=f)(g:f<=256)(w:aa):Calls prog 203 #[O (n:Int),O (f:Int)] w λ e a=>∃s:af,e=ao (ad s)/\aH s.data.toList=2^n-f/\s.size<=32/\BW w a:=by
 have a:=Z (ae.start w []);have e0:IntKind.i64.wrap (256-(f:Int))=256-(f:Int):=aO _ W;obtain⟨q,b⟩:∃q:UInt8,(q.toNat:Int)=256-(f:Int):=⟨UInt8.ofNat (256-f),by simp;omega⟩;have e1:IntKind.u8.wrap (256-(f:Int))=(q.toNat:Int):=by rw[Ax _ W,b]
 have h:ai (aH [q]+f=2^(min 8 n)):=Z (by rw[hz d];simp only[aH];omega);clear b
 go_enter func203,ntmps203
 go_upto_region 3 with((with_reducible show cn);(refine Mk a.U rfl 10 rfl (some 1) 5 [.int .u8 (q.toNat:Int)] (by go_simp;rfl) ?_;intro G o K d;replace a:=Z d;clear d;simp only[bc]))
 replace a:=Z (pL a.U 0 rfl 1 1 1 (aQ _) (by unfold maxLen;decide) rfl (bB [q]) rfl)
 go_loopw [5,6] (λ m b wr=>∃(j k:Nat) (D:List UInt8) (A:Option Addr) (C:Nat),1<=j/\8*(j-1)<n/\k=8*j/\b=O (k:Int)/\m=ag A j C/\D.length=j/\aH D+f=2^(min k n)/\ae w wr [] [Y.ow 5 1 (ag A j C) j (bB D)]) (λ _ b _=>300-(intOf b).toNat)
 case atStart=>exact⟨1,8,[q],_,_,aQ _,by omega,rfl,rfl,rfl,rfl,h.U,a.U⟩
 case round=>
  clear a h;obtain⟨j,k,D,A,C,M,N,m,rfl,rfl,b,s,p⟩:=hrel;have a:=Z p;have HD:=Z b;have r:=Z s;have h:=Z m;have F:j<=32:=by omega
  have R:k<=256:=by omega
  clear p b s;by_cases u:k<n
  ·have d1:decide (k<n)=true:=aT u;have e2:IntKind.i64.wrap ((k:Int)+8)=((k+8:Nat):Int):=aO _ W;have e3:IntKind.i64.wrap ((n:Int)-(k:Int))=(n:Int)-(k:Int):=aO _ W;have v:2^k=256^D.length:=by rw[HD.U,m,iT]
   have g:∀c:UInt8,aH (D++[c])+f=2^k+2^k*c.toNat:=λ c=>by
    have s:=r.U;rw[hz (kR u)] at s;rw[qX,<-v];simp only[aH,jB,fA];omega
   by_cases E:8<=n-k
   ·have d2:decide ((8:Int)<=(n:Int)-(k:Int))=true:=aT W;have p:ai (aH (D++[255])+f=2^(min (k+8) n)):=Z (by rw[g,hz W,eI];show 2^k+2^k*255=2^k*256;omega);clear g v m
    go_wp2_with(first|((with_reducible show cn);(refine Mk a.U rfl 21 rfl (some 1) 5 [.int .u8 255] (by go_simp;rfl) ?_;intro H o L d;replace a:=Z d;clear d;simp only[bc]))|(refine Ap a.U rfl Ch rfl 1 rfl rfl 0 rfl rfl rfl rfl (by unfold maxLen;omega) W ?_;intro z y o d;simp only[av,ax] at d;replace a:=Z d;clear d))
    go_roundw
    case rel=>exact⟨j+1,k+8,D++[255],_,_,by omega,by have:=h.U;omega,by have:=h.U;omega,by go_num,rfl,by rw[bV,HD.U];rfl,p.U,by rw[qG];exact a.U.tail⟩
    case measure=>simp[intOf];omega
   ·have d2:decide ((8:Int)<=(n:Int)-(k:Int))=false:=bm W;obtain⟨b,x⟩:∃b,n=k+b:=⟨n-k,by omega⟩;have I:b<8:=by omega
    obtain⟨c,t⟩:∃c:UInt8,c.toNat+1=2^b:=⟨UInt8.ofNat (2^b-1),by
     have B:b=0\/b=1\/b=2\/b=3\/b=4\/b=5\/b=6\/b=7:=by omega
     rcases B with rfl|rfl|rfl|rfl|rfl|rfl|rfl|rfl<;>decide⟩
    have p:ai (aH (D++[c])+f=2^(min (k+8) n)):=Z (by rw[g,AR W,x,eI,<-t,xf,oG];omega);have t1:((n:Int)-(k:Int)).toNat=b:=by omega
    have X:(0:Int)<=(n:Int)-(k:Int):=by omega
    have J:=c.toNat_lt;have e5:((2:Int)^b-1)%256=(c.toNat:Int):=by
     have e:((2:Int)^b)=((2^b:Nat):Int):=(qd 2 b).symm;rw[e,<-t];omega
    have e6:((2:Int)^b%256-1)%256=(c.toNat:Int):=by
     rw[<-e5];omega
    have Q:(k:Int)<=(n:Int):=by omega
    clear g v m x t E
    go_wp2_with(first|((with_reducible show cn);(refine Mk a.U rfl 30 rfl (some 1) 5 [.int .u8 (c.toNat:Int)] (by go_simp;rfl) ?_;intro m o t d;replace a:=Z d;clear d;simp only[bc]))|(refine Ap a.U rfl Ch rfl 1 rfl rfl 0 rfl rfl rfl rfl (by unfold maxLen;omega) W ?_;intro z y o d;simp only[av,ax] at d;replace a:=Z d;clear d))
    go_roundw
    case rel=>exact⟨j+1,k+8,D++[c],_,_,by omega,by have:=h.U;omega,by have:=h.U;omega,by go_num,rfl,by rw[bV,HD.U];rfl,p.U,by rw[qG];exact a.U.tail⟩
    case measure=>simp[intOf];omega
  ·have d1:decide (k<n)=false:=bm u;have p:=qL (P:=prog) (l:=D) cP eJ df (show wr.ownsRow 0 5 1 (.slice A j C) j (bB D) from a.U.get (i:=0) rfl);have m:ai (aH (⟨D.toArray⟩:af).data.toList=2^n-f):=Z (by
    have s:=r.U;rw[AR W] at s;show aH D=_;omega)
   have b:ai ((⟨D.toArray⟩:af).size<=32):=Z (by
    show D.toArray.size<=32;rw[oD,HD.U];exact F)
   clear r HD
   go_wp2
   go_ret
   exact⟨_,rfl,m.U,b.U,a.U.aq⟩
def LD{E:Nat}(hx:g<PN)(a:g^E%PN=n)(s:af)(h1:aH s.data.toList=E)(h2:s.size<=32)(w:aa):CB 202 #[ad (enc g),ad s] w (ad (enc n)):=by
 have:=LC hx s W w;rw[h1] at this;unfold yT at this;rwa[a] at this
def Yw(hx:g<PN)(w:aa):CB 128 #[ad (enc g)] w (ad (enc (cZ g))):=by
 have a:=Z (ae.start w []);have i:=Z (λ w=>Ec 255 21 zD zD zD zD w);have j:=Z (λ s b c l=>LD (E:=2^255-21) hx (TT g).symm s b c l)
 go_enter func128,ntmps128
 go_wp2_with(first|(go_at_call 203;refine(i.U _).mono ?_;rintro e k ⟨s,rfl,b,c,d⟩;replace a:=Z (a.U.below d);have f:=Z b;have h:=Z c;clear b c d)|(go_at_call 202;refine KC a (j.U _ f.U h.U _) λ k a=> ?_))
 go_ret
 exact⟨rfl,a.U.aq⟩
end
section
open FM PT GL
def Gd:PN<256^32:=by decide+kernel
def Re(a:g<PN)(b:n<PN):enc g=enc n↔g=n:=⟨λ h=>HT (lY a Gd) (lY b Gd) h,λ h=>by rw[h]⟩
def HR(a:g<PN)(b:n<PN):decide (enc g=enc n)=decide (g=n):=by
 congr 1;exact propext (Re a b)
def HV(a:g<PN)(b:n<PN):((enc g).toList=(enc n).toList)=(decide (g=n)=true):=by rw[wv,HR a b]
def ve(a:g<PN)(b:n<PN):((enc g).toList==(enc n).toList)=decide (g=n):=by rw[rE,HR a b]
def Lv(x:Nat):ed x<PN:=cy _ GL.fh
def Lw(x:Nat)(h:g<PN):gn g x<PN:=by unfold gn;split;exact h;exact cy _ GL.fh
def YF(h:g<PN):hS g<PN:=by unfold hS;split;exact cy _ GL.fh;exact h
def pJ(x:Nat):ab:=match eE x with
 |some r=>aM #[ad (enc r),aK true]
 |none=>aM #[ad (enc 0),aK false]
def Lx(h:eE g=some n):n<PN:=by
 unfold eE at h;simp only at h;split at h
 ·cases h;exact YF (Lw _ (Lv _))
 ·cases h
def YV(hx:g<PN)(w:aa):CB 125 #[ad (enc g)] w (pJ g):=by
 have c:=Z (ae.start w []);have l:=Z (λ w=>Ec 252 2 zD zD zD zD w);have B:=Z (λ w=>Ec 253 5 zD zD zD zD w);have x:=Z (λ s j k d=>LD (E:=2^252-2) hx (YE g).symm s j k d);obtain⟨T,e⟩:∃T,eW (λ i=>decide (i=2)) 2 252 2=T:=⟨_,rfl⟩;have C:=Z (λ s j k d=>LD (E:=2^253-5) (show 2<PN by unfold PN;decide) (abo.symm.trans e) s j k d);have I:T<PN:=by rw[<-e];exact yS _ _ _ _ zD
 have n:=λ d=>tw 2 zD d;rw[show(2:Nat)%PN=2 from bY (by unfold PN;decide)] at n;have m:=λ d=>tw 0 zD d;rw[AY] at m;have A:=Z n;have L:=Z m;have F:∀r,gn r g=if aF r r=g then r else aF r T:=λ r=>by unfold gn aF;rw[e]
 have o:pJ g=if aF (gn (ed g) g) (gn (ed g) g)=g then aM #[ad (enc (if gn (ed g) g%2=1 then ek (gn (ed g) g) else gn (ed g) g)),aK true] else aM #[ad (enc 0),aK false]:=by
  unfold pJ eE;simp only;unfold aF;split
  ·rename_i h;rw[au (by split at h<;>simp_all)];split at h
   ·cases h;rfl
   ·cases h
  ·rename_i h;rw[ar (by split at h<;>simp_all)]
 have p:=Lv g;have K:=Lw g p;generalize ed g=r at*;have G:=F r;generalize f:gn r g=b at*;obtain⟨R,H⟩:∃R,pJ g=R:=⟨_,rfl⟩;rw[H] at o⊢;have y:=Z o;obtain⟨q,t⟩:∃q,decide (aF r r=g)=q:=⟨_,rfl⟩;have J:b=if q=true then r else aF r T:=by rw[G,<-t];simp
 have v:=Z (λ(a b:Nat) (i:a<PN) (f:b<PN) d=>D9 i f d);have z:=Z p;have u:=Z K;have M:=Z I;have i:=Z J;have D:=Z hx;clear F f n m o p K I G e H J
 go_enter func125,ntmps125
 go_upto_region 2 with(first|(go_at_call 203;refine(l.U _).mono ?_;rintro e a ⟨s,rfl,j,k,f⟩;replace c:=Z (c.U.below f);have m:=Z j;have n:=Z k;clear j k f)|(go_at_call 202;refine KC c (x.U _ m.U n.U _) λ a c=> ?_))
 clear m n l x;have f1:=HV (dC r r) hx;have f2:=ve (dC r r) hx;rw[t] at f1 f2;have x:=Z (λ d=>v.U r r z.U z.U d)
 go_upto_if 12 with(go_at_call 124;refine KC c (x.U _) λ a c=> ?_)
 have o:=Z f1;have p:=Z f2;clear f1 f2
 go_cut [4] from 13 to 17 (λ s4 F=>s4=ad (enc b)/\ae w F [] [])
 case first=>
  have f1:=o.U;have f2:=p.U;have f:=i.U;clear t;cases q with
  |true=>
   simp only[vi] at f1;rw[au rfl] at f;have t:=Z f;clear f o p i
   go_wp2
   go_meet
   exact⟨by rw[t.U],c.U⟩
  |false=>
   simp only[eG] at f1;rw[ar zD] at f;have t:=Z f;have F:=Z (λ d=>v.U r T z.U M.U d);clear f o p i x
   go_wp2_with(first|(go_at_call 127;refine KC c (A.U _) λ a c=> ?_)|(go_at_call 203;refine(B.U _).mono ?_;rintro e a ⟨s,rfl,j,k,f⟩;replace c:=Z (c.U.below f);have m:=Z j;have n:=Z k;clear j k f)|(go_at_call 202;refine KC c (C.U _ m.U n.U _) λ a c=> ?_)|(go_at_call 124;refine KC c (F.U _) λ a c=> ?_))
   go_meet
   exact⟨by rw[t.U],c.U⟩
 case rest=>
  obtain⟨rfl,t⟩:=hcut;replace c:=Z t;clear t o p i x B C A;have f1:=HV (dC b b) D.U;have f2:=ve (dC b b) D.U;have p:=Z (λ d=>v.U b b u.U u.U d);by_cases h:aF b b=g
  ·rw[aT h] at f1 f2;simp only[vi] at f1;have x:=Z (λ d=>Ea u.U d);have i:=λ d=>YC b d;have o:=Z h;by_cases d:b%2=1
   ·rw[aT d] at i;have t:=Z i;have l:=Z d;clear i d h
    go_wp2_with(first|(go_at_call 124;refine KC c (p.U _) λ a c=> ?_)|(go_at_call 204;refine KC c (t.U _) λ a c=> ?_)|(go_at_call 131;refine KC c (x.U _) λ a c=> ?_))
    refine jv rfl rfl rfl rfl ?_;rw[y.U,au o.U,au l.U];exact⟨rfl,c.U.aq⟩
   ·rw[bm d] at i;have t:=Z i;have l:=Z d;clear i d h
    go_wp2_with(first|(go_at_call 124;refine KC c (p.U _) λ a c=> ?_)|(go_at_call 204;refine KC c (t.U _) λ a c=> ?_))
    refine jv rfl rfl rfl rfl ?_;rw[y.U,au o.U,ar l.U];exact⟨rfl,c.U.aq⟩
  ·rw[bm h] at f1 f2;simp only[eG] at f1;have o:=Z h;clear h
   go_wp2_with(first|(go_at_call 124;refine KC c (p.U _) λ a c=> ?_)|(go_at_call 127;refine KC c (L.U _) λ a c=> ?_))
   refine jv rfl rfl rfl rfl ?_;rw[y.U,ar o.U];exact⟨rfl,c.U.aq⟩
end
section
open FM PT GL
def sN(a b:Nat):bM a b<PN:=cy _ GL.fh
def sT(a:Nat):cZ a<PN:=yS _ _ _ _ zD
def sA:cK<PN:=cy _ GL.fh
def mF:1<PN:=by unfold PN;decide
def Nh:0<PN:=by unfold PN;decide
section
variable{x y:Nat}
def Rm(w:aa)(hx:x<PN:=by with_reducible first|assumption|exact dC _ _|exact oY _ _|exact sN _ _|exact sA|exact mF|exact sT _)(a:y<PN:=by with_reducible first|assumption|exact dC _ _|exact oY _ _|exact sN _ _|exact sA|exact mF|exact sT _):CB 124 #[ad (enc x),ad (enc y)] w (ad (enc (aF x y))):=D9 hx a w
def Ra(w:aa)(hx:x<PN:=by with_reducible first|assumption|exact dC _ _|exact oY _ _|exact sN _ _|exact sA|exact mF|exact sT _)(a:y<PN:=by with_reducible first|assumption|exact dC _ _|exact oY _ _|exact sN _ _|exact sA|exact mF|exact sT _):CB 129 #[ad (enc x),ad (enc y)] w (ad (enc (bt x y))):=K9 hx a w
def Rs(w:aa)(hx:x<PN:=by with_reducible first|assumption|exact dC _ _|exact oY _ _|exact sN _ _|exact sA|exact mF|exact sT _)(a:y<PN:=by with_reducible first|assumption|exact dC _ _|exact oY _ _|exact sN _ _|exact sA|exact mF|exact sT _):CB 126 #[ad (enc x),ad (enc y)] w (ad (enc (bM x y))):=YZ hx a w
end
def Lu(w:aa):CB 127 #[U 0] w (ad (enc 0)):=by
 have:=tw 0 zD w;rwa[AY] at this
def Eb(w:aa):CB 127 #[U 1] w (ad (enc 1)):=by
 have:=tw 1 zD w;rwa[bY mF] at this
def Rb:enc cK=B2:=by decide+kernel
def DY(w:aa):CB 130 #[] w (ad (enc cK)):=by
 rw[Rb]
 go_enter func130,ntmps130
 go_wp2
 go_ret
 exact⟨rfl,bp _ _⟩
def js:eY 110 [ad ⟨#[]⟩,ad ⟨#[]⟩,ad ⟨#[]⟩]:=λ w=>by go_simp
abbrev nX(q:Q3):List ab:=[ad (enc q.x),ad (enc q.y),ad (enc q.z)]
abbrev cS(q:Q3):ab:=aG #[ad (enc q.x),ad (enc q.y),ad (enc q.z)]
structure GL.Q3.Lt(q:Q3):Prop where
 x:q.x<PN
 y:q.y<PN
 z:q.z<PN
def Bv(p q:Q3):(kg p q).Lt:=⟨dC _ _,dC _ _,dC _ _⟩
def acj:eZ.Lt:=⟨Nh,mF,mF⟩
def wh(w:aa):CB 122 #[] w (cS eZ):=by
 have a:=Z (ae.start w [])
 go_enter func122,ntmps122
 go_wp2_with(first|refine KA a _ 0 js λ d c e a=> ?_|(go_at_call 127;refine KC a (Lu _) λ b a=> ?_)|(go_at_call 127;refine KC a (Eb _) λ b a=> ?_)|refine KS a λ c a=> ?_)
 refine ha a.U 0 rfl 110 3 rfl rfl V rfl rfl ?_;exact⟨rfl,a.U.aq⟩
def DV{p q:Q3}(k:p.Lt)(l:q.Lt)(w:aa):CB 59 #[cS p,cS q] w (cS (kg p q)):=by
 have a:=Z (ae.start w []);obtain⟨d,f,h⟩:=p;obtain⟨e,g,i⟩:=q;obtain⟨p1,p2,p3⟩:=k;obtain⟨m,q2,q3⟩:=l;simp only at p1 p2 p3 m q2 q3
 go_enter func59,ntmps59
 go_upto_region 2 with(first|refine KB a 110 2 (nX ⟨d,f,h⟩) λ o j t a=> ?_|refine KB a 110 3 (nX ⟨e,g,i⟩) λ r j u a=> ?_|refine KA a _ 4 js λ s j v a=> ?_|refine Kl a ?_|(go_at_call 124;refine KC a (Rm _) λ c a=> ?_))
 refine RG a 13 [1,2] λ n a b=> ?_;refine VV [0,1,3,2004,5,2006,8,2009,10,2011] b ?_;refine KW a b 2 (en 124) (Rm (x:=aF h i) (y:=aF h i) _) λ c a b=> ?_;refine KW a b 7 (en 124) (Rm (x:=d) (y:=e) _) λ c a b=> ?_;refine KW a b 12 (en 124) (Rm (x:=f) (y:=g) _) λ c a b=> ?_;refine WT ?_
 go_upto_region 5 with(first|(go_at_call 130;refine KC a (DY _) λ c a=> ?_)|(go_at_call 124;refine KC a (Rm _) λ c a=> ?_)|(go_at_call 126;refine KC a (Rs _) λ c a=> ?_)|(go_at_call 129;refine KC a (Ra _) λ c a=> ?_))
 refine RG a 15 [1,2] λ n a b=> ?_;refine VV [0,2001,2,2003,5,2006,7,2008,11,13] b ?_;refine KW a b 4 (en 129) (Ra (x:=d) (y:=f) _) λ c a b=> ?_;refine KW a b 9 (en 129) (Ra (x:=e) (y:=g) _) λ c a b=> ?_;refine KW a b 10 (en 124) (Rm (x:=bt d f) (y:=bt e g) _) λ c a b=> ?_;refine KW a b 12 (en 126) (Rs (x:=aF (bt d f) (bt e g)) (y:=aF d e) _) λ c a b=> ?_;refine KW a b 14 (en 126) (Rs (x:=bM (aF (bt d f) (bt e g)) (aF d e)) (y:=aF f g) _) λ c a b=> ?_;refine WT ?_
 go_wp2_with(first|(go_at_call 124;refine KC a (Rm _) λ c a=> ?_)|(go_at_call 129;refine KC a (Ra _) λ c a=> ?_)|refine KS a λ j a=> ?_)
 refine ha a.U 0 rfl 110 3 rfl rfl V rfl rfl ?_;exact⟨rfl,a.U.aq⟩
end
section
open FM PT GL
def X1(s:af)(i:Nat)(g:i<256)(e:i/8<s.size)(w:aa):CB 138 #[ad s,O (i:Int)] w (O ((dt s i:Nat):Int)):=by
 have b:dt s i=(s[i/8].toNat/2^(i%8))%2:=by
  unfold dt;rw[au e];have a:i/8<s.data.toList.length:=by simpa using e
  rw[dc,aU a];rfl
 have hx:=s[i/8].toNat_lt;rw[b];obtain⟨c,a⟩:∃c,s[i/8].toNat=c:=⟨_,rfl⟩;have e0:wrap64 ((s[i/8].toNat:Nat):Int)=(c:Int):=by rw[a,FT (c:Int) W]
 rw[a] at hx⊢;have d0:decide (s.size<=i/8)=false:=bm W;have f:=Z hx;clear b hx a
 go_enter func138,ntmps138
 go_upto_region 5 with fail
 go_loopw [5,6] (λ d b wr=>∃k n:Nat,k<=i%8/\b=O (k:Int)/\d=O (n:Int)/\n=c/2^k/\w=wr) (λ _ b _=>i%8-(intOf b).toNat)
 case atStart=>exact⟨0,c,bf _,rfl,by rw[e0],by simp,rfl⟩
 case round=>
  obtain⟨k,n,h,rfl,rfl,b,rfl⟩:=hrel;have j:n<=c:=by rw[b];exact ng _ _
  have a:=f.U;have d:=Z b;clear b;by_cases l:k<i%8
  ·have d1:decide ((k:Int)<(i:Int)%8)=true:=aT W;have b:ai (n/2=c/2^(k+1)):=Z (by rw[d.U,ca,gM])
   go_wp2
   go_roundw
   case rel=>exact⟨k+1,n/2,by omega,by go_num,by go_num,b.U,trivial⟩
   case measure=>simp[intOf];omega
  ·have d1:decide ((k:Int)<(i:Int)%8)=false:=bm W;obtain rfl:k=i%8:=by omega
   go_wp2
   go_ret
   refine⟨?_,bp _ _⟩;rw[<-d.U];rfl
def Dg(k:af){p:Q3}(a:p.Lt):∀i,(gU k i (eZ,p)).1.Lt/\(gU k i (eZ,p)).2.Lt
 |0=>⟨acj,a⟩
 |i+1=>by
  obtain⟨b,c⟩:=Dg k a i
  unfold gU
  refine⟨?_,Bv _ _⟩
  simp only
  split
  ·exact Bv _ _
  ·exact b
def VP(k:af)(i:Nat)(s:Q3×Q3):gU k (i+1) s=(if dt k i=1 then kg (gU k i s).1 (gU k i s).2 else(gU k i s).1,kg (gU k i s).2 (gU k i s).2):=rfl
def Ls{p:Q3}(q:p.Lt)(s:af)(J:s.size<=1000000)(w:aa):CB 57 #[cS p,ad s] w (cS (mulR p s)):=by
 have a:=Z (ae.start w []);have u:=Z (λ i=>Dg s q i);have b:mulR p s=(gU s (min 256 (8*s.size)) (eZ,p)).1:=rfl;obtain⟨R,c⟩:∃R,mulR p s=R:=⟨_,rfl⟩;rw[c] at b⊢;have z:=Z b;have r:ai (gU s 0 (eZ,p)=(eZ,p)):=Z rfl;clear b c q;have E:IntKind.i64.wrap (8*(s.size:Int))=8*(s.size:Int):=aO _ W
 go_enter func57,ntmps57
 go_upto_region 3 with(first|refine KB a 110 2 (nX p) λ A e F a=> ?_|refine KA a _ 4 js λ B e G a=> ?_|refine KA a _ 5 js λ C e H a=> ?_|(go_at_call 122;refine KC a (wh _) λ g a=> ?_)|refine KS a λ e a=> ?_)
 go_loopw [6] (λ b wr=>∃(i:Nat) (x y:Q3),i<=256/\i<=8*s.size/\b=O (i:Int)/\gU s i (eZ,p)=(x,y)/\ae w wr [] [Y.row C 110 (nX x),Y.row B 110 [ad ⟨#[]⟩,ad ⟨#[]⟩,ad ⟨#[]⟩],Y.row A 110 (nX y)]) (λ b _=>256-(intOf b).toNat)
 case atStart=>exact⟨0,eZ,p,by decide,bf _,rfl,r.U,a.U⟩
 case round=>
  clear a;obtain⟨i,x,y,I,m,rfl,b,f⟩:=hrel;have a:=Z f;have v:=Z b;have D:=Z m;obtain⟨hx,d⟩:=u.U i;rw[b] at hx d;have c:=VP s i (eZ,p);rw[b] at c;clear f b;by_cases o:i<256/\i<8*s.size
  ·obtain⟨f,k⟩:=o;have d1:decide ((i:Int)<256)=true:=aT W;have d2:decide ((i:Int)<8*(s.size:Int))=true:=aT W;have b:=λ h=>X1 s i f W h;have e1:IntKind.i64.wrap ((i:Int)+1)=((i+1:Nat):Int):=aO _ W;have j:=Z f;have n:=Z k;have HD:=Z (λ h=>DV d d h);clear f k m;by_cases f:dt s i=1
   ·rw[au f] at c;rw[f] at b;have k:=Z b;have l:=Z c;have t:=Z (λ h=>DV hx d h);clear b c f hx d
    go_wp2_with(first|(go_at_call 138;refine KC a (k.U _) λ g a=> ?_)|(refine KT a 3 ?_)|(go_at_call 59;refine KC a (HD.U _) λ g a=> ?_)|(go_at_call 59;refine KC a (t.U _) λ g a=> ?_)|refine KS a λ e a=> ?_)
    go_roundw
    case rel=>exact⟨i+1,_,_,by have:=j.U;omega,by have:=n.U;omega,by go_num,l.U,a.U⟩
    case measure=>have:=j.U;simp[intOf];omega
   ·rw[ar f] at c;have h:=xE s i;rw[show dt s i=0 by omega] at b;have k:=Z b;have l:=Z c;clear b c f hx d h
    go_wp2_with(first|(go_at_call 138;refine KC a (k.U _) λ g a=> ?_)|(refine KT a 3 ?_)|(go_at_call 59;refine KC a (HD.U _) λ g a=> ?_)|refine KS a λ e a=> ?_)
    go_roundw
    case rel=>exact⟨i+1,_,_,by have:=j.U;omega,by have:=n.U;omega,by go_num,l.U,a.U⟩
    case measure=>have:=j.U;simp[intOf];omega
  ·have f:ai (min 256 (8*s.size)=i):=Z W;have hd:(decide ((i:Int)<256)&&decide ((i:Int)<8*(s.size:Int)))=false:=by
    rw[Bool.and_eq_false_iff,B7,B7];omega
   obtain⟨h,l⟩:∃b,decide ((i:Int)<256)=b:=⟨_,rfl⟩;obtain⟨k,t⟩:∃b,decide ((i:Int)<8*(s.size:Int))=b:=⟨_,rfl⟩;rw[l,t] at hd;clear o m hx d c;cases h
   rotate_left;focus
    cases k
    rotate_left;focus cases hd
   all_goals
    clear hd
    go_wp2_with(first|(refine KT a 3 ?_)|refine KS a λ e a=> ?_)
    refine ha a.U 1 rfl 110 3 rfl rfl V rfl rfl ?_;rw[z.U,f.U,v.U];exact⟨rfl,a.U.aq⟩
end
section
open FM PT GL
def YX{p q:Q3}(t:p.Lt)(u:q.Lt)(w:aa):CB 56 #[cS p,cS q] w (aK (rC p q)):=by
 have a:=Z (ae.start w []);obtain⟨e,g,c⟩:=p;obtain⟨f,h,d⟩:=q;obtain⟨p1,p2,p3⟩:=t;obtain⟨v,q2,q3⟩:=u;simp only at p1 p2 p3 v q2 q3;have k:rC ⟨e,g,c⟩ ⟨f,h,d⟩=(decide (aF e d=aF f c)&&decide (aF g d=aF h c)):=rfl;obtain⟨R,b⟩:∃R,rC ⟨e,g,c⟩ ⟨f,h,d⟩=R:=⟨_,rfl⟩;rw[b] at k⊢;have f1:=ve (dC e d) (dC f c);have f2:=ve (dC g d) (dC h c);generalize decide (aF e d=aF f c)=l at*;generalize decide (aF g d=aF h c)=m at*;clear b;subst k;cases l
 ·go_enter func56,ntmps56
  go_upto_region 1 with(first|refine KB a 110 2 (nX ⟨e,g,c⟩) λ n j r a=> ?_|refine KB a 110 3 (nX ⟨f,h,d⟩) λ o j s a=> ?_)
  refine RG a 24 [0,1] λ z a b=> ?_;refine VV [0,2001,2,2003,5,2006,7,2008] b ?_;refine KW a b 4 (en 124) (Rm (x:=e) (y:=d) _) λ i a b=> ?_;refine KW a b 9 (en 124) (Rm (x:=f) (y:=c) _) λ i a b=> ?_;refine WB 10 false b ?_;refine VV [11,1012,1013,1014,1015,1016,1017,1018,1019,1020,1021,1022,23] b ?_;refine WT ?_
  go_wp2
  go_ret
  exact⟨rfl,a.U.aq⟩
 ·go_enter func56,ntmps56
  go_upto_region 1 with(first|refine KB a 110 2 (nX ⟨e,g,c⟩) λ n j r a=> ?_|refine KB a 110 3 (nX ⟨f,h,d⟩) λ o j s a=> ?_)
  refine RG a 24 [0,1] λ z a b=> ?_;refine VV [0,2001,2,2003,5,2006,7,2008] b ?_;refine KW a b 4 (en 124) (Rm (x:=e) (y:=d) _) λ i a b=> ?_;refine KW a b 9 (en 124) (Rm (x:=f) (y:=c) _) λ i a b=> ?_;refine WB 10 true b ?_;refine VV [11,12,2013,14,2015,17,2018,19,2020] b ?_;refine T1 16 ?_;refine lQ a b (en 124) (Rm (x:=g) (y:=d) _) λ i a b=> ?_;refine T1 21 ?_;refine lQ a b (en 124) (Rm (x:=h) (y:=c) _) λ i a b=> ?_;refine WB 22 m b ?_;refine VV [23] b ?_;refine WT ?_
  go_wp2
  go_ret
  exact⟨rfl,a.U.aq⟩
end
variable{a:Act}{r:Int}{o:Oper}{X:Operand}
section
open FM PT GL
def PS{wr:aa}{c:UInt8}(d:(Y.row g 5 [.int .u8 (c.toNat:Int)]).P wr)(h:o.op= .convert 29 9 X)(hx:a.eval X=ag (some ⟨g,0,none⟩) 1 1):(execOp a.eval o).run prog wr= .ok (.value (ad ⟨#[c]⟩)) wr:=by
 have b:=tz (P:=prog) wr 29 9 5 ⟨g,0,none⟩ 1 [c] cP eJ df (λ j e=>by
  have f:j=0:=by simpa using e
  subst f;rw[gp,dz];exact(show ah wr g 5 _ from d).cell 0)
 unfold execOp;simp only[h,hx];rw[show [c].length=1 from rfl] at b;simp only[b,cO,dN,dd]
def jK(s:af):ab:=match cD s with
 |some q=>aM #[cS ⟨q.x,q.y,1⟩,O 0]
 |none=>aM #[cS eZ,O 9]
def mv(E:Int)(o:Option Nat)(a:Bool)(y:Nat):ab:=
 if E=0 then(match o with|none=>aM #[cS eZ,O 9]|some x=>if a&&decide (x=0) then aM #[cS eZ,O 9] else aM #[cS ⟨if a then ek x else x,y,1⟩,O 0])
 else aM #[cS eZ,O 9]
def Qp{s:af}(d:s.size=32):jK s=mv (dq (cN s)) (kj (dE (cN s))) (iG s) (dE (cN s)):=by
 unfold jK cD;rw[au d];generalize iG s=e;generalize cN s=u;generalize dE u=y;unfold mv;split
 ·rename_i q a;split at a
  ·rename_i b;rw[au b];generalize kj y=o at*;cases o with
   |none=>cases a
   |some x=>
    simp only at a⊢;split at a
    ·cases a
    ·rename_i c;cases a;rw[ar c];rfl
  ·cases a
 ·rename_i a;split at a
  ·rename_i b;rw[au b];generalize kj y=o at*;cases o with
   |none=>rfl
   |some x=>
    simp only at a⊢;split at a
    ·rename_i c;rw[au c]
    ·cases a
  ·rename_i b;rw[ar b]
def Qs(h:r≠0)(o:Option Nat)(a:Bool)(y:Nat):mv r o a y=aM #[cS eZ,O 9]:=ar h
def Qt(a:Bool)(y:Nat):mv 0 none a y=aM #[cS eZ,O 9]:=rfl
def Qv(x y:Nat)(h:decide (x=0)=true):mv 0 (some x) true y=aM #[cS eZ,O 9]:=by
 unfold mv;rw[au rfl];simp only[h];rfl
def Qr(x y:Nat)(h:decide (x=0)=false):mv 0 (some x) true y=aM #[cS ⟨ek x,y,1⟩,O 0]:=by
 unfold mv;rw[au rfl];simp only[h];rfl
def Qu(x y:Nat):mv 0 (some x) false y=aM #[cS ⟨x,y,1⟩,O 0]:=rfl
def YG(h:eE g=none):pJ g=aM #[ad (enc 0),aK false]:=by unfold pJ;rw[h]
def YH(h:eE g=some n):pJ g=aM #[ad (enc n),aK true]:=by unfold pJ;rw[h]
def xM(y:Nat):kj y=eE (aF (bM (aF y y) 1) (cZ (bt (aF cK (aF y y)) 1))):=by unfold kj;with_reducible rfl
def D0(s:af)(w:aa):CB 53 #[ad s] w (jK s):=by
 have a:=Z (ae.start w []);by_cases C:s.size=32
 ·obtain⟨R,f⟩:∃R,jK s=R:=⟨_,rfl⟩;rw[f];have l:R=mv (dq (cN s)) (kj (dE (cN s))) (iG s) (dE (cN s)):=f.symm.trans (Qp C);have h31:31<s.size:=by omega
  obtain⟨z,M⟩:∃z:UInt8,s[31]=z:=⟨_,rfl⟩;have j:s.data.toList.getD 31 0=z:=by
   rw[dc,aU (by simpa using h31),<-M];rfl
  obtain⟨c,d⟩:∃c:UInt8,c.toNat=z.toNat%128:=⟨UInt8.ofNat (z.toNat%128),by simp;omega⟩;have g:s.extract 0 31++⟨#[c]⟩=cN s:=by
   apply pZ;apply ju;rw[nx,uL];unfold cN;rw[j,<-d];simp
  have o:iG s=decide (128<=z.toNat):=by unfold iG;rw[j]
  have b:=λ e=>YD (s.extract 0 31++⟨#[c]⟩) e;rw[g] at b;have n:dq (cN s)=0->cN s=enc (dE (cN s))/\dE (cN s)<PN:=λ h=>by
   have k:dE (cN s)=aH (cN s).data.toList%PN:=by unfold dE;rw[au h]
   refine⟨?_,by rw[k];exact cy _ GL.fh⟩;rw[k];unfold dq at h;split at h
   ·cases h
   ·split at h
    ·cases h
    ·split at h
     ·rename_i m;exact m.symm
     ·cases h
  generalize dq (cN s)=E at*;generalize dE (cN s)=y at*;generalize cN s=u at*;generalize iG s=G at*;have d0:((s.size:Int) !=32)=false:=by rw[sx];omega
  have d1:decide ((128:Int)<=(z.toNat:Int))=G:=by rw[o,bw];simp;omega
  have e1:(z.toNat:Int)%128=(c.toNat:Int):=by rw[d];omega
  have e2:(z.toNat:Int).tmod 128=(c.toNat:Int):=by rw[fz W];exact e1
  have p:=Z b;have t:=Z n;have m:=Z l;have r:=Z g;clear l f j d g o b n
  go_enter func53,ntmps53
  go_upto_region 4 with(refine KA a _ 2 js λ I l J a=> ?_)
  refine RG a 13 [] λ S a j=> ?_;refine VV [0] j ?_;refine W2 1 19 (v:=ad (s.extract 0 31)) rfl rfl (Or.inl ⟨by kernel_rfl,λ e A=>by go_simp⟩) j ?_;refine VV [2] j ?_;refine W2 3 21 (v:= .int .u8 (z.toNat:Int)) rfl rfl (Or.inl ⟨by kernel_rfl,λ e A=>by go_simp;(try rfl)⟩) j ?_;refine W2 4 22 (v:= .int .u8 (c.toNat:Int)) rfl rfl (Or.inl ⟨by kernel_rfl,λ e A=>by go_simp;(try exact e2)⟩) j ?_;refine ay.make a.U (i:=5) V zD rfl rfl 23 rfl (some 1) 5 [.int .u8 (c.toNat:Int)] ?CE ?rr5;case CE=>(go_simp;rfl)
  intro N l P K;refine⟨bg,?_⟩;replace a:=Z K;simp only[bc];simp only[aS,av,ax];refine ay.Eg (i:=6) V zD rfl rfl 24 rfl (ad ⟨#[c]⟩) _ (PS (a.U.in mZ) rfl rfl) bg ?_;simp only[aS,av,ax];refine W2 7 25 (v:=ad u) rfl rfl (Or.inl ⟨by kernel_rfl,λ e A=>by rw[<-r.U];go_simp;(try rfl)⟩) bg ?_;refine KW a bg 8 (en 123) (p.U _) λ d a j=> ?_;refine VV [9,10,11,12] j ?_;refine WT ?_;by_cases h:E=0
  ·obtain⟨L,Q⟩:=t.U h;rw[au h];have f:=m.U;subst h;clear t p r m C;subst L;have k:=λ e=>YV (dC (bM (aF y y) 1) (cZ (bt (aF cK (aF y y)) 1))) e;have D:=Z (λ e=>Yw (oY (aF cK (aF y y)) 1) e);cases hx:kj y with
   |none=>
    rw[YG ((xM y).symm.trans hx)] at k;rw[hx,Qt] at f;have q:=Z k;have g:=Z f;clear k f hx
    go_wp2_with(first|(go_at_call 124;refine KC a (Rm _) λ d a=> ?_)|(go_at_call 127;refine KC a (Eb _) λ d a=> ?_)|(go_at_call 126;refine KC a (Rs _) λ d a=> ?_)|(go_at_call 130;refine KC a (DY _) λ d a=> ?_)|(go_at_call 129;refine KC a (Ra _) λ d a=> ?_)|(go_at_call 128;refine KC a (D.U _) λ d a=> ?_)|(go_at_call 125;refine KC a (q.U _) λ d a=> ?_)|(go_at_call 122;refine KC a (wh _) λ d a=> ?_)|refine KS a λ l a=> ?_)
    refine fb a.U 1 rfl 110 3 rfl rfl rfl V rfl rfl ?_;rw[g.U];exact⟨rfl,a.U.aq⟩
   |some x=>
    have F:x<PN:=Lx ((xM y).symm.trans hx);rw[YH ((xM y).symm.trans hx)] at k;rw[hx] at f;have q:=Z k;have f1:=ve F Nh;obtain⟨b,B⟩:∃b,decide (x=0)=b:=⟨_,rfl⟩;rw[B] at f1;have H:=Z (λ e=>Ea F e);have n:=Z f;have o:=Z B;clear k f hx B;cases G
    focus have g:=Z (n.U.trans (Qu x y))
    rotate_left;focus
     cases b
     focus have g:=Z (n.U.trans (Qr x y o.U))
     rotate_left;focus have g:=Z (n.U.trans (Qv x y o.U))
    all_goals
     clear n o
     go_wp2_with(first|(go_at_call 124;refine KC a (Rm _) λ d a=> ?_)|(go_at_call 127;refine KC a (Eb _) λ d a=> ?_)|(go_at_call 127;refine KC a (Lu _) λ d a=> ?_)|(go_at_call 126;refine KC a (Rs _) λ d a=> ?_)|(go_at_call 130;refine KC a (DY _) λ d a=> ?_)|(go_at_call 129;refine KC a (Ra _) λ d a=> ?_)|(go_at_call 128;refine KC a (D.U _) λ d a=> ?_)|(go_at_call 125;refine KC a (q.U _) λ d a=> ?_)|(go_at_call 131;refine KC a (H.U _) λ d a=> ?_)|(go_at_call 122;refine KC a (wh _) λ d a=> ?_)|refine KS a λ l a=> ?_)
     refine fb a.U 1 rfl 110 3 rfl rfl rfl V rfl rfl ?_;rw[g.U];exact⟨rfl,a.U.aq⟩
  ·rw[ar h];have b:(E !=0)=true:=by rw[ml];exact h
   have g:=Z (m.U.trans (Qs h _ _ _));clear t p r m h
   go_wp2_with(first|(go_at_call 122;refine KC a (wh _) λ d a=> ?_)|refine KS a λ l a=> ?_)
   refine fb a.U 1 rfl 110 3 rfl rfl rfl V rfl rfl ?_;rw[g.U];exact⟨rfl,a.U.aq⟩
 ·have hd:jK s=aM #[cS eZ,O 9]:=by unfold jK cD;rw[ar C]
  rw[hd];have d0:((s.size:Int) !=32)=true:=by rw[ml];omega
  go_enter func53,ntmps53
  go_wp2_with(first|refine KA a _ 2 js λ I l J a=> ?_|(go_at_call 122;refine KC a (wh _) λ d a=> ?_)|refine KS a λ l a=> ?_)
  refine fb a.U 0 rfl 110 3 rfl rfl rfl V rfl rfl ?_;exact⟨rfl,a.U.aq⟩
end
variable{D:BD}{h:HD}{G:MG}
section
open TreeM
def yZ(x:WS)(s:af)(n:Nat):(x.raw s (n:Int)).b.length<=x.b.length+n:=by
 unfold WS.raw WS.put;have:s.data.toList.length=s.size:=by rw[iO];rfl
 grind
def pE(x:WS)(n:Nat)(h:n<18446744073709551616):(x.num n).b.length<=x.b.length+10:=by
 have a:=tt x true 0 ⟨(bU n).toArray⟩;have b:=zM h;have e:(⟨(bU n).toArray⟩:af).size=(bU n).length:=by rfl
 unfold WS.num;omega
def vT(x:WS)(n:Int):(x.byte n).b.length<=x.b.length+4:=by
 have a:=tt x (decide (0<=n/\n<=255)) 1 (mn n);rw[BL] at a;unfold WS.byte;omega
def DT(x:WS)(a:h.Ok):(x.head h).b.length<=x.b.length+116:=by
 unfold WS.head;have b:=pE x h.size a.size;have c:=pE (x.num h.size) h.time a.time;have d:=yZ ((x.num h.size).num h.time) h.aE 32;have e:=yZ (((x.num h.size).num h.time).raw h.aE 32) h.a 64;grind
def DR:∀(L:List af) (x:WS),(x.fQ L).b.length<=x.b.length+32*L.length
 |[],x=>by simp[WS.fQ]
 |s::L,x=>by
  have a:=yZ x s 32
  have b:=DR L (x.raw s 32)
  have e:x.fQ (s::L)=(x.raw s 32).fQ L:=rfl
  grind
def XG(x:WS)(a:D.Ok)(f:D.e.length<=48):(x.lb D).b.length<=x.b.length+1800:=by
 unfold WS.lb;have b:=DT x a.a;have c:=DT (x.head D.a) a.b;have d:=pE ((x.head D.a).head D.b) D.e.length W;have e:=DR D.e (((x.head D.a).head D.b).num D.e.length);omega
def XH(x:WS)(k:MK)(a:k.size<18446744073709551616):(x.mark k).b.length<=x.b.length+50:=by
 unfold WS.mark;have b:=vT x (k.log:Int);have c:=vT (x.byte (k.log:Int)) (qD k.aR);have d:=pE ((x.byte (k.log:Int)).byte (qD k.aR)) k.size a;have e:=yZ (((x.byte (k.log:Int)).byte (qD k.aR)).num k.size) k.aE 32;grind
def K5:∀(L:List MK) (x:WS),(∀k∈L,k.size<18446744073709551616)->(x.aP L).b.length<=x.b.length+50*L.length
 |[],x,_=>by simp[WS.aP]
 |k::L,x,h=>by
  have b:=XH x k (h k zS)
  have c:=K5 L (x.mark k) (λ z a=>h z (by simp[a]))
  have e:x.aP (k::L)=(x.mark k).aP L:=rfl
  grind
def XI(hx:G.Ok)(a:G.Small)(z:WS)(c:Nat):(G.lE z c).b.length<=z.b.length+2000:=by
 unfold MG.lE;have b:=vT z (G.log:Int);have d:=pE z G.id hx.id;have e:=pE z G.m hx.m;have f:=pE z G.n hx.n;have g:=DT z hx.h;have h:=XG z hx.b a.b;have i:=pE z G.e.length (by have:=a.p;omega);have j:=DR G.e (z.num G.e.length);have k:=vT z (G.aP.length:Int);have h10:=K5 G.aP (z.byte (G.aP.length:Int)) hx.aP;have:=a.p;have:=a.m;grind
def K4{x:MG}(hx:x.Ok)(a:x.Small):∀(L:List Nat) (z:WS),(L.foldl x.lE z).b.length<=z.b.length+2000*L.length
 |[],z=>by simp
 |c::L,z=>by
  have b:=XI hx a z c
  have d:=K4 hx a L (x.lE z c)
  grind
def Vw(hx:G.Ok)(b:G.Small):G.enc.size<=20000:=by
 unfold MG.enc;split
 ·have c:=K4 hx b (gh (gD G.c)) ((⟨[],0⟩:WS).byte (G.c:Int));have a:=vT (⟨[],0⟩:WS) (G.c:Int);have d:=vz (gD G.c);have f:=IN G.c;simp only[ub] at a;unfold WS.text;split
  ·have e:∀l:List UInt8,(⟨l.toArray⟩:af).size=l.length:=λ l=>oD ..;grind
  ·have:(⟨#[]⟩:af).size=0:=rfl;omega
 ·have:(⟨#[]⟩:af).size=0:=rfl;omega
end
