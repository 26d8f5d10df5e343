import Derived.Test.YtncpbkoinennoaaGreatDoorMAV
import Derived.Test.YtncpbkoinennoaaGreatDoorMBC
set_option linter.all false
set_option maxRecDepth 100000
set_option maxHeartbeats 0
namespace Go.Proofs.YtncpbkoinennoaaGreatDoor
open Go.RowKit Proofs.Tryz
attribute [local irreducible] wpList Calls
variable{b:List UInt8}{g:Nat}
section
open FM PT GL
def xO(L:List UInt8)(x:UInt8):aZ (dv (L++[x]))=aZ (dv L)++[O (x.toNat:Int)]:=by simp[dv,aZ]
def Yy{w:aa}{cap:Nat}{J:List ab}(h:(Y.row g 3 (aZ (dv b)++J)).P w)(h32:32<=b.length)(I:b.length<=1000)(y:SC.LQ<=aH b):
 Calls prog 205 #[ag (some ⟨g,0,none⟩) b.length cap] w λ e a=>∃v q,e=ao v/\q.length=b.length/\aH q+SC.LQ=aH b/\ae w a [] [Y.ow 3 1 v q.length (aZ (dv q))]:=by
 have B:=Z (aX h bg)
 have a:=Z (ae.start w [])
 have D:=Z y
 obtain⟨n,d⟩:∃n,b.length=n:=⟨_,rfl⟩
 rw[d] at h32 I⊢
 have u:=Z d
 clear d y h
 go_enter func205,ntmps205
 go_upto_region 3 with((with_reducible show cn);(refine Mk a.U rfl 7 rfl (some 0) 3 [] (by go_simp;rfl) ?_;intro K m M d;replace a:=Z d;clear d;simp only[bc]))
 replace a:=Z (pL a.U 0 rfl 0 0 1 (aQ _) (bf _) rfl [] rfl)
 go_loopw [3,4,5] (λ k f e wr=>∃(i:Nat) (c:Int) (q:List UInt8) (A:Option Addr) (C:Nat),i<=n/\k=ag A i C/\f=O c/\e=O (i:Int)/\kb b (lC n) i c q/\ae w wr [] [Y.ow 3 1 (ag A i C) i (aZ (dv q))]) (λ _ _ e _=>n-(intOf e).toNat)
 case atStart=>exact⟨0,0,[],_,_,bf _,rfl,rfl,rfl,kb.start _ _,a.U⟩
 case round=>
  clear a
  obtain⟨i,c,q,A,C,N,rfl,rfl,rfl,k,f⟩:=hrel
  have a:=Z f;have e:=Z k
  have H:=k.b
  clear f k
  by_cases s:i<n
  ·have d1:decide (i<n)=true:=aT s
   obtain⟨x,hx⟩:∃x,b[i]?=some x:=⟨_,aU (by have:=u.U;omega)⟩
   obtain⟨o,t,p,r⟩:=J9 (n:=n) (j:=i) s h32
   have G:=fm ((a.U.bT B.U) _ mZ) (uX hx)
   have z:=e.U.step (v:=(x.toNat:Int)-c-o.toNat) hx t rfl
   have l:=Z z
   have R:=x.toNat_lt;have P:=o.toNat_lt
   have L:0<=c/\c<=1:=by omega
   have S:(i:Int)<(n:Int):=by omega
   have e1:IntKind.i64.wrap ((i:Int)+1)=((i+1:Nat):Int):=aO _ W
   have e2:IntKind.i64.wrap ((x.toNat:Int)-c)=(x.toNat:Int)-c:=aO _ W
   have e3:IntKind.i64.wrap ((x.toNat:Int)-c-(o.toNat:Int))=(x.toNat:Int)-c-(o.toNat:Int):=aO _ W
   obtain⟨F,k⟩:∃E,decide ((i:Int)<32)=E:=⟨_,rfl⟩
   clear hx t z H e
   go_upto_if 21 with fail
   go_cut [6] from 22 to 27 (λ s6 t=>s6=O ((x.toNat:Int)-c-(o.toNat:Int))/\ae w t [] [Y.ow 3 1 (ag A i C) i (aZ (dv q))])
   case first=>
    cases F with
    |true=>
     have t:(i:Int)<32:=iH k
     have z:i<py.size:=by rw[Dt];omega
     have E:=r z
     have H:(i:Int)<(py.size:Int):=by omega
     clear r p k t
     go_wp2_with(go_at_call 198;refine KC a (Lz _) λ Q a=> ?_)
     go_meet
     exact⟨rfl,a.U⟩
    |false=>
     have t:¬(i:Int)<32:=tc k
     have:=p W
     subst this
     go_wp2
     go_meet
     exact⟨by simp,a.U⟩
   case rest=>
    obtain⟨rfl,f⟩:=hcut
    replace a:=Z f
    clear f r p G e2 e3 k
    generalize Q:(x.toNat:Int)-c-(o.toNat:Int)=v at*
    by_cases t:v<0
    ·obtain⟨f,k⟩:=l.U.1 t
     have p:=Z f;have r:=Z k
     have d2:decide (v<0)=true:=aT t
     have e4:IntKind.i64.wrap (v+256)=v+256:=aO _ W
     clear f k l
     go_wp2_with(first|((with_reducible show cn);(refine Mk a.U rfl 34 rfl (some 1) 3 [O (v+256)] (by go_simp;rfl) ?_;intro E m H d;replace a:=Z d;clear d;simp only[bc]))|(refine Ap a.U rfl nG rfl 1 rfl rfl 0 rfl rfl rfl rfl (by unfold maxLen;omega) W ?_;intro G z m d;simp only[av,ax] at d;replace a:=Z d;clear d))
     go_roundw
     case rel=>exact⟨i+1,1,_,_,_,by omega,rfl,rfl,by go_num,p.U,by rw[xO,r.U];exact a.U.tail⟩
     case measure=>simp[intOf];omega
    ·obtain⟨f,k⟩:=l.U.2 W
     have p:=Z f;have r:=Z k
     have d2:decide (v<0)=false:=bm t
     clear f k l
     go_wp2_with(first|((with_reducible show cn);(refine Mk a.U rfl 34 rfl (some 1) 3 [O v] (by go_simp;rfl) ?_;intro E m H d;replace a:=Z d;clear d;simp only[bc]))|(refine Ap a.U rfl nG rfl 1 rfl rfl 0 rfl rfl rfl rfl (by unfold maxLen;omega) W ?_;intro G z m d;simp only[av,ax] at d;replace a:=Z d;clear d))
     go_roundw
     case rel=>exact⟨i+1,0,_,_,_,by omega,rfl,rfl,by go_num,p.U,by rw[xO,r.U];exact a.U.tail⟩
     case measure=>simp[intOf];omega
  ·have d1:decide (i<n)=false:=bm s
   obtain rfl:i=n:=by omega
   have l:=u.U
   have f:=e.U
   rw[<-l] at f
   have HD:=Z (kb.done f W D.U)
   have k:=Z e.U.len
   clear l f e
   go_wp2
   refine lP rfl rfl rfl ⟨_,q,rfl,k.U,HD.U,?_⟩
   rw[k.U]
   exact a.U
def Lg(s:af)(n:Nat)(b:n<=1000)(w:aa):Calls prog 121 #[ad s,O (n:Int)] w λ e a=>∃v q,e=ao v/\q.length=n/\aH q=aH (s.data.toList.take n)/\ae w a [] [Y.ow 3 1 v q.length (aZ (dv q))]:=by
 have a:=Z (ae.start w []);have m:ai ((s.data.toList++List.replicate n 0).length=s.size+n):=Z zS;have o:ai (aH ((s.data.toList++List.replicate n 0).take n)=aH (s.data.toList.take n)):=Z (by
  rw[List.take_append,qX,List.take_replicate,yx,jB,fA])
 have j:ai (∀(i:Nat) (h:i<s.size),(s.data.toList++List.replicate n 0)[i]?=some s[i]):=Z (λ i h=>by
  rw[kO (by simpa using h),aU (by simpa using h)];rfl)
 have k:ai (∀i,i<n->¬i<s.size->(s.data.toList++List.replicate n 0)[i]?=some 0):=Z (λ i d c=>by
  rw[iR (by simpa using c),AE,au W])
 generalize s.data.toList++List.replicate n 0=l at*
 go_enter func121,ntmps121
 go_upto_region 3 with((with_reducible show cn);(refine Mk a.U rfl 7 rfl (some 0) 3 [] (by go_simp;rfl) ?_;intro t e y b;replace a:=Z b;clear b;simp only[bc]))
 replace a:=Z (pL a.U 0 rfl 0 0 1 (aQ _) (bf _) rfl [] rfl)
 go_loopw [5,6] (λ d c wr=>∃(i:Nat) (A:Option Addr) (C:Nat),i<=n/\d=ag A i C/\c=O (i:Int)/\ae w wr [] [Y.ow 3 1 (ag A i C) i (aZ (dv (l.take i)))]) (λ _ c _=>n-(intOf c).toNat)
 case atStart=>exact⟨0,_,_,bf _,rfl,rfl,a.U⟩
 case round=>
  clear a;obtain⟨i,A,C,z,rfl,rfl,c⟩:=hrel;have a:=Z c;clear c;by_cases g:i<n
  ·have d1:decide (i<n)=true:=aT g;have e1:IntKind.i64.wrap ((i:Int)+1)=((i+1:Nat):Int):=aO _ W;have c:ai (∀x,l[i]?=some x->l.take (i+1)=l.take i++[x]):=Z (λ x hx=>by rw[AL,hx];rfl);by_cases d:i<s.size
   ·have d2:decide (i<s.size)=true:=aT d;have hx:=j.U i d;obtain⟨x,h⟩:∃x,s[i]=x:=⟨_,rfl⟩;rw[h] at hx;have f:=Z (c.U x hx);have B:=x.toNat_lt;have e2:wrap64 ((s[i].toNat:Nat):Int)=(x.toNat:Int):=by rw[h,FT (x.toNat:Int) W]
    have D:(i:Int)<(s.size:Int):=by omega
    clear hx c
    go_wp2_with(first|((with_reducible show cn);(refine Mk a.U rfl 22 rfl (some 1) 3 [O (x.toNat:Int)] (by go_simp;rfl) ?_;intro r e u b;replace a:=Z b;clear b;simp only[bc]))|(refine Ap a.U rfl nG rfl 1 rfl rfl 0 rfl rfl rfl rfl (by unfold maxLen;omega) W ?_;intro q p e b;simp only[av,ax] at b;replace a:=Z b;clear b))
    go_roundw
    case rel=>exact⟨i+1,_,_,by omega,rfl,by go_num,by rw[f.U,xO];exact a.U.tail⟩
    case measure=>simp[intOf];omega
   ·have d2:decide (i<s.size)=false:=bm d;have f:=Z (c.U 0 (k.U i g d));clear c
    go_wp2_with(first|((with_reducible show cn);(refine Mk a.U rfl 25 rfl (some 1) 3 [O 0] (by go_simp;rfl) ?_;intro c e v b;replace a:=Z b;clear b;simp only[bc]))|(refine Ap a.U rfl nG rfl 1 rfl rfl 0 rfl rfl rfl rfl (by unfold maxLen;omega) W ?_;intro q p e b;simp only[av,ax] at b;replace a:=Z b;clear b))
    go_roundw
    case rel=>exact⟨i+1,_,_,by omega,rfl,by go_num,by rw[f.U,xO];exact a.U.tail⟩
    case measure=>simp[intOf];omega
  ·have d1:decide (i<n)=false:=bm g;obtain rfl:i=n:=by omega
   have c:ai ((l.take i).length=i):=Z (by rw[eA,m.U];omega)
   go_wp2
   refine lP rfl rfl rfl ⟨_,l.take i,rfl,c.U,o.U,?_⟩;rw[c.U];exact a.U
end
section
open FM PT GL
def QN(n:Nat):List.replicate n (0:Int)=dv (List.replicate n 0):=by simp[dv]
def UH(g:b.length=33)(h:aH b<SC.LQ):aH (b.take 32)=aH b:=by
 have c:b[32]?=some (b[32]'W):=aU W;have a:=yw c;have e:=Ay;rw[tX (by omega:b.length<=32+1)] at a;simp only[aH,jB,fA] at a;have d:(b[32]'W).toNat=0:=by
  refine gY λ f=> ?_;have:=rZ (256^32) (show 1<=(b[32]'W).toNat by omega);omega
 rw[d,jB,fA] at a;exact a.symm
def Yz{w:aa}{cap:Nat}{b9:List ab}(h:(Y.row g 3 (aZ (dv b)++b9)).P w)(b2:b.length<=1000):
 CB 132 #[ag (some ⟨g,0,none⟩) b.length cap] w (ad (enc (aH b%SC.LQ))):=by
 have a4:=Z (aX h bg)
 have c:=Z (ae.start w [])
 obtain⟨b6,Q,b3,b4,b5⟩:=iB zP
 obtain⟨n,d⟩:∃n,b.length=n:=⟨_,rfl⟩
 rw[d] at b2⊢
 have N:=Z d
 have c0:IntKind.i64.wrap ((n:Int)-1)=(n:Int)-1:=aO _ W
 obtain⟨z,e⟩:∃z:List UInt8,List.replicate 33 0=z:=⟨_,rfl⟩
 have k:List.replicate 33 (0:Int)=dv z:=by rw[<-e];exact QN 33
 have m:ai (z.length=33):=Z (by rw[<-e];simp)
 have j:ai (aH z=0):=Z (by rw[<-e];exact yx 33)
 have f:=λ(i:Oper) (a:Act) (wr:aa) (o:i.op= .makeSlice 193 (.const (O 33)) (.const (O 33)))=>yD (op:=i) (a:=a) (wr:=wr) 33 zD o rfl
 rw[k] at f
 have a:=Z f
 clear f e k d h
 go_enter func132,ntmps132
 go_upto_region 3 with(refine Mk c.U rfl 8 rfl (some 33) 3 (aZ (dv z)++[]) (a.U _ _ _ rfl) λ b1 J c2 d=>?_;replace c:=Z d;clear d;simp only[bc])
 go_loopw [3,4] (λ E f wr=>∃(k B v:Nat) (r:List UInt8) (K:List ab),k<=n/\33<=v/\E=ag (some ⟨B,0,none⟩) 33 v/\f=O ((k:Int)-1)/\r.length=33/\aH r=aH (b.drop k)%SC.LQ/\ae w wr [] [Y.row B 3 (aZ (dv r)++K)]) (λ _ f _=>(intOf f+1).toNat)
 case atStart=>exact⟨n,b1,33,z,[],aQ _,aQ _,rfl,rfl,m.U,by rw[j.U,tX (by have:=N.U;omega)];rfl,c.U⟩
 case round=>
  clear c m j a
  obtain⟨k,B,v,r,K,R,c1,rfl,rfl,a,t,e⟩:=hrel
  have c:=Z e;have u:=Z a;have o:=Z t
  clear e a t
  cases k with
  |zero=>
   have d1:decide ((0:Int)<=((0:Nat):Int)-1)=false:=by decide
   have i:aH r=aH b%SC.LQ:=o.U
   have a:aH r<SC.LQ:=by rw[i];exact cy _ (by decide+kernel)
   have I:=UH u.U a
   have D:ai ((⟨(r.take 32).toArray⟩:af)=enc (aH b%SC.LQ)):=Z (by
    rw[HU (by rw[eA,u.U];rfl),I,i])
   clear i a I o
   have i:=c.U
   go_upto_region 12 with((with_reducible show cn);(refine Mk c.U rfl 31 rfl (some 0) 5 [] (by go_simp;rfl) ?_;intro p J G d;replace c:=Z d;clear d;simp only[bc]))
   replace c:=Z (pL c.U 0 rfl 0 0 1 (aQ _) (bf _) rfl [] rfl)
   clear i
   go_loopw [6,7] (λ j f y=>∃(i:Nat) (A:Option Addr) (C:Nat),i<=32/\j=ag A i C/\f=O (i:Int)/\ae w y [] [Y.ow 5 1 (ag A i C) i (bB (r.take i)),Y.row B 3 (aZ (dv r)++K)]) (λ _ f _=>32-(intOf f).toNat)
   case atStart=>exact⟨0,_,_,bf _,rfl,rfl,c.U⟩
   case round=>
    clear c
    obtain⟨i,A,C,Q,rfl,rfl,e⟩:=hrel
    have c:=Z e
    clear e
    by_cases a:i<32
    ·have d2:decide ((i:Int)<32)=true:=aT W
     obtain⟨x,hx⟩:∃x,r[i]?=some x:=⟨_,aU (by rw[u.U];omega)⟩
     have q:=fm (c.U.get (i:=1) rfl) (uX hx)
     have f:ai (r.take (i+1)=r.take i++[x]):=Z (by rw[AL,hx];rfl)
     have L:=x.toNat_lt
     have b7:(i:Int)<33:=by omega
     have e1:IntKind.i64.wrap ((i:Int)+1)=((i+1:Nat):Int):=aO _ W
     have e2:IntKind.u8.wrap (x.toNat:Int)=(x.toNat:Int):=Ax _ W
     clear hx
     go_wp2_with(first|((with_reducible show cn);(refine Mk c.U rfl 42 rfl (some 1) 5 [.int .u8 (x.toNat:Int)] (by go_simp;rfl) ?_;intro F J H d;replace c:=Z d;clear d;simp only[bc]))|(refine Ap c.U rfl Ch rfl 1 rfl rfl 0 rfl rfl rfl rfl (by unfold maxLen;omega) W ?_;intro s m J d;simp only[av,ax] at d;replace c:=Z d;clear d))
     go_roundw
     case rel=>exact⟨i+1,_,_,by omega,rfl,by go_num,by rw[f.U,qG];exact c.U.tail⟩
     case measure=>simp[intOf];omega
    ·have d2:decide ((i:Int)<32)=false:=bm W
     obtain rfl:i=32:=by omega
     have j:=qL (P:=prog) (l:=r.take 32) cP eJ df (show wr.ownsRow 0 5 1 (.slice A 32 C) 32 (bB (r.take 32)) from c.U.get (i:=0) rfl)
     rw[D.U] at j
     go_wp2
     go_ret
     exact⟨rfl,c.U.aq⟩
  |succ j=>
   rw[show(((j+1:Nat):Int)-1)=(j:Int) by omega]
   obtain⟨x,hx⟩:∃x,b[j]?=some x:=⟨_,aU (by have:=N.U;omega)⟩
   have q:=fm ((c.U.bT a4.U) _ mZ) (uX hx)
   obtain⟨f,p⟩:=VA u.U o.U hx
   have A:=Z f;have F:=Z p
   have d1:decide ((0:Int)<=(j:Int))=true:=aT W
   have e1:IntKind.i64.wrap ((j:Int)-1)=(j:Int)-1:=aO _ W
   have b7:(j:Int)<(n:Int):=by omega
   have M:(wr.alloc (.cells #[O (x.toNat:Int)] 3)).ownsRow wr.heap.size 3 1 (ag (some ⟨wr.heap.size,0,none⟩) 1 1) 1 [O (x.toNat:Int)]:=⟨rfl,.inr ⟨wr.heap.size,1,#[O (x.toNat:Int)],rfl,aQ _,ah.new wr 3 _,aQ _,by unfold maxLen;decide,rfl,rfl⟩⟩
   have T:=Mb (c.U.alloc [O (x.toNat:Int)] 3|>.get (i:=1) rfl) 32 v (by rw[cC,u.U];decide)
   have I:(32:Int)<=(v:Int):=by omega
   clear hx f p o
   go_upto_region 7 with(at_builtin;refine mM rfl _ _ 193 193 rfl wr.heap.size 3 b6 _ 1 8 uB Q b3 b4 b5 rfl _ _ _ rfl M _ 32 _ rfl T zD zD zS λ b8 a2 S L a0=>?_)
   have p:BW wr a2:=(bJ wr _).grown L zS (by intro k R;cases R;exact aQ _)
   have f:=c.U.I8 p S
   have X:[Value.int .i64 (x.toNat:Int)]++aZ ((dv r).take 32)=aZ (dv (x::r.take 32)):=by simp[dv,aZ,List.map_take]
   rw[X] at f
   obtain⟨H,G,a3,t,C,-,-,f⟩:=nU f 0 rfl zD
   have t:b8=ag (some ⟨H,0,none⟩) 33 G:=t
   subst t
   replace c:ai (ae w a2 [] [Y.row H 3 (aZ (dv (x::r.take 32))++a3)]):=Z ((f.az 1 rfl).tail)
   have o:ai (33<=G):=Z C
   clear f p S L a0 T M X q C
   generalize x::r.take 32=p at*
   go_upto_region 8 with fail
   go_loopg [3] (aH p) (λ q E y=>∃(s m:Nat) (f:List UInt8) (C:List ab),33<=m/\E=ag (some ⟨s,0,none⟩) 33 m/\f.length=33/\aH f<=q/\aH f%SC.LQ=aH (b.drop j)%SC.LQ/\ae w y [] [Y.row s 3 (aZ (dv f)++C)])
   case atStart=>exact⟨H,G,p,a3,o.U,rfl,A.U,aQ _,F.U,c.U⟩
   case round=>
    clear c A F o
    obtain⟨s,m,f,C,L,rfl,q,S,M,e⟩:=hrel
    have c:=Z e;have A:=Z q;have F:=Z S;have E:=Z M;have a6:=Z L
    have o:=La (cap:=m) (e.get (i:=0) rfl) (by rw[q];decide) (by rw[q];decide)
    rw[q] at o
    clear e q S M L
    by_cases a:aH f<SC.LQ
    ·rw[aT a] at o
     have q:=Z o
     have D:ai (aH f=aH (b.drop j)%SC.LQ):=Z (by rw[<-E.U,bY a])
     clear o a F E
     go_wp2_with(go_at_call 120;refine KC c q.U λ a1 c=> ?_)
     go_roundw
     case rel=>exact⟨j,s,m,f,C,by omega,a6.U,rfl,by go_num,A.U,D.U,c.U⟩
     case measure=>simp[intOf]
    ·rw[bm a] at o
     have q:=Z o
     have e:=λ(y:aa) (L:(Y.row s 3 (aZ (dv f)++C)).P y)=>Yy (cap:=m) L (by rw[A.U];decide) (by rw[A.U];decide) W
     rw[A.U] at e
     have L:=Z e
     clear o a e
     go_wp2_with(first|(go_at_call 120;refine KC c q.U λ a1 c=> ?_)|(go_at_call 205;refine(L.U _ (c.U.get (i:=0) rfl)).mono ?_;rintro e a1 ⟨c3,q2,rfl,a,S,T⟩))
     obtain⟨b0,a9,y2,a0,y,-,-,X⟩:=nU (c.U.tp T) 0 rfl (by rw[a];decide)
     rw[a] at a0 y
     subst a0
     have a8:=Z ((X.az 1 rfl).tail);have a7:=Z a;have o:=Z S;have a5:=Z y
     have M:ai (0<SC.LQ):=Z (by decide+kernel)
     clear T X a S y c L q
     go_wp2
     go_roundg (gk-1)
     case measure=>have:=F.U;have:=o.U;have:=M.U;omega
     case rel=>exact⟨b0,a9,q2,y2,a5.U,rfl,a7.U,by have:=F.U;have:=o.U;have:=M.U;omega,by rw[<-E.U,<-o.U,Nat.add_mod_right],a8.U⟩
end
section
open FM PT GL
def YY(s:af)(w:aa):CB 54 #[ad s] w (ad (db s)):=by
 have HD:=Z (Lg s 64 zD w);have h:ai (enc (aH (s.data.toList.take 64)%SC.LQ)=db s):=Z rfl;obtain⟨R,a⟩:∃R,db s=R:=⟨_,rfl⟩;rw[a] at h⊢;clear a
 go_enter func54,ntmps54
 go_wp2_with(go_at_call 121;refine HD.U.mono ?_;rintro e n ⟨v,q,rfl,b,j,k⟩)
 obtain⟨g,c,y,l,-,-,-,f⟩:=nU k 0 rfl (by rw[b];decide);have a:=Yz (cap:=c) (f.get (i:=0) rfl) (by rw[b];decide);rw[b] at l a;rw[j,h.U] at a;subst l;have m:=Z a;have d:=Z f;clear k f b j a HD
 go_wp2_with(go_at_call 132;refine KC d m.U λ n d=> ?_)
 go_ret
 exact⟨rfl,d.U.aq⟩
def LF(s:af)(w:aa):CB 52 #[ad s] w (aK (hY s)):=by
 rw[ZS];by_cases b:s.size=32
 ·rw[aT b,gW];have HD:=Z (Lg s 32 zD w);have l:ai (aH (s.data.toList.take 32)=aH s.data.toList):=Z (by rw[bK (by simp;omega)]);have d1:((s.size:Int)==32)=true:=by rw[gb];omega
  generalize aH s.data.toList=N at*
  go_enter func52,ntmps52
  go_wp2_with(go_at_call 121;refine HD.U.mono ?_;rintro e n ⟨v,q,rfl,a,j,b⟩)
  obtain⟨g,c,y,k,-,-,-,h⟩:=nU b 0 rfl (by rw[a];decide);have d:=La (cap:=c) (h.get (i:=0) rfl) (by rw[a];decide) (by rw[a];decide);rw[a] at k d;rw[j,l.U] at d;subst k;have m:=Z d;have f:=Z h;clear b h a j d HD
  go_wp2_with(go_at_call 120;refine KC f m.U λ n f=> ?_)
  go_ret
  exact⟨rfl,f.U.aq⟩
 ·rw[bm b,kH];have d1:((s.size:Int)==32)=false:=by rw[dP];omega
  go_enter func52,ntmps52
  go_wp2
  go_ret
  exact⟨rfl,bp _ _⟩
def Qo:jK sv=aM #[cS mj,O 0]:=by
 unfold jK;rw[BB];rfl
def X0(w:aa):CB 58 #[] w (cS mj):=by
 have hd:=λ a=>D0 sv a;rw[Qo] at hd;have c:sv=⟨#[88,102,102,102,102,102,102,102,102,102,102,102,102,102,102,102,102,102,102,102,102,102,102,102,102,102,102,102,102,102,102,102]⟩:=by rfl
 rw[c] at hd;have HD:=Z hd;have a:=Z (ae.start w []);obtain⟨b,d⟩:∃b,mj=b:=⟨_,rfl⟩;rw[d] at HD⊢;clear hd c d
 go_enter func58,ntmps58
 go_wp2_with(first|refine KA a _ 0 js λ e c g a=> ?_|refine KA a _ 1 js λ f c h a=> ?_|(go_at_call 53;refine KC a (HD.U _) λ i a=> ?_)|(refine KT a 3 ?_)|refine KS a λ c a=> ?_)
 refine ha a.U 1 rfl 110 3 rfl rfl V rfl rfl ?_;exact⟨rfl,a.U.aq⟩
end
section
open FM PT GL
def B4{s:af}{q:Q4}(h:cD s=some q):(⟨q.x,q.y,1⟩:Q3).Lt:=by
 have a:dE (cN s)<PN:=by
  unfold dE;split
  ·exact cy _ fh
  ·exact fh
 unfold cD at h;split at h
 ·split at h
  ·generalize dE (cN s)=y at*;rw[xM] at h;split at h
   ·cases h
   ·rename_i x hx;split at h
    ·cases h
    ·cases h
     refine⟨?_,a,mF⟩;show(if iG s then ek x else x)<PN;split
     ·exact vm _
     ·exact Lx hx
  ·cases h
 ·cases h
def JO{p:Q3}(a:p.Lt)(s:af):(mulR p s).Lt:=(Dg s a _).1
def B6{s:af}{q:Q4}(h:cD s=some q):jK s=aM #[cS ⟨q.x,q.y,1⟩,O 0]:=by unfold jK;rw[h]
def B5{s:af}(h:cD s=none):jK s=aM #[cS eZ,O 9]:=by unfold jK;rw[h]
def Qq(s:af):∃(q:Q3) (e:Int),jK s=aM #[cS q,O e]:=by
 cases h:cD s with
 |none=>exact⟨_,_,B5 h⟩
 |some q=>exact⟨_,_,B6 h⟩
def abK{c m a:af}(h:a.size≠64):lK c m a=false:=ar λ b=>h b.1
def abJ{c m b:af}(h:hY (b.extract 32 64)=false):lK c m b=false:=ar λ a=>by rw[h] at a;cases a.2
def abI{pub m b:af}(h:b.size=64)(h2:hY (b.extract 32 64)=true):lK pub m b=match cD pub,cD (b.extract 0 32) with
 |some a,some r=>rC (mulR mj (b.extract 32 64)) (kg ⟨r.x,r.y,1⟩ (mulR ⟨a.x,a.y,1⟩ (db (cB (b.extract 0 32++(pub++m))))))
 |_,_=>false:=au ⟨h,h2⟩
def GO:mj.Lt:=by
 have h:=B4 BB;exact h
def ab9(s:af)(a:s.size<=100000000)(w:aa):CB 55 #[ad s] w (ad (cB s)):=WD.wb s a w
def Y6(e m d:af)(a6:e.size<=1000)(a5:m.size<=90000000)(w:aa):CB 17 #[ad e,ad m,ad d] w (aK (lK e m d)):=by
 have b:=Z (ae.start w []);by_cases B:d.size=64
 ·have d0:((d.size:Int) !=64)=false:=by rw[sx];omega
  cases k:hY (d.extract 32 64) with
  |false=>
   rw[abJ k];have a:=λ c=>LF (d.extract 32 64) c;rw[k] at a;have q:=Z a;clear a k
   go_enter xm,xo
   go_wp2_with(first|(go_at_call 52;refine KC b (q.U _) λ f b=> ?_))
   go_ret
   exact⟨rfl,b.U.aq⟩
  |true=>
   have g:=abI (pub:=e) (m:=m) B k;have a:=λ c=>LF (d.extract 32 64) c;rw[k] at a;have q:=Z a;have j:=λ c=>D0 e c;have i:=λ c=>D0 (d.extract 0 32) c;have S:(d.extract 0 32).size=32:=by simp;omega
   have a0:(d.extract 32 64).size=32:=by simp;omega
   have a1:(db (cB (d.extract 0 32++(e++m)))).size=32:=by unfold db;exact gf _
   have p:∀c,CB 57 #[cS mj,ad (d.extract 32 64)] c (cS (mulR mj (d.extract 32 64))):=λ c=>Ls GO _ W c;have r:∀c,CB 55 #[ad (d.extract 0 32++e++m)] c (ad (cB (d.extract 0 32++(e++m)))):=λ c=>by
    have h:=ab9 (d.extract 0 32++e++m) (by simp only[gX];omega) c;rwa[show cB (d.extract 0 32++e++m)=cB (d.extract 0 32++(e++m)) by rw[ByteArray.append_assoc]] at h
   have l:=λ c=>YY (cB (d.extract 0 32++(e++m))) c;have o:=JO GO (d.extract 32 64);have h:=λ c=>X0 c;clear k;generalize lK e m d=R at*;generalize a4:d.extract 0 32=n at*;generalize a3:d.extract 32 64=T at*;generalize mulR mj T=X at*;generalize mj=G at*;have L:=Z r;have F:=Z l;have I:=Z p;have H:=Z o;have E:=Z h;clear h r l p a o;cases h:cD e with
   |none=>
    rw[h] at g;rw[B5 h] at j;obtain⟨q2,e2,a⟩:=Qq n;rw[a] at i;have o:=Z j;have p:=Z i;have r:=Z g;clear a;clear j i g h
    go_enter xm,xo
    go_wp2_with(first|(go_at_call 52;refine KC b (q.U _) λ f b=> ?_)|refine KA b _ 7 js λ u k y b=> ?_|refine KA b _ 9 js λ x k z b=> ?_|(go_at_call 53;refine KC b (o.U _) λ f b=> ?_)|(go_at_call 53;refine KC b (p.U _) λ f b=> ?_)|refine KS b λ k b=> ?_)
    go_ret
    exact⟨by rw[r.U];rfl,b.U.aq⟩
   |some a=>
    have s:=B4 h;rw[h] at g;rw[B6 h] at j;cases l:cD n with
    |none=>
     rw[l] at g;rw[B5 l] at i;have o:=Z j;have p:=Z i;have r:=Z g;clear j i g h l s
     go_enter xm,xo
     go_wp2_with(first|(go_at_call 52;refine KC b (q.U _) λ f b=> ?_)|refine KA b _ 7 js λ u k y b=> ?_|refine KA b _ 9 js λ x k z b=> ?_|(go_at_call 53;refine KC b (o.U _) λ f b=> ?_)|(go_at_call 53;refine KC b (p.U _) λ f b=> ?_)|refine KS b λ k b=> ?_)
     go_ret
     exact⟨by rw[r.U];rfl,b.U.aq⟩
    |some r=>
     have A:=B4 l;rw[l] at g;rw[B6 l] at i;simp only at g;generalize M:db (cB (n++(e++m)))=K at*;generalize cB (n++(e++m))=J at*;have N:ai (∀c,CB 57 #[cS ⟨a.x,a.y,1⟩,ad K] c (cS (mulR ⟨a.x,a.y,1⟩ K))):=Z λ c=>Ls s _ W c;have C:=JO s K;generalize mulR ⟨a.x,a.y,1⟩ K=t at*;have P:ai (∀c,CB 59 #[cS ⟨r.x,r.y,1⟩,cS t] c (cS (kg ⟨r.x,r.y,1⟩ t))):=Z λ c=>DV A C c;have D:=Bv ⟨r.x,r.y,1⟩ t;generalize kg ⟨r.x,r.y,1⟩ t=a2 at*;have Q:ai (∀c,CB 56 #[cS X,cS a2] c (aK R)):=Z λ c=>by rw[g];exact YX H.U D c
     have o:=Z j;have p:=Z i;clear j i g h l M D C s A a0 a1;have i:n.size<=32:=by omega
     have j:(n++e).size<=2000:=by rw[gX];omega
     clear S
     go_enter xm,xo
     go_upto_region 8 with(first|(go_at_call 52;refine KC b (q.U _) λ f b=> ?_)|refine KA b _ 7 js λ u k y b=> ?_|refine KA b _ 9 js λ x k z b=> ?_|(go_at_call 53;refine KC b (o.U _) λ f b=> ?_)|(go_at_call 53;refine KC b (p.U _) λ f b=> ?_)|(go_at_call 55;refine KC b (L.U _) λ f b=> ?_)|(go_at_call 54;refine KC b (F.U _) λ f b=> ?_)|refine KS b λ k b=> ?_)
     refine RG b 10 [0,1] λ l b g=> ?_;refine VV [1] g ?_;refine W2 2 48 (v:=ad T) rfl rfl (Or.inl ⟨by kernel_rfl,λ c h=>by go_simp;(try rfl)⟩) g ?_;refine WR 4 3 g ?_;refine WR 5 3 g ?_;refine VV [6] g ?_;refine KW b g 0 (en 58) (E.U _) λ f b g=> ?_;refine KW b g 3 (en 57) (I.U _) λ f b g=> ?_;refine KW b g 7 (en 57) (N.U _) λ f b g=> ?_;refine KW b g 8 (en 59) (P.U _) λ f b g=> ?_;refine KW b g 9 (en 56) (Q.U _) λ f b g=> ?_;refine WT ?_
     go_wp2
     go_ret
     exact⟨rfl,b.U.aq⟩
 ·have d0:((d.size:Int) !=64)=true:=by rw[ml];omega
  rw[abK B]
  go_enter xm,xo
  go_wp2
  go_ret
  exact⟨rfl,b.U.aq⟩
end
