import Derived.Test.YtncpbkoinennoaaGreatDoorMAP
import Derived.Test.YtncpbkoinennoaaGreatDoorMAQ
set_option linter.all false
set_option maxRecDepth 100000
set_option maxHeartbeats 0
namespace Go.Proofs.YtncpbkoinennoaaGreatDoor
open Go.RowKit Proofs.Tryz
attribute [local irreducible] wpList Calls
variable{r:Int}{l:List Int}{g:Nat}
def abn(a:0<=r)(h1:r<65536):(#[Value.int .u8 (IntKind.u8.wrap (r.tmod 256)),Value.int .u8 (IntKind.u8.wrap (IntKind.i64.wrap (r.tdiv 256)))]:Array ab).toList=bB [UInt8.ofNat (r%256).toNat,UInt8.ofNat (r/256).toNat]:=by
 have e1:r.tmod 256=r%256:=fz a;have e2:r.tdiv 256=r/256:=ov a;rw[e1,e2,aO (r/256) W,Ax (r%256) W,Ax (r/256) W];simp only[bB,bZ,eg];have f1:((UInt8.ofNat (r%256).toNat).toNat:Int)=r%256:=by simp;omega
 have f2:((UInt8.ofNat (r/256).toNat).toNat:Int)=r/256:=by simp;omega
 rw[f1,f2]
def zC{w:aa}{cap:Nat}{j:List ab}(h:(Y.row g 3 (aZ l++j)).P w)(hd:∀x∈l,0<=x/\x<=1000000000000000)(h1:1<=l.length)(R:l.length<=32)(v:FM.val l<65536^32):
 CB 201 #[ag (some ⟨g,0,none⟩) l.length cap] w (ad (FM.enc (FM.fe l))):=by
 have a:=Z (Sn (cap:=cap) h hd h1 R v)
 have b:FM.fe l=(FM.val l%FM.P).toNat:=rfl
 obtain⟨o,a8⟩:∃o,FM.val l=o:=⟨_,rfl⟩
 rw[a8] at b a
 rw[b]
 obtain⟨b8,b0,b5,b6,b7⟩:=iB tK
 clear h hd v R h1 b
 go_enter func201,ntmps201
 go_upto_region 2 with(go_at_call 253;refine a.U.mono ?_;rintro e c1 ⟨a6,a4,L,y1,rfl,m,f⟩)
 have d:=Z f;have b:=Z m
 clear f m a
 go_loopg [0] 2 (λ q dv wr=>∃(g c:Nat) (L:List Int) (j:List ab),q<=2/\dv=ag (some ⟨g,0,none⟩) 16 c/\FM.oL o (2-q) L/\ae w wr [] [Y.row g 3 (aZ L++j)])
 case atStart=>exact⟨a6,a4,L,y1,aQ _,rfl,b.U,d.U⟩
 case round=>
  clear d b
  obtain⟨q,rfl⟩:∃q,q=gk:=⟨gk,rfl⟩
  obtain⟨g,c,L,j,A,rfl,p,f⟩:=hrel
  have d:=Z f;have b:=Z p;have N:=Z A
  have r:=p.norm.len
  obtain⟨t,m⟩:∃t,L[15]?=some t:=⟨_,aU W⟩
  obtain⟨a,u⟩:∃a,L[0]?=some a:=⟨_,aU W⟩
  have z:=FM.ev.get p.norm.e m
  have Q:=FM.ev.get p.norm.e u
  have I:=fm (f.get (i:=0) rfl) m
  have k:=Z u;have s:=Z m;have n:=Z r
  clear f p u m r A
  by_cases m:32768<=t
  ·have d1:decide ((32768:Int)<=t)=true:=aT m
   have c8:IntKind.i64.wrap (t-32768)=t-32768:=aO _ W
   have c3:IntKind.i64.wrap (a+19)=a+19:=aO _ W
   have b2:15<L.length:=by rw[n.U];decide
   have b1:0<(L.set 15 (t-32768)).length:=by rw[fc,n.U];decide
   have E:(L.set 15 (t-32768))[0]?=some a:=by rw[hn zD];exact k.U
   have a1:=Z E
   have u:((L.set 15 (t-32768)).set 0 (a+19)).length=16:=by rw[fc,fc];exact n.U
   have B:∀x∈(L.set 15 (t-32768)).set 0 (a+19),0<=x/\x<=65535*2:=λ x hx=>by
    rcases nb hx with hx|rfl
    ·rcases nb hx with hx|rfl
     ·have:=b.U.norm.e x hx;omega
     ·omega
    ·omega
   have F:FM.val ((L.set 15 (t-32768)).set 0 (a+19))<65536^32:=by
    have h1:=FM.zH (M:=2) _ (λ x hx=>(B x hx).2)
    rw[u] at h1;omega
   have y:=λ(p:aa) (A:(Y.row g 3 (aZ ((L.set 15 (t-32768)).set 0 (a+19))++j)).P p)=>BV (cap:=c) A (λ x hx=>by have:=B x hx;omega) (by rw[u];decide) F
   rw[u] at y
   have C:=Z y
   have p:=Z (λ D (G:FM.lO ((L.set 15 (t-32768)).set 0 (a+19)) D)=>b.U.step k.U s.U m G)
   clear E u B F y b s k n Q z m
   go_upto_region 4 with(refine kN d b2 λ J d=> ?_)
   have F:=fm (d.U.get (i:=0) rfl) a1.U
   go_upto_region 5 with(refine kN d b1 λ J d=> ?_)
   go_wp2_with(go_at_call 254;refine(C.U _ (d.U.get (i:=0) rfl)).mono ?_;rintro e c1 ⟨c9,D2,rfl,y,G⟩)
   obtain⟨u,B⟩:=p.U D2 y
   obtain⟨a7,a5,y2,T,-,-,-,H⟩:=nU (d.U.tp G) 0 rfl (by rw[u.norm.len];decide)
   rw[u.norm.len] at T
   subst T
   have E:=Z ((H.az 1 rfl).tail);have a2:=Z u;have K:=Z B
   clear G H y u B d p C
   go_wp2
   go_roundg (q-1)
   case measure=>have:=K.U;omega
   case rel=>exact⟨a7,a5,D2,y2,by have:=N.U;omega,rfl,by have:=a2.U;rwa[show 2-q+1=2-(q-1) by have:=K.U;have:=N.U;omega] at this,E.U⟩
  ·have d1:decide ((32768:Int)<=t)=false:=bm m
   obtain⟨G,H⟩:=b.U.last k.U s.U W
   have y:=Z b.U.norm;have B:=Z G;have C:=Z H
   have F:=fm (d.U.get (i:=0) rfl) k.U
   have u:ai (FM.iM L 1=(decide (t=32767)&&decide (65517<=a))):=Z (by
    unfold FM.iM
    rw[dc,s.U,dc,k.U];simp)
   clear G H b n m
   go_upto_region 6 with fail
   go_cut [3] from 28 to 37 (λ s3 G=>s3=aK (FM.iM L 1)/\ae w G [] [Y.row g 3 (aZ L++j)])
   case first=>
    have f1:(t==32767)=decide (t=32767):=rfl
    have m:=Z u.U
    clear u
    obtain⟨b,n⟩:∃b,decide (t=32767)=b:=⟨_,rfl⟩
    rw[n] at f1 m
    clear n
    cases b with
    |true=>
     go_wp2
     go_meet
     exact⟨by rw[m.U,gW],d.U⟩
    |false=>
     go_wp2
     go_meet
     exact⟨by rw[m.U,kH],d.U⟩
   case rest=>
    obtain⟨rfl,f⟩:=hcut
    replace d:=Z f
    clear f I F u d1
    go_upto_region 8 with fail
    go_loopw [3,4] (λ u n wr=>∃i:Nat,1<=i/\i<=15/\n=O (i:Int)/\u=aK (FM.iM L i)/\ae w wr [] [Y.row g 3 (aZ L++j)]) (λ _ n _=>15-(intOf n).toNat)
    case atStart=>exact⟨1,aQ _,by decide,rfl,rfl,d.U⟩
    case round=>
     clear d
     obtain⟨i,a9,c6,rfl,rfl,f⟩:=hrel
     have d:=Z f
     clear f
     by_cases c5:i<15
     ·have d2:decide ((i:Int)<15)=true:=aT W
      obtain⟨x,hx⟩:∃x,L[i]?=some x:=⟨_,aU (by have:=y.U.len;omega)⟩
      have c4:=fm (d.U.get (i:=0) rfl) hx
      have m:ai (FM.iM L (i+1)=(FM.iM L i&&decide (x=65535))):=Z (by rw[FM.aaF L i a9,dc,hx];rfl)
      have f1:(x==65535)=decide (x=65535):=rfl
      have b9:(i:Int)<16:=by omega
      have e1:IntKind.i64.wrap ((i:Int)+1)=((i+1:Nat):Int):=aO _ W
      clear hx
      generalize FM.iM L i=b at*
      cases b
      all_goals
       go_wp2
       go_roundw
       case rel=>exact⟨i+1,by omega,by omega,by go_num,by rw[m.U];rfl,d.U⟩
       case measure=>simp[intOf];omega
     ·have d2:decide ((i:Int)<15)=false:=bm W
      obtain rfl:i=15:=by omega
      obtain⟨I,z⟩:∃I,FM.iM L 15=I:=⟨_,rfl⟩
      rw[z] at B C⊢
      rw[show((15:Nat):Int)=15 from rfl]
      clear z
      go_upto_if 50 with fail
      go_cut [0] from 51 to 58 (λ s0 G=>∃g c L j,s0=ag (some ⟨g,0,none⟩) 16 c/\FM.Norm L/\FM.val L=((o%FM.P).toNat:Int)/\ae w G [] [Y.row g 3 (aZ L++j)])
      case first=>
       have Q:=FM.ev.get y.U.e k.U
       have F:=fm (d.U.get (i:=0) rfl) k.U
       cases I with
       |false=>
        go_wp2
        go_meet
        exact⟨g,c,L,j,rfl,y.U,B.U trivial,d.U⟩
       |true=>
        have e1:IntKind.i64.wrap (a-65517)=a-65517:=aO _ W
        obtain⟨z,u⟩:∃z:List Int,List.replicate 16 0=z:=⟨_,rfl⟩
        have S:=Z u
        have a0:0<z.length:=by rw[<-u];decide
        have G:=λ(H:Oper) (a:Act) (wr:aa) (X:H.op= .makeSlice 193 (.const (O 16)) (.const (O 16)))=>yD (op:=H) (a:=a) (wr:=wr) 16 zD X rfl
        rw[u] at G
        have H:=Z G
        clear G u
        go_wp2_with(first|(refine Mk d.U rfl 55 rfl (some 16) 3 (aZ z++[]) (H.U _ _ _ rfl) λ X J a3 u=>?_;replace d:=Z u;clear u;simp only[bc])|(refine kN d a0 λ J d=> ?_))
        go_meet
        obtain⟨h1,G⟩:=C.U trivial
        rw[S.U] at h1 G
        exact⟨_,16,_,[],rfl,G,h1,d.U.az 1 rfl|>.tail⟩
      case rest=>
       clear d B C y s k
       obtain⟨g,c,L,j,rfl,u,v,f⟩:=hcut
       have p:=Z u;have a3:=Z v;have d:=Z f
       clear u v f
       have m:=Z (gI.new (bp wc.heap.size wc))
       have E:=Z (d.U.below (bJ wc (.cells #[] 5)))
       clear d2
       go_upto_region 17 with fail
       go_loopw [6,7] (λ f n wr=>∃k:Nat,k<=16/\n=O (k:Int)/\gI wc wr f (FM.nH (o%FM.P).toNat k)) (λ _ n _=>16-(intOf n).toNat)
       case atStart=>exact⟨0,by decide,rfl,m.U⟩
       case round=>
        clear m E
        obtain⟨k,c7,rfl,s⟩:=hrel
        have f:=Z (d.U.below s.aJ)
        have n:=Z s
        have r:(FM.nH (o%FM.P).toNat k).length=2*k:=by unfold FM.nH;rw[cC,eA,FM.iw];omega
        have m:=s.own
        rw[r] at m
        have B:=Z r
        clear s r
        by_cases b3:k<16
        ·have d3:decide ((k:Int)<16)=true:=aT W
         obtain⟨x,hx⟩:∃x,L[k]?=some x:=⟨_,aU (by have:=p.U.len;omega)⟩
         have X:=FM.ev.get p.U.e hx
         have E:=Z (FM.Q5 p.U a3.U b3 hx)
         have z:=Z (abn X.1 X.2)
         have r:=fm (f.U.get (i:=0) rfl) hx
         have C:=Z (tj m (f.U.row (i:=0) rfl) zD)
         have u:g<wr.heap.size:=f.U.lt g (by simp[blocks,Y.row])
         have s:=Z u
         have e1:IntKind.i64.wrap ((k:Int)+1)=((k+1:Nat):Int):=aO _ W
         have b9:(k:Int)<16:=by omega
         clear hx f u
         go_wp2
         go_region_held3 (λ c2=>c2.cell? ⟨g,k,none⟩=some (O x)) (first|exact r|exact G|exact(World.jI (pY wr _ g s.U)).trans r)
          ((refine Mh rfl _ _ 29 rfl wc.heap.size 5 b8 (.int .u8 0) 1 cP b0 b5 b6 b7 rfl _ _ _ rfl (Dy m _).drew wr.heap.size 2 rfl _ _ _ (pg wr _) rfl zD (by intro u S;simp at S;rcases S with rfl|rfl<;>rfl) (by unfold maxLen;omega) W (by have:=n.U.aJ.size;simp;omega) ?_;intro c0 a0 H y b4;have G:a0.cell? ⟨g,k,none⟩=some (O x):=(World.jI (y.block g (by have:=s.U;simp;omega) (λ h=>C.U h.symm))).trans ((World.jI (pY wr _ g s.U)).trans r)))
         have u:ai (gI wc a0 c0 (FM.nH (o%FM.P).toNat (k+1))):=Z (by rw[E.U];exact n.U.append ((bJ wr _).drew) B.U rfl H y z.U)
         clear H y b4 G m r n E C z
         go_wp2
         go_roundw
         case rel=>exact⟨k+1,by omega,by go_num,u.U⟩
         case measure=>simp[intOf];omega
        ·have d3:decide ((k:Int)<16)=false:=bm W
         obtain rfl:k=16:=by omega
         have y:=qL (P:=prog) cP eJ df m
         rw[FM.Q2] at y
         have r:=Z (f.U.aq)
         clear n f m B
         go_wp2
         go_ret
         exact⟨rfl,r.U⟩
variable{n:Nat}
section
open FM PT GL
def MC{w:aa}{cap:Nat}{d:List ab}(h:(Y.row g 3 (aZ l++d)).P w)(a:FM.Norm l)(c:FM.val l=(n:Int)):
 CB 201 #[ag (some ⟨g,0,none⟩) 16 cap] w (ad (FM.enc (n%PN))):=by
 have b:=a.bounds.2
 have:=zC (cap:=cap) h (λ x hx=>by have:=a.e x hx;omega) (by rw[a.len];decide) (by rw[a.len];decide) (Int.lt_of_lt_of_le b (FM.tq zD))
 rwa[a.len,sJ c] at this
def X2(s:af)(w:aa):CB 199 #[ad s] w (ad (enc (iv s))):=by
 have HD:=Z (sF s w)
 go_enter func199,ntmps199
 go_wp2_with(first|(go_at_call 200;refine HD.U.mono ?_;rintro e h ⟨g,L,rfl,-,d,f,b⟩;have c:=Z (MC (cap:=16) (b.get (i:=0) rfl) d f);have a:=Z b;clear b)|(go_at_call 201;refine KC a c.U λ h a=> ?_))
 go_ret
 exact⟨rfl,a.U.aq⟩
def tw(n:Nat)(b:n<18446744073709551616)(w:aa):CB 127 #[U (n:Int)] w (ad (enc (n%PN))):=by
 have g:=Z b;have a:=Z (ae.start w []);clear b
 go_enter func127,ntmps127
 go_wp2_with((with_reducible show cn);(refine Mk a.U rfl 5 rfl (some 0) 3 [] (by go_simp;rfl) ?_;intro E o H b;replace a:=Z b;clear b;simp only[bc]))
 replace a:=Z (pL a.U 0 rfl 0 0 1 (aQ _) (bf _) rfl [] rfl)
 go_loopw [0,3,4] (λ e dv d wr=>∃(i m:Nat) (D:List Int) (A:Option Addr) (C:Nat),i<=4/\e=U (m:Int)/\m<=n/\dv=ag A i C/\d=O (i:Int)/\D.length=i/\ev D/\FM.val D+65536^i*(m:Int)=(n:Int)/\ae w wr [] [Y.ow 3 1 (ag A i C) i (aZ D)]) (λ _ _ d _=>4-(intOf d).toNat)
 case atStart=>exact⟨0,n,[],_,_,by decide,rfl,aQ _,rfl,rfl,rfl,(λ _ h=>by cases h),by simp[FM.val],a.U⟩
 case round=>
  clear a;obtain⟨i,m,D,A,C,I,rfl,k,rfl,rfl,h,e,l,d⟩:=hrel;have a:=Z d;have f:=Z h;have HD:=Z e;have j:=Z l;have K:=ui k g.U;clear d h e l;by_cases J:i<4
  ·have d1:decide ((i:Int)<4)=true:=aT W;have e1:IntKind.i64.wrap ((i:Int)+1)=((i+1:Nat):Int):=aO _ W;have s:ai (FM.val (D++[(m:Int)%65536])+65536^(i+1)*((m/65536:Nat):Int)=(n:Int)):=Z (by
    have e:=BU (A:=65536^i) (v:=FM.val D) (c:=(m:Int)) (x:=0) (q:=0);have h:=j.U;rw[FM.zI,f.U,FM.DL,FP,<-h];simpa using e)
   have p:=Z (HD.U.snoc (x:=(m:Int)%65536) W W)
   go_wp2_with(first|((with_reducible show cn);(refine Mk a.U rfl 14 rfl (some 1) 3 [O ((m:Int)%65536)] (by go_simp;rfl) ?_;intro B o G b;replace a:=Z b;clear b;simp only[bc]))|(refine Ap a.U rfl nG rfl 1 rfl rfl 0 rfl rfl rfl rfl (by unfold maxLen;omega) W ?_;intro F y o b;simp only[av,ax] at b;replace a:=Z b;clear b))
   go_roundw
   case rel=>exact⟨i+1,m/65536,D++[(m:Int)%65536],_,_,by omega,by go_num,hy (ng _ _) k,rfl,by go_num,by rw[bV,f.U];rfl,p.U,s.U,by rw[aZ,jy];exact a.U.tail⟩
   case measure=>simp[intOf];omega
  ·have d1:decide ((i:Int)<4)=false:=bm W;obtain rfl:i=4:=by omega
   have l:FM.val D=(n:Int):=by
    have h:=j.U;have r:=(FM.jX D HD.U).1;have e:=g.U;omega
   obtain⟨z,u,L,t,-,-,-,d⟩:=nU a.U 0 rfl zD;cases t
   have h:=zC (cap:=C) (d.get (i:=0) rfl) (λ x hx=>by have:=HD.U x hx;omega) (by rw[f.U];decide) (by rw[f.U];decide) (by rw[l];have:=g.U;omega);rw[f.U,sJ l] at h;have r:=Z h;have e:=Z d;clear d h a
   go_wp2_with(go_at_call 201;refine KC e r.U λ a e=> ?_)
   go_ret
   exact⟨rfl,e.U.aq⟩
end
section
open FM PT GL
abbrev nB(s:af):Nat:=aH (s.data.toList.take 32)
def VQ(n:Nat):nB (enc n)=n%256^32:=by rw[nB,Mw _ _ (aQ _),qY]
def vC(h:n<PN):nB (enc n)=n:=by rw[VQ,bY];unfold PN at h;omega
def XY(a b:af)(w:aa):CB 129 #[ad a,ad b] w (ad (enc ((nB a+nB b)%PN))):=by
 have o:=Z (λ w=>sF a w);have u:=Z (λ w=>sF b w)
 go_enter func129,ntmps129
 go_upto_region 2 with(first|(go_at_call 200;refine(o.U _).mono ?_;rintro e t ⟨g,L,rfl,-,l,f,d⟩;have j:=Z l;have z:=Z f;have c:=Z d;clear d l f o)|(go_at_call 200;refine(u.U _).mono ?_;rintro e t ⟨h,M,rfl,-,l,f,d⟩;have m:=Z l;have A:=Z f;replace c:=Z (c.U.tp d);clear d l f))
 go_upto_region 3 with fail
 go_loopw [7] (λ k wr=>∃i:Nat,i<=16/\k=O (i:Int)/\ae w wr [] [Y.row h 3 (aZ M++[]),Y.row g 3 (aZ (dw (·+·) i L M)++[])]) (λ k _=>16-(intOf k).toNat)
 case atStart=>exact⟨0,bf _,rfl,c.U⟩
 case round=>
  clear c;obtain⟨i,F,rfl,d⟩:=hrel;have c:=Z d;clear d;by_cases r:i<16
  ·have d1:decide ((i:Int)<16)=true:=aT W;obtain⟨x,hx⟩:∃x,L[i]?=some x:=⟨_,aU (by rw[j.U.len];exact r)⟩;obtain⟨y,d⟩:∃y,M[i]?=some y:=⟨_,aU (by rw[m.U.len];exact r)⟩;have k:(dw (·+·) i L M)[i]?=some x:=by rw[vI _ _ _ _ _ (aQ _)];exact hx
   have n:=vJ (·+·) i L M x y hx d;have G:=ev.get j.U.e hx;have H:=ev.get m.U.e d;have D:=fm (c.U.get (i:=1) rfl) k;have E:=fm (c.U.get (i:=0) rfl) d;have B:i<(dw (·+·) i L M).length:=(cw.1 k).1;have v:=Z n;have I:(i:Int)<16:=by omega
   have e1:IntKind.i64.wrap ((i:Int)+1)=((i+1:Nat):Int):=aO _ W;clear hx d k n
   go_wp2
   go_still_tail 12,zR
   show wpList _ _ _ _ _ wr.drew;replace c:=Z c.U.drew
   go_wp2_with(refine kN c B λ J c=> ?_)
   rw[aO (x+y) W,v.U] at c
   go_roundw
   case rel=>exact⟨i+1,by omega,by go_num,c.U⟩
   case measure=>simp[intOf];omega
  ·have d1:decide ((i:Int)<16)=false:=bm W;obtain rfl:i=16:=by omega
   have k:(dw (·+·) 16 L M).length=16:=by rw[yO];exact j.U.len
   have f:val (dw (·+·) 16 L M)=((nB a+nB b:Nat):Int):=by rw[Dr 16 L M j.U.len m.U.len,z.U,A.U];simp
   have n:∀d∈dw (·+·) 16 L M,0<=d/\d<=65535*2:=yN _ _ 16 L M (λ d hd=>by have:=j.U.e d hd;omega) (λ p d q C=>by have:=j.U.e p d;have:=m.U.e q C;omega);have s:val (dw (·+·) 16 L M)<65536^32:=by
    have p:=zH (M:=2) _ (λ x hx=>(n x hx).2);rw[k] at p;omega
   have d:=zC (cap:=16) (c.U.get (i:=1) rfl) (λ x hx=>by have:=n x hx;omega) (by rw[k];decide) (by rw[k];decide) s;rw[k,sJ f] at d;have p:=Z d;clear d s n f k
   go_wp2_with(go_at_call 201;refine KC c p.U λ t c=> ?_)
   go_ret
   exact⟨rfl,c.U.aq⟩
def K9(hx:g<PN)(a:n<PN)(w:aa):CB 129 #[ad (enc g),ad (enc n)] w (ad (enc (bt g n))):=by
 have:=XY (enc g) (enc n) w;rwa[vC hx,vC a] at this
def pB:af:=⟨#[237,255,255,255,255,255,255,255,255,255,255,255,255,255,255,255,255,255,255,255,255,255,255,255,255,255,255,255,255,255,255,127]⟩
def Kh:Norm pd:=⟨rfl,by decide⟩
def Ea(b:n<PN)(w:aa):CB 131 #[ad (enc n)] w (ad (enc (ek n))):=by
 have r:=Z (λ w=>sF (enc n) w);have D:=Z (λ w=>sF pB w);have t:ai (aH ((enc n).data.toList.take 32)=n):=Z (vC b);have s:=Z b;clear b
 go_enter func131,ntmps131
 go_upto_region 3 with(first|(go_at_call 200;refine(r.U _).mono ?_;rintro e C ⟨g,L,rfl,-,b,d,f⟩;have k:=Z b;have u:=Z d;have a:=Z f;clear f b d r)|(go_at_call 200;refine(D.U _).mono ?_;rintro e C ⟨h,M,rfl,-,b,d,f⟩;have i:=Z b;have j:=Z d;replace a:=Z (a.U.tp f);clear f b d))
 have l:M=pd:=i.U.abG Kh (j.U.trans (by decide+kernel));rw[l] at a;clear i j l
 go_upto_region 4 with fail
 go_loopw [4,6] (λ m j wr=>∃(i:Nat) (c:Int) (l:List Int),i<=16/\j=O (i:Int)/\m=O c/\kV L l i c/\ae w wr [] [Y.row h 3 (aZ pd++[]),Y.row g 3 (aZ l++[])]) (λ _ j _=>16-(intOf j).toNat)
 case atStart=>exact⟨0,0,L,bf _,rfl,rfl,kV.start k.U.len,a.U⟩
 case round=>
  clear a;obtain⟨i,c,l,G,rfl,rfl,m,f⟩:=hrel;have a:=Z f;have j:=Z m;have A:=m.b;clear f m;by_cases o:i<16
  ·have d1:decide ((i:Int)<16)=true:=aT W;obtain⟨p,m⟩:∃p,pd[i]?=some p:=⟨_,aU (by exact o)⟩;obtain⟨x,hx⟩:∃x,l[i]?=some x:=⟨_,aU (by rw[j.U.len];exact o)⟩;have q:=j.U.step (v:=p-x-c) o k.U.e m hx rfl;have H:=ev.get Kh.e m;have I:=ev.get k.U.e ((j.U.rest i (aQ _)).symm.trans hx);have y:=fm (a.U.get (i:=0) rfl) m;have z:=fm (a.U.get (i:=1) rfl) hx;have B:i<l.length:=(cw.1 hx).1;have f:=Z q;have J:(i:Int)<16:=by omega
   have e1:IntKind.i64.wrap ((i:Int)+1)=((i+1:Nat):Int):=aO _ W;have F:0<=c/\c<=1:=by omega
   clear m hx q A j
   go_wp2
   go_still V
   have e2:IntKind.i64.wrap (p-x)=p-x:=aO _ W;have e3:IntKind.i64.wrap (p-x-c)=p-x-c:=aO _ W;rw[e2,e3];replace a:ai (ae w wr.drew [] [Y.row h 3 (aZ pd++[]),Y.row g 3 (aZ l++[])]):=Z a.U.drew;generalize d:p-x-c=v at*;by_cases q:v<0
   ·have m:=Z (f.U.1 q);have d2:decide (v<0)=true:=aT q;have e4:IntKind.i64.wrap (v+65536)=v+65536:=aO _ W;clear y z f;change Exit.then _ _ _ _ wr.drew
    go_wp2_with(refine kN a B λ E a=> ?_)
    go_roundw
    case rel=>exact⟨i+1,1,_,by omega,by go_num,rfl,m.U,a.U⟩
    case measure=>simp[intOf];omega
   ·have m:=Z (f.U.2 W);have d2:decide (v<0)=false:=bm q;clear y z f;change Exit.then _ _ _ _ wr.drew
    go_wp2_with(refine kN a B λ E a=> ?_)
    go_roundw
    case rel=>exact⟨i+1,0,_,by omega,by go_num,rfl,m.U,a.U⟩
    case measure=>simp[intOf];omega
  ·have d1:decide ((i:Int)<16)=false:=bm W;obtain rfl:i=16:=by omega
   obtain⟨d,b⟩:=j.U.done k.U.len (by rw[u.U,t.U,qo];have:=s.U;omega);rw[u.U,t.U,qo] at d;have f:=Z (MC (cap:=16) (a.U.get (i:=1) rfl) b (n:=PN-n) (by have:=s.U;omega));clear d b j A
   go_wp2_with(go_at_call 201;refine KC a f.U λ C a=> ?_)
   go_ret
   exact⟨rfl,a.U.aq⟩
def YZ(hx:g<PN)(e:n<PN)(w:aa):CB 126 #[ad (enc g),ad (enc n)] w (ad (enc (bM g n))):=by
 have a:=Z (ae.start w []);have c:=Z (λ w=>Ea e w);have d:bt g (ek n)=bM g n:=by unfold bt ek bM;rw[rV,rX,<-rV]
 have b:=Z (λ w=>K9 hx (vm n) w);rw[d] at b
 go_enter func126,ntmps126
 go_wp2_with(first|(go_at_call 131;refine KC a (c.U _) λ f a=> ?_)|(go_at_call 129;refine KC a (b.U _) λ f a=> ?_))
 go_ret
 exact⟨rfl,a.U.aq⟩
end
namespace CrcM
def P:Nat:=3988292384
def step(n:Nat):Nat:=if n%2=1 then(n/2)^^^P else n/2
def gH(n:Nat):Nat:=step (step (step (step n)))
def EP(n:Nat):Nat:=gH (gH n)
def byte(n:Nat)(c:Nat):Nat:=EP (n^^^c)
def run(n:Nat)(l:List UInt8):Nat:=l.foldl (λ n c=>byte n c.toNat) n
def on(n:Nat)(l:List UInt8):Nat:=4294967295-run (4294967295-n) l
def Z1(a b:Nat):step (a^^^b)=step a^^^step b:=by
 unfold step;rw[Nat.xor_div_two];have e:(a^^^b)%2=(a%2+b%2)%2:=by
  rcases rY a with h|h<;>rcases rY b with c|c;all_goals
   have:= @Nat.xor_mod_two_eq_one a b;rcases rY (a^^^b) with d|d<;>simp_all
 rw[e];rcases rY a with h|h<;>rcases rY b with c|c<;>simp[h,c]
 ·ac_rfl
 ·ac_rfl
 ·have:a/2^^^P^^^(b/2^^^P)=a/2^^^b/2^^^(P^^^P):=by ac_rfl
  rw[this];simp
def ZW(a b:Nat):gH (a^^^b)=gH a^^^gH b:=by simp[gH,Z1]
def ZY(a:Nat):step (2*a)=a:=by unfold step;simp
def ZU(a:Nat):gH (16*a)=a:=by
 unfold gH;rw[show 16*a=2*(2*(2*(2*a))) by omega];simp only[ZY]
def ZK(n:Nat):n=(16*(n/16))^^^(n%16):=by
 apply Nat.eq_of_testBit_eq;intro i;rw[Nat.testBit_xor,show 16*(n/16)=2^4*(n/2^4) from rfl,show n%16=n%2^4 from rfl,Nat.testBit_mod_two_pow,Nat.testBit_two_pow_mul,Nat.testBit_div_two_pow];grind
def ZV(n:Nat):gH n=n/16^^^gH (n%16):=by
 conv=>lhs;rw[ZK n]
 rw[ZW,ZU]
def wq(n:Nat)(h:n<4294967296):step n<4294967296:=by
 unfold step;split
 ·exact F8 (n:=32) W zD
 ·omega
def zx(n:Nat)(h:n<4294967296):gH n<4294967296:=by
 unfold gH;exact wq _ (wq _ (wq _ (wq _ h)))
def Pl(n c:Nat)(h:n<4294967296)(a:c<256):byte n c<4294967296:=by
 unfold byte EP;exact zx _ (zx _ (F8 (n:=32) h W))
def LG:∀(l:List UInt8) (n:Nat),n<4294967296->run n l<4294967296
 |[],_,h=>h
 |c::l,n,h=>LG l _ (Pl n _ h c.toNat_lt)
def Sg(n:Nat)(h:n<4294967296):4294967295-n=4294967295^^^n:=by
 apply Nat.eq_of_testBit_eq;intro i;rw[Nat.testBit_xor];have:4294967295-n=2^32-(n+1):=by omega
 rw[this,Nat.testBit_two_pow_sub_succ h,show(4294967295:Nat)=2^32-1 from rfl,Nat.testBit_two_pow_sub_one];by_cases a:i<32
 ·simp[a]
 ·simp[a];exact Nat.testBit_lt_two_pow (kS h (kU (n:=2) zD (show 32<=i by omega)))
end CrcM
def rF(i:Nat):Nat:=CrcM.gH i
def eP(k:Nat):Array ab:=((List.range 16).map λ j=>Value.int .u32 (if j<k then(rF j:Int) else 0)).toArray
def aal(k:Nat)(d:k<16):(eP k).setIfInBounds k (.int .u32 (rF k))=eP (k+1):=by
 apply Array.ext
 ·simp[eP]
 ·intro i a b;simp only[eP,oD,cC,List.length_range] at a b;by_cases h:k=i
  ·subst h;simp[eP]
  ·have c:i<k+1↔i<k:=by omega
   simp[eP,h,c]
def aam(k:Nat):(eP k).size=16:=by simp[eP]
def Mv:eP 16=#[.int .u32 0,.int .u32 498536548,.int .u32 997073096,.int .u32 651767980,.int .u32 1994146192,.int .u32 1802195444,.int .u32 1303535960,.int .u32 1342533948,.int .u32 3988292384,.int .u32 4027552580,.int .u32 3604390888,.int .u32 3412177804,.int .u32 2607071920,.int .u32 2262029012,.int .u32 2685067896,.int .u32 3183342108]:=by kernel_rfl
def Mt:eP 0=#[.int .u32 0,.int .u32 0,.int .u32 0,.int .u32 0,.int .u32 0,.int .u32 0,.int .u32 0,.int .u32 0,.int .u32 0,.int .u32 0,.int .u32 0,.int .u32 0,.int .u32 0,.int .u32 0,.int .u32 0,.int .u32 0]:=by kernel_rfl
def sU:Nat->Nat->Nat
 |0,n=>n
 |k+1,n=>CrcM.step (sU k n)
def I5(n:Nat)(h:n<4294967296):∀k,sU k n<4294967296
 |0=>h
 |k+1=>CrcM.wq _ (I5 n h k)
def Z0(n:Nat)(h:n<4294967296)(h1:n%2=1):bits .xor .u32 ((n:Int)/2) 3988292384=(CrcM.step n:Int):=by
 have:=wB (n/2) 3988292384 W W;rw[show((n/2:Nat):Int)=(n:Int)/2 by omega] at this;rw[show((3988292384:Nat):Int)=3988292384 from rfl] at this;rw[this,CrcM.step,au h1];rfl
def ZZ(n:Nat)(h1:n%2=0):(n:Int)/2=(CrcM.step n:Int):=by
 rw[CrcM.step,ar W];omega
def Oi(n:Nat)(h:n<4294967296):bits .and .u32 (n:Int) 1=((n%2:Nat):Int):=by
 have:=u32_and_nat n 1 h W;rw[show((1:Nat):Int)=1 from rfl] at this;rw[this,yF]
def aaj(k:Nat)(a:k<16):(eP k)[k]?=some (.int .u32 0):=by simp[eP,a]
def aao(w:aa):CB 305 #[] w (aG (eP 16)):=by
 go_enter func305,ntmps305
 go_wp2
 go_loopw [4] (λ i wr=>∃k:Nat,k<=16/\i=O k/\wr=(w.alloc (.cells (eP 0) 365)).alloc (.cells (eP k) 365)) (λ i _=>16-(intOf i).toNat)
 case atStart=>exact⟨0,by omega,rfl,rfl⟩
 case round=>
  obtain⟨k,p,rfl,rfl⟩:=hrel;by_cases e:k<16
  ·have o:=aaj k e
   go_wp2
   go_loop [3,9] (λ n j=>∃q:Nat,q<=4/\j=O q/\n= .int .u32 (sU q k)) (λ _ j=>4-(intOf j).toNat)
   case atStart=>exact⟨0,by omega,rfl,rfl⟩
   case round=>
    obtain⟨q,r,rfl,rfl⟩:=hrel;have f:=I5 k W q;have m:=Z0 (sU q k) f;have l:=ZZ (sU q k);generalize j:sU q k=n at*;have d:=Z j;have h:=Z m;have g:=Z l;by_cases s:q<4
    ·have b:=Oi n f;rcases rY n with a|a
     ·have i:bits .and .u32 (n:Int) 1=0:=by rw[b,a];rfl
      have c:=Z a;clear a b
      go_wp2
      go_round
      case rel=>exact⟨q+1,by omega,by go_num,by rw[g.U c.U,<-d.U];rfl⟩
      case measure=>simp[intOf];omega
     ·have i:bits .and .u32 (n:Int) 1=1:=by rw[b,a];rfl
      have c:=Z a;clear a b
      go_wp2
      go_round
      case rel=>exact⟨q+1,by omega,by go_num,by rw[h.U c.U,<-d.U];rfl⟩
      case measure=>simp[intOf];omega
    ·obtain rfl:q=4:=by omega
     have b:=aal k e;have a:=Z b
     go_wp2
     go_roundw
     case rel=>exact⟨k+1,by omega,by go_num,by rw[<-a.U,<-d.U];rfl⟩
     case measure=>simp[intOf];omega
  ·obtain rfl:k=16:=by omega
   rw[Mv,Mt]
   go_wp2
   exact cr (v:=aG (eP 16)) (by rw[Mv];simp[results,results305,go_sem]) rfl ⟨rfl,((bp _ _).alloc (aQ _) _).alloc zS _⟩
variable{i:Nat}
section
def HW:ie 100:=ln func100 zR zR
open WD in
abbrev lJ(a:WM.V8):List ab:=[U (a.a.toNat:Int),U (a.b.toNat:Int),U (a.c.toNat:Int),U (a.d.toNat:Int),U (a.e.toNat:Int),U (a.f.toNat:Int),U (a.g.toNat:Int),U (a.h.toNat:Int)]
def HM{w:aa}(b:WD.jE w)(a:WM.V8)(s:af)(c:s.size=128):
 CB 100 #[aG #[U (a.a.toNat:Int),U (a.b.toNat:Int),U (a.c.toNat:Int),U (a.d.toNat:Int),U (a.e.toNat:Int),U (a.f.toNat:Int),U (a.g.toNat:Int),U (a.h.toNat:Int)],ad s] w (aG (lJ (WM.compress a s.data.toList)).toArray):=WD.Cg b a s c
def Ub{w:aa}{v:ab}{P:List af}(h:bq w v P)(f:P≠[])(k:(P.map (·.data.toList)).flatten.length<=140737488355328)(m:P.length<=1000):CB 97 #[v,ad ⟨#[]⟩] w (ad ⟨(P.map (·.data.toList)).flatten.toArray⟩):=by
 obtain⟨A,d,rfl,l,a⟩:=h;have e:Lib.join (P.map (·.data.toList)) (⟨#[]⟩:af).data.toList=(P.map (·.data.toList)).flatten:=by
  show([]:List UInt8).intercalate _=_;generalize P.map (·.data.toList)=L;have a:∀(L:List (List UInt8)),([]:List UInt8).intercalate L=L.flatten:=by
   intro L;cases L with
   |nil=>rfl
   |cons x r=>
    have:=Lib.join_cons x r [];unfold Lib.join at this;rw[this];simp[Lib.joinTail]
  exact a L
 cases P with
 |nil=>exact absurd rfl f
 |cons x r=>
  obtain⟨b,o,rfl,c,g⟩:=a 0 zS;have:=T8 b o d (x::r) ⟨#[]⟩ w (λ j y i=>by
   grind) c.1 W c.2 (by grind)
  rw[e] at this;exact this
def Yk(c:Nat):(⟨(Lib.repeatL (⟨#[0]⟩:af).data.toList c).toArray⟩:af)=⟨(List.replicate c 0).toArray⟩:=by
 congr 2;induction c with
 |zero=>rfl
 |succ c a=>rw[Lib.repeatL,a,ff];rfl
def Lm(c:Nat)(w:aa)(a:c<=1000):CB 98 #[ad ⟨#[0]⟩,O (c:Int)] w (ad ⟨(List.replicate c 0).toArray⟩):=by
 have h:=Lr ⟨#[0]⟩ c w W (by show 1*c<=_;omega);rw[Yk] at h;exact h
def GN(a b:List UInt8):(⟨a.toArray⟩:af)++⟨b.toArray⟩=⟨(a++b).toArray⟩:=by
 rfl
def uM(s:af):s=⟨s.data.toList.toArray⟩:=by rfl
def mG(s:af):af:=⟨(WM.dF s.data.toList).toArray⟩
def WN(s:af)(z8:af)(a:z8.data.toList=WM.len8 (s.size*8)):mG s=if WM.cb s.size<8 then((s++⟨#[128]⟩)++⟨(List.replicate (WM.cb s.size) 0).toArray⟩)++⟨(List.replicate 128 0).toArray⟩++z8 else((s++⟨#[128]⟩)++⟨(List.replicate (WM.cb s.size) 0).toArray⟩)++z8:=by
 have b:s.data.toList.length=s.size:=by rw[iO];rfl
 unfold mG WM.dF;rw[b,<-a];split<;>(apply qE;simp[rN])
def WO(s:af):(mG s).size%128=0/\(mG s).size<=s.size+300/\s.size<(mG s).size:=by
 have b:s.data.toList.length=s.size:=by rw[iO];rfl
 have a:=WM.tm s.data.toList;have e:(mG s).size=(WM.dF s.data.toList).length:=by simp[mG,ByteArray.size]
 rw[e];refine⟨a,?_,?_⟩<;>(unfold WM.dF;rw[b];simp only[bV,ez,WM.sW,gq,ub];have c:WM.cb s.size<128:=(by unfold WM.cb;omega);split<;>simp<;>omega)
def Hd(s:af)(k:Nat)(h:128*k+128<=s.size):(s.extract (128*k) (128*k+128)).size=128/\(s.extract (128*k) (128*k+128)).data.toList=(s.data.toList.drop (128*k)).take 128:=by
 simp_all
def hP(a:WM.V8)(k:Nat):List UInt8:=((([a.a,a.b,a.c,a.d,a.e,a.f,a.g,a.h]:List UInt64).take k).map λ x=>WM.len8 x.toNat).flatten
def Ka(a:WM.V8):hP a 8=WM.U a:=by rfl
def Kb(a:WM.V8)(k:Nat)(x:UInt64)(h:([a.a,a.b,a.c,a.d,a.e,a.f,a.g,a.h]:List UInt64)[k]?=some x):hP a (k+1)=hP a k++WM.len8 x.toNat:=by
 obtain⟨b,c⟩:=cw.1 h;unfold hP;rw[eC b,jy,List.flatten_append,c];simp
def aca(s:af):cB s=⟨(WM.U (WM.chain (mG s).data.toList ((mG s).size/128))).toArray⟩:=by
 rfl
def TS:(prog.info? 46).isSome=true:=by kernel_rfl
def I0{cs:Array ab}{v:ab}(w:aa)(a:i<8)(b:cs[i]?=some v):(Instr.index 172 (aG cs) (O (i:Int))).run prog w= .ok v w:=
 Eh w xq oN TS V a b
def Fi{w:aa}(c2:WD.jE w){v:ab}{P:List af}(c3:bq w v P)(d8:P≠[])(d1:P.length<=1000)(s:af)(o:s.data.toList=(P.map (·.data.toList)).flatten)(e7:s.size<=1000000):
 CB 33 #[v] w (ad (cB s)):=by
 have p:s.data.toList.length=s.size:=by rw[iO];rfl
 have A:=Ub c3 d8 (by grind) d1
 rw[<-o,<-uM] at A
 have e:=λ c=>WD.wm (s.size*8) W c
 obtain⟨z8,f⟩:∃z8,fp (s.size*8)=z8:=⟨_,rfl⟩
 rw[f] at e
 rw[show((s.size*8:Nat):Int)=(s.size:Int)*8 by omega] at e
 have b:=WN s z8 (by rw[<-f];exact WD.C1 _)
 have f0:z8.size=8:=by rw[<-f];rfl
 have h:=WO s
 have d4:WM.cb s.size<128:=by unfold WM.cb;omega
 have d:=λ c=>Lm (WM.cb s.size) c W
 have j:=λ c=>Lm 128 c W
 have m1:(s.size:Int).tmod 128=((s.size%128:Nat):Int):=by rw[fz W];omega
 have m3:((247-s.size%128:Nat):Int).tmod 128=((WM.cb s.size:Nat):Int):=by unfold WM.cb;rw[fz W];omega
 have m5:IntKind.i64.wrap ((s.size%128:Nat):Int)=((s.size%128:Nat):Int):=aO _ W
 have m6:IntKind.i64.wrap ((WM.cb s.size:Nat):Int)=((WM.cb s.size:Nat):Int):=aO _ W
 have m7:IntKind.u64.wrap ((s.size:Int))=(s.size:Int):=by rw[rL];omega
 have m8:IntKind.u64.wrap ((s.size:Int)*8)=(s.size:Int)*8:=by rw[rL];omega
 obtain⟨t,g⟩:∃t,WM.cb s.size=t:=⟨_,rfl⟩
 have u:=g
 rw[g] at b d4 d m3 m6
 obtain⟨T,q⟩:∃T,mG s=T:=⟨_,rfl⟩
 have k:=aca s
 rw[q] at b h k
 obtain⟨B,m⟩:∃B:af,(⟨(List.replicate t 0).toArray⟩:af)=B:=⟨_,rfl⟩
 obtain⟨M,l⟩:∃z:af,(⟨(List.replicate 128 0).toArray⟩:af)=z:=⟨_,rfl⟩
 have f1:B.size=t:=by rw[<-m];simp[ByteArray.size]
 have e9:M.size=128:=by rw[<-l];simp[ByteArray.size]
 rw[m] at b d
 rw[l] at b j
 have r:∀c,CB 98 #[ad ⟨#[0]⟩,O 128] c (ad M):=j
 have a:=Z (ae.start w [])
 have L:=Z c2
 have b7:=Z A;have c0:=Z e;have b9:=Z d;have c5:=Z r;have z:=Z b;have b8:=Z h;have a1:=Z k
 obtain⟨f2,f3,rfl⟩:=c3.form
 clear c2 A e d j r b f m l q h g o p k
 obtain⟨x80,b⟩:∃x:af,(⟨#[128]⟩:af)=x:=⟨_,rfl⟩
 have e8:x80.size=1:=by rw[<-b];rfl
 have b6:=Z b
 rw[b] at z
 clear b
 have c4:s.size+x80.size<=9223372036854775807:=by omega
 have q2:s.size+x80.size+B.size<=9223372036854775807:=by omega
 have q3:s.size+x80.size+B.size+M.size<=9223372036854775807:=by omega
 have q4:s.size+x80.size+B.size+M.size+z8.size<=9223372036854775807:=by omega
 have e6:(0:Int)<=(t:Int):=by omega
 have c1:ai (((247:Int)-(s.size:Int)%128)%128=(t:Int)):=Z (by grind)
 clear u
 obtain⟨K,c9⟩:∃K,T.size/128=K:=⟨_,rfl⟩
 rw[c9] at a1
 have e5:=b8.U
 have e1:(T.size:Int).tdiv 128=(K:Int):=by rw[ov W];omega
 have e2:(T.size:Int)/128=(K:Int):=by omega
 have e3:IntKind.i64.wrap (K:Int)=(K:Int):=aO _ W
 have e4:128*K=T.size:=by have:=b8.U;omega
 by_cases a6:t<8
 ·rw[au a6] at z
  go_enter func33,ntmps33
  go_upto_region 3 with((go_at_call 97;refine KC a b7.U λ r a=>?_))
  rw[c1.U]
  go_upto_region 7 with(first|(go_at_call 98;(first|(refine(b9.U _).mono ?_)|(refine(c5.U _).mono ?_));rintro e r ⟨rfl,a8⟩;have u:=a.U.below a8;replace a:=Z u)|(go_at_call 99;refine KC a (c0.U _) λ r a=>?_))
  rw[b6.U,<-z.U]
  obtain⟨b4,a4,h⟩:=(L.U.below a.U.aq).b
  have a7:r.heap[1]?=some (.cells (lJ WM.eK).toArray b4 a4):=h
  go_wp2_with(first|(refine K7 a 0 172 8 λ J a=>?_)|(refine KA a 172 6 Nc λ C J d3 a=>?_)|(refine Az rfl 172 8 rfl (x:= .global 1) rfl a7 V rfl ?_))
  go_loopw [39] (λ f wr=>∃k:Nat,k<=K/\f=O (k:Int)/\ae w wr [] [Y.row C 172 (lJ (WM.chain T.data.toList k))]) (λ f _=>K-(intOf f).toNat)
  case atStart=>exact⟨0,bf _,rfl,a.U⟩
  case round=>
   obtain⟨k,d6,rfl,o⟩:=hrel
   have a:=Z o
   by_cases q:k<K
   ·have a5:(k:Int)<(K:Int):=by omega
    obtain⟨l,p⟩:=Hd T k W
    obtain⟨X,y⟩:∃X,T.extract (128*k) (128*k+128)=X:=⟨_,rfl⟩
    rw[y] at l p
    have c6:IntKind.i64.wrap (128*(k:Int))=128*(k:Int):=aO _ W
    have c7:IntKind.i64.wrap (128*(k:Int)+128)=128*(k:Int)+128:=aO _ W
    have t0:(128*(k:Int)).toNat=128*k:=by omega
    have t1:(128*(k:Int)+128).toNat=128*k+128:=by omega
    have p0:(0:Int)<=128*(k:Int):=by omega
    have p1:128*(k:Int)+128<=(T.size:Int):=by omega
    have p2:128*(k:Int)<=128*(k:Int)+128:=by omega
    have D:WM.chain T.data.toList (k+1)=WM.compress (WM.chain T.data.toList k) X.data.toList:=by rw[p];rfl
    have N:=Z (λ c (b1:BW w c)=>HM (L.U.below b1) (WM.chain T.data.toList k) X l)
    generalize WM.chain T.data.toList k=b at*
    have a0:=Z D;have a3:=Z y
    clear D l p y q
    go_wp2
    refine ae.region a.U (n:=9) (S:=ba [Y.row C 172 (lJ b)]) V V (λ b5 l=>(aX (l.in mZ) bg)) (λ b5 u d=> ?_)
    replace a:=Z u;clear u
    refine W2 0 42 rfl rfl (Yr V 0 rfl 172 8 rfl rfl V _ rfl rfl) d ?_
    refine V2 1 43 d ?_
    refine V2 2 44 d ?_
    refine V2 3 45 d ?_
    refine V2 4 46 d ?_
    refine V2 5 47 d ?_
    refine V2 6 48 d ?_
    refine W2 7 49 (v:=ad X) rfl rfl (Or.inl ⟨by kernel_rfl,λ c d2=>by go_simp;(rw[a3.U])⟩) d ?_
    refine ay.eL (i:=8) V zD rfl rfl 50 rfl rfl 100 rfl HW _ rfl ?_
    refine KC a (N.U _ a.U.aq) λ e0 a=>?_
    refine⟨_,rfl,(aX (a.U.in mZ) bg),?_⟩
    simp only[aS,av,ax]
    refine ay.tail V ?_
    simp only[ck,bH]
    go_wp2_with((refine K7 a 0 172 8 λ J a=>?_))
    go_roundw
    case rel=>exact⟨k+1,by omega,by go_num,by rw[a0.U];exact a.U⟩
    case measure=>simp[intOf];omega
   ·obtain rfl:k=K:=by omega
    have a9:=Ka (WM.chain T.data.toList k)
    have E:=a1.U
    rw[<-a9] at E
    have a2:=Z E
    generalize WM.chain T.data.toList k=b at*
    go_wp2_with((refine KR a 0 172 8 ?_))
    go_loopw [8,53] (λ b3 f wr=>∃j:Nat,j<=8/\f=O (j:Int)/\b3=ad ⟨(hP b j).toArray⟩/\ae w wr [] []) (λ _ f _=>8-(intOf f).toNat)
    case atStart=>exact⟨0,by omega,rfl,rfl,a.U.tail⟩
    case round=>
     obtain⟨j,A,rfl,rfl,o⟩:=hrel
     have a:=Z o
     by_cases q:j<8
     ·obtain⟨x,hx⟩:∃x,([b.a,b.b,b.c,b.d,b.e,b.f,b.g,b.h]:List UInt64)[j]?=some x:=⟨_,aU (by simpa using q)⟩
      have d5:=λ c=>I0 (cs:=(lJ b).toArray) (i:=j) (v:=U (x.toNat:Int)) c q (by
       have e:lJ b=([b.a,b.b,b.c,b.d,b.e,b.f,b.g,b.h]:List UInt64).map (λ x=>Value.int .u64 (x.toNat:Int)):=rfl
       rw[e,iS,ef,hx];rfl)
      have F:=Kb b j x hx
      have b0:(hP b j).length<=64:=by
       have:∀m:Nat,m<=8->(hP b m).length=8*m:=by
        intro m d7
        unfold hP
        rcases m with _|_|_|_|_|_|_|_|_|m<;>first|rfl|omega
       rw[this j A];omega
      obtain⟨g,I⟩:∃g,fp x.toNat=g:=⟨_,rfl⟩
      have G:=λ c=>WD.wm x.toNat x.toNat_lt c
      have H:=WD.C1 x.toNat
      rw[I] at G H
      rw[<-H] at F
      obtain⟨cG,h⟩:∃cG:af,(⟨(hP b j).toArray⟩:af)=cG:=⟨_,rfl⟩
      have b2:(⟨(hP b (j+1)).toArray⟩:af)=cG++g:=by rw[F,<-h,uM g,GN,<-uM]
      have d0:cG.size<=64:=by rw[<-h];simpa[ByteArray.size] using b0
      have d9:g.size=8:=by rw[<-I];rfl
      have c4:cG.size+g.size<=9223372036854775807:=by omega
      rw[h]
      have R:=Z G;have Q:=Z b2
      have a5:(j:Int)<8:=by omega
      go_wp2_with((go_at_call 99;refine KC a (R.U _) λ r a=>?_))
      go_roundw
      case rel=>exact⟨j+1,by omega,by go_num,by rw[Q.U],a.U⟩
      case measure=>simp[intOf];omega
     ·obtain rfl:j=8:=by omega
      go_wp2
      go_ret
      exact⟨by rw[a2.U];rfl,a.U.aq⟩
 ·rw[ar a6] at z
  have c8:decide ((t:Int)<8)=false:=by simp;omega
  have a6:=c8
  go_enter func33,ntmps33
  go_upto_region 3 with((go_at_call 97;refine KC a b7.U λ r a=>?_))
  rw[c1.U]
  go_upto_region 7 with(first|(go_at_call 98;((refine(b9.U _).mono ?_));rintro e r ⟨rfl,a8⟩;have u:=a.U.below a8;replace a:=Z u)|(go_at_call 99;refine KC a (c0.U _) λ r a=>?_))
  rw[b6.U,<-z.U]
  obtain⟨b4,a4,h⟩:=(L.U.below a.U.aq).b
  have a7:r.heap[1]?=some (.cells (lJ WM.eK).toArray b4 a4):=h
  go_wp2_with(first|(refine K7 a 0 172 8 λ J a=>?_)|(refine KA a 172 6 Nc λ C J d3 a=>?_)|(refine Az rfl 172 8 rfl (x:= .global 1) rfl a7 V rfl ?_))
  go_loopw [39] (λ f wr=>∃k:Nat,k<=K/\f=O (k:Int)/\ae w wr [] [Y.row C 172 (lJ (WM.chain T.data.toList k))]) (λ f _=>K-(intOf f).toNat)
  case atStart=>exact⟨0,bf _,rfl,a.U⟩
  case round=>
   obtain⟨k,d6,rfl,o⟩:=hrel
   have a:=Z o
   by_cases q:k<K
   ·have a5:(k:Int)<(K:Int):=by omega
    obtain⟨l,p⟩:=Hd T k W
    obtain⟨X,y⟩:∃X,T.extract (128*k) (128*k+128)=X:=⟨_,rfl⟩
    rw[y] at l p
    have c6:IntKind.i64.wrap (128*(k:Int))=128*(k:Int):=aO _ W
    have c7:IntKind.i64.wrap (128*(k:Int)+128)=128*(k:Int)+128:=aO _ W
    have t0:(128*(k:Int)).toNat=128*k:=by omega
    have t1:(128*(k:Int)+128).toNat=128*k+128:=by omega
    have p0:(0:Int)<=128*(k:Int):=by omega
    have p1:128*(k:Int)+128<=(T.size:Int):=by omega
    have p2:128*(k:Int)<=128*(k:Int)+128:=by omega
    have D:WM.chain T.data.toList (k+1)=WM.compress (WM.chain T.data.toList k) X.data.toList:=by rw[p];rfl
    have N:=Z (λ c (b1:BW w c)=>HM (L.U.below b1) (WM.chain T.data.toList k) X l)
    generalize WM.chain T.data.toList k=b at*
    have a0:=Z D;have a3:=Z y
    clear D l p y q
    go_wp2
    refine ae.region a.U (n:=9) (S:=ba [Y.row C 172 (lJ b)]) V V (λ b5 l=>(aX (l.in mZ) bg)) (λ b5 u d=> ?_)
    replace a:=Z u
    refine W2 0 42 rfl rfl (Yr V 0 rfl 172 8 rfl rfl V _ rfl rfl) d ?_
    refine V2 1 43 d ?_
    refine V2 2 44 d ?_
    refine V2 3 45 d ?_
    refine V2 4 46 d ?_
    refine V2 5 47 d ?_
    refine V2 6 48 d ?_
    refine W2 7 49 (v:=ad X) rfl rfl (Or.inl ⟨by kernel_rfl,λ c d2=>by go_simp;(rw[a3.U])⟩) d ?_
    refine ay.eL (i:=8) V zD rfl rfl 50 rfl rfl 100 rfl HW _ rfl ?_
    refine KC a (N.U _ a.U.aq) λ e0 a=>?_
    refine⟨_,rfl,(aX (a.U.in mZ) bg),?_⟩
    simp only[aS,av,ax]
    refine ay.tail V ?_
    simp only[ck,bH]
    go_wp2_with((refine K7 a 0 172 8 λ J a=>?_))
    go_roundw
    case rel=>exact⟨k+1,by omega,by go_num,by rw[a0.U];exact a.U⟩
    case measure=>simp[intOf];omega
   ·obtain rfl:k=K:=by omega
    have a9:=Ka (WM.chain T.data.toList k)
    have E:=a1.U
    rw[<-a9] at E
    have a2:=Z E
    generalize WM.chain T.data.toList k=b at*
    go_wp2_with((refine KR a 0 172 8 ?_))
    go_loopw [8,53] (λ b3 f wr=>∃j:Nat,j<=8/\f=O (j:Int)/\b3=ad ⟨(hP b j).toArray⟩/\ae w wr [] []) (λ _ f _=>8-(intOf f).toNat)
    case atStart=>exact⟨0,by omega,rfl,rfl,a.U.tail⟩
    case round=>
     obtain⟨j,A,rfl,rfl,o⟩:=hrel
     have a:=Z o
     by_cases q:j<8
     ·obtain⟨x,hx⟩:∃x,([b.a,b.b,b.c,b.d,b.e,b.f,b.g,b.h]:List UInt64)[j]?=some x:=⟨_,aU (by simpa using q)⟩
      have d5:=λ c=>I0 (cs:=(lJ b).toArray) (i:=j) (v:=U (x.toNat:Int)) c q (by
       have e:lJ b=([b.a,b.b,b.c,b.d,b.e,b.f,b.g,b.h]:List UInt64).map (λ x=>Value.int .u64 (x.toNat:Int)):=rfl
       rw[e,iS,ef,hx];rfl)
      have F:=Kb b j x hx
      have b0:(hP b j).length<=64:=by
       have:∀m:Nat,m<=8->(hP b m).length=8*m:=by
        intro m d7
        unfold hP
        rcases m with _|_|_|_|_|_|_|_|_|m<;>first|rfl|omega
       rw[this j A];omega
      obtain⟨g,I⟩:∃g,fp x.toNat=g:=⟨_,rfl⟩
      have G:=λ c=>WD.wm x.toNat x.toNat_lt c
      have H:=WD.C1 x.toNat
      rw[I] at G H
      rw[<-H] at F
      obtain⟨cG,h⟩:∃cG:af,(⟨(hP b j).toArray⟩:af)=cG:=⟨_,rfl⟩
      have b2:(⟨(hP b (j+1)).toArray⟩:af)=cG++g:=by rw[F,<-h,uM g,GN,<-uM]
      have d0:cG.size<=64:=by rw[<-h];simpa[ByteArray.size] using b0
      have d9:g.size=8:=by rw[<-I];rfl
      have c4:cG.size+g.size<=9223372036854775807:=by omega
      rw[h]
      have R:=Z G;have Q:=Z b2
      have a5:(j:Int)<8:=by omega
      go_wp2_with((go_at_call 99;refine KC a (R.U _) λ r a=>?_))
      go_roundw
      case rel=>exact⟨j+1,by omega,by go_num,by rw[Q.U],a.U⟩
      case measure=>simp[intOf];omega
     ·obtain rfl:j=8:=by omega
      go_wp2
      go_ret
      exact⟨by rw[a2.U];rfl,a.U.aq⟩
end
