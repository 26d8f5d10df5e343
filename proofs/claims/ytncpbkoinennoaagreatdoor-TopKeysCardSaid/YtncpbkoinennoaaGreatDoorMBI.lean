import Derived.OpenShut
import Derived.Test.YtncpbkoinennoaaGreatDoorFZ
import Derived.Test.YtncpbkoinennoaaGreatDoorMBE
import Derived.Test.YtncpbkoinennoaaGreatDoorMBH
set_option linter.all false
set_option maxRecDepth 100000
set_option maxHeartbeats 0
namespace Go.Proofs.YtncpbkoinennoaaGreatDoor
open Go.RowKit Proofs.Tryz
attribute [local irreducible] wpList Calls
variable{f r:Int}{m:List Nat}{M:ME}{g:Nat}
def UJ(k:KY)(c:CF)(p q:PL)(a:List PK)(b:Nat)(s:af):ME.leaf ⟨k,c,[p,q],a,b⟩ 0 s=if 12<=p.a.length then⟨k,c,[p,q],a,b⟩ else⟨k,c,[⟨p.n,p.a++[fP s]⟩,q],a,b⟩:=by
 have d:ME.pn ⟨k,c,[p,q],a,b⟩ 0=decide (12<=p.a.length):=by
  simp[ME.pn,ME.po,ME.bz,List.range,List.range.loop]
 unfold ME.leaf;rw[d];by_cases h:12<=p.a.length
 ·rw[au (aT h),au h]
 ·rw[ar (by rw[bm h];decide),ar h];rfl
def UK(k:KY)(c:CF)(p q:PL)(a:List PK)(b:Nat)(s:af):ME.leaf ⟨k,c,[p,q],a,b⟩ 1 s=if 12<=q.a.length then⟨k,c,[p,q],a,b⟩ else⟨k,c,[p,⟨q.n,q.a++[fP s]⟩],a,b⟩:=by
 have d:ME.pn ⟨k,c,[p,q],a,b⟩ 1=decide (12<=q.a.length):=by
  simp[ME.pn,ME.po,ME.bz,List.range,List.range.loop]
 unfold ME.leaf;rw[d];by_cases h:12<=q.a.length
 ·rw[au (aT h),au h]
 ·rw[ar (by rw[bm h];decide),ar h];rfl
def UN(k:KY)(c:CF)(p q:PL)(a:List PK)(b:Nat)(s:af)(g:ME.bz ⟨k,c,[p,q],a,b⟩ r=false):ME.leaf ⟨k,c,[p,q],a,b⟩ r s=if 12<=p.a.length then⟨k,c,[p,q],a,b⟩ else if 12<=q.a.length then⟨k,c,[p,q],a,b⟩ else⟨k,c,[⟨p.n,p.a++[fP s]⟩,⟨q.n,q.a++[fP s]⟩],a,b⟩:=by
 have e:∀j,ME.po ⟨k,c,[p,q],a,b⟩ r j=true:=λ j=>by
  unfold ME.po;rw[g];rfl
 have f:ME.pn ⟨k,c,[p,q],a,b⟩ r=(decide (12<=p.a.length)||decide (12<=q.a.length)):=by
  unfold ME.pn;simp only[e];simp[List.range,List.range.loop]
 unfold ME.leaf;rw[f];simp only[e];by_cases h:12<=p.a.length
 ·rw[au (by rw[aT h];rfl),au h]
 ·by_cases d:12<=q.a.length
  ·rw[au (by rw[aT d];simp),ar h,au d]
  ·rw[ar (by rw[bm h,bm d];decide),ar h,ar d];rfl
def UM{k:KY}{c:CF}{p q:PL}{d:List PK}{s:af}{i:Int}(h:(f=0/\r=1/\i=0)\/(f=1/\r=2/\i=1)\/(f=0/\r=2/\ME.bz ⟨k,c,[p,q],d,g⟩ i=false)):ME.leaf ⟨k,c,[p,q],d,g⟩ i s=if(f=0/\12<=p.a.length)\/(r=2/\12<=q.a.length) then⟨k,c,[p,q],d,g⟩ else⟨k,c,[if f=0 then⟨p.n,p.a++[fP s]⟩ else p,if r=2 then⟨q.n,q.a++[fP s]⟩ else q],d,g⟩:=by
 rcases h with⟨rfl,rfl,rfl⟩|⟨rfl,rfl,rfl⟩|⟨rfl,rfl,h⟩
 ·rw[UJ];simp
 ·rw[UK];simp
 ·rw[UN _ _ _ _ _ _ _ h];by_cases a:12<=p.a.length<;>by_cases b:12<=q.a.length<;>simp[a,b]
def Vd{b3 w:aa}{K:Nat}(h:bP b3 w m g M)(a2:M.aI K)(x:AC)(hx:x.right=true):
 Calls prog 68 #[pV g,x.val] w (rU b3 m g (M.leaf x.a x.s)):=by
 have c8:x.s.size<=4096:=by
  unfold AC.right at hx
  simp only[dL,ej] at hx
  omega
 obtain⟨e7,p,q,rfl,a,c6,E⟩:=h
 obtain⟨k,c,l,r,D⟩:=M
 simp only at c6
 subst c6
 have s:=a2.pl p zS
 have o:=a2.pl q zS
 have y:=a2.b
 have A:=a2.p1
 have z:=a2.now
 simp only at s o y A z
 obtain⟨g,X,G,b2,a0,⟨J,a3,pd,c1⟩,⟨L,a5,a4,qv⟩,b6⟩:=e7
 have a7:ai (2<=G):=Z a
 clear a
 have a:ai (ae b3 w m [Y.row g 126 (ME.cells ⟨k,c,[p,q],r,D⟩ b2 (ag (some ⟨X,0,none⟩) 2 G) a0),Y.ow 210 3 a0 r.length (bG r),Y.row X 129 (nV ⟨J,a3,pd,c1⟩ ⟨L,a5,a4,qv⟩ b6),Y.bd J a3 p.n,Y.dk J.a pd p.n.d,Y.vw c1 p.a,Y.bd L a5 q.n,Y.dk L.a a4 q.n.d,Y.vw qv q.a]):=Z E
 obtain⟨d4,d,d3,d5,e⟩:=x
 simp only at c8
 have b7:=Z (λ(c2:aa) (a8:(Y.row g 126 (ME.cells ⟨k,c,[p,q],r,D⟩ b2 (ag (some ⟨X,0,none⟩) 2 G) a0)).P c2)=>Jr (m:=⟨k,c,[p,q],r,D⟩) a8 d)
 show Calls prog 68 #[pV g,aG #[O d4,O d,O d3,U (d5:Int),ad e]] w (rU b3 m g (ME.leaf ⟨k,c,[p,q],r,D⟩ d e))
 obtain⟨d7,d9,f2,-⟩:=da (show w.ownsRow 0 9 1 c1 p.a.length (bh p.a) from a.U.get (i:=5) rfl)
 obtain⟨d8,e0,f3,-⟩:=da (show w.ownsRow 0 9 1 qv q.a.length (bh q.a) from a.U.get (i:=8) rfl)
 subst f2 f3
 obtain⟨B,j⟩:=p
 obtain⟨C,n⟩:=q
 have b8:=s.len
 have b9:=o.len
 simp only at b8 b9
 have b4:=Z (⟨b8,b9⟩:j.length<=12/\n.length<=12)
 have f1:min (e.size:Int) 40=((min e.size 40:Nat):Int):=by omega
 have hcut:fP e=e.extract 0 (min e.size 40):=rfl
 have e5:=Z (Mq j (fP e))
 have e6:=Z (Mq n (fP e))
 have c3:ai (∀f:List af,(f++[fP e]).length=f.length+1):=Z (λ f=>by simp)
 obtain⟨b1,c7⟩:∃b1,min e.size 40=b1:=⟨_,rfl⟩
 rw[c7] at f1 hcut
 have f9:(b1:Int)<=(e.size:Int):=by omega
 have g0:(0:Int)<=(b1:Int):=by omega
 have e2:=Z hcut
 obtain⟨R,c0⟩:∃R,ME.leaf ⟨k,c,[⟨B,j⟩,⟨C,n⟩],r,D⟩ d e=R:=⟨_,rfl⟩
 rw[c0]
 have c4:ai (∀f:List af,∃b,decide ((12:Int)<=(f.length:Int))=b/\(b=true↔12<=f.length)):=Z (λ f=>⟨_,rfl,by simp;omega⟩)
 have f6:(1:Int)<=(G:Int):=by have:=a7.U;omega
 have f7:(2:Int)<=(G:Int):=by have:=a7.U;omega
 have f8:¬G=1:=by have:=a7.U;omega
 obtain⟨f,t,H,I⟩:∃f t:Int,ai ((f=0/\t=1/\d=0)\/(f=1/\t=2/\d=1)\/(f=0/\t=2/\(d<0\/2<=d)))/\(d=0\/d=1\/(decide (0<=d)&&decide (d<2))=false):=by
  by_cases b:d=0
  ·exact⟨0,1,Z (.inl ⟨rfl,rfl,b⟩),.inl b⟩
  by_cases u:d=1
  ·exact⟨1,2,Z (.inr (.inl ⟨rfl,rfl,u⟩)),.inr (.inl u)⟩
  have F:(decide (0<=d)&&decide (d<2))=false:=by simp;omega
  exact⟨0,2,Z (.inr (.inr ⟨rfl,rfl,by omega⟩)),.inr (.inr F)⟩
 have c5:ai (R=if(f=0/\12<=j.length)\/(t=2/\12<=n.length) then⟨k,c,[⟨B,j⟩,⟨C,n⟩],r,D⟩ else⟨k,c,[if f=0 then⟨B,j++[fP e]⟩ else⟨B,j⟩,if t=2 then⟨C,n++[fP e]⟩ else⟨C,n⟩],r,D⟩):=Z (by rw[<-c0];exact UM (H.U.imp_right (λ h=>h.imp_right (λ h=>⟨h.1,h.2.1,by show(decide (0<=d)&&decide (d<2))=false;simp;omega⟩))))
 clear E a2 s o y A z hx hcut c7 c8 b8 b9 c0
 go_enter func68,ntmps68
 go_upto_region 1 with(refine KB a 55 3 _ λ f0 a6 f4 a=>?_)
 obtain⟨F,hF⟩:∃F:aa->List af->Option Addr->Nat->List af->Option Addr->Nat->Prop,∀wr b N Q s P S,F wr b N Q s P S=ai (ae b3 wr m [Y.row f0 55 [O d4,O d,O d3,U (d5:Int),ad e],Y.row g 126 (ME.cells ⟨k,c,[⟨B,j⟩,⟨C,n⟩],r,D⟩ b2 (ag (some ⟨X,0,none⟩) 2 G) a0),Y.ow 210 3 a0 r.length (bG r),Y.row X 129 (nV ⟨J,a3,pd,ag N b.length Q⟩ ⟨L,a5,a4,ag P s.length S⟩ b6),Y.bd J a3 B,Y.dk J.a pd B.d,Y.ow 9 1 (ag N b.length Q) b.length (bh b),Y.bd L a5 C,Y.dk L.a a4 C.d,Y.ow 9 1 (ag P s.length S) s.length (bh s)]):=⟨_,λ _ _ _ _ _ _ _=>rfl⟩
 have a1:=Z hF
 clear hF
 refine RG a 6 [1] λ e1 a A=>?_
 refine VV [0,1,2,2003,4,5] A ?_
 clear A
 refine WT ?_
 rcases I with I|I|I
 iterate 2
  focus
   subst I
   go_upto_region 3 with(first|refine Kl a ?_|go_at_call 72;refine KC a (b7.U _ (a.U.get (i:=1) rfl)) λ u a=>?_)
   refine RG a 6 [0] λ e1 a A=>?_
   refine VV [0,2001,2,2003,4,5] A ?_
   clear A
   refine WT ?_
   go_wp2_with(refine Kl a ?_)
  rotate_left
 focus
  have y:d<0\/2<=d:=by simp at I;omega
  rw[I] at b7
  go_wp2_with(first|refine Kl a ?_|go_at_call 72;refine KC a (b7.U _ (a.U.get (i:=1) rfl)) λ u a=>?_)
 all_goals
  go_loopw [32] (λ T wr=>∃z:Int,T=O z/\(z=0\/z=1\/z=2)/\z<=t-f/\((f=0/\0<z)->¬12<=j.length)/\(f+z=2->¬12<=n.length)/\F wr j d7 d9 n d8 e0) (λ T _=>2-(intOf T).toNat)
  case atStart=>exact⟨0,rfl,.inl rfl,by have:=H.U;omega,by omega,by have:=H.U;omega,by rw[a1.U];exact a⟩
  case round=>
   clear a
   obtain⟨z,rfl,a9,b0,b5,d6,a⟩:=hrel
   rw[a1.U] at a
   rcases H.U with⟨u,y,E⟩|⟨u,y,E⟩|⟨u,y,E⟩
   all_goals try(exfalso;omega)
   rcases(show z<t-f\/z=t-f by omega) with hx|hx
   focus
    rcases a9 with rfl|rfl|rfl
    all_goals try(exfalso;omega)
    all_goals
     obtain⟨e8,d0,c9⟩:=c4.U j
     obtain⟨e9,d1,d2⟩:=c4.U n
     have e3:=Z (And.intro (And.intro u y) (And.intro c9 d2))
     have e4:=Z b5
     clear c9 d2 b5 d6 u y E hx b0
     cases e8<;>cases e9
     all_goals
      go_wp2_with(first|refine KT a 3 ?_|refine Kl a ?_|refine KS a λ a6 a=>?_|refine KA a _ 8 acd λ d2 a6 f5 a=>?_)
      have c9:=e3.U
      have g1:=e4.U
      simp only[true_iff,false_iff,reduceCtorEq,eG] at c9
      first
       |go_ret
        have a8:(⟨k,c,[⟨B,j⟩,⟨C,n⟩],r,D⟩:ME)=R:=by rw[c5.U,au W]
        subst a8
        exact⟨_,rfl,bP.mk ⟨g,X,G,b2,a0,⟨J,a3,pd,ag d7 j.length d9⟩,⟨L,a5,a4,ag d8 n.length e0⟩,b6⟩ ⟨B,j⟩ ⟨C,n⟩ a7.U rfl a.U.tail.tail⟩
       |exact⟨⟨_,rfl,by omega,by omega,by omega,by omega,by rw[a1.U];exact Z a.U.tail⟩,by decide⟩
   have d2:ai (¬((f=0/\12<=j.length)\/(t=2/\12<=n.length))):=Z W
   first|(have o:z=1:=W;subst o)|(have o:z=2:=W;subst o)
   clear b5 d6 u y E hx a9 b0
   go_wp2_with fail
   go_loopw [9] (λ T wr=>∃(z:Int) (b s:List af) (N:Option Addr) (Q:Nat) (P:Option Addr) (S:Nat),T=O z/\f<=z/\z<=t/\(if f=0/\0<z then j++[fP e] else j)=b/\(if z=2 then n++[fP e] else n)=s/\F wr b N Q s P S) (λ T _=>2-(intOf T).toNat)
   case atStart=>exact⟨_,_,_,_,_,_,_,rfl,by have:=H.U;omega,by have:=H.U;omega,ar (by have:=H.U;omega),ar zD,by rw[a1.U];exact a⟩
   case round=>
    clear a
    obtain⟨z,b,s,N,Q,P,S,rfl,a9,b0,T,b5,a⟩:=hrel
    rw[a1.U] at a
    rcases H.U with⟨u,y,E⟩|⟨u,y,E⟩|⟨u,y,E⟩
    all_goals try(exfalso;omega)
    rcases(show z<t\/z=t by omega) with hx|hx
    focus
     rcases(show z=0\/z=1 by omega) with rfl|rfl
     all_goals try(exfalso;omega)
     all_goals
      obtain rfl:n=s:=by rw[<-b5,ar zD]
      have c9:=Z (And.intro u y)
      first|(have o:j=b:=(by rw[<-T,ar W]);subst o)|(have o:j++[fP e]=b:=(by rw[<-T,au W]);subst o)
      clear u y E hx a9 b0 T b5
      go_upto_region 13 with fail
      refine RG a 22 [1,0,3] λ e1 a A=>?_
      refine VV [0,1,2,2003,4,5,6,7,2008,9,10,11,2012,13,2014,15,2016,17] A ?_
      refine W2 18 65 (v:=O (b1:Int)) rfl rfl (Or.inl ⟨by kernel_rfl,λ c2 e4=>by(go_simp;done)⟩) A ?_
      refine W2 19 66 (v:=ad (fP e)) rfl rfl (Or.inl ⟨by kernel_rfl,λ c2 e4=>by(go_simp;rw[e2.U])⟩) A ?_
      clear A
      refine ay.make a.U (i:=20) V zD rfl rfl 67 rfl (some 1) 9 [ad (fP e)] (by go_simp;rfl) ?_
      intro e8 a6 e9 A
      replace a:=Z A;clear A
      refine⟨bI a [2,1,4],?_⟩
      simp only[bc]
      simp only[aS,av,ax]
      first
       |refine ay.app a.U (i:=21) V zD rfl rfl 68 rfl vc rfl 7 rfl rfl 0 rfl rfl rfl rfl (by have:=b4.U.1;unfold maxLen;omega) (by have:=b4.U.1;omega) (λ e3 d6 a6 A=> ?_)
       |refine ay.app a.U (i:=21) V zD rfl rfl 68 rfl vc rfl 10 rfl rfl 0 rfl rfl rfl rfl (by have:=b4.U.2;unfold maxLen;omega) (by have:=b4.U.2;omega) (λ e3 d6 a6 A=> ?_)
      simp only[av,ax] at A
      replace a:=Z A;clear A
      refine⟨bI a [2,1,4],?_⟩
      try simp only[aS,av,ax]
      refine WT ?_
      go_wp2_with(refine KS a λ a6 a=>?_)
      have A:=a.U.tail
      first|rw[e5.U,<-c3.U j] at A|rw[e6.U,<-c3.U n] at A
      have I:=c9.U
      exact⟨⟨_,_,_,_,_,_,_,rfl,by omega,by omega,by first|rw[au W]|rw[ar W],by first|rw[au rfl]|rw[ar zD],by rw[a1.U];exact Z A⟩,by decide⟩
    have a8:(⟨k,c,[⟨B,b⟩,⟨C,s⟩],r,D⟩:ME)=R:=by
     rw[c5.U,ar d2.U,<-T,<-b5]
     simp[u,y,hx]
    first|(have o:z=1:=W;subst o)|(have o:z=2:=W;subst o)
    clear u y E hx a9 b0 T b5
    go_wp2_with fail
    go_ret
    subst a8
    exact⟨_,rfl,bP.mk ⟨g,X,G,b2,a0,⟨J,a3,pd,ag N b.length Q⟩,⟨L,a5,a4,ag P s.length S⟩,b6⟩ ⟨B,b⟩ ⟨C,s⟩ a7.U rfl a.U.tail⟩
def Jq{b w:aa}{K:Nat}(C:TM m b)(h:bP b w m g M)(n:M.aI K)(A:K<=50000)(x:AC)(d:x.c=5)(f:x.right=true):
 Calls prog 22 #[pV g,x.val] w (rU b m g (M.act x)):=by
 have l:=Z (λ a=>N1 x a)
 rw[f] at l
 have e:M.act x=M.leaf x.a x.s:=by unfold ME.act;rw[au f,ar (by rw[d];decide),au d]
 have k:=Z (λ(a:aa) (i:bP b a m g M)=>Vd i n x f)
 obtain⟨c,p,q,rfl,o,D,r⟩:=h
 have a:=Z r
 have y:=Z o
 obtain⟨N,i,s,t,j⟩:=x
 simp only at e d
 subst d
 clear C n A r f o
 show Calls prog 22 #[pV c.g,aG #[O 5,O i,O s,U (t:Int),ad j]] w (rU b m c.g (ME.act M ⟨5,i,s,t,j⟩))
 rw[e]
 clear e
 go_enter func22,ntmps22
 simp only at k
 generalize B:(ME.leaf M i j)=H at*
 clear B
 go_wp2_with(first|refine KT a 5 ?_|refine Kl a ?_|refine KB a 55 3 _ λ I u J a=>?_|(with_reducible show yf);(refine w9 a.U rfl 9 rfl 130 rfl λ P u L r=>?_;replace a:=Z r;clear r)|refine KM a λ u a=>?_|(with_reducible show IC);(refine Lk a.U 0 rfl rfl Jw rfl rfl rfl (v:= .func (.func 68) #[pV c.g] #[]) (by rw[ar zD];rfl) ?_)|go_at_call 65;refine KC a (l.U _) λ G a=>?_|go_at_call 68;(refine(k.U _ (bP.mk c p q y.U D a.U.tail.tail)).mono ?_);intro e G F;obtain⟨E,rfl,o⟩:=F;clear a;have z:=Z o;clear o)
 go_ret
 exact⟨_,rfl,z.U⟩
def sD(f:Nat)(m:ME)(h:m.b.length=0):ME.eN f m=m:=by
 cases f with
 |zero=>rfl
 |succ f=>unfold ME.eN;rw[au h]
def Qy(f:Nat)(m:ME)(h:¬m.b.length=0):ME.eN (f+1) m=ME.eN f (m.bS 1 0):=by
 rw[ME.eN,ar h]
def Vi{t w:aa}{K:Nat}(c7:TM m t)(h:bP t w m g M)(y:M.aI K)(i2:K<=40000)(g7:qq M):
 Calls prog 60 #[pV g] w (AN t m g M.round):=by
 obtain⟨m1,b8⟩:∃m1,M.tick 0 (bo M.now M.c.a) 0=m1:=⟨_,rfl⟩
 obtain⟨m2,b9⟩:∃m2,m1.tick 1 (bo m1.now m1.c.a) 0=m2:=⟨_,rfl⟩
 have e3:m1.aI (K+1):=by rw[<-b8];exact y.tick W zD (kz _ _) 0
 have g3:m2.aI (K+2):=by rw[<-b9];exact e3.tick W zD (kz _ _) 0
 have g5:M.round=ME.eN 200 m2:=by
  have a:=y.two
  unfold ME.round
  rw[a]
  show ME.eN 200 (ME.jn [0,1] M)=_
  rw[ME.jn,ME.jn,ME.jn,b8,b9]
 rw[g5]
 obtain⟨d,b,a⟩:=g7
 rw[b8] at b a
 rw[b9] at a
 have f6:=Z a;have f8:=Z d;have f9:=Z b
 clear a d b
 have f4:=Z (λ(f:aa) (s:ME) (b:Nat) (C:bP t f m g s) (a:s.aI b) (d:s.b.length=0\/dG s=true)=>Ve c7 C a ⟨1,0,0,0,⟨#[]⟩⟩ (wT _) zD rfl rfl d)
 have e2:=Z (λ(f:aa) (j:List Y) (a:NA) (x:NV) (n:ND) (c:CF) (b o:Nat) (C:ae t f m (Y.bd a x n::j)) (B:n.aI c b) (a3:c.cj=1) (a2:o<18446744073709551616) (b5:sf n o)=>aaE c7 C B.ok (B.cj a3) B.cd o 0 a2 zD b5)
 have e1:=Z (λ(f:aa) (a b:Nat) (d:a<18446744073709551616) (e:b<18446744073709551616)=>tC a b d e f)
 have e8:=Z y;have e9:=Z e3;have f0:=Z g3
 have d9:=Z h
 have f2:=Z b8;have f3:=Z b9
 have g9:=Z c7
 obtain⟨X,p,q,R,a1,a0,b0⟩:=d9.U
 have d:=Z b0
 obtain⟨Q,i5,i4,i7,i6,i0,i1,i8⟩:=X
 simp only at R
 subst R
 clear b0 a1 a0
 go_enter func60,ntmps60
 go_wp2_with(refine Kl d ?_)
 clear d
 go_loopw [8] (λ z wr=>(z=O 0/\ai (bP t wr m Q M))\/(z=O 1/\ai (bP t wr m Q m1))\/(z=O 2/\ai (bP t wr m Q m2))) (λ z _=>2-(intOf z).toNat)
 case atStart=>exact .inl ⟨rfl,d9⟩
 case round=>
  obtain⟨rfl,J⟩|⟨rfl,J⟩|⟨rfl,J⟩:=hrel
  ·obtain⟨X,p,q,R,a1,a0,b0⟩:=J.U
   obtain⟨D,G,F,P,a6,⟨H,S,pd,a7⟩,⟨I,T,a8,qv⟩,b7⟩:=X
   simp only at R a1
   subst R
   have y:=e8.U
   obtain⟨k,c,l,n,o⟩:=M
   simp only at a0
   subst a0
   have b4:=y.pl p zS
   have C:=y.pl q zS
   have b3:=y.b
   have a3:=y.p1
   have a2:=y.now
   have b2:=y.c
   simp only at b4 C b3 a3 a2 b2
   have d:ai (ae t _ m [Y.row D 126 (ME.cells ⟨k,c,[p,q],n,o⟩ P (ag (some ⟨G,0,none⟩) 2 F) a6),Y.ow 210 3 a6 n.length (bG n),Y.row G 129 (nV ⟨H,S,pd,a7⟩ ⟨I,T,a8,qv⟩ b7),Y.bd H S p.n,Y.dk H.a pd p.n.d,Y.vw a7 p.a,Y.bd I T q.n,Y.dk I.a a8 q.n.d,Y.vw qv q.a]):=Z b0
   have c2:ai (2<=F):=Z a1
   have c9:c.a<18446744073709551616:=by have:=b2.b;omega
   have c3:=Z (λ f=>e1.U f o c.a a2 c9)
   have b5:sf p.n (bo o c.a):=iH f8.U
   have d4:=kz o c.a
   have e:ME.tick ⟨k,c,[p,q],n,o⟩ 0 (bo o c.a) 0=ME.send ⟨k,c,[⟨p.n.kC (bo o c.a) 0,p.a⟩,q],n,bo o c.a⟩ 0 (p.n.kB (bo o c.a) 0):=rfl
   generalize bo o c.a=u at*
   have c5:=Z (λ(f:aa) (j:List Y) (d5:ae t f m (Y.bd H S p.n::j))=>e2.U f j H S p.n c _ u d5 b4.n a3 d4 b5)
   have c8:=EY b4.n.cd u 0
   have b1:=Z c8
   have c4:=Z (MH p.n u 0)
   have c1:ai (∀(f:aa) (L:List SD) (v nq:ab) (N:List PL) (j:List Y),ae t f m (Y.mc D P (ag (some ⟨G,0,none⟩) 2 F) nq ⟨k,c,N,n,u⟩::Y.so v L::j)->∀(i:Nat),i<2->L.length<=10->(∀x∈L,-10<=x.1/\x.1<=10)->Calls prog 140 #[.pointer (some ⟨D,0,none⟩),O (i:Int),v] f λ r d6=>r=ao (aM #[])/\∃b6,ae t d6 m (Y.mc D P (ag (some ⟨G,0,none⟩) 2 F) b6 (ME.send ⟨k,c,N,n,u⟩ i L)::Y.so v L::j)):=Z (λ f L v nq N j h i d0 c6 hx=>C6 (m:=⟨k,c,N,n,u⟩) h i d0 b3 c6 hx)
   have c0:=Z e
   generalize p.n.kC u 0=a5 at*
   generalize p.n.kB u 0=g0 at*
   go_upto_region 3 with fail
   refine RG d 13 [0] λ d7 d E=>?_
   refine VV [0,1,2,3,2004,5,6,7,8,2009] E ?_
   refine KV 10 (en 139) 21 ?_
   refine KQ (c3.U _) ?_
   refine⟨_,rfl,bI d [0],?_⟩
   simp only[aS,av,ax]
   have E:=bI d [0]
   refine VV [11,12] E ?_
   refine WT ?_
   go_upto_region 4 with(refine KS d λ g8 d=>?_)
   refine RG d 15 [0,2] λ d7 d E=>?_
   refine VV [0,1,2,3,4,2005,6,7,8,2009,10,11,12,2013] E ?_
   refine KV 14 (en 141) 38 ?_
   refine(c5.U _ _ (d.U.ft [8,8,8,8,8,7,7,7,8])).mono ?_
   intro e a9 a4
   obtain⟨A,g1,d8,rfl,B⟩:=a4
   replace d:=Z B
   refine⟨_,rfl,bI d [2,4],?_⟩
   simp only[aS,av,ax]
   refine WT ?_
   go_wp2_with((go_at_call 140;(refine(c1.U _ _ _ _ [⟨a5,p.a⟩,q] _ (d.U.ft [9,9,9,9,9,6,9,7,9,9]).eX 0 zD (by have:=b1.U.1;omega) (λ x hx=>by have:=b1.U.2 x hx;omega)).mono ?_);rintro e a9 ⟨rfl,b6,B⟩;replace d:=Z B))
   have B:=d.U.fs [1,1000,7,7,7,7,7,7,7,7]
   have d3:bP t a9 m D (ME.tick ⟨k,c,[p,q],n,o⟩ 0 u 0):=by
    rw[c0.U]
    exact bP.sZ (M:=⟨D,G,F,P,a6,⟨H,d8,pd,a7⟩,⟨I,T,a8,qv⟩,b7⟩) (m:=⟨k,c,[⟨a5,p.a⟩,q],n,u⟩) (p:=⟨a5,p.a⟩) (q:=q) c2.U rfl (by(rw[c4.U];exact B))
   exact⟨.inr (.inl ⟨rfl,Z (by rw[<-f2.U];exact d3)⟩),by decide⟩
  ·obtain⟨X,p,q,R,a1,a0,b0⟩:=J.U
   obtain⟨D,G,F,P,a6,⟨H,S,pd,a7⟩,⟨I,T,a8,qv⟩,b7⟩:=X
   simp only at R a1
   subst R
   have y:=e9.U
   obtain⟨k,c,l,n,o⟩:=m1
   simp only at a0
   subst a0
   have b4:=y.pl p zS
   have C:=y.pl q zS
   have b3:=y.b
   have a3:=y.p1
   have a2:=y.now
   have b2:=y.c
   simp only at b4 C b3 a3 a2 b2
   have d:ai (ae t _ m [Y.row D 126 (ME.cells ⟨k,c,[p,q],n,o⟩ P (ag (some ⟨G,0,none⟩) 2 F) a6),Y.ow 210 3 a6 n.length (bG n),Y.row G 129 (nV ⟨H,S,pd,a7⟩ ⟨I,T,a8,qv⟩ b7),Y.bd H S p.n,Y.dk H.a pd p.n.d,Y.vw a7 p.a,Y.bd I T q.n,Y.dk I.a a8 q.n.d,Y.vw qv q.a]):=Z b0
   have c2:ai (2<=F):=Z a1
   have c9:c.a<18446744073709551616:=by have:=b2.b;omega
   have c3:=Z (λ f=>e1.U f o c.a a2 c9)
   have b5:sf q.n (bo o c.a):=iH f9.U
   have d4:=kz o c.a
   have e:ME.tick ⟨k,c,[p,q],n,o⟩ 1 (bo o c.a) 0=ME.send ⟨k,c,[p,⟨q.n.kC (bo o c.a) 0,q.a⟩],n,bo o c.a⟩ 1 (q.n.kB (bo o c.a) 0):=rfl
   generalize bo o c.a=u at*
   have c5:=Z (λ(f:aa) (j:List Y) (d5:ae t f m (Y.bd I T q.n::j))=>e2.U f j I T q.n c _ u d5 C.n a3 d4 b5)
   have c8:=EY C.n.cd u 0
   have b1:=Z c8
   have c4:=Z (MH q.n u 0)
   have c1:ai (∀(f:aa) (L:List SD) (v nq:ab) (N:List PL) (j:List Y),ae t f m (Y.mc D P (ag (some ⟨G,0,none⟩) 2 F) nq ⟨k,c,N,n,u⟩::Y.so v L::j)->∀(i:Nat),i<2->L.length<=10->(∀x∈L,-10<=x.1/\x.1<=10)->Calls prog 140 #[.pointer (some ⟨D,0,none⟩),O (i:Int),v] f λ r d6=>r=ao (aM #[])/\∃b6,ae t d6 m (Y.mc D P (ag (some ⟨G,0,none⟩) 2 F) b6 (ME.send ⟨k,c,N,n,u⟩ i L)::Y.so v L::j)):=Z (λ f L v nq N j h i d0 c6 hx=>C6 (m:=⟨k,c,N,n,u⟩) h i d0 b3 c6 hx)
   have c0:=Z e
   generalize q.n.kC u 0=a5 at*
   generalize q.n.kB u 0=g0 at*
   go_upto_region 3 with fail
   refine RG d 13 [0] λ d7 d E=>?_
   refine VV [0,1,2,3,2004,5,6,7,8,2009] E ?_
   refine KV 10 (en 139) 21 ?_
   refine KQ (c3.U _) ?_
   refine⟨_,rfl,bI d [0],?_⟩
   simp only[aS,av,ax]
   have E:=bI d [0]
   refine VV [11,12] E ?_
   refine WT ?_
   go_upto_region 4 with(refine KS d λ g8 d=>?_)
   refine RG d 15 [0,2] λ d7 d E=>?_
   refine VV [0,1,2,3,4,2005,6,7,8,2009,10,11,12,2013] E ?_
   refine KV 14 (en 141) 38 ?_
   refine(c5.U _ _ (d.U.ft [8,8,7,7,7,7,7,7,8])).mono ?_
   intro e a9 a4
   obtain⟨A,g1,d8,rfl,B⟩:=a4
   replace d:=Z B
   refine⟨_,rfl,bI d [2,4],?_⟩
   simp only[aS,av,ax]
   refine WT ?_
   go_wp2_with((go_at_call 140;(refine(c1.U _ _ _ _ [p,⟨a5,q.a⟩] _ (d.U.ft [9,9,3,9,9,9,9,7,9,9]).eX 1 zD (by have:=b1.U.1;omega) (λ x hx=>by have:=b1.U.2 x hx;omega)).mono ?_);rintro e a9 ⟨rfl,b6,B⟩;replace d:=Z B))
   have B:=d.U.fs [1,1000,7,7,7,7,7,7,7,7]
   have d3:bP t a9 m D (ME.tick ⟨k,c,[p,q],n,o⟩ 1 u 0):=by
    rw[c0.U]
    exact bP.sZ (M:=⟨D,G,F,P,a6,⟨H,S,pd,a7⟩,⟨I,d8,a8,qv⟩,b7⟩) (m:=⟨k,c,[p,⟨a5,q.a⟩],n,u⟩) (p:=p) (q:=⟨a5,q.a⟩) c2.U rfl (by(rw[c4.U];exact B))
   exact⟨.inr (.inr ⟨rfl,Z (by rw[<-f3.U];exact d3)⟩),by decide⟩
  ·go_wp2
   go_loopw [41] (λ z wr=>∃(j:Nat) (s:ME),j<=200/\z=O (j:Int)/\ai (s.aI (K+2+j))/\ai (ME.eN (200-j) s=ME.eN 200 m2)/\ai (oH s)/\ai (bP t wr m Q s)) (λ z _=>200-(intOf z).toNat)
   case atStart=>exact⟨0,m2,bf _,rfl,f0,Z rfl,f6,J⟩
   case round=>
    obtain⟨j,s,i3,rfl,d5,L,e0,J⟩:=hrel
    by_cases e5:j<200
    ·have d1:decide (j<200)=true:=aT e5
     have d2:decide ((j:Int)<200)=true:=aT W
     have g2:∀z,s.rk 1=z->(z=5/\s.b.length=0)\/(z=0/\¬s.b.length=0):=by
      rintro z rfl
      unfold ME.rk
      by_cases i:s.b.length=0
      ·rw[au i];exact .inl ⟨rfl,i⟩
      ·rw[ar i,ar zD];exact .inr ⟨rfl,i⟩
     have e7:=Z (λ(f:aa) (C:bP t f m Q s)=>f4.U f s _ C d5.U (by cases e0.U with|nil h=>exact .inl h|step a b=>exact .inr a))
     have d6:=Z e5
     obtain⟨v,e4⟩:∃v,s.rk 1=v:=⟨_,rfl⟩
     have d0:ai (∀(f:aa) (C:bP t f m Q s),Calls prog 67 #[pV Q,aG #[O 1,O 0,O 0,U 0,ad ⟨#[]⟩]] f (AO t m Q v (s.bS 1 0))):=Z (λ f C=>by rw[<-e4];exact e7.U f C)
     rcases g2 v e4 with⟨rfl,i⟩|⟨rfl,i⟩
     ·have g6:s.bS 1 0=s:=by
       unfold ME.bS
       have:s.b=[]:=ig i
       rw[this];rfl
      have f:=L.U
      rw[sD _ _ i] at f
      have r:=Z f
      have f5:=Z g6
      go_wp2_with((go_at_call 67;(refine(d0.U _ J.U).mono ?_);intro e a9 a4;obtain⟨rfl,c6⟩:=a4;have N:=Z c6))
      go_end0
      refine⟨rfl,?_⟩
      rw[<-r.U,<-f5.U]
      exact N.U
     ·have f:=L.U
      rw[show 200-j=(200-(j+1))+1 by omega,Qy _ _ i] at f
      have g4:=d5.U.bS W 1 0
      have f1:ai ((s.bS 1 0).aI (K+2+(j+1))):=Z g4
      have r:=Z f
      have e6:oH (s.bS 1 0):=by cases e0.U with|nil h=>exact absurd h i|step a b=>exact b
      have f7:=Z e6
      clear e6
      go_wp2_with((go_at_call 67;(refine(d0.U _ J.U).mono ?_);intro e a9 a4;obtain⟨rfl,c6⟩:=a4;have N:=Z c6))
      exact⟨⟨j+1,s.bS 1 0,by have:=d6.U;omega,by go_num,f1,r,f7,N⟩,by have:=d6.U;simp[intOf];omega⟩
    ·obtain rfl:j=200:=by omega
     have f:=L.U
     have N:s=ME.eN 200 m2:=f
     have r:=Z N
     go_wp2
     go_end0
     refine⟨rfl,?_⟩
     rw[<-r.U]
     exact J.U
variable{n:Nat}{A:Option Addr}
def Js{j w:aa}{b:MA}{p q:PL}(n:M.l=[p,q])(f:ae j w m (vB b M p q))(i:Nat)(l:i<2):
 CB 23 #[pV b.g,O (i:Int)] w (.pointer (some ⟨(if i=0 then b.p.a.g else b.q.a.g),0,none⟩)):=by
 have a:=Z (ae.start w [])
 have e:=f.get (i:=0) rfl
 have c:=Z (aX e (aX (f.get (i:=2) rfl) bg))
 have d:=Z (λ(k:aa) (g:BW w k)=>Jr ((Y.lift _ e g)) (i:Int))
 have h:(decide (0<=(i:Int))&&decide ((i:Int)<2))=true:=by
  rw[dL,ej,ej];omega
 rw[h] at d
 have h01:i=0\/i=1:=by omega
 rcases h01 with rfl|rfl
 focus
  rw[au rfl]
  show Calls prog 23 #[pV b.g,O 0] w _
 rotate_left
 focus
  rw[ar zD]
  show Calls prog 23 #[pV b.g,O 1] w _
 all_goals
  go_enter func23,ntmps23
  go_wp2_with(first|(first|(refine oI (a.U.bT c.U) 0 rfl rfl 124 rfl rfl V rfl ?_)|(refine oI (a.U.bT c.U) 1 rfl rfl 56 rfl rfl V rfl ?_))|go_at_call 72;refine KC a (d.U _ a.U.aq) λ g a=>?_)
  go_ret
  exact⟨rfl,a.U.aq⟩
def PF(A:Option Addr)(c:Nat)(w:aa):Calls prog 144 #[ag A 0 c] w λ r a=>∃B d,r=ao (ag B 0 d)/\BW w a:=by
 have b:=Z (ae.start w []);cases A with
 |none=>
  have g:=λ a=>tW (P:=prog) a 118 210 none 0 c 0 0 xp
  go_enter func144,ntmps144
  go_wp2_with(fail)
  go_ret
  exact⟨_,_,rfl,b.U.aq⟩
 |some x=>
  have g:=λ a=>tW (P:=prog) a 118 210 (some x) 0 c 0 0 xp;have d:ai (∀a,Src prog 3 118 (.slice (some x) 0 c) 0 [] a):=Z (λ a=>(bN.src (t:=118) (e:=210) (size:=3) (w:=a) (v:= .slice (some x) 0 c) (xs:=[]) xp zD (λ y a=>by cases a) ⟨λ y a=>(by cases a),some x,c,rfl,by decide,λ i f=>absurd f (ij i)⟩))
  go_enter func144,ntmps144
  go_wp2_with(first|(with_reducible show cn);(refine Mk b.U rfl 5 rfl (some 0) 210 [] (by go_simp;(rfl)) ?_;intro j h k a;have a:=v8 a 0 rfl 0 0 3 (aQ _) zD rfl [] rfl;simp only[av,ax] at a;replace b:=Z a;simp only[bc])|refine Ac b.U rfl vb rfl 0 rfl rfl rfl (d.U _) zD zD λ B q h a=>?_;simp only[av,ax] at a;replace b:=Z a)
  go_ret
  exact⟨_,_,rfl,b.U.aq⟩
def Vf{w:aa}{i:af}{f:ab}(h:(Y.row g 126 (M.cells i f (ag A 0 n))).P w):Calls prog 62 #[pV g] w λ r c=>∃B d,r=ao (ag B 0 d)/\BW w c:=by
 have a:=Z (ae.start w []);have b:=Z (aX h bg)
 go_enter func62,ntmps62
 go_wp2_with(first|refine oI (a.U.bT b.U) 0 rfl rfl 118 rfl rfl V rfl ?_|go_at_call 144;(refine(PF _ _ _).mono ?_);rintro e j ⟨B,d,rfl,c⟩;replace a:=Z (a.U.below c))
 go_ret
 exact⟨_,_,rfl,a.U.aq⟩
variable{p:List Nat}
def QV:cW 124 129 3 40:=cW.mk' underlying124 (z:= .agg #[.pointer none,.pointer none,.slice none 0 0]) V rfl zD
abbrev ll:DK:=⟨⟨#[]⟩,⟨#[]⟩,[],100000⟩
def GW(c:CF):oW c ll=some (mD c 100000):=by kernel_rfl
abbrev PB(a:af)(c:CF):ab:=aG #[ad a,O 2,O (c.room:Int),U (c.every:Int),U (c.a:Int),U (c.rc.base:Int),U (c.rc.j:Int),U (c.rc.span:Int),O (c.rc.i:Int),O (c.rc.room:Int)]
def Vg{j w:aa}(v:TM p j)(h:ae j w p [])(d:af)(J:d.size=32)(c:CF)(E:c.bR)(G:c.cj=1)(F:c.key=(bC d).pub):
 Calls prog 19 #[PB d c] w λ r l=>∃g,r=ao (aM #[pV g,O 0])/\bP j l p g (iF d c):=by
 have b:=Z h
 have M:=Z v
 have D:=Z (λ(a:aa) (e:cq a)=>UW e d J)
 have r:iF d c=⟨bC d,c,[⟨mD c 100000,[]⟩,⟨mD c 100000,[]⟩],[],0⟩:=rfl
 rw[r]
 generalize bC d=k at*
 have C:=Z (λ(a:aa) (f:List Y) (e:ae j a p f)=>Qd e 100000 zD)
 have B:=Z (λ(a:aa) (g:Nat) (n o:ab) (e:(Y.row g 126 (ME.cells ⟨k,c,[],[],0⟩ d n o)).P a)=>PI (m:=⟨k,c,[],[],0⟩) e G F)
 have n:ll.Ok:=⟨bf _,by decide⟩
 have o:(gg ll).l.length<=100000:=by
  have e:5*(gg ll).l.length<=0:=CQ ll
  omega
 have q:(gg ll).l=[]:=ig (by
  have e:5*(gg ll).l.length<=0:=CQ ll
  omega)
 have A:=Z (λ(a:aa) (K g:Nat) (s:ab) (f:List Y) (e:ae j a p (Y.dk g s ll::Y.row K 9 [ad c.key]::f))=>OX v (.head _) e E n o q rfl)
 have z:ai (∀f g e l,An j p f g (oW c ll) (iD ll) e l->∃a x s,e=ao (aM #[pV a.g,O 0])/\a.a=g/\ae j l p (Y.bd a x (mD c 100000)::Y.dk g s (mD c 100000).d::f)):=Z (λ f g e l h=>h.1 _ (GW c))
 generalize mD c 100000=g at*
 clear h v E G r n o q J F
 show Calls prog 19 #[aG #[ad d,O 2,O (c.room:Int),U (c.every:Int),U (c.a:Int),U (c.rc.base:Int),U (c.rc.j:Int),U (c.rc.span:Int),O (c.rc.i:Int),O (c.rc.room:Int)]] w _
 go_enter func19,ntmps19
 go_upto_region 7 with(first|refine Kl b ?_|refine KT b 10 ?_|refine KT b 3 ?_|refine KS b λ o b=>?_|refine KA b _ 4 Nb λ S o a2 b=>?_|refine KB b 50 1 _ λ t o a0 b=>?_|refine KB b 126 31 ((ME.cells ⟨k,c,[],[],0⟩ d (ag none 0 0) (ag none 0 0))) λ u o a1 b=>?_|go_at_call 63;refine KC b (D.U _ (M.U.at b.U)) λ y b=>?_)
 have q:=(b.U.ft [1,1000,1,1])
 clear b
 have b:=Z (q.eM (Y.ow 129 3 (ag none 0 0) 0 []) (di _ _ _ _) rfl)
 clear q
 go_wp2_with(refine Kl b ?_)
 go_loopw [34] (λ a wr=>(a=O 0/\ai (ae j wr p [Y.ow 129 3 (ag none 0 0) 0 [],Y.row u 126 (ME.cells ⟨k,c,[],[],0⟩ d (ag none 0 0) (ag none 0 0)),Y.row t 50 [ad d,O 2,O (c.room:Int),U (c.every:Int),U (c.a:Int),U (c.rc.base:Int),U (c.rc.j:Int),U (c.rc.span:Int),O (c.rc.i:Int),O (c.rc.room:Int)]]))\/(∃r f x1 l,a=O 1/\ai (ae j wr p [Y.ow 129 3 r 1 [pV f.g,pV f.a,ag none 0 0],Y.row u 126 (ME.cells ⟨k,c,[],[],0⟩ d (r) (ag none 0 0)),Y.row t 50 [ad d,O 2,O (c.room:Int),U (c.every:Int),U (c.a:Int),U (c.rc.base:Int),U (c.rc.j:Int),U (c.rc.span:Int),O (c.rc.i:Int),O (c.rc.room:Int)],Y.bd f x1 g,Y.dk f.a l g.d]))\/(∃s f x1 l n x2 x,a=O 2/\ai (ae j wr p [Y.ow 129 3 s 2 [pV f.g,pV f.a,ag none 0 0,pV n.g,pV n.a,ag none 0 0],Y.row u 126 (ME.cells ⟨k,c,[],[],0⟩ d (s) (ag none 0 0)),Y.row t 50 [ad d,O 2,O (c.room:Int),U (c.every:Int),U (c.a:Int),U (c.rc.base:Int),U (c.rc.j:Int),U (c.rc.span:Int),O (c.rc.i:Int),O (c.rc.room:Int)],Y.bd f x1 g,Y.dk f.a l g.d,Y.bd n x2 g,Y.dk n.a x g.d]))) (λ a _=>2-(intOf a).toNat)
 case atStart=>exact .inl ⟨rfl,b⟩
 case round=>
  clear b
  obtain⟨rfl,b⟩|⟨r,f,x1,l,rfl,b⟩|⟨s,f,x1,l,n,x2,x,rfl,b⟩:=hrel
  rotate_left
  focus
   obtain⟨N,P,a,-⟩:=da (show World.ownsRow _ 0 129 3 r 1 _ from b.U.get (i:=0) rfl)
   subst a
  rotate_left
  ·obtain⟨N,P,L,-⟩:=da (show World.ownsRow _ 0 129 3 s 2 _ from b.U.get (i:=0) rfl)
   subst L
   clear A z C B D
   go_wp2_with(fail)
   refine jv rfl rfl rfl rfl ?_
   obtain⟨Q,T,R,I,D,-,-,a⟩:=vN b.U 0 rfl zD
   cases I
   simp only[av,ax] at a
   have q:=(a.eM (Y.vw (ag none 0 0) []) (di _ _ _ _) rfl).eM (Y.vw (ag none 0 0) []) (di _ _ _ _) rfl
   have H:=q.eM (Y.ow 210 3 (ag none 0 0) 0 (bG [])) (di _ _ _ _) rfl
   exact⟨_,rfl,bP.mk ⟨_,Q,_,d,ag none 0 0,⟨f,x1,l,ag none 0 0⟩,⟨n,x2,x,ag none 0 0⟩,R⟩ ⟨g,[]⟩ ⟨g,[]⟩ D rfl (H.ft [5,1000,2,8,8,4,8,8,7,7,8])⟩
  all_goals
   go_wp2_with(first|refine Kl b ?_|refine KS b λ o b=>?_|(with_reducible show cn);(refine Mk b.U rfl 58 rfl (some 1) 129 [_,_,_] (by go_simp;(exact⟨rfl,rfl⟩)) ?_;intro R o a3 a;replace b:=Z a;clear a;simp only[bc])|refine Ap b.U rfl QV rfl 4 rfl rfl 0 rfl rfl rfl rfl zD zD λ T P o a=>?_;simp only[av,ax] at a;replace b:=Z a;clear a|go_at_call 26;(refine(C.U _ _ b.U).mono ?_);rintro e y ⟨Q,rfl,X,a⟩;replace b:=Z a;clear a|go_at_call 64;(refine(B.U _ _ _ _ (b.U.get (i:=2) rfl)).mono ?_);rintro e y ⟨K,rfl,I⟩;have a:=b.U.plus I;simp only[lR,jA] at a;replace b:=Z a;clear a;clear I|go_at_call 28;(refine(A.U _ _ _ _ _ (b.U.ft [1])).mono ?_);intro e y H;obtain⟨an,L,D,rfl,N,a⟩:=z.U _ _ _ _ H;clear H;replace b:=Z a;clear a)
   subst N
  ·exact⟨.inr (.inl ⟨_,an,L,D,rfl,Z ((((((((b.U).tail.ft [2]).tail.ft [1]).az 1 rfl).az 4 rfl).az 4 rfl).az 4 rfl))⟩),by decide⟩
  ·exact⟨.inr (.inr ⟨_,f,x1,l,an,L,D,rfl,Z ((((((((((b.U).tail.ft [2]).tail.ft [1]).az 1 rfl).az 6 rfl).az 6 rfl).az 6 rfl).az 6 rfl).az 6 rfl))⟩),by decide⟩
def V4{c:CF}(a:c.bR):(mD c 100000).aI c 0:=ND.aI.GV a ⟨bf _,by decide⟩ rfl (GW c)
def V3(b:af){c:CF}(d:c.bR)(f:c.cj=1)(e:c.key=(bC b).pub):(iF b c).aI 0:=
 ⟨d,f,e,vD b,rfl,λ p a=>by
  have:p=⟨mD c 100000,[]⟩:=by
   rcases bO.1 a with h|h
   ·exact h
   ·exact ud.1 h
  rw[this]
  exact⟨V4 d,bf _,λ s g=>by cases g⟩,bf _,(λ p a=>by cases a),(show(0:Nat)<18446744073709551616 by decide)⟩
def ME.aI.round{K:Nat}{m:ME}(h:m.aI K)(b:K<=40000):m.round.aI (K+202):=by
 unfold ME.round;rw[h.two];have a:=ME.aI.jn (i:=0) [0,1] h (by show K+2<=50000;omega) zS;exact ME.aI.eN 200 a (by show K+2+200<=50000;omega)
def W6:Kt.bR:=⟨by decide,by decide,by decide,by decide,by decide,by decide,by decide,by decide⟩
def Ks{a:af}(h:a.size=32):(jj a).bR:=⟨h,(show(1:Nat)<=63 by decide),(show(1:Nat)<=4 by decide),(show(4:Nat)<=16 by decide),(show(1:Nat)<=1 by decide),(show(1:Nat)<=1099511627776 by decide),(show(1:Nat)<=3 by decide),(show(3:Nat)<=1099511627776 by decide),W6⟩
open FX (rounds)
def Zj:FX.gV=pO ⟨#[116,111,112]⟩:=by kernel_rfl
def Im(a:Array ab){v:ab}(b:a[6]?=some v)(w:aa):(Instr.field 62 (aG a) 3).run prog w= .ok v w:=by
 simp[Instr.field,hX underlying62,asAgg,part,isAgg,hX df,b,Result.andThen]
def Zi(s:af):(pO s).size=32:=rfl
def W5{b w:aa}(c:TM m b)(h:ae b w m [])(a:af)(d:a.size=32):
 Calls prog 19 #[BZ a] w λ r e=>∃g,r=ao (aM #[pV g,O 0])/\bP b e m g (iF a (jj (bC a).pub)):=
 Vg c h a d (jj (bC a).pub) (Ks (vD a).pub) rfl rfl
def ME.aI.Bt{K:Nat}(h:M.aI K)(x:AC)(a:x.c=5)(b:x.right=true):(M.act x).aI (K+1):=by
 unfold ME.act;rw[au b,ar (by rw[a];decide),au a];exact(h.mono (fN K)).leaf _ _
def W9(a:af):(iF a (jj (bC a).pub)).aI 0:=V3 a (Ks (vD a).pub) rfl rfl
def Sd{w:aa}(b7:cq w):CB 18 #[] w (aK true):=by
 have l:ai (TM [] w):=Z ⟨b7,λ k d=>by cases d⟩;have b:=Z (ae.start w []);have I:ai (∀a,CB 20 #[ad ⟨#[116,111,112]⟩,O 2] a (BZ (pO ⟨#[116,111,112]⟩))):=Z (λ a=>W7 ⟨#[116,111,112]⟩ a);have S:=Zi ⟨#[116,111,112]⟩;have o:=W9 (pO ⟨#[116,111,112]⟩);have J:=FX.Se;have e:=FX.Sf;obtain⟨n,R⟩:∃n,pO ⟨#[116,111,112]⟩=n:=⟨_,rfl⟩;have c3:FX.gV=n:=Zj.trans R;rw[R] at I S o;rw[c3] at J e;have b1:=Z (λ(a:aa) (d:ae w a [] [])=>W5 l.U d n S);generalize iF n (jj (bC n).pub)=m0 at*;have c6:=Z o;have b8:=(o.Bt ⟨5,0,0,0,⟨#[97]⟩⟩ rfl rfl).Bt ⟨5,1,0,0,⟨#[98]⟩⟩ rfl rfl;have a2:ai (∀(a:aa) (g:Nat),bP w a [] g m0->Calls prog 22 #[pV g,aG #[O 5,O 0,O 0,U 0,ad ⟨#[97]⟩]] a (rU w [] g (m0.act ⟨5,0,0,0,⟨#[97]⟩⟩))):=Z (λ(a:aa) (g:Nat) (d:bP w a [] g m0)=>Jq l.U d o zD ⟨5,0,0,0,⟨#[97]⟩⟩ rfl rfl);have a3:ai (∀(a:aa) (g:Nat),bP w a [] g (m0.act ⟨5,0,0,0,⟨#[97]⟩⟩)->Calls prog 22 #[pV g,aG #[O 5,O 1,O 0,U 0,ad ⟨#[98]⟩]] a (rU w [] g ((m0.act ⟨5,0,0,0,⟨#[97]⟩⟩).act ⟨5,1,0,0,⟨#[98]⟩⟩))):=Z (λ(a:aa) (g:Nat) (d:bP w a [] g (m0.act ⟨5,0,0,0,⟨#[97]⟩⟩))=>Jq l.U d (o.Bt _ rfl rfl) zD ⟨5,1,0,0,⟨#[98]⟩⟩ rfl rfl);generalize m0.act ⟨5,0,0,0,⟨#[97]⟩⟩=m1 at*;generalize m1.act ⟨5,1,0,0,⟨#[98]⟩⟩=m2 at*;have b4:=Z (λ(a:aa) (g K:Nat) (m:ME) (d:bP w a [] g m) (f:m.aI K) (h:K<=40000) (i:qq m)=>Vi l.U d f h i);have a5:ai (m2.aI 2):=Z b8;have a4:=Z J;have b3:=Z e;clear e
 go_enter func18,ntmps18
 go_upto_region 4 with(first|go_at_call 20;refine KC b (I.U _) λ f b=>?_|go_at_call 19;(refine(b1.U _ b.U).mono ?_);rintro e f ⟨g,rfl,s⟩;have h:=Z s)
 go_upto_region 6 with((go_at_call 22;(first|(refine(a2.U _ _ h.U).mono ?_)|(refine(a3.U _ _ h.U).mono ?_));intro e f G;obtain⟨E,rfl,s⟩:=G;have h:=Z s))
 go_wp2
 go_loopw [3] (λ i wr=>∃(j:Nat),j<=4/\i=O (j:Int)/\ai ((rounds j m2).aI (2+202*j))/\ai (bP w wr [] g (rounds j m2))) (λ i _=>4-(intOf i).toNat)
 case atStart=>exact⟨0,bf _,rfl,a5,h⟩
 case round=>
  obtain⟨j,c8,rfl,z,h⟩:=hrel;by_cases D:j<4
  ·have d1:decide (j<4)=true:=aT D;have d2:decide ((j:Int)<4)=true:=aT W;have X:=Z (λ(a:aa) (d:bP w a [] g (rounds j m2))=>b4.U a g _ _ d z.U W (b3.U j D));have a6:ai ((rounds (j+1) m2).aI (2+202*(j+1))):=Z (z.U.round W);have H:=Z D
   go_wp2_with((go_at_call 60;(refine(X.U _ h.U).mono ?_);intro e f G;obtain⟨rfl,s⟩:=G;have a7:=Z s))
   exact⟨⟨j+1,by have:=H.U;omega,by go_num,a6,a7⟩,by have:=H.U;simp[intOf];omega⟩
  ·obtain rfl:j=4:=by omega
   obtain⟨p,q,f1,f2,f3,f4⟩:=a4.U;obtain⟨M,c4,c5,L,c9,r,N⟩:=h.U;have c2:[c4,c5]=[p,q]:=r.symm.trans f1;cases c2
   have C:=z.U;have b9:=(C.pl p (by rw[r];simp)).n;have c0:=(C.pl q (by rw[r];simp)).n;have c1:(rounds 4 m2).b.length=0:=f2;obtain⟨v,x,F,-⟩:=da (show World.ownsRow _ 0 210 3 M.a (rounds 4 m2).b.length (bG (rounds 4 m2).b) from N.get (i:=1) rfl);rw[c1] at F;obtain⟨m,u,t,y,d3,P,Q,T⟩:=M;simp only at L F;subst L F;have b2:=Z (λ(a:aa) (k:(Y.row m 126 ((rounds 4 m2).cells y (ag (some ⟨u,0,none⟩) 2 t) (ag v 0 x))).P a)=>Vh k);have a8:ai (∀a,ae w a [] (vB ⟨m,u,t,y,ag v 0 x,P,Q,T⟩ (rounds 4 m2) p q)->CB 23 #[pV m,O 0] a (pV P.a.g)):=Z (λ a d=>Js r d 0 zD);have a9:ai (∀a,ae w a [] (vB ⟨m,u,t,y,ag v 0 x,P,Q,T⟩ (rounds 4 m2) p q)->CB 23 #[pV m,O 1] a (pV Q.a.g)):=Z (λ a d=>Js r d 1 zD);have b5:=Z (λ(a:aa) (k:(Y.bd P.a P.x p.n).P a)=>JR k b9.ok.o);have b6:=Z (λ(a:aa) (k:(Y.bd Q.a Q.x q.n).P a)=>JR k c0.ok.o);have d0:=C.k.pub;have a0:ai (∀a,cq a->CB 61 #[ad (rounds 4 m2).k.pub,ad p.n.st.aR] a (aK true)):=Z (λ a d=>Ig d (rounds 4 m2).k.pub p.n.st.aR W f3);have a1:ai (∀a,cq a->CB 61 #[ad (rounds 4 m2).k.pub,ad q.n.st.aR] a (aK true)):=Z (λ a d=>Ig d (rounds 4 m2).k.pub q.n.st.aR W f4);have b0:=Z (λ(a:aa) (k:(Y.row m 126 ((rounds 4 m2).cells y (ag (some ⟨u,0,none⟩) 2 t) (ag v 0 x))).P a)=>Vf k);have k:∀a A c,(Instr.field 62 (p.n.st.val (ag A p.n.st.f.length c)) 3).run prog a= .ok (ad p.n.st.aR) a:=λ a A c=>Im _ rfl a;have c7:∀a A c,(Instr.field 62 (q.n.st.val (ag A q.n.st.f.length c)) 3).run prog a= .ok (ad q.n.st.aR) a:=λ a A c=>Im _ rfl a;have b:=Z N;generalize rounds 4 m2=m4 at*
   go_wp2_with(first|(go_at_call 23;(first|(refine(a8.U _ b.U).mono ?_)|(refine(a9.U _ b.U).mono ?_));rintro e f ⟨rfl,a⟩;replace b:=Z (b.U.below a))|go_at_call 27;refine KC b (b2.U _ (b.U.get (i:=0) rfl)) λ f b=>?_|(go_at_call 24;(first|(refine(b5.U _ (b.U.get (i:=3) rfl)).mono ?_)|(refine(b6.U _ (b.U.get (i:=6) rfl)).mono ?_));rintro e f ⟨A,c,rfl,a⟩;replace b:=Z (b.U.below a))|(go_at_call 61;(first|(refine(a0.U _ (l.U.at b.U)).mono ?_)|(refine(a1.U _ (l.U.at b.U)).mono ?_));rintro e f ⟨rfl,a⟩;replace b:=Z (b.U.below a))|go_at_call 62;(refine(b0.U _ (b.U.get (i:=0) rfl)).mono ?_);rintro e f ⟨B,d,rfl,a⟩;replace b:=Z (b.U.below a))
   go_ret
   exact⟨rfl,b.U.aq⟩
abbrev CZ(k:KY):ab:=aG #[ad k.a,ad k.pre,ad k.pub]
def aaH{w:aa}(l:cq w)(a b t0:af):CB 3 #[ad a,ad b,ad t0] w (aK true):=by
 have d:=Z (ae.start w []);obtain⟨m,c8,c7,m1,z1⟩:=Db a;obtain⟨n,d0,c9,m2,z2⟩:=Db b;obtain⟨a5,d1,c3,m3,z3⟩:=Db t0;have d6:∀c,(Builtin.min_ #[3,3] 3 #[O (a.size:Int),O 100]).run prog c= .ok (O (m:Int)) c:=λ c=>run_min_int2 c _ _ _ _ _ _ _ W;have q2:∀c,(Builtin.min_ #[3,3] 3 #[O (b.size:Int),O 100]).run prog c= .ok (O (n:Int)) c:=λ c=>run_min_int2 c _ _ _ _ _ _ _ W;have q3:∀c,(Builtin.min_ #[3,3] 3 #[O (t0.size:Int),O 100]).run prog c= .ok (O (a5:Int)) c:=λ c=>run_min_int2 c _ _ _ _ _ _ _ W;have s1:=λ c=>wb (a.extract 0 m) W c;have s2:=λ c=>wb (b.extract 0 n) W c;have k1:=Mo (a.extract 0 m);have k2:=Mo (b.extract 0 n);change∀c,CB 6 #[ad (a.extract 0 m)] c (ad (od (a.extract 0 m))) at s1;change∀c,CB 6 #[ad (b.extract 0 n)] c (ad (od (b.extract 0 n))) at s2;generalize od (a.extract 0 m)=i at*;generalize od (b.extract 0 n)=o at*;have G:∀c,BW w c->CB 5 #[ad i] c (aM #[CZ (bC i),O 0]):=λ c e=>EG (l.below e) i k1;have H:∀c,BW w c->CB 5 #[ad o] c (aM #[CZ (bC o),O 0]):=λ c e=>EG (l.below e) o k2;obtain⟨t,c6⟩:∃t,t0.extract 0 a5=t:=⟨_,rfl⟩;have a2:t.size<=100:=by rw[<-c6,z3];exact c3
 have x:=vD i;have y:=vD o;have a3:=GL.ZA i t;have a4:=GL.abM i o t;have a1:((bC i).sign t).size=64:=by
  obtain⟨r,S,f,-⟩:=GL.EH i t;exact f
 generalize bC i=j at*;generalize bC o=k at*;have M:∀c,BW w c->CB 7 #[CZ j,ad t] c (ad (j.sign t)):=λ c e=>L5 (l.below e) j x t W;generalize j.sign t=s at*;have N:∀c,BW w c->CB 15 #[ad j.pub,ad t,ad s] c (aK true):=λ c e=>by
  have h:=Fh (l.below e) j.pub t s (by have:=x.pub;omega);rwa[a3] at h
 have P:∀c,BW w c->CB 15 #[ad k.pub,ad t,ad s] c (aK (GL.lK k.pub t s)):=λ c e=>by
  have h:=Fh (l.below e) k.pub t s (by have:=y.pub;omega);rwa[a4] at h
 have Q:∀c,CB 17 #[ad k.pub,ad t,ad s] c (aK (GL.lK k.pub t s)):=λ c=>Y6 k.pub t s (by have:=y.pub;omega) W c;generalize GL.lK k.pub t s=R at*;have hF:∀c,BW w c->CB 18 #[] c (aK true):=λ c e=>Sd (l.below e);have I:=λ c=>DO j c;have J:=λ c=>DO k c;obtain⟨T,Y1,z,A,B,C,D,E,F⟩:=abX a2 a1;have c5:(eT t).size<=110:=by have:=xF t W;omega
 have c4:(rJ ⟨[],0⟩ t).b.length<=110:=by
  have:=tt ⟨[],0⟩ (decide (t.size<=4096)) 4 (eT t);have e0:(⟨[],0⟩:WS).b.length=0:=rfl;unfold rJ;omega
 have S:∀(c:aa) (g:Nat) (v:ab),(Y.wr g v ⟨[],0⟩).P c->Calls prog 8 #[pV g,ad t] c λ r f=>r=ao (aM #[])/\∃e,bk (Y.wr g v ⟨[],0⟩) c f (Y.wr g e (rJ ⟨[],0⟩ t)):=
  λ c g v h=>Fj h t W (by show 0+_<=_;omega)
 generalize rJ ⟨[],0⟩ t=u at*;have X:∀(c:aa) (g:Nat) (v:ab),(Y.wr g v u).P c->Calls prog 9 #[pV g,ad s,O 64] c λ r f=>r=ao (aM #[])/\∃e,bk (Y.wr g v u) c f (Y.wr g e (wH u s)):=
  λ c g v h=>MV h s 64 W
 generalize wH u s=c2 at*;have a0:∀(c:aa) (g:Nat) (v:ab),(Y.wr g v c2).P c->Calls prog 11 #[pV g] c λ r f=>r=ao (ad T)/\c=f:=λ c g v h=>by rw[<-A];exact zN h
 have v:∀(c:aa) (g:Nat),(Y.rd g ⟨T,0⟩).P c->Calls prog 12 #[pV g,O 100] c λ r f=>r=ao (ad t)/\bk (Y.rd g ⟨T,0⟩) c f (Y.rd g Y1):=λ c g h=>by
  have:=Gf h 100;rwa[B,C] at this
 have L:∀(c:aa) (g:Nat),(Y.rd g Y1).P c->Calls prog 13 #[pV g,O 64] c λ r f=>r=ao (ad s)/\bk (Y.rd g Y1) c f (Y.rd g z):=λ c g h=>by
  have:=se h 64;rwa[D,E] at this
 have K:∀(c:aa) (g:Nat),(Y.rd g z).P c->CB 14 #[pV g] c (O 0):=λ c g h=>by
  have:=uw h;rw[F] at this;exact this.mono λ e f ⟨p,q⟩=>⟨p,q▸bp _ _⟩
 have a6:=Z s1;have a7:=Z s2;have a9:=Z G;have b0:=Z H;have b5:=Z M;have b6:=Z N;have b7:=Z P;have b8:=Z Q;have a8:=Z hF;have b1:=Z I;have q:=Z J;have b9:=Z S;have c0:=Z X;have c1:=Z a0;have b2:=Z v;have b4:=Z L;have b3:=Z K;clear s1 s2 G H M N P Q hF I J S X a0 v L K A B C D E F c4 c5 a3 a4 x y a1 a2 k1 k2 z1 z2 z3 m1 m2 m3 l
 go_enter func3,ntmps3
 go_upto_region 8 with(first|(go_at_call 6;refine KC d (a6.U _) λ f d=> ?_)|(go_at_call 6;refine KC d (a7.U _) λ f d=> ?_)|(go_at_call 5;refine KC d (a9.U _ d.U.aq) λ f d=> ?_)|(go_at_call 5;refine KC d (b0.U _ d.U.aq) λ f d=> ?_)|(go_at_call 7;refine KC d (b5.U _ d.U.aq) λ f d=> ?_)|refine KA d _ 7 zW λ P p d4 d=> ?_|refine KA d _ 9 zW λ Q p d5 d=> ?_|refine KB d 31 52 [.slice none 0 0,O 0] λ M p d2 d=> ?_|refine KT d 3 ?_|refine KS d λ p d=> ?_)
 replace d:=Z (d.U.yH)
 go_upto_region 11 with(first|(go_at_call 8;(refine(b9.U _ _ _ (d.U.in mZ)).mono ?_);rintro e f ⟨rfl,H,g⟩;replace d:=Z (d.U.rep (by exact .head _) g);clear g)|(go_at_call 9;(refine(c0.U _ _ _ (d.U.in mZ)).mono ?_);rintro e f ⟨rfl,H,g⟩;replace d:=Z (d.U.rep (by exact .head _) g);clear g)|(go_at_call 11;refine KQ (c1.U _ _ _ (d.U.in mZ)) ?_)|(go_at_call 10;(refine(ux T d.U).mono ?_);rintro e f ⟨N,rfl,d3,G⟩;replace d:=Z G;clear G))
 go_upto_region 14 with(first|(go_at_call 12;refine KP d (b2.U _ _ (d.U.in mZ)) λ f d=> ?_)|(go_at_call 13;refine KP d (b4.U _ _ (d.U.in mZ)) λ f d=> ?_))
 refine RG d 36 [2,3] λ d7 d c=> ?_;refine VV [0] c ?_;refine KW d c 1 (en 14) (b3.U _ _ (d.U.in mZ)) λ f d c=> ?_;refine VV [2,3,4,5] c ?_;refine WB 6 true c ?_;refine VV [7,8,9,10] c ?_;refine WB 11 true c ?_;refine VV [12,13,16,17] c ?_;refine WR 14 3 c ?_;refine T1 15 ?_;refine lQ d c (en 16) (b1.U _) λ f d c=> ?_;refine T1 18 ?_;refine lQ d c (en 15) (b6.U _ d.U.aq) λ f d c=> ?_;refine VV [19,20,23,24,28,29] c ?_;refine WR 21 3 c ?_;refine WR 26 3 c ?_;refine T1 22 ?_;refine lQ d c (en 16) (q.U _) λ f d c=> ?_;refine T1 25 ?_;refine lQ d c (en 15) (b7.U _ d.U.aq) λ f d c=> ?_;refine T1 27 ?_;refine lQ d c (en 16) (q.U _) λ f d c=> ?_;refine T1 30 ?_;refine lQ d c (en 17) (b8.U _) λ f d c=> ?_;refine WB 31 true c ?_;refine VV [32,33] c ?_;refine T1 34 ?_;refine lQ d c (en 18) (a8.U _ d.U.aq) λ f d c=> ?_;refine VV [35] c ?_;refine WT ?_
 go_wp2
 go_ret
 exact⟨rfl,d.U.aq⟩
def aaG{c:aa}{d e f:Prop}(a:af)(_:d)(b:af)(_:e)(t:af)(_:f)(g:cq c):
 CB 3 #[ad a,ad b,ad t] c (aK true):=aaH g a b t
