import Derived.Test.YtncpbkoinennoaaGreatDoorMAV
import Derived.Test.YtncpbkoinennoaaGreatDoorMAW
set_option linter.all false
set_option maxRecDepth 100000
set_option maxHeartbeats 0
namespace Go.Proofs.YtncpbkoinennoaaGreatDoor
open Go.RowKit Proofs.Tryz
attribute [local irreducible] wpList Calls
variable{g i k n:Nat}
namespace DA
def aan{bb f s:Nat}{x:ag}{w:aa}(d:w.cell? ⟨bb,0,none⟩=some (pV g))(r:w.cell? ⟨k,0,none⟩=some (O (f:Int)))(t:w.cell? ⟨k,1,none⟩=some (O (n:Int)))
 (q:w.cell? ⟨i,0,none⟩=some (O (s:Int))) (b:w.cell? ⟨g,f,none⟩=some (ae x)) (c:w.frozen? ⟨g,f,none⟩=false) (j:f<2) (o:n<=x.size) (p:s<=n) (hx:x.size<=16777216):
 Calls prog 95 #[pV bb,pV k,pV i] w λ e a=>e=ao (aJ #[])/\a=(w.setCell ⟨g,f,none⟩ (ae (x.extract 0 (x.size-n+s)))).drew:=by
 have l:(f:Int)<2:=by omega
 have hcut:(x.size:Int)-(n:Int)+(s:Int)=((x.size-n+s:Nat):Int):=by omega
 have e:x.size-n+s<=x.size:=by omega
 have h:((x.size-n+s:Nat):Int)<=(x.size:Int):=by omega
 have u:IntKind.i64.wrap ((x.size:Int)-(n:Int))=((x.size-n:Nat):Int):=by rw[fS];omega
 have v:IntKind.i64.wrap (((x.size-n:Nat):Int)+(s:Int))=((x.size-n+s:Nat):Int):=by rw[fS];omega
 generalize a:x.size-n+s=m at*
 generalize x.size-n=m0 at*
 clear a
 go_enter func95,ntmps95
 go_wp2
 go_still_tail 27,V
 show wpList _ _ _ _ _ w.drew
 go_wp2
 go_end0
 exact⟨rfl,rfl⟩
def stay(a:Int)(n:Nat):Nat:=(max 0 (min a (n:Int))).toNat
def stays:List (Nat×Nat)->Int->List Nat
 |[],_=>[]
 |p::l,a=>stay a p.2::stays l (a-stay a p.2)
def kept:List (Nat×Nat)->Int->Int
 |[],a=>a
 |p::l,a=>kept l (a-stay a p.2)
def uN(l:List (Nat×Nat)):∀a,(stays l a).length=l.length:=by
 induction l with
 |nil=>intro _;rfl
 |cons p l b=>intro a;simp[stays,b]
def TV(l:List (Nat×Nat))(p:Nat×Nat):∀a,kept (l++[p]) a=kept l a-stay (kept l a) p.2:=by
 induction l with
 |nil=>intro _;rfl
 |cons q l b=>intro a;simp only[gD,kept];exact b _
def Kq(l:List (Nat×Nat))(p:Nat×Nat):∀a,stays (l++[p]) a=stays l a++[stay (kept l a) p.2]:=by
 induction l with
 |nil=>intro _;rfl
 |cons q l b=>intro a;simp only[gD,stays,kept,b]
def Yw(a:Int)(n:Nat):stay a n<=n:=by unfold stay;omega
def TT(l:List (Nat×Nat)):∀a,-9223372036854775808<=a->a<=9223372036854775807-> -9223372036854775808<=kept l a/\kept l a<=9223372036854775807:=by
 induction l with
 |nil=>intro a b c;exact⟨b,c⟩
 |cons p l d=>intro a b c;exact d _ (by unfold stay;omega) (by unfold stay;omega)
def Td:(prog.info? 1).map (λ i=>(i.zero,i.size,i.bytes))=some (some .nilFunc,1,8):=by kernel_rfl
def sh(bb:Nat)(p:Nat×Nat):ab:= .func (.func 95) #[] #[pV bb,pV p.1,pV p.2]
def wS(bb:Nat)(L:List (Nat×Nat)):List ab:=L.map (sh bb)
end DA
variable{r:Int}
namespace DA
structure oE(w wr:aa)(bb:Nat)(l:List (Nat×Nat))(bZ:Int)(L:List (Nat×Nat))(v:ab):Prop where
 len:L.length=l.length
 own:wr.ownsRow (bb+1) 1 1 v l.length (wS bb L)
 at_:∀(j:Nat) (p q:Nat×Nat) (s:Nat),l[j]?=some p->L[j]?=some q->(stays l bZ)[j]?=some s->ah wr q.1 169 #[O (p.1:Int),O (p.2:Int)]/\ah wr q.2 3 #[O (s:Int)]/\bb<q.1/\bb<q.2
 aK:Below (bb+1) w wr
 lt:bb<wr.heap.size
def oE.start(w:aa)(bb:Nat)(b:Int)(a:bb<w.heap.size):oE w w bb [] b [] (ad none 0 0):=
 ⟨rfl,ct _ _ _ _,λ j p q s h=>by simp at h,bz _ _,a⟩
def oE.step{w wr u:aa}{bb:Nat}{l:List (Nat×Nat)}{L:List (Nat×Nat)}{v z:ab}(h:oE w wr bb l r L v)(p:Nat×Nat)(f:ab)
 (B:u.ownsRow (bb+1) 1 1 z (l.length+1) (wS bb L++[sh bb (wr.heap.size,wr.heap.size+1)]))
 (n:(((wr.alloc (.cells #[O (p.1:Int),O (p.2:Int)] 169)).alloc (.cells #[O (stay (kept l r) p.2:Int)] 3)).alloc (.cells #[f] 1)).grownBy u v.ownBlock):
 oE w u bb (l++[p]) r (L++[(wr.heap.size,wr.heap.size+1)]) z:=by
 have y:=h.lt
 have D:∀(g:Nat) (t:TypeId) (x:Array ab),t≠1->ah wr g t x->ah u g t x:=by
  intro g t x b a
  refine((((a.alloc _).alloc _).alloc _).grown n ?_)
  exact λ e=>qN h.own a (dY b) e.symm
 refine⟨by simp[h.len],by simpa[wS] using B,?_,?_,?_⟩
 ·intro j C q s d i m
  rcases jk j l.length with o|o
  ·rw[pO o] at d
   rw[pO (by rw[h.len];exact o)] at i
   rw[Kq,pO (by rw[uN];exact o)] at m
   obtain⟨a,b,c,e⟩:=h.at_ j C q s d i m
   grind
  ·have A:j=l.length:=by
    have:=(ed.1 d).1
    simp at this;omega
   subst A
   rw[kD (aW _)] at d
   rw[kD (by rw[h.len];omega),h.len] at i
   rw[Kq,kD (by rw[uN];omega),uN] at m
   simp at d i m
   subst d i m
   have E:=xH h.own
   refine⟨?_,?_,y,by omega⟩
   ·have k:ah (wr.alloc (.cells #[O (p.1:Int),O (p.2:Int)] 169)) wr.heap.size 169 #[O (p.1:Int),O (p.2:Int)]:=ah.new _ _ _
    exact((k.alloc _).alloc _).grown n (λ e=>by grind)
   ·have k:=ah.new (wr.alloc (.cells #[O (p.1:Int),O (p.2:Int)] 169)) 3 #[O (stay (kept l r) p.2:Int)]
    have e1:(wr.alloc (.cells #[O (p.1:Int),O (p.2:Int)] 169)).heap.size=wr.heap.size+1:=by simp
    rw[e1] at k
    exact(k.alloc _).grown n (λ e=>by grind)
 ·refine h.aK.trans ?_
  have b:bb+1<=wr.heap.size:=y
  refine((((bz (bb+1) wr).alloc b _).alloc (by simp;omega) _).alloc (by simp;omega) _).grown n (by simp;omega) ?_
  intro k a
  exact(h.own.lt k a).1
 ·have:=n.size;simp at this;omega
def oJ(d:DS)(p:Nat×Nat)(s:Nat):DS:=
 if p.1=0 then{d with f0:=d.f0.extract 0 (d.f0.size-p.2+s)} else{d with f1:=d.f1.extract 0 (d.f1.size-p.2+s)}
def fi(d:DS):List (Nat×Nat)->List Nat->DS
 |p::l,s::a=>oJ (fi d l a) p s
 |_,_=>d
def OG(d:DS)(p:Nat×Nat)(s:Nat):(oJ d p s).a=d.a/\(oJ d p s).room=d.room:=by unfold oJ;grind
def yw(d:DS):∀(l:List (Nat×Nat)) (a:List Nat),(fi d l a).a=d.a/\(fi d l a).room=d.room
 |[],_=>⟨rfl,rfl⟩
 |_::_,[]=>⟨rfl,rfl⟩
 |p::l,s::a=>by
  have b:=yw d l a
  have c:=OG (fi d l a) p s
  exact⟨c.1.trans b.1,c.2.trans b.2⟩
def OF(d:DS)(p:Nat×Nat)(s:Nat)(f:Nat)(e:p.1<2)(c:f<2):(oJ d p s).file f=if p.1=f then(d.file f).extract 0 ((d.file f).size-p.2+s) else d.file f:=by
 have b:f=0\/f=1:=by omega
 have a:p.1=0\/p.1=1:=by omega
 rcases b with rfl|rfl<;>rcases a with a|a<;>simp[oJ,DS.file,a]
def yx(d:DS)(f:Nat)(b:f<2):∀(l:List (Nat×Nat)) (a:List Nat),(∀p∈l,p.1<2)->eD f l<=(d.file f).size->
 (d.file f).size<=((fi d l a).file f).size+eD f l/\((fi d l a).file f).size<=(d.file f).size
 |[],a,_,_=>by cases a<;>simp[fi]
 |p::l,[],_,h=>by simp[fi]
 |p::l,s::a,c,h=>by
  have g:eD f (p::l)=(if p.1=f then p.2 else 0)+eD f l:=by simp[eD]
  have i:=yx d f b l a (λ q e=>c q (mQ e)) W
  simp only[fi]
  rw[OF _ _ _ _ (c p (mZ ..)) b]
  rw[g]
  split
  ·rw[ij];omega
  ·omega
def UD(f:Nat)(a b:List (Nat×Nat)):eD f (a++b)=eD f a+eD f b:=by simp[eD]
def UE(f:Nat)(l:List (Nat×Nat))(i:Nat)(b:i<l.length):eD f l=eD f (l.take i)+((if l[i].1=f then l[i].2 else 0)+eD f (l.drop (i+1))):=by
 have a:eD f l=eD f (l.take i)+eD f (l.drop i):=by rw[<-UD,ou]
 rw[a,gE b];rfl
def aap(d:DS)(a:d.ok)(b:Int)(i:Nat)(j:i<d.a.length):
 d.a[i].2<=((fi d (d.a.drop (i+1)) ((stays d.a b).drop (i+1))).file d.a[i].1).size/\((fi d (d.a.drop (i+1)) ((stays d.a b).drop (i+1))).file d.a[i].1).size<=16777216:=by
 have c:=a.two d.a[i] (cY _)
 have g:∀f,f<2->eD f d.a<=(d.file f).size:=by
  intro f e
  have:f=0\/f=1:=by omega
  rcases this with rfl|rfl
  ·exact a.l0
  ·exact a.l1
 have k:=g _ c
 have e:=UE d.a[i].1 d.a i j
 rw[ax rfl] at e
 have l:=yx d d.a[i].1 c (d.a.drop (i+1)) ((stays d.a b).drop (i+1)) (λ p h=>a.two p (pT h)) W
 have m:=GO a d.a[i].1
 omega
def Yx(l:List (Nat×Nat)):∀(b:Int) (i:Nat) (a:i<l.length),(stays l b)[i]'(by rw[uN];exact a)<=l[i].2:=by
 induction l with
 |nil=>simp
 |cons p l c=>
  intro b i a;cases i with
  |zero=>exact Yw _ _
  |succ i=>exact c _ i (by grind)
def Nj{w:aa}{d:DS}{v:ab}(h:ah w g 146 (ka d v))(f:Nat)(a:f<2):w.cell? ⟨g,f,none⟩=some (ae (d.file f)):=by
 have:f=0\/f=1:=by omega
 rcases this with rfl|rfl
 ·exact h.cell 0
 ·exact h.cell 1
def aao{w:aa}{d:DS}{v:ab}(h:ah w g 146 (ka d v))(f n s:Nat)(a:f<2):ah (w.setCell ⟨g,f,none⟩ (ae ((d.file f).extract 0 ((d.file f).size-n+s)))).drew g 146 (ka (oJ d (f,n) s) v):=by
 have:=h.cN f (ae ((d.file f).extract 0 ((d.file f).size-n+s)));have e:(ka d v).setIfInBounds f (ae ((d.file f).extract 0 ((d.file f).size-n+s)))=ka (oJ d (f,n) s) v:=by
  have:f=0\/f=1:=by omega
  rcases this with rfl|rfl<;>rfl
 rw[e] at this;exact this
def Rh(w:aa)(a b c:Obj):(((w.alloc a).alloc b).alloc c).heap[w.heap.size+1+1]?=some c:=by
 have:=lo ((w.alloc a).alloc b) c;simp_all
def M4{w:aa}{B:Nat}(h:B<=w.heap.size)(a b c:Obj):B<=(((w.alloc a).alloc b).alloc c).heap.size:=by simp;omega
def VL{u:ab}(h:u.oneCell'=true):∀x∈(#[u]:Array ab).toList,x.oneCell'=true:=by grind
def On{v:ab}{d:DS}{w:aa}(h:du w n g v d)(f:d.ok)(a:Int)(h1: -9223372036854775808<=a)(h2:a<=9223372036854775807):
 Calls prog 31 #[pV g,O a] w λ e b=>e=ao (aJ #[])/\du b n g (ad none 0 0) (fi d d.a (stays d.a a)).sync/\aR w.heap.size [g] w b:=by
 obtain⟨A,y,rfl,b⟩:=cF h.own
 have c2:=h.c2
 have c7:=h.a.lt
 have c6:=f.a
 obtain⟨b9,b3,b6,b7,b8⟩:=ki Td
 have H:=Z h;clear h
 have c1:=Z b;clear b
 have c3:=f.all
 have h00:=oE.start (w.alloc (.cells #[pV g] 69)) w.heap.size a zS
 go_enter func31,ntmps31
 go_wp2
 go_loopw [1,4,14] (λ C u i wr=>∃(k:Nat) (L:List (Nat×Nat)) (x:Option Addr) (E:Nat),k<=d.a.length/\i=O k/\C=O (kept (d.a.take k) a)/\u=ad x k E/\oE (w.alloc (.cells #[pV g] 69)) wr w.heap.size (d.a.take k) a L (ad x k E)) (λ _ _ i _=>d.a.length-(intOf i).toNat)
 case atStart=>exact⟨0,[],none,0,bh _,rfl,rfl,rfl,h00⟩
 case round=>
  obtain⟨k,L,x,E,d3,rfl,rfl,rfl,c⟩:=hrel
  by_cases G:k<d.a.length
  ·have Q:(d.a.take k).length=k:=by simp;omega
   have T:=c.own
   rw[Q] at T
   have j:=c.aK
   have J:=c.lt
   obtain⟨m,rfl,b1⟩:∃m,A=some ⟨m,0,none⟩/\m<w.heap.size:=by
    rcases H.U.own.2 with⟨e,N⟩|⟨m,I,K,e,_,q,_⟩
    ·omega
    grind
   have b:=H.U.own.cellAt
   have l:∀i,wr.cell? ⟨m,i,none⟩=w.cell? ⟨m,i,none⟩:=λ i=>by
    rw[j.cell (by grind),World.cell?_alloc_lt _ _ _ (by exact b1)]
   have c4:wr.cell? ⟨m,k*2,none⟩=some (O (d.a[k].1:Int)):=by
    rw[l,b (k*2) W];exact(xl _ k G).1
   have c5:wr.cell? ⟨m,k*2+1,none⟩=some (O (d.a[k].2:Int)):=by
    rw[l,b (k*2+1) W];exact(xl _ k G).2
   clear l b
   have d4:=TT (d.a.take k) a h1 h2
   have D:=Z (dC G)
   have d5:d.a[k].2<=16777216:=by
    have:=HN d.a (k+1)
    have B:=HP (d.a.take k) d.a[k]
    rw[<-D.U] at B
    omega
   generalize l:d.a[k]=p at*
   clear l
   have b:stay (kept (d.a.take k) a) p.2=stay (kept (d.a.take k) a) p.2:=rfl
   have a1:=Z (TV (d.a.take k) p a)
   have o:=Z c;clear c j
   generalize l:kept (d.a.take k) a=C at*
   have a2:=Z l;clear l b
   have b:(stay C p.2:Int)=max 0 (min C (p.2:Int)):=by unfold stay;omega
   have b4:k+1<=maxLen:=by unfold maxLen;omega
   have a7:(k+1)*8<=140737488355328:=by omega
   have a5:w.heap.size+1<=wr.heap.size:=J
   ·
    have l:=Z b;clear b
    go_wp2_with(at_builtin;refine Le rfl _ _ 167 rfl (w.heap.size+1) 1 b9 _ 1 8 underlying167 b3 b6 b7 b8 rfl zD _ _ _ rfl (((T.alloc _).alloc _).alloc _) (wr.heap.size+1+1) rfl _ 1 (0,0) (Rh _ _ _ _) rfl (VL rfl) b4 a7 (M4 a5 _ _ _) ?_)
    intro z u X r b F
    have t:=Z r;clear r
    have s:=Z b;clear b
    clear F
    go_wp2
    go_roundw
    case rel=>
     refine⟨k+1,L++[(wr.heap.size,wr.heap.size+1)],some ⟨z,0,none⟩,u,by omega,by go_num,?_,rfl,?_⟩
     ·exact congrArg (Value.int IntKind.i64) (by have e:=a1.U;rw[l.U,<-D.U] at e;omega)
     ·rw[D.U]
      refine oE.step o.U p (sh w.heap.size (wr.heap.size,wr.heap.size+1)) (by rw[Q];exact t.U) ?_
      rw[a2.U,l.U];exact s.U
    case measure=>simp[intOf];omega
  ·obtain rfl:k=d.a.length:=by omega
   rw[lO] at c
   generalize kept (List.take d.a.length d.a) a=d8
   obtain⟨b,rfl⟩:∃b:aa,b=wr:=⟨_,rfl⟩
   have J:=c.lt
   have j:=c.aK
   have F:b.cell? ⟨w.heap.size,0,none⟩=some (pV g):=by
    rw[j.cell zS];exact(ah.new w 69 _).cell 0
   have z:ah b g 146 (ka d (ad A d.a.length y)):=by
    have:=(H.U.a.alloc (.cells #[pV g] 69))
    exact(j.block g W).trans this
   have c9:g<b.heap.size:=by omega
   have M:=Z j;clear j
   have o:=Z c;clear c
   have c0:=Z z
   go_wp2
   go_loopw [8] (λ i wr=>∃j:Nat,j<=d.a.length/\i=O ((j:Int)-1)/\ah wr g 146 (ka (fi d (d.a.drop j) ((stays d.a a).drop j)) (ad A d.a.length y))/\aR b.heap.size [g] b wr) (λ i _=>(intOf i+1).toNat)
   case atStart=>
    refine⟨d.a.length,aW _,rfl,?_,aR.refl _ _ _⟩
    rw[zk];exact z
   case round=>
    obtain⟨j,d1,rfl,s,r⟩:=hrel
    have a6:wr.cell? ⟨w.heap.size,0,none⟩=some (pV g):=by
     rw[vS (w:=b) (r.block _ J (by grind))];exact F
    rcases Ex j with rfl|d2
    ·have t:=Z s;clear s
     rw[show((0:Nat):Int)-1= -1 from rfl]
     have l:=Z r;clear r
     clear z F
     go_wp2_with fail
     have a8:=yw d d.a (stays d.a a)
     have b5:wr.ownsRow n 169 2 (ad A d.a.length y) (fi d d.a (stays d.a a)).a.length (nF (fi d d.a (stays d.a a)).a):=by
      rw[a8.1]
      have c:=xH H.U.own
      have u:=qN H.U.own H.U.a zD
      refine CH (CH (H.U.own.alloc _) (aR.lx M.U []) (λ k f=>⟨by have:=c k f;omega,by simp⟩)) l.U (λ k f=>⟨by have:=c k f;omega,?_⟩)
      simp only[ot]
      rintro rfl;exact u f
     have a9:du wr n g (ad A d.a.length y) (fi d d.a (stays d.a a)):=⟨t.U,H.U.hb,b5⟩
     refine(YU a9).mono ?_
     rintro e X ⟨rfl,c,u⟩
     have a0:=Z c;clear c
     have a3:=Z u;clear u
     go_wp2
     go_end0
     refine⟨rfl,a0.U,?_⟩
     have a4:aR w.heap.size [g] w b:=by
      refine aR.then ((aR.refl w.heap.size [g] w).alloc (aW _) (.cells #[pV g] 69)) (aR.lx M.U []) W zS
     exact(a4.then l.U W (λ k _ h=>h)).then a3.U (by have:=l.U.size;omega) (λ k _ h=>h)
    ·obtain⟨i,rfl⟩:∃i,j=i+1:=⟨j-1,by omega⟩
     rw[show((i+1:Nat):Int)-1=(i:Int) by omega]
     obtain⟨c,rfl,c8,b2⟩:∃c,x=some ⟨c,0,none⟩/\w.heap.size+1<=c/\c<b.heap.size:=by
      rcases o.U.own.2 with⟨e,N⟩|⟨c,I,K,e,u,q,_⟩
      ·omega
      ·injection e with e1 e2 e3
       exact⟨c,e1,u,(lG.1 q).1⟩
     obtain⟨q,I⟩:∃q,L[i]?=some q:=⟨L[i]'(by rw[o.U.len];omega),ba _⟩
     have R:d.a[i]?=some d.a[i]:=ba W
     have S:i<(stays d.a a).length:=by rw[uN];omega
     have B:=ba S
     obtain⟨N,P,d6,d7⟩:=o.U.at_ i _ _ _ R I B
     have u:b.cell? ⟨c,i,none⟩=some (sh w.heap.size q):=by
      rw[o.U.own.cellAt i W]
      simp[wS,I]
     have b0:wr.cell? ⟨c,i,none⟩=some (sh w.heap.size q):=by
      rw[vS (w:=b) (r.block c b2 (by simp;omega))];exact u
     have d0:(i:Int)<(d.a.length:Int):=by omega
     unfold sh at b0
     clear u
     have u:=Z N;have K:=Z P;clear N P
     clear I R B
     have t:=Z s;clear s
     have l:=Z r;clear r
     clear z F
     have z:d.a[i].1<2:=f.two _ (cY _)
     have P:=aap d f a i W
     have R:=Yx d.a a i W
     have B:wr.cell? ⟨q.1,0,none⟩=some (O (d.a[i].1:Int)):=by
      rw[vS (w:=b) (l.U.block _ u.U.lt (by simp;omega))];exact u.U.cell 0
     have F:wr.cell? ⟨q.1,1,none⟩=some (O (d.a[i].2:Int)):=by
      rw[vS (w:=b) (l.U.block _ u.U.lt (by simp;omega))];exact u.U.cell 1
     have s:wr.cell? ⟨q.2,0,none⟩=some (O ((stays d.a a)[i]:Int)):=by
      rw[vS (w:=b) (l.U.block _ K.U.lt (by simp;omega))];exact K.U.cell 0
     have I:=Nj t.U d.a[i].1 z
     have N:=t.U.frozen d.a[i].1
     have r:=Z (And.intro B (And.intro F (And.intro s (And.intro I N))));clear B F s I N
     have s:=Z (And.intro z (And.intro P R));clear z P R
     go_wp2_with fail
     refine(aan a6 r.U.1 r.U.2.1 r.U.2.2.1 r.U.2.2.2.1 r.U.2.2.2.2 s.U.1 s.U.2.1.1 s.U.2.2 s.U.2.1.2).mono ?_
     rintro e X ⟨rfl,rfl⟩
     have z:=aao t.U d.a[i].1 d.a[i].2 (stays d.a a)[i] s.U.1
     have B:aR b.heap.size [g] b (wr.setCell ⟨g,d.a[i].1,none⟩ (.string (((fi d (d.a.drop (i+1)) ((stays d.a a).drop (i+1))).file d.a[i].1).extract 0 (((fi d (d.a.drop (i+1)) ((stays d.a a).drop (i+1))).file d.a[i].1).size-d.a[i].2+(stays d.a a)[i])))).drew:=(l.U.setCell (p:=⟨g,d.a[i].1,none⟩) (.inl zS) _).drew
     generalize(wr.setCell ⟨g,d.a[i].1,none⟩ (.string (((fi d (d.a.drop (i+1)) ((stays d.a a).drop (i+1))).file d.a[i].1).extract 0 (((fi d (d.a.drop (i+1)) ((stays d.a a).drop (i+1))).file d.a[i].1).size-d.a[i].2+(stays d.a a)[i])))).drew=I at*
     have F:=Z z;clear z
     have z:=Z B;clear B
     go_wp2
     go_roundw
     case rel=>
      refine⟨i,by omega,rfl,?_,z.U⟩
      rw[gE (show i<d.a.length by omega),gE S]
      exact F.U
     case measure=>simp[intOf]
end DA
variable{d:DK}
def DK.ds(d:DK):DA.DS:=⟨d.f0,d.f1,d.a,d.room⟩
def DK.of(d:DA.DS):DK:=⟨d.f0,d.f1,d.a,d.room⟩
def DK.bL(d:DK):Prop:=d.ds.ok
def DK.bL.ok(h:d.bL):d.Ok:=⟨h.fits,h.room⟩
def Lq(L:List (Nat×Nat)):jM L=DA.nF L:=by
 rfl
def rV{w:aa}{a:ab}(h:(Y.dk g a d).P w):DA.du w 0 g a d.ds:=⟨h.1,bh _,by have b:w.ownsRow 0 169 2 a d.a.length (jM d.a):=h.2.1;rw[Lq] at b;exact b⟩
def B5{w f:aa}{e b:ab}{c:DK}(h:(Y.dk g e d).P w)(i:DA.du f 0 g b c.ds)(m:aR w.heap.size [g] w f)(n:b.ownBlock=e.ownBlock\/b.ownBlock=none):bj (Y.dk g e d) w f (Y.dk g b c):=by
 have j:∀k∈b.ownBlock.toList,k∈e.ownBlock.toList:=by grind
 refine⟨m.mono (aW _) (λ k _ a=>pS _ a),⟨i.a,?_,λ k a l=>h.2.2 k a (j k l)⟩,λ k a=> .inl ?_⟩
 ·show f.ownsRow 0 169 2 b c.a.length (jM c.a);rw[Lq];exact i.own
 ·rcases eJ.1 a with a|a
  ·exact pS _ a
  ·exact rr _ (j k a)
def DK.sQ(d:DK):Nat:=if 0<iR d.a then 7 else 0
def DK.bN(d:DK):DK:=if 0<iR d.a then d else{d with f0:=d.f1,f1:=d.f0}
def DK.py(d:DK)(f n:Nat):Nat:=if(d.file f).size<n then 1 else if 0<iR d.a then 7 else 0
def DK.trim(d:DK)(f n:Nat):DK:=if(d.file f).size<n then d else if 0<iR d.a then d else d.iY f ((d.file f).extract 0 n)
def DK.bR(d:DK)(a:Int):DK:=DK.of (DA.fi d.ds d.a (DA.stays d.a a)).sync
def ON{w:aa}{b:ab}(h:(Y.dk g b d).P w)(hd:d.bL):Calls prog 301 #[pV g] w λ r c=>r=ao (O (d.sQ:Int))/\bj (Y.dk g b d) w c (Y.dk g b d.bN):=by
 by_cases a:0<iR d.a
 ·unfold DK.sQ DK.bN;rw[ax a,ax a];refine(DA.Z8 (rV h) hd a).mono ?_;rintro e c ⟨rfl,f⟩;exact⟨rfl,bj.stay h f⟩
 ·unfold DK.sQ DK.bN;rw[aj a,aj a];refine(DA.aaa (rV h) hd (Nat.eq_zero_of_not_pos a)).mono ?_;rintro e c ⟨rfl,i,j⟩;exact⟨rfl,B5 h i j (.inl rfl)⟩
def Bd{w:aa}{j:ab}(h:(Y.dk g j d).P w)(hd:d.bL)(f:Nat)(i:f<2)(n:Nat):Calls prog 161 #[pV g,O (f:Int),O (n:Int)] w λ r k=>r=ao (O (d.py f n:Int))/\bj (Y.dk g j d) w k (Y.dk g j (d.trim f n)):=by
 have o:d.ds.file f=d.file f:=rfl;unfold DK.py DK.trim;by_cases c:(d.file f).size<n
 ·rw[ax c,ax c];refine KQ (DA.Zx (rV h) hd f i n (.inr (by grind))) ?_;exact⟨rfl,bj.stay h (bz _ _)⟩
 ·rw[aj c,aj c];by_cases b:0<iR d.a
  ·rw[ax b,ax b];refine(DA.ZA (rV h) hd f i n (by grind) b).mono ?_;rintro e k ⟨rfl,l⟩;exact⟨rfl,bj.stay h l⟩
  ·rw[aj b,aj b];refine(DA.ZB (rV h) hd f i n (by grind) (Nat.eq_zero_of_not_pos b)).mono ?_;rintro e k ⟨rfl,p,m⟩;refine⟨rfl,B5 h ?_ m (.inl rfl)⟩;have e:(d.iY f ((d.file f).extract 0 n)).ds=d.ds.trim f n:=by
    unfold DK.iY DA.DS.trim DK.file;by_cases a:f=0
    ·rw[ax a,ax a,ax a];rfl
    ·rw[aj a,aj a,aj a];rfl
   grind
def Bb{w:aa}{b:ab}(h:(Y.dk g b d).P w)(hd:d.bL)(a:Int)(h1: -9223372036854775808<=a)(h2:a<=9223372036854775807):Calls prog 31 #[pV g,O a] w λ r c=>r=ao (aJ #[])/\bj (Y.dk g b d) w c (Y.dk g (ad none 0 0) (d.bR a)):=by
 refine(DA.On (rV h) hd a h1 h2).mono ?_;rintro e c ⟨rfl,f,i⟩;exact⟨rfl,B5 h f i (.inr rfl)⟩
def AU(s:ag)(h:s.size<18446744073709551616):(fm s).size<=10+s.size:=by
 rw[fm,gU];have:=yB h;have e:(⟨(cm s.size).toArray⟩:ag).size=(cm s.size).length:=by rfl
 omega
def rS(s:ag):ag:=strOfNums (qQ (CrcM.on 0 s.data.toList))
def Ou(s:ag):(rS s).size=4:=rfl
def aY(s:ag):ag:=if s.size=0\/4096<s.size then⟨#[]⟩ else fm s++rS s
def QN{s:ag}(h:s.size=0\/4096<s.size):aY s=⟨#[]⟩:=by rw[aY,ax h]
def G2{s:ag}(a:¬s.size=0)(h1:¬4096<s.size):aY s=fm s++rS s:=by rw[aY,aj W]
def PD:(⟨#[]⟩:ag).size=0:=rfl
def se(s:ag):(aY s).size<=4110/\((aY s).size=0↔(s.size=0\/4096<s.size))/\((aY s).size=0\/s.size+5<=(aY s).size/\(aY s).size<=s.size+14):=by
 by_cases h:s.size=0\/4096<s.size
 ·rw[QN h,PD];omega
 ·rw[G2 W W,gU,Ou];have a:=AU s W;have b:s.size+1<=(fm s).size:=by
   rw[fm,gU];have:=aax s.size;have e:(⟨(cm s.size).toArray⟩:ag).size=(cm s.size).length:=ji ..;omega
  omega
def eh(t:ag):ag:=(⟨t,0⟩:RD).oH 4096
def iZ(t:ag):Prop:=¬(aY (eh t)).size=0/\(aY (eh t)).size<=t.size/\t.extract 0 (aY (eh t)).size=aY (eh t)
instance(t:ag):Decidable (iZ t):=inferInstanceAs (Decidable (¬(aY (eh t)).size=0/\(aY (eh t)).size<=t.size/\t.extract 0 (aY (eh t)).size=aY (eh t)))
def dq(t:ag):ag:=if iZ t then eh t else⟨#[]⟩
def wN{t:ag}(h:iZ t):dq t=eh t:=by rw[dq,ax h]
def GS{t:ag}(h:¬iZ t):dq t=⟨#[]⟩:=by rw[dq,aj h]
def QO{s:ag}(h:¬(aY s).size=0):¬s.size=0:=λ a=>h ((se s).2.1.2 (.inl a))
def Qy{t:ag}(h:¬(dq t).size=0):iZ t/\0<(aY (dq t)).size/\(aY (dq t)).size<=t.size:=by
 by_cases a:iZ t
 ·rw[wN a] at h⊢;exact⟨a,by have:=a.1;omega,a.2.1⟩
 ·rw[GS a] at h;exact absurd rfl h
def BF{t:ag}:(dq t).size=0↔¬iZ t:=by
 constructor
 ·intro h a;rw[wN a] at h;exact QO a.1 h
 ·intro h;rw[GS h];rfl
def pg(s:ag):Nat->List ag->Nat->List ag×Nat
 |0,l,a=>(l,a)
 |n+1,l,a=>if(dq (s.extract a s.size)).size=0 then(l,a) else pg s n (l++[dq (s.extract a s.size)]) (a+(aY (dq (s.extract a s.size))).size)
def xP{s:ag}{l:List ag}(n:Nat)(h:(dq (s.extract g s.size)).size=0):pg s (n+1) l g=(l,g):=ax h
def xQ{s:ag}{l:List ag}(n:Nat)(h:¬(dq (s.extract g s.size)).size=0):
 pg s (n+1) l g=pg s n (l++[dq (s.extract g s.size)]) (g+(aY (dq (s.extract g s.size))).size):=aj h
def BG{s:ag}(h:¬(dq (s.extract g s.size)).size=0):0<(aY (dq (s.extract g s.size))).size/\g+(aY (dq (s.extract g s.size))).size<=s.size/\g<s.size:=by
 obtain⟨_,b,a⟩:=Qy h;rw[ij] at a;omega
def Jv(s:ag):∀(n m:Nat) (l:List ag) (a:Nat),s.size-a<n->s.size-a<m->pg s n l a=pg s m l a
 |0,m,l,a,b,c=>by omega
 |n+1,0,l,a,b,c=>by omega
 |n+1,m+1,l,a,b,c=>by
  by_cases h:(dq (s.extract a s.size)).size=0
  ·rw[xP n h,xP m h]
  ·rw[xQ n h,xQ m h]
   have:=BG h
   exact Jv s n m _ _ W W
def eT(s:ag)(l:List ag)(a:Nat):List ag×Nat:=pg s (s.size-a+1) l a
def Jt{s:ag}{l:List ag}(h:(dq (s.extract g s.size)).size=0):eT s l g=(l,g):=xP _ h
def Ju{s:ag}{l:List ag}(h:¬(dq (s.extract g s.size)).size=0):
 eT s l g=eT s (l++[dq (s.extract g s.size)]) (g+(aY (dq (s.extract g s.size))).size):=by
 unfold eT
 rw[xQ _ h]
 have:=BG h
 exact Jv s _ _ _ _ W W
def bm:List ag->ag
 |[]=>⟨#[]⟩
 |s::l=>aY s++bm l
def cd(l:List ag):Prop:=∀s∈l,¬(aY s).size=0
instance(l:List ag):Decidable (cd l):=inferInstanceAs (Decidable (∀s∈l,¬(aY s).size=0))
def QP(a b:List ag):bm (a++b)=bm a++bm b:=by
 induction a with
 |nil=>
  rfl
 |cons x l c=>rw[gD,bm,c,bm,rj]
def BM(a:List ag)(s:ag):bm (a++[s])=bm a++aY s:=by
 rw[QP];congr 1;show aY s++(⟨#[]⟩:ag)=aY s;apply kP;simp
def Qz{t x f:ag}(b:eh t=x)(c:aY x=f)(a:¬f.size=0)(h1:f.size<=t.size)(h2:t.extract 0 f.size=f):dq t=x:=by
 subst b c;exact wN ⟨a,h1,h2⟩
def W9{s t x f:ag}{l:List ag}(b:s.extract g s.size=t)(hx:dq t=x)(a:aY x=f)(c:¬x.size=0):eT s l g=eT s (l++[x]) (g+f.size):=by
 subst b;rw[Ju (by grind),hx,a]
def W8{s t:ag}{l:List ag}(a:s.extract g s.size=t)(hx:(dq t).size=0):eT s l g=(l,g):=by
 subst a;exact Jt hx
def E6(a b:ag):(a++b).data.toList=a.data.toList++b.data.toList:=by rfl
def E7(a:ag):a++(⟨#[]⟩:ag)=a:=by apply kP;simp
def Il(a:ag):(⟨#[]⟩:ag)++a=a:=by rfl
def GJ(a b:ag):(a++b).extract a.size (a++b).size=b:=by
 apply kP;rw[wK,E6,gU,<-uc,List.drop_left,cS zS]
def Qk(a b:ag):(a++b).extract 0 a.size=a:=by
 apply kP;rw[wK,E6,jR,zF,<-uc,zt]
def G3{s:ag}(h:¬(aY s).size=0):0<s.size/\s.size<=4096/\aY s=fm s++rS s:=by
 have b:¬(s.size=0\/4096<s.size):=λ a=>h ((se s).2.1.2 a);exact⟨by omega,by omega,G2 W W⟩
def Nl{t s:ag}{rest:List UInt8}(e:s.size<=4096)(b:t.data.toList=(fm s).data.toList++rest):eh t=s:=by
 rw[Nk,di] at b;obtain⟨c,d⟩:=xw (y:=⟨t,0⟩) W rfl b;have a:=KK (y:=⟨⟨(s.data.toList++rest).toArray⟩,0⟩) (l:=s.data.toList) (rest:=rest) rfl zS;rw[uc] at a;unfold eh;rw[RD.oH,c,d,ax ⟨rfl,e,by omega⟩,a.1]
def Nn{t:ag}(h:¬((⟨t,0⟩:RD).cg).e=0):eh t=⟨#[]⟩:=by
 unfold eh;rw[RD.oH,aj (λ c=>h c.1)]
def Yv{t:ag}(h:eh t=⟨#[]⟩):(dq t).size=0:=by
 rw[BF];rintro⟨a,_⟩;rw[h] at a;exact a ((se _).2.1.2 (.inl rfl))
def Qx{s:ag}(rest:ag)(h:¬(aY s).size=0):dq (aY s++rest)=s:=by
 obtain⟨c,a,d⟩:=G3 h;have b:eh (aY s++rest)=s:=Nl (rest:=(rS s).data.toList++rest.data.toList) a (by simp_all);refine Qz b rfl h zS (Qk _ _)
def Qt{s:ag}{l:List ag}(h:cd (s::l)):¬(aY s).size=0/\cd l:=⟨h s zS,λ x hx=>h x (by simp[hx])⟩
def Jw:∀(l a:List ag) (tail:ag),cd l->eT (bm a++bm l++tail) a (bm a).size=eT (bm a++bm l++tail) (a++l) (bm (a++l)).size
 |[],a,tail,_=>by simp
 |s::l,a,tail,h=>by
  obtain⟨b,c⟩:=Qt h
  have hx:(bm a++bm (s::l)++tail).extract (bm a).size (bm a++bm (s::l)++tail).size=aY s++(bm l++tail):=by
   have e:bm a++bm (s::l)++tail=bm a++(aY s++(bm l++tail)):=by
    rw[bm,rj,rj]
   rw[e,GJ]
  have d:=Qx (bm l++tail) b
  rw[W9 hx d rfl (by have:=(G3 b).1;omega)]
  have e1:(bm a).size+(aY s).size=(bm (a++[s])).size:=by rw[BM,gU]
  have e2:bm a++bm (s::l)++tail=bm (a++[s])++bm l++tail:=by
   rw[BM,bm,rj,rj,rj,rj]
  rw[e1,e2,Jw l (a++[s]) tail c,di];rfl
def Xa{l:List ag}{tail:ag}(a:cd l)(b:(dq tail).size=0):eT (bm l++tail) [] 0=(l,(bm l).size):=by
 have h:=Jw l [] tail a;have e:bm []++bm l++tail=bm l++tail:=by rw[bm,Il]
 rw[e] at h;rw[fV] at h;exact h.trans (W8 (GJ _ _) b)
def Vs:(dq ⟨#[]⟩).size=0:=Yv (Nn zD)
def Xb{l:List ag}(a:cd l):eT (bm l) [] 0=(l,(bm l).size):=by
 have:=Xa a Vs;rw[E7] at this;omega
section
open TreeM
structure JN where
 l:List ag
 sure:Nat
 cut:Bool
def DK.sync(d:DK):DK:={d with a:=[]}
def nD(d:DK):List ag×Nat:=eT d.f0 [] 0
def eA(d:DK):JN:=⟨(nD d).1,(nD d).1.length,false⟩
def fG(d:DK):DK:=((d.sync.trim 0 (nD d).2).trim 1 0)
def df(j:JN)(d:DK)(s:ag):Nat:=if j.cut=true then 7 else if(aY s).size=0 then 1 else d.cC (aY s)
def hS(j:JN)(d:DK)(s:ag):JN:=if df j d s=0 then⟨j.l++[s],j.l.length+1,j.cut⟩ else j
def hU(j:JN)(d:DK)(s:ag):DK:=if df j d s=0 then(d.put 0 (aY s)).sync else d
def iy(j:JN)(d:DK)(l:List ag)(n:Nat):Nat:=
 if j.cut=true\/j.sure<j.l.length then 7 else if¬cd l then 1 else if n=0 then 7 else if¬d.cC (bm l)=0 then d.cC (bm l) else if n<4 then 7 else 0
def iw(j:JN)(d:DK)(l:List ag)(n:Nat):JN:=
 if j.cut=true\/j.sure<j.l.length then j else if¬cd l then j else if n=0 then⟨j.l,j.sure,true⟩ else if¬d.cC (bm l)=0 then j else if n<4 then⟨j.l,j.sure,true⟩ else⟨l,l.length,j.cut⟩
def ix(j:JN)(d:DK)(l:List ag)(n:Nat):DK:=
 if j.cut=true\/j.sure<j.l.length then d else if¬cd l then d else if n=0 then d else if¬d.cC (bm l)=0 then d else
 if n=1 then d.put 1 (bm l) else if n=2 then(d.put 1 (bm l)).sync else if n=3 then(d.put 1 (bm l)).sync.bN else((d.put 1 (bm l)).sync.bN).trim 1 0
structure CF where
 key:ag
 bG:Nat
 room:Nat
 every:Nat
 a:Nat
 rc:RC
structure RQ where
 id:Nat
 m:MG
 k:Nat
 bt:Nat
structure ND where
 c:CF
 st:ST
 l:Nat
 next:Nat
 g:Option RQ
 j:JN
 d:DK
 id:Nat
 bq:Nat
 tell:Nat
 bN:Nat
def counts(x:Nat):Bool:=decide (x=1)||(decide (x=3)||(decide (x=4)||decide (x=5)))
def bS(c:CF)(s:ST)(m:MG):ST×Nat:=
 if m.c=3 then s.take c.key m.h c.room else if m.c=8 then s.link m.m m.n m.e else if m.c=4 then s.lay c.key m.b.enc else(s,0)
def gr(c:CF):List ag->ST->Option ST
 |[],s=>some s
 |r::l,s=>match dm r with
  | .error _=>none
  | .ok m=>if m.log=0 then(if counts (bS c s m).2=true then gr c l (bS c s m).1 else none) else none
def gq(c:CF)(d:DK):Option ND:=(gr c (eA d.sync).l fj).map λ s=>⟨c,s,0,0,none,eA d.sync,fG d,1,0,0,0⟩
abbrev SD:=Int×ag
def ND.dI(n:ND)(m:MG):Nat:=if counts (bS n.c n.st m).2=true then(if df n.j n.d m.enc=0 then(bS n.c n.st m).2 else 6) else(bS n.c n.st m).2
def ND.bZ(n:ND)(m:MG):ND:=
 if counts (bS n.c n.st m).2=true then(if df n.j n.d m.enc=0 then{n with j:=hS n.j n.d m.enc,d:=hU n.j n.d m.enc,st:=(bS n.c n.st m).1} else n) else n
def ND.dV(n:ND):ND:={n with bq:=bw n.bq 1}
def ND.aL(n:ND):List MK:=if n.st.aT=true\/¬n.st.aM=⟨#[]⟩ then [⟨0,n.st.ar.size,n.st.ar.aE,decide (¬n.st.aM=⟨#[]⟩)⟩] else []
def gH(s:ag):BD:=match eN s with| .error _=>mO| .ok b=>b
def ND.proof(n:ND):MG:=cj (gH n.st.aM)
def ps(n:Nat):MG:={dL with c:=10,n:=n}
def ND.cx(n:ND)(a b:Nat):ND:=
 match n.g with
 |none=>n
 |some r=>if r.bt<=a then(if n.c.rc.i<=r.k then{n with g:=none,l:=bw n.l 1} else{n with g:=some {r with k:=r.k+1,bt:=bw a (gR n.c.rc r.k b)}}) else n
def ND.hh(n:ND)(a b:Nat):List SD:=
 match n.g with
 |none=>[]
 |some r=>if r.bt<=a then(if n.c.rc.i<=r.k then [(-2,(ps (bw n.l 1)).enc)] else [(-1,r.m.enc)]) else []
def jW(id:Nat):MG:={dL with c:=5,id:=id}
def jX(id a b:Nat):MG:={dL with c:=6,id:=id,m:=a,n:=b}
def ND.iN(n:ND)(a:Nat):Option MG:=
 if n.g.isSome=true\/¬n.st.aM=⟨#[]⟩ then none else
 match n.st.gK with
 |some p=>some (jX n.id p.1 p.2)
 |none=>if n.next<=a then some (jW n.id) else none
def ND.eL(n:ND)(a b:Nat):ND:=
 match n.iN a with
 |none=>n
 |some m=>{n with next:=if m.c=5 then bw a n.c.every else n.next,g:=some ⟨n.id,m,1,bw a (gR n.c.rc 0 b)⟩,id:=n.id+1}
def ND.jo(n:ND)(a:Nat):List SD:=match n.iN a with|none=>[]|some m=>[(-1,m.enc)]
def rU(L:List MK):MG:={dL with c:=1,aL:=L}
def rM(L:List MK):MG:={dL with c:=2,aL:=L}
def cD(h:HD):MG:={dL with c:=3,h:=h}
def rQ:MG:={dL with c:=9}
def ND.fP(n:ND)(a b:Nat):ND:=
 let c:=(n.cx a b).eL a b
 if n.c.bG=0\/a<n.tell then c else{c with bN:=(n.bN+1)%n.c.bG,tell:=bw a n.c.a}
def ND.gA(n:ND)(a b:Nat):List SD:=
 n.hh a b++((n.cx a b).jo a++(if n.c.bG=0\/a<n.tell then [] else [((n.bN:Int),(rU n.aL).enc)]))
def fJ:List MK->MK
 |[]=>⟨0,0,⟨#[]⟩,false⟩
 |k::l=>if k.log=0 then k else fJ l
def behind(s:ST)(k:MK):Bool:=
 if s.aM=⟨#[]⟩ then k.aM||(decide (s.ar.size<k.size)||(decide (0<k.size)&&(decide (k.size=s.ar.size)&& !decide (k.aE=s.ar.aE)))) else false
def qi(s:ST)(k:MK):Bool:=
 decide (k.size<s.ar.size)||((decide (s.ar.size=k.size)&& !decide (s.ar.aE=k.aE))||s.f.any λ h=>decide (h.size=k.size)&&decide (h.aE=k.aE))
def ND.tL(n:ND)(a:Int)(m:MG):List SD:=
 let k:=fJ m.aL
 (if¬n.st.aM=⟨#[]⟩ then(if k.aM=true then [] else [(a,n.proof.enc)]) else if k.aM=false/\n.st.aT=true/\qi n.st k=true then [(a,(cD n.st.ar).enc)] else [])
 ++(if m.c=1/\behind n.st k=true then [(a,(rM n.aL).enc)] else [])
def ND.mn(n:ND)(m:MG):ND:=if n.dI m=7 then(n.bZ m).dV else n.bZ m
def ND.mm(n:ND)(a:Int)(m:MG):List SD:=
 if n.dI m=6 then [(a,rQ.enc)] else if n.dI m=5\/n.dI m=9 then [(a,(n.bZ m).proof.enc)] else []
def ND.nN(n:ND)(m:MG):ND:=if n.dI m=7 then(n.bZ m).dV else n.bZ m
def jH(n:ND)(a:Int)(s:ag):Option MG:=
 match dm s with
 | .error _=>none
 | .ok m=>if 0<=a/\a<n.c.bG/\m.log=0/\(m.c=1\/m.c=2\/m.c=3\/m.c=4\/m.c=9) then some m else none
def ND.dU(n:ND)(a:Int)(s:ag):ND:=
 match jH n a s with
 |none=>n.dV
 |some m=>if m.c=3 then n.mn m else if m.c=4 then n.nN m else n
def ND.cW(n:ND)(a:Int)(s:ag):List SD:=
 match jH n a s with
 |none=>[]
 |some m=>if m.c=3 then n.mm a m else if m.c=1\/m.c=2 then n.tL a m else []
def answers(n:ND)(m:MG):Bool:=
 match n.g with
 |none=>false
 |some r=>decide (m.log=0)&&(decide (m.id=r.m.id)&&((decide (r.m.c=5)&&decide (m.c=7))||(decide (r.m.c=6)&&(decide (m.c=8)&&(decide (r.m.m=m.m)&&decide (r.m.n=m.n))))))
def kept(m:MG):MG:={m with c:=if m.c=7 then 3 else m.c,id:=0}
def ND.gw(n:ND)(s:ag):ND:=
 match dm s with
 | .error _=>n.dV
 | .ok m=>if answers n m=true then(let a:ND:={n with g:=none};if a.dI (kept m)=7 then(a.bZ (kept m)).dV else a.bZ (kept m)) else n.dV
def ND.eb(n:ND):List ag:=
 (if n.st.aT=true then [(cD n.st.ar).enc] else [])++((n.st.f.map λ h=>(cD h).enc)++(if n.st.aM=⟨#[]⟩ then [] else [n.proof.enc]))
def ND.xR(n:ND)(k:Nat):Nat:=iy n.j n.d n.eb k
def ND.lz(n:ND)(k:Nat):ND:={n with j:=iw n.j n.d n.eb k,d:=ix n.j n.d n.eb k}
def mq(k:KY)(a:List ag)(b:Nat):HD:=if a.length=0 then ec else(kj k a.length b (aE a)).getD ec
def AL(k:KY)(a:List ag)(c:Nat)(m:MG):MG:=
 if m.c=5 then{dL with c:=7,log:=m.log,id:=m.id,h:=mq k a c}
 else if a.length<m.n then dL else{m with c:=8,e:=rP (m.m:Int) (a.take m.n)}
def gm(k:KY)(b:List ag)(a:Nat)(s:ag):ag:=
 match dm s with
 | .error _=>⟨#[]⟩
 | .ok m=>if m.c=5\/m.c=6 then(AL k b a m).enc else⟨#[]⟩
structure PL where
 n:ND
 a:List ag
structure PK where
 src:Int
 dst:Int
 s:ag
structure ME where
 k:KY
 c:CF
 l:List PL
 b:List PK
 now:Nat
structure AC where
 c:Int
 a:Int
 b:Int
 n:Nat
 s:ag
def ME.put(m:ME)(p:PK):ME:=if 64<=m.b.length then m else{m with b:=m.b++[p]}
def ME.cC(m:ME):Nat:=if 64<=m.b.length then 8 else 0
def ME.fO(i:Nat)(m:ME)(x:SD):ME:=if(i:Int)<=x.1 then m.put ⟨i,x.1+1,x.2⟩ else if x.1< -1 then m else m.put ⟨i,x.1,x.2⟩
def ME.send(m:ME)(i:Nat)(l:List SD):ME:=l.foldl (ME.fO i) m
def ME.eU(m:ME)(i:Nat)(n:ND):ME:=match m.l[i]? with|none=>m|some p=>{m with l:=m.l.set i {p with n:=n}}
def ME.aT(m:ME)(i:Int):Bool:=decide (0<=i)&&decide (i<m.l.length)
def ME.tick(m:ME)(i:Nat)(a b:Nat):ME:=
 match m.l[i]? with
 |none=>m
 |some p=>(({m with now:=a}:ME).eU i (p.n.fP a b)).send i (p.n.gA a b)
def ME.peer(m:ME)(i:Nat)(a:Int)(s:ag):ME:=match m.l[i]? with|none=>m|some p=>(m.eU i (p.n.dU a s)).send i (p.n.cW a s)
def ME.log(m:ME)(i:Nat)(s:ag):ME:=match m.l[i]? with|none=>m|some p=>m.eU i (p.n.gw s)
def ME.eg(m:ME)(p:PK):ME:=
 if p.dst= -1 then(match m.l[p.src.toNat]? with
  |none=>m
  |some q=>if gm m.k q.a m.now p.s=⟨#[]⟩ then m else m.put ⟨-1,p.src,gm m.k q.a m.now p.s⟩)
 else if p.src= -1 then m.log p.dst.toNat p.s
 else m.peer p.dst.toNat (if p.dst<p.src then p.src-1 else p.src) p.s
def ME.oW(m:ME)(a:Int):Nat:=if m.b.length=0 then 5 else if a=3 then m.cC else 0
def ME.bW(m:ME)(b a:Int):ME:=
 match m.b[(a.toNat%m.b.length)]? with
 |none=>m
 |some p=>if b=3 then m.put p else
  let m1:ME:={m with b:=m.b.eraseIdx (a.toNat%m.b.length)}
  if b=4 then m1.put p else if b=1 then m1.eg p else m1
def fW(s:ag):ag:=s.extract 0 (min s.size 40)
def ME.oS(m:ME)(i:Int)(j:Nat):Bool:=if m.aT i=true then decide (i=j) else true
def ME.oR(m:ME)(i:Int):Bool:=(List.range m.l.length).any λ j=>m.oS i j&&decide (12<=(m.l.map λ p=>p.a.length).getD j 0)
def ME.leaf(m:ME)(i:Int)(s:ag):ME:=
 if m.oR i=true then m else{m with l:=m.l.mapIdx λ j p=>if m.oS i j=true then{p with a:=p.a++[fW s]} else p}
def ME.bR(m:ME)(i:Nat)(a:Nat):ME:=
 match m.l[i]? with
 |none=>m
 |some p=>m.eU i (match gq m.c (p.n.d.bR a) with|some n=>n|none=>{p.n with d:=fG (p.n.d.bR a)})
def ME.renew(m:ME)(i k:Nat):ME:=match m.l[i]? with|none=>m|some p=>m.eU i (p.n.lz k)
def ME.feed(m:ME)(i:Nat)(b:Int)(s:ag):ME:=if b<(m.l.length:Int)-1 then m.peer i b s else m.log i s
def AC.right(a:AC):Bool:=decide (0<=a.c)&&(decide (a.c<9)&&(decide (0<=a.a)&&(decide (a.a<=255)&&(decide (0<=a.b)&&(decide (a.b<=255)&&(decide (a.n<=4294967296)&&decide (a.s.size<=4096)))))))
def ME.act(m:ME)(a:AC):ME:=
 if a.right=true then
  if a.c=0 then(if m.aT a.a=true then m.tick a.a.toNat ((m.now+(1+a.n%8))%18446744073709551616) a.n else m)
  else if a.c=5 then m.leaf a.a a.s
  else if a.c=6 then(if m.aT a.a=true then m.bR a.a.toNat a.n else m)
  else if a.c=7 then(if m.aT a.a=true then m.renew a.a.toNat (a.n%6) else m)
  else if a.c=8 then(if m.aT a.a=true then m.feed a.a.toNat a.b a.s else m)
  else m.bW a.c a.a
 else m
def ME.eO:Nat->ME->ME
 |0,m=>m
 |f+1,m=>if m.b.length=0 then m else ME.eO f (m.bW 1 0)
def ME.ja:List Nat->ME->ME
 |[],m=>m
 |i::l,m=>ME.ja l (m.tick i (bw m.now m.c.a) 0)
def ME.round(m:ME):ME:=ME.eO 200 (ME.ja (List.range m.l.length) m)
def cE(c:CF)(a:Nat):ND:=⟨c,fj,0,0,none,⟨[],0,false⟩,⟨⟨#[]⟩,⟨#[]⟩,[],a⟩,1,0,0,0⟩
def iU(a:ag)(c:CF):ME:=⟨fp a,c,[⟨cE c 100000,[]⟩,⟨cE c 100000,[]⟩],[],0⟩
def I2:RC:=⟨2,8,0,3,2⟩
def jJ(a:ag):CF:=⟨a,1,4,1,3,I2⟩
end
variable{D:BD}{C:CF}{H h:HD}{F:List HD}{S:ST}
section
open TreeM
def Lj{x:WS}(a:x.e=0)(n:Nat)(b:n<=255):x.byte (n:Int)=⟨x.b++(jZ (n:Int)).data.toList,0⟩:=by
 unfold WS.byte WS.put;grind
def I8(h:D.bq=true)(b:D.right=true):(cj D).enc=⟨((4:UInt8)::0::ma D).toArray⟩:=by
 have a:eC (eQ 4)=[108,98]:=by decide
 unfold MG.enc;rw[ax (Ja h)];show((eC (eQ 4)).foldl (cj D).kq ((⟨[],0⟩:WS).byte ((4:Nat):Int))).text=_;rw[a,Lj rfl 4 zD];show(((⟨[]++(jZ ((4:Nat):Int)).data.toList,0⟩:WS).byte ((0:Nat):Int)).jY D).text=_;rw[Lj rfl 0 zD,DV rfl b];rfl
def I7(f:D.Ok)(h:D.bq=true)(c:D.right=true):dm (cj D).enc= .ok (cj D):=by
 have e:eC (eQ 4)=[108,98]:=by decide
 rw[I8 h c];obtain⟨L,b⟩:∃L,ma D=L:=⟨_,rfl⟩;rw[b];have e1:(⟨⟨((4:UInt8)::0::L).toArray⟩,0⟩:RD).dG=4:=rfl;have e2:(⟨⟨((4:UInt8)::0::L).toArray⟩,0⟩:RD).bF 1=⟨⟨((0:UInt8)::L).toArray⟩,0⟩:=
  (uz (y:=⟨⟨((4:UInt8)::0::L).toArray⟩,0⟩) (s:=⟨#[4]⟩) (n:=1) rfl rfl rfl).2
 have e3:(⟨⟨((0:UInt8)::L).toArray⟩,0⟩:RD).dG=0:=rfl;have e4:(⟨⟨((0:UInt8)::L).toArray⟩,0⟩:RD).bF 1=⟨⟨L.toArray⟩,0⟩:=
  (uz (y:=⟨⟨((0:UInt8)::L).toArray⟩,0⟩) (s:=⟨#[0]⟩) (n:=1) rfl rfl rfl).2
 obtain⟨v,x⟩:=Jp (y:=⟨⟨L.toArray⟩,0⟩) (rest:=[]) f c rfl (by rw[b];simp);have d:ha 4 ⟨⟨((0:UInt8)::L).toArray⟩,0⟩=(cj D,⟨⟨[].toArray⟩,0⟩):=by
  unfold ha;rw[e];show mh (mh ({dL with c:=4},⟨⟨((0:UInt8)::L).toArray⟩,0⟩) 108) 98=_;have s1:mh ({dL with c:=4},⟨⟨((0:UInt8)::L).toArray⟩,0⟩) 108=({dL with c:=4},⟨⟨L.toArray⟩,0⟩):=by
   show(MG.ln {dL with c:=4} 108 _,RD.qv 108 _)=_;unfold MG.ln RD.qv;rw[ax rfl,ax rfl,e3,e4];rfl
  rw[s1];show(MG.ln {dL with c:=4} 98 _,RD.qv 98 _)=_;unfold MG.ln RD.qv;simp only[Nat.reduceEqDiff,↓reduceIte];rw[v,x];rfl
 unfold dm;rw[e1,e2,d,aj (by intro a;have:=congrArg (λ s:ag=>s.data.size) a;simp at this),aj zD,ax zR,ax (Ja h)]
def xz(h:D.bq=true):D.right=true:=by
 unfold BD.bq at h;grind
def BS(d:h.right=true):h.Ok:=by
 obtain⟨a,b,c,-,-⟩:=ml d;exact⟨by omega,by omega⟩
def rN(h:D.right=true):D.Ok:=by
 obtain⟨a,b,c,d⟩:=uC h;exact⟨BS a,BS b,by omega⟩
def Eg(a s:ag):Prop:=s=⟨#[]⟩\/∃b:BD,s=b.enc/\b.bq=true/\b.a.check a=true/\b.b.check a=true
def QY{a:ag}(h:D.bq=true)(h1:D.a.check a=true)(h2:D.b.check a=true):fc a D.enc=true:=by
 unfold fc;rw[Bf (rN (xz h)) (xz h)];grind
def PO(h:¬D.right=true):D.enc=⟨#[]⟩:=by
 unfold BD.enc;grind
def T4{a:ag}(h:fc a D.enc=true):D.bq=true/\D.a.check a=true/\D.b.check a=true:=by
 by_cases b:D.right=true
 ·unfold fc at h;rw[Bf (rN b) b] at h;grind
 ·rw[PO b] at h;have e:fc a ⟨#[]⟩=false:=rfl;grind
structure ST.Good(pub:ag)(s:ST):Prop where
 ar:s.aT=true->s.ar.check pub=true
 f:∀h∈s.f,h.check pub=true
 aM:Eg pub s.aM
 none:s.aT=false->s.f=[]
def aaX(b:ag):fj.Good b:=⟨(λ h=>by cases h),(λ h a=>by cases a),.inl rfl,λ _=>rfl⟩
def Fw{a:ag}{c:List ag}(hx:H.check a=true)(d:h.check a=true)(b:fa H h c=some D):D.bq=true/\D.a.check a=true/\D.b.check a=true:=by
 unfold fa at b;grind
def C5{d:ag}{h:HD}(e:h.check d=true):∀(L:List HD) {b:BD},(∀x∈L,x.check d=true)->eG h L=some (some b)->b.bq=true/\b.a.check d=true/\b.b.check d=true
 |[],b,c,a=>by cases a
 |x::L,b,c,a=>by
  unfold eG at a
  split at a
  ·split at a
   ·cases a
   ·split at a
    ·rename_i i g
     cases a
     exact Fw (c x zS) e g
    ·exact C5 e L (λ y f=>c y (by simp[f])) a
  ·exact C5 e L (λ y f=>c y (by simp[f])) a
def Zh{d:ag}(a:S.Good d)(h:HD)(i:Nat):(S.take d h i).1.Good d:=by
 unfold ST.take;split
 ·rename_i j;split
  ·rename_i c;split
   ·rename_i e;split
    ·exact a
    ·rename_i b g;have:=C5 c (S.ar::S.f) (λ x hx=>by
      rcases bV.1 hx with rfl|hx
      ·exact a.ar e
      ·exact a.f x hx) g
     exact⟨a.ar,a.f,.inr ⟨b,rfl,this⟩,a.none⟩
    ·split
     ·exact a
     ·refine⟨a.ar,λ x hx=> ?_,a.aM,λ f=>absurd e (by grind)⟩;rcases eJ.1 hx with hx|hx
      ·exact a.f x (oq hx)
      ·rcases bV.1 hx with rfl|hx
       ·exact c
       ·exact a.f x (pT hx)
   ·exact⟨λ _=>c,a.f,a.aM,(λ f=>by cases f)⟩
  grind
 grind
def Hb(h:kf k g n F=some i):F.getD i ec∈F:=by
 induction F generalizing i with
 |nil=>cases h
 |cons x l b=>
  unfold kf at h;split at h
  ·grind
  ·cases a:kf k g n l with
   |none=>grind
   |some j=>
    grind
def Uv{c:ag}(a:S.Good c)(m n:Nat)(j:List ag):(S.link m n j).1.Good c:=by
 unfold ST.link;split
 ·split
  ·rename_i d;split
   ·exact a
   ·rename_i i g;have hx:=a.f _ (Hb g);have k:=a.ar d;have h:(if(S.f.getD i ec).size<S.ar.size then S.f.getD i ec else S.ar).check c=true:=by split<;>assumption
    have e:(if(S.f.getD i ec).size<S.ar.size then S.ar else S.f.getD i ec).check c=true:=by split<;>assumption
    dsimp only;generalize(if(S.f.getD i ec).size<S.ar.size then S.f.getD i ec else S.ar)=p at*;generalize(if(S.f.getD i ec).size<S.ar.size then S.ar else S.f.getD i ec)=l at*;split
    ·split
     ·exact⟨λ _=>e,λ x hx=>a.f x (zr hx),a.aM,λ o=>absurd d (by grind)⟩
     ·split
      ·exact a
      ·rename_i b f;exact⟨a.ar,a.f,.inr ⟨b,rfl,Fw h e f⟩,a.none⟩
    grind
  grind
 grind
def TZ{c:ag}(a:S.Good c)(b:BD):(S.lay c b.enc).1.Good c:=by
 unfold ST.lay;split
 ·split
  ·rename_i d;exact⟨a.ar,a.f,.inr ⟨b,rfl,T4 d⟩,a.none⟩
  grind
 grind
def Ge(a:S.Good C.key)(m:MG):(bS C S m).1.Good C.key:=by
 unfold bS;split
 ·exact Zh a _ _
 ·split
  ·exact Uv a _ _ _
  ·split
   ·exact TZ a _
   grind
def Fs{c:CF}:∀(L:List ag) {s a:ST},s.Good c.key->gr c L s=some a->a.Good c.key
 |[],s,a,b,h=>by cases h;exact b
 |r::L,s,a,b,h=>by
  unfold gr at h
  split at h
  ·cases h
  ·split at h
   ·split at h
    ·exact Fs L (Ge b _) h
    ·cases h
   ·cases h
end
