import Derived.Deep.MidRow
import Derived.Test.YtncpbkoinennoaaGreatDoorMAE
import Derived.Test.YtncpbkoinennoaaGreatDoorMAF
set_option linter.all false
set_option maxRecDepth 100000
set_option maxHeartbeats 0
namespace Go.Proofs.YtncpbkoinennoaaGreatDoor
open Go.RowKit Proofs.Tryz
attribute [local irreducible] wpList Calls
variable{g n:Nat}
structure kX(w wx:aa)(cs:Array ab)(g:Nat)(ds:Array ab)(n:Nat):Prop where
 aJ:BW w wx
 a:ah wx w.heap.size 88 cs
 r:ah wx (w.heap.size+1) 88 (ak (List.replicate 16 0))
 c:ah wx g 88 ds
 e:aN (aG ds) n
 cE:w.heap.size+1<g
def kX.below{w d e:aa}{b c:Array ab}(h:kX w d b g c n)(a:BW d e):kX w e b g c n:=
 ⟨h.aJ.trans (a.mono h.aJ.size),(a.block _ h.a.lt).trans h.a,(a.block _ h.r.lt).trans h.r,(a.block _ h.c.lt).trans h.c,h.e,h.cE⟩
def kX.row{w c:aa}{b d a:Array ab}{m:Nat}(h:kX w c b g d n)(e:aN (aG a) m):kX w (c.setRow g a) b g a m:=
 ⟨bL h.aJ (by have:=h.cE;omega) a,h.a.cH a (by have:=h.cE;omega),h.r.cH a (by have:=h.cE;omega),h.c.setRow a,e,h.cE⟩
def NF(a:Nat)(w:aa)(e:Ending)(b:aa):Prop:=(∃r,e=ao (aM #[r,aK (FM.eE a).isSome])/\aN r ((FM.eE a).getD 0))/\BW w b
def Su{u:ab}(b6:aN u g)(w:aa):Calls prog 189 #[u] w (NF g w):=by
 have Q:=Z b6;obtain⟨x,rfl,c2,-⟩:=b6.row;have a0:(prog.info? 88).map (·.size)=some x.size:=by rw[c2];exact dX
 have b7:ah ((w.alloc (.cells x 88)).alloc (.cells (ak (List.replicate 16 0)) 88)) w.heap.size 88 x:=(ah.new _ _ _).alloc _;have b3:ah ((w.alloc (.cells x 88)).alloc (.cells (ak (List.replicate 16 0)) 88)) (w.heap.size+1) 88 (ak (List.replicate 16 0)):=fD w _ 88 _;have b8:=(bJ w (.cells x 88)).alloc zS (.cells (ak (List.replicate 16 0)) 88)
 go_enter func189,ntmps189
 go_upto_region 1 with fail
 rw[<-dK];generalize(w.alloc (.cells x 88)).alloc (.cells (ak (List.replicate 16 0)) 88)=p at*;have B:=Z b7;have J:=Z b3;have M:=Z b8;have y:=Z (show w.heap.size+1<p.heap.size from b3.lt)
 go_cut [4] from 5 to 9 (λ s4 a3=>∃b s,s4=pV b/\kX w a3 x b s (FM.ed g))
 case first=>
  have a2:=Z (λ f=>Cu 249 _ ZC (en 249) 251 zD Q.U f);refine mN (n:=6) (S:=λ f=>BW p f) V V (gv (bp _ _) 1) (λ a=> ?_);refine ay.take (i:=0) (oi:=_) (v:=?vr1) rfl zD V V (λ _ _ _ h=>h) (Or.inl ⟨by kernel_rfl,?CJ⟩) zA ?_;case CJ=>(intro f a7;go_simp;try(with_reducible rfl))
  refine ay.take (i:=1) (oi:=_) (v:=_) rfl zD V V (λ _ _ _ h=>h) (cu V 88 (Operand.tmp 1) rfl w.heap.size zR 88 _ (0,0) _ (λ f h=>(dR h _ (ah.lt B.U)).trans B.U) aY rfl a0) zA ?_;refine ay.take (i:=3) (oi:=_) (v:=_) rfl zD V V (λ _ _ _ h=>h) (cu V 88 (Operand.tmp 1) rfl w.heap.size zR 88 _ (0,0) _ (λ f h=>(dR h _ (ah.lt B.U)).trans B.U) aY rfl a0) zA ?_;refine ay.many (rs:=[2,5]) V zS zS ?_;refine ia.cons (i:=2) (o:=?Wp) ?CG ?IS ?adQ;case CG=>(simp only[sG];exact rfl)
  case IS=>
   intro K j
   go_simp
   refine(a2.U _).mono ?_;rintro e y2 ⟨⟨r,rfl,G⟩,d⟩;have X:=Z G;obtain⟨a1,rfl,a4,-⟩:=G.row;have D:BW p y2:=fL a (dy d (ee a))
   go_simp
   refine j.out _ _ D (λ a=> ?_);refine ay.many (rs:=[4,5]) V zS zS ?_;refine ia.cons (i:=4) (o:=?or3) ?Ta ?SX ?adR;case Ta=>(simp only[sG];exact rfl)
   case SX=>
    intro K j
    go_simp
    refine(eV X.U Q.U _).mono ?_;rintro e y4 ⟨⟨q,rfl,k⟩,d⟩;have C:=Z k;obtain⟨c,rfl,H,E⟩:=k.row;have A:BW p y4:=fL a (dy d (ee a));have z:=Z (And.intro H E)
    go_simp
    refine j.out _ _ A (λ a=> ?_);refine ay.one (i:=5) (o:=?or4) V zD ?Tb ?adD;case Tb=>(simp only[sG];exact rfl)
    intro K j
    go_simp
    rw[<-dK];have N:BW p ((y4.alloc (.cells (ak (List.replicate 16 0)) 88))):=a.alloc (ee a) _;have l:ai (ah ((y4.alloc (.cells (ak (List.replicate 16 0)) 88))) y4.heap.size 88 (ak (List.replicate 16 0))):=Z (ah.new _ _ _);obtain⟨b,t⟩:∃b,y4.heap.size=b:=⟨_,rfl⟩;have R:p.heap.size<=b:=by rw[<-t];exact ee a
    rw[t] at l⊢;generalize(y4.alloc (.cells (ak (List.replicate 16 0)) 88))=y5 at*;have m:=Z R;refine j.out _ _ N (λ a=> ?_);refine ay.tail V ?_;simp only[ck,bH];have F:=l.U;have T:=dI (P:=prog) F c (by rw[z.U.1,cF,ez]) z.U.2;have L:ai (kX w (y5.setRow b c) x b c (FM.ed g)):=Z ⟨bL (M.U.trans (dy a M.U.size)) (by have:=m.U;have:=y.U;omega) c,ah.cH ((dR a _ (ah.lt B.U)).trans B.U) c (by have:=m.U;have:=y.U;omega),ah.cH ((dR a _ (ah.lt J.U)).trans J.U) c (by have:=m.U;have:=y.U;omega),F.setRow c,C.U,by have:=m.U;have:=y.U;omega⟩
    go_wp2
    go_meet
    exact⟨b,c,rfl,L.U⟩
   refine ia.cons (i:=5) (o:=?or5) ?Tc ?SY ?adS;case Tc=>(simp only[sG];exact rfl)
   case SY=>
    intro K j
    go_simp
    rw[<-dK];have N:BW p ((y2.alloc (.cells (ak (List.replicate 16 0)) 88))):=a.alloc (ee a) _;have l:ai (ah ((y2.alloc (.cells (ak (List.replicate 16 0)) 88))) y2.heap.size 88 (ak (List.replicate 16 0))):=Z (ah.new _ _ _);obtain⟨b,t⟩:∃b,y2.heap.size=b:=⟨_,rfl⟩;have R:p.heap.size<=b:=by rw[<-t];exact ee a
    rw[t] at l⊢;generalize(y2.alloc (.cells (ak (List.replicate 16 0)) 88))=y5 at*;have m:=Z R;refine j.out _ _ N (λ a=> ?_);refine ay.one (i:=4) (o:=?Wq) V zD ?CH ?SZ;case CH=>(simp only[sG];exact rfl)
    intro K j
    go_simp
    refine(eV X.U Q.U _).mono ?_;rintro e y4 ⟨⟨q,rfl,k⟩,d⟩;have C:=Z k;obtain⟨c,rfl,H,E⟩:=k.row;have A:BW p y4:=fL a (dy d (ee a));have I:ai (ah y4 b 88 (ak (List.replicate 16 0))):=Z ((d.block _ (ah.lt l.U)).trans l.U);have l:=I;have z:=Z (And.intro H E)
    go_simp
    refine j.out _ _ A (λ a=> ?_);refine ay.tail V ?_;simp only[ck,bH];have F:=l.U;have T:=dI (P:=prog) F c (by rw[z.U.1,cF,ez]) z.U.2;have L:ai (kX w (y4.setRow b c) x b c (FM.ed g)):=Z ⟨bL (M.U.trans (dy a M.U.size)) (by have:=m.U;have:=y.U;omega) c,ah.cH ((dR a _ (ah.lt B.U)).trans B.U) c (by have:=m.U;have:=y.U;omega),ah.cH ((dR a _ (ah.lt J.U)).trans J.U) c (by have:=m.U;have:=y.U;omega),F.setRow c,C.U,by have:=m.U;have:=y.U;omega⟩
    go_wp2
    go_meet
    exact⟨b,c,rfl,L.U⟩
   exact ia.nil
  refine ia.cons (i:=5) (o:=?or7) ?Td ?S0 ?adT;case Td=>(simp only[sG];exact rfl)
  case S0=>
   intro K j
   go_simp
   rw[<-dK];have N:BW p ((p.alloc (.cells (ak (List.replicate 16 0)) 88)).drew):=((bp _ _).alloc (aQ _) _).drew;have l:ai (ah ((p.alloc (.cells (ak (List.replicate 16 0)) 88)).drew) p.heap.size 88 (ak (List.replicate 16 0))):=Z (ah.new _ _ _);obtain⟨b,t⟩:∃b,p.heap.size=b:=⟨_,rfl⟩;have R:p.heap.size<=b:=Nat.le_of_eq t;rw[t] at l;simp only[t];generalize(p.alloc (.cells (ak (List.replicate 16 0)) 88)).drew=y5 at*;have m:=Z R;refine j.out _ _ N (λ a=> ?_);refine ay.one (i:=2) (o:=?or8) V zD ?Te ?adE;case Te=>(simp only[sG];exact rfl)
   intro K j
   go_simp
   refine(a2.U _).mono ?_;rintro e y2 ⟨⟨r,rfl,G⟩,d⟩;have X:=Z G;obtain⟨a1,rfl,a4,-⟩:=G.row;have D:BW p y2:=fL a (dy d (ee a));have I:ai (ah y2 b 88 (ak (List.replicate 16 0))):=Z ((d.block _ (ah.lt l.U)).trans l.U);have l:=I
   go_simp
   refine j.out _ _ D (λ a=> ?_);refine ay.one (i:=4) (o:=?or9) V zD ?Tf ?adF;case Tf=>(simp only[sG];exact rfl)
   intro K j
   go_simp
   refine(eV X.U Q.U _).mono ?_;rintro e y4 ⟨⟨q,rfl,k⟩,d⟩;have C:=Z k;obtain⟨c,rfl,H,E⟩:=k.row;have A:BW p y4:=fL a (dy d (ee a));have I:ai (ah y4 b 88 (ak (List.replicate 16 0))):=Z ((d.block _ (ah.lt l.U)).trans l.U);have l:=I;have z:=Z (And.intro H E)
   go_simp
   refine j.out _ _ A (λ a=> ?_);refine ay.tail V ?_;simp only[ck,bH];have F:=l.U;have T:=dI (P:=prog) F c (by rw[z.U.1,cF,ez]) z.U.2;have L:ai (kX w (y4.setRow b c) x b c (FM.ed g)):=Z ⟨bL (M.U.trans (dy a M.U.size)) (by have:=m.U;have:=y.U;omega) c,ah.cH ((dR a _ (ah.lt B.U)).trans B.U) c (by have:=m.U;have:=y.U;omega),ah.cH ((dR a _ (ah.lt J.U)).trans J.U) c (by have:=m.U;have:=y.U;omega),F.setRow c,C.U,by have:=m.U;have:=y.U;omega⟩
   go_wp2
   go_meet
   exact⟨b,c,rfl,L.U⟩
  exact ia.nil
 case rest=>
  obtain⟨b,s,rfl,a1⟩:=hcut;have l:=Z a1
  go_upto_region 2 with fail
  obtain⟨n,b5⟩:∃n,FM.ed g=n:=⟨_,rfl⟩;rw[b5] at l;have b1:=Z b5;obtain⟨F,a9,a8⟩:∃F,decide (n*n%FM.PN=g)=F/\∀f q,aN q (n*n%FM.PN)->Calls prog 250 #[q,aG x] f λ e I=>e=ao (aK F)/\BW f I:=⟨_,rfl,λ f q k=>Cw k Q.U f⟩;have R:=Z a9;have a5:=Z a8;have b9:=l.U.e.cells;have hd:(prog.info? 88).map (·.size)=some s.size:=by rw[b9.1];exact dX
  refine mN (n:=5) (S:=λ f=>BW wc f) V V (gv (bp _ _) 1) (λ a=> ?_);refine ay.take (i:=0) (oi:=_) (v:=_) rfl zD V V (λ _ _ _ h=>h) (cu V 88 (Operand.tmp 4) rfl b zR 88 _ (0,0) _ (λ f h=>(dR h _ (ah.lt l.U.c)).trans l.U.c) aY rfl hd) zA ?_;refine ay.take (i:=1) (oi:=_) (v:=_) rfl zD V V (λ _ _ _ h=>h) (cu V 88 (Operand.tmp 4) rfl b zR 88 _ (0,0) _ (λ f h=>(dR h _ (ah.lt l.U.c)).trans l.U.c) aY rfl hd) zA ?_;refine ay.take (i:=3) (oi:=_) (v:=_) rfl zD V V (λ _ _ _ h=>h) (cu V 88 (Operand.tmp 1) rfl w.heap.size zR 88 _ (0,0) _ (λ f h=>(dR h _ (ah.lt l.U.a)).trans l.U.a) aY rfl a0) zA ?_;refine ay.one (i:=2) (o:=?adW) V zD ?Tg ?adG;case Tg=>(simp only[sG];exact rfl)
  intro K j
  go_simp
  refine(eV l.U.e l.U.e _).mono ?_;rintro e y2 ⟨⟨q,rfl,k⟩,d⟩;have C:=Z k;have D:BW wc y2:=fL a (dy d (ee a))
  go_simp
  refine j.out _ _ D (λ a=> ?_);refine ay.one (i:=4) (o:=?adX) V zD ?Th ?adH;case Th=>(simp only[sG];exact rfl)
  intro K j
  go_simp
  refine(a5.U _ _ C.U).mono ?_;rintro e y4 ⟨rfl,d⟩;have A:BW wc y4:=fL a (dy d (ee a))
  go_simp
  refine j.out _ _ A (λ a=> ?_);refine ay.tail V ?_;have t:=Z (l.U.below a);simp only[ck,bH];generalize y4=a2 at*
  go_upto_if 15 with fail
  go_cut [] from 16 to 20 (λ a3=>∃c,kX w a3 x b c (FM.gn (FM.ed g) g))
  case first=>
   cases F with
   |true=>
    have m:ai (FM.gn (FM.ed g) g=n):=Z (by rw[b1.U];unfold FM.gn;rw[au (iH R.U)])
    go_wp2
    go_meet
    exact⟨s,by rw[m.U];exact t.U⟩
   |false=>
    have m:ai (FM.gn (FM.ed g) g=n*FM.eW (λ i=>decide (i=2)) 2 252 2%FM.PN):=Z (by rw[b1.U];unfold FM.gn;rw[ar (tc R.U)])
    go_upto_region 3 with fail
    refine mN (n:=5) (S:=λ f=>BW a2 f) V V (gv (bp _ _) 1) (λ a=> ?_);refine ay.take (i:=0) (oi:=_) (v:=_) rfl zD V V (λ _ _ _ h=>h) (cu V 88 (Operand.tmp 4) rfl b zR 88 _ (0,0) _ (λ f h=>(dR h _ (ah.lt t.U.c)).trans t.U.c) aY rfl hd) zA ?_;refine ay.take (i:=1) (oi:=_) (v:=?vt1) rfl zD V V (λ _ _ _ h=>h) (Or.inl ⟨by kernel_rfl,?Tv⟩) zA ?_;case Tv=>(intro f a7;go_simp;try(with_reducible rfl))
    refine ay.one (i:=2) (o:=?ot2) V zD ?Tk ?adK;case Tk=>(simp only[sG];exact rfl)
    intro K j
    go_simp
    refine(yb 2 zD _).mono ?_;rintro e z2 ⟨⟨q,rfl,k⟩,d⟩;have N:=Z k;have D:BW a2 z2:=fL a (dy d (ee a))
    go_simp
    refine j.out _ _ D (λ a=> ?_);refine ay.one (i:=3) (o:=?ot3) V zD ?Tl ?adL;case Tl=>(simp only[sG];exact rfl)
    intro K j
    go_simp
    refine(Cu 251 _ ZD (en 251) 252 zD N.U _).mono ?_;rintro e z3 ⟨⟨q3,rfl,k⟩,d⟩;have X:=Z k;have a6:BW a2 z3:=fL a (dy d (ee a))
    go_simp
    refine j.out _ _ a6 (λ a=> ?_);refine ay.one (i:=4) (o:=?ot4) V zD ?Tm ?adM;case Tm=>(simp only[sG];exact rfl)
    intro K j
    go_simp
    refine(eV t.U.e X.U _).mono ?_;rintro e z4 ⟨⟨q4,rfl,k⟩,d⟩;have a3:=Z k;obtain⟨c,rfl,H,E⟩:=k.row;have z:=Z (And.intro H E);have A:BW a2 z4:=fL a (dy d (ee a))
    go_simp
    refine j.out _ _ A (λ a=> ?_);refine ay.tail V ?_;simp only[ck,bH];have L:=Z (t.U.below a);have T:=dI (P:=prog) L.U.c c (by rw[z.U.1,(t.U.e.cells).1]) z.U.2;have a4:=Z (L.U.row a3.U)
    go_wp2
    go_meet
    exact⟨c,by rw[m.U];exact a4.U⟩
  case rest=>
   obtain⟨s,a1⟩:=hcut;obtain⟨m,b4⟩:∃m,FM.gn (FM.ed g) g=m:=⟨_,rfl⟩;rw[b4] at a1;have b0:=Z b4;have l:=Z a1
   rename aa=>Fl
   go_upto_region 4 with fail
   obtain⟨F,a9,a8⟩:∃F,decide (m*m%FM.PN=g)=F/\∀f q,aN q (m*m%FM.PN)->Calls prog 250 #[q,aG x] f λ e I=>e=ao (aK F)/\BW f I:=⟨_,rfl,λ f q k=>Cw k Q.U f⟩;have R:=Z a9;have a5:=Z a8;have c0:=l.U.e.cells;have hd:(prog.info? 88).map (·.size)=some s.size:=by rw[c0.1];exact dX
   refine mN (n:=5) (S:=λ f=>BW Fl f) V V (gv (bp _ _) 1) (λ a=> ?_);refine ay.take (i:=0) (oi:=_) (v:=_) rfl zD V V (λ _ _ _ h=>h) (cu V 88 (Operand.tmp 4) rfl b zR 88 _ (0,0) _ (λ f h=>(dR h _ (ah.lt l.U.c)).trans l.U.c) aY rfl hd) zA ?_;refine ay.take (i:=1) (oi:=_) (v:=_) rfl zD V V (λ _ _ _ h=>h) (cu V 88 (Operand.tmp 4) rfl b zR 88 _ (0,0) _ (λ f h=>(dR h _ (ah.lt l.U.c)).trans l.U.c) aY rfl hd) zA ?_;refine ay.take (i:=3) (oi:=_) (v:=_) rfl zD V V (λ _ _ _ h=>h) (cu V 88 (Operand.tmp 1) rfl w.heap.size zR 88 _ (0,0) _ (λ f h=>(dR h _ (ah.lt l.U.a)).trans l.U.a) aY rfl a0) zA ?_;refine ay.one (i:=2) (o:=?adY) V zD ?Ti ?adI;case Ti=>(simp only[sG];exact rfl)
   intro K j
   go_simp
   refine(eV l.U.e l.U.e _).mono ?_;rintro e y2 ⟨⟨q,rfl,k⟩,d⟩;have C:=Z k;have D:BW Fl y2:=fL a (dy d (ee a))
   go_simp
   refine j.out _ _ D (λ a=> ?_);refine ay.one (i:=4) (o:=?adZ) V zD ?Tj ?adJ;case Tj=>(simp only[sG];exact rfl)
   intro K j
   go_simp
   refine(a5.U _ _ C.U).mono ?_;rintro e y4 ⟨rfl,d⟩;have A:BW Fl y4:=fL a (dy d (ee a))
   go_simp
   refine j.out _ _ A (λ a=> ?_);refine ay.tail V ?_;have t:=Z (l.U.below a);simp only[ck,bH];cases F with
   |false=>
    have z:ai (FM.eE g=none):=Z (by unfold FM.eE;rw[b0.U];exact ar (tc R.U));have I:=Z (t.U.r.setRow (ak (List.replicate 16 0)));have L:=Z (bL t.U.aJ W (ak (List.replicate 16 0)) (g:=w.heap.size+1));have a3:=t.U.r;have a6:(ak (List.replicate 16 0)).all (·.oneCell')=true:=by kernel_rfl
    have N:(prog.info? 88).map (·.size)=some (ak (List.replicate 16 0)).size:=by rw[cF,ez];exact dX
    have X:ai (aN (aG (ak (List.replicate 16 0))) 0):=Z aN.zero;obtain⟨i,a4⟩:∃i,ak (List.replicate 16 0)=i:=⟨_,rfl⟩;have H:=dK;rw[a4] at I L X a6 a3 N H;have a7:=Z H;clear a4 H t
    go_wp2_with(rw[<-a7.U];refine cm rfl 88 (Operand.tmp 2) (Operand.tmp 27) rfl (w.heap.size+1) i zR zR 88 _ a3 N rfl a6 ?_)
    refine cr (v:= .tuple #[.agg i,.bool false]) (hR Gj _ _ (w.heap.size+1) 88 i (0,0) _ rfl I.U aY rfl N) rfl ?_;refine⟨⟨aG i,?_,?_⟩,L.U⟩
    ·rw[z.U];rfl
    ·rw[z.U];exact X.U
   |true=>
    have z:ai (FM.eE g=some (FM.hS m)):=Z (by unfold FM.eE;rw[b0.U];exact au (iH R.U));have X:=t.U.c
    go_upto_region 6 with fail
    go_wp2_with(refine bD rfl 88 (Operand.tmp 4) rfl b zR 88 s (0,0) _ X aY rfl hd ?_)
    refine(Ix t.U.e _).mono ?_;rintro e c5 ⟨rfl,d⟩;have i:=Z (t.U.below d);clear d X t;cases a7:decide (m%2=1) with
    |false=>
     have a3:ai (FM.hS m=m):=Z (by unfold FM.hS;exact ar (tc a7));clear a7 hd;have a4:ai (aN (aG s) (FM.hS m)):=Z (by rw[a3.U];exact i.U.e);have a6:=i.U.c;have H:=i.U.e.cells;have hd:(prog.info? 88).map (·.size)=some s.size:=by rw[H.1];exact dX
     have T:=dI (P:=prog) i.U.r s (by rw[H.1,cF,ez]) H.2;have I:=Z (i.U.r.setRow s);have L:=Z (bL i.U.aJ W s (g:=w.heap.size+1))
     go_wp2_with(refine bD rfl 88 (Operand.tmp 4) rfl b zR 88 s (0,0) _ a6 aY rfl hd ?_)
     refine cr (v:= .tuple #[.agg s,.bool true]) (hR Gj _ _ (w.heap.size+1) 88 s (0,0) _ rfl I.U aY rfl hd) rfl ?_;refine⟨⟨aG s,?_,?_⟩,L.U⟩
     ·rw[z.U];rfl
     ·rw[z.U];exact a4.U
    |true=>
     have a3:ai (FM.hS m=(FM.PN-m)%FM.PN):=Z (by unfold FM.hS;exact au (iH a7));have X:=i.U.c
     go_upto_region 7 with fail
     go_wp2_with(refine bD rfl 88 (Operand.tmp 4) rfl b zR 88 s (0,0) _ X aY rfl hd ?_)
     refine(ya i.U.e _).mono ?_;rintro e c4 ⟨⟨r,rfl,G⟩,d⟩;obtain⟨t,rfl,c1,E⟩:=G.row;have b2:=Z (i.U.below d);have c3:=dI (P:=prog) b2.U.c t (by rw[c1,i.U.e.cells.1]) E;have N:=Z (b2.U.row G);have a4:ai (aN (aG t) (FM.hS m)):=Z (by rw[a3.U];exact N.U.e);have a6:=N.U.c;have H:=N.U.e.cells;have hd:(prog.info? 88).map (·.size)=some t.size:=by rw[H.1];exact dX
     have T:=dI (P:=prog) N.U.r t (by rw[H.1,cF,ez]) H.2;have I:=Z (N.U.r.setRow t);have L:=Z (bL N.U.aJ W t (g:=w.heap.size+1))
     go_wp2_with(refine bD rfl 88 (Operand.tmp 4) rfl b zR 88 t (0,0) _ a6 aY rfl hd ?_)
     refine cr (v:= .tuple #[.agg t,.bool true]) (hR Gj _ _ (w.heap.size+1) 88 t (0,0) _ rfl I.U aY rfl hd) rfl ?_;refine⟨⟨aG t,?_,?_⟩,L.U⟩
     ·rw[z.U];rfl
     ·rw[z.U];exact a4.U
section
namespace PT
open FM
structure Q4 where
 x:Nat
 y:Nat
 z:Nat
 t:Nat
def lM:Q4:=⟨0,1,1,0⟩
def fT(x y:Nat):Q4:=⟨x,y,1,x*y%PN⟩
def B2:af:=⟨#[163,120,89,19,202,77,235,117,171,216,65,65,77,10,112,0,152,232,121,119,121,64,199,140,115,254,111,43,238,108,3,82]⟩
def cK:Nat:=iv B2
def bM(a b:Nat):Nat:=(a+(PN-b))%PN
def bt(a b:Nat):Nat:=(a+b)%PN
def aF(a b:Nat):Nat:=a*b%PN
def ek(a:Nat):Nat:=(PN-a)%PN
def hH(v w:Q4):Nat:=aF (bM v.y v.x) (bM w.y w.x)
def iq(v w:Q4):Nat:=aF (bt v.y v.x) (bt w.y w.x)
def gO(v w:Q4):Nat:=bt (aF (aF v.t w.t) cK) (aF (aF v.t w.t) cK)
def hI(v w:Q4):Nat:=bt (aF v.z w.z) (aF v.z w.z)
def JH(a b c z:Nat):Q4:=⟨aF (bM b a) (bM z c),aF (bt b a) (bt z c),aF (bt z c) (bM z c),aF (bM b a) (bt b a)⟩
def ga(v w:Q4):Q4:=JH (hH v w) (iq v w) (gO v w) (hI v w)
def tb(v:Q4):Q4:=⟨ek v.x,v.y,v.z,ek v.t⟩
def dt(s:af)(i:Nat):Nat:=if i/8<s.size then(s.data.toList.getD (i/8) 0).toNat/2^(i%8)%2 else 0
def ps(k:af)(p:Q4):Nat->Q4->Q4
 |0,r=>r
 |i+1,r=>ps k p i (if dt k i=1 then ga (ga r r) p else ga r r)
def Df(k:af)(p r:Q4)(i:Nat):ps k p (i+1) r=ps k p i (if dt k i=1 then ga (ga r r) p else ga r r):=rfl
def fR(p:Q4)(k:af):Q4:=ps k p 256 lM
def Ci(v:Q4):Nat:=aF v.y (cZ v.z)
def vf(v:Q4):Nat:=aF v.x (cZ v.z)
def hK(v:Q4):af:=enc (Ci v+if vf v%2=1 then 57896044618658097711785492504343953926634992332820282019728792003956564819968 else 0)
def cN(s:af):af:=⟨((s.data.toList.take 31)++[UInt8.ofNat ((s.data.toList.getD 31 0).toNat%128)]).toArray⟩
def iG(s:af):Bool:=decide (128<=(s.data.toList.getD 31 0).toNat)
def kj(y:Nat):Option Nat:=eE (aF (bM (aF y y) 1) (cZ (bt (aF cK (aF y y)) 1)))
def cD(s:af):Option Q4:=
 if s.size=32 then
  if dq (cN s)=0 then
   match kj (dE (cN s)) with
   |none=>none
   |some x=>if iG s&&decide (x=0) then none else some (fT (if iG s then ek x else x) (dE (cN s)))
  else none
 else none
end PT
open PT
def q4(A B C D:Array ab):Array ab:=A++B++C++D
structure QR(A B C D:Array ab)(q:Q4):Prop where
 x:aN (aG A) q.x
 y:aN (aG B) q.y
 z:aN (aG C) q.z
 t:aN (aG D) q.t
def mX(v:ab)(q:Q4):Prop:=∃A B C D,v=aG (q4 A B C D)/\QR A B C D q
def fM(v:ab)(q:Q4):Prop:=∃(b:Bool) (A B C D:Array ab) (p:Q4),v=aG (#[aK b]++q4 A B C D)/\QR A B C D p/\(b=true->p=q)/\(b=false->lM=q)
def QR.zr{A B C D:Array ab}{q:Q4}(h:QR A B C D q):A.size=16/\B.size=16/\C.size=16/\D.size=16:=⟨h.x.cells.1,h.y.cells.1,h.z.cells.1,h.t.cells.1⟩
def QR.size{A B C D:Array ab}{q:Q4}(h:QR A B C D q):(q4 A B C D).size=64:=by
 obtain⟨a,b,c,d⟩:=h.zr;simp[q4,a,b,c,d]
def QR.one{A B C D:Array ab}{q:Q4}(h:QR A B C D q):∀u∈(q4 A B C D).toList,u.oneCell'=true:=by
 intro u a;simp only[q4,Ae,eB] at a;rcases a with((a|a)|a)|a
 ·exact h.x.cells.2 u a
 ·exact h.y.cells.2 u a
 ·exact h.z.cells.2 u a
 ·exact h.t.cells.2 u a
def QR.at{w:aa}{g o:Nat}{t:TypeId}{A B C D c:Array ab}{q:Q4}(h:QR A B C D q)(m:ah w g t c)(p:c.extract o (o+64)=q4 A B C D):
 w.rangeAt g o A.toList/\w.rangeAt g (o+16) B.toList/\w.rangeAt g (o+32) C.toList/\w.rangeAt g (o+48) D.toList:=by
 obtain⟨e,f,i,l⟩:=h.zr
 have d:=World.rangeAt_of_block m o 64
 rw[p] at d
 have b:∀(k:Nat) (X:Array ab),(∀j v,X.toList[j]?=some v->(q4 A B C D).toList[k+j]?=some v)->w.rangeAt g (o+k) X.toList:=λ k X n j v a=>by
  have:=d (k+j) v (n j v a)
  grind
 have k:(q4 A B C D).toList=A.toList++(B.toList++(C.toList++D.toList)):=by simp[q4]
 have lt:∀(X:Array ab) (j:Nat) (v:ab),X.size=16->X.toList[j]?=some v->j<16:=by grind
 have n:A.toList.length=16:=by simp[e]
 have r:B.toList.length=16:=by simp[f]
 have s:C.toList.length=16:=by simp[i]
 refine⟨b 0 A λ j v a=> ?_,b 16 B λ j v a=> ?_,b 32 C λ j v a=> ?_,b 48 D λ j v a=> ?_⟩
 ·grind
 ·grind
 ·grind
 ·have:=lt D j v l a
  rw[k,iR W,iR W,iR W,n,r,s,show 48+j-16-16-16=j by omega];exact a
def K3{A B C D:Array ab}{q:Q4}(h:QR A B C D q):(q4 A B C D).extract 0 (0+64)=q4 A B C D:=by
 rw[dz,<-h.size];simp
def XE{A B C D:Array ab}{q:Q4}(h:QR A B C D q)(b:ab):(#[b]++q4 A B C D).extract 1 (1+64)=q4 A B C D:=by
 have a:=h.size;simp_all
def nw{A:Array ab}(h:A.size=16):∃a b j k m n o p q r c d e f g i,A=#[a,b,j,k,m,n,o,p,q,r,c,d,e,f,g,i]:=by
 obtain⟨l⟩:=A
 match l,h with
 |[a,b,j,k,m,n,o,p,q,r,c,d,e,f,g,i],_=>simp
def Pd(a b i j k l m n o p c d e f g h q r y z A B C D b8 E s t u v w x F G N P Q R S T X a0 H I J K L M e0 e1 e2 e3 e4 e5 e6 e7 e8 e9 iX iY iZ ja ix iy:ab):prog.built 90 [(0,aG #[a,b,i,j,k,l,m,n,o,p,c,d,e,f,g,h]),(1,aG #[q,r,y,z,A,B,C,D,b8,E,s,t,u,v,w,x]),(2,aG #[F,G,N,P,Q,R,S,T,X,a0,H,I,J,K,L,M]),(3,aG #[e0,e1,e2,e3,e4,e5,e6,e7,e8,e9,iX,iY,iZ,ja,ix,iy])]=some (q4 #[a,b,i,j,k,l,m,n,o,p,c,d,e,f,g,h] #[q,r,y,z,A,B,C,D,b8,E,s,t,u,v,w,x] #[F,G,N,P,Q,R,S,T,X,a0,H,I,J,K,L,M] #[e0,e1,e2,e3,e4,e5,e6,e7,e8,e9,iX,iY,iZ,ja,ix,iy]):=by kernel_rfl
def Pe(a b i j k l m n o p c d e f g h q r y z A B C D b8 E s t u v w x F G N P Q R S T X a0 H I J K L M e0 e1 e2 e3 e4 e5 e6 e7 e8 e9 iX iY iZ ja ix iy:ab):prog.built 92 [(0,aK true),(1,aG (q4 #[a,b,i,j,k,l,m,n,o,p,c,d,e,f,g,h] #[q,r,y,z,A,B,C,D,b8,E,s,t,u,v,w,x] #[F,G,N,P,Q,R,S,T,X,a0,H,I,J,K,L,M] #[e0,e1,e2,e3,e4,e5,e6,e7,e8,e9,iX,iY,iZ,ja,ix,iy]))]=some (#[aK true]++q4 #[a,b,i,j,k,l,m,n,o,p,c,d,e,f,g,h] #[q,r,y,z,A,B,C,D,b8,E,s,t,u,v,w,x] #[F,G,N,P,Q,R,S,T,X,a0,H,I,J,K,L,M] #[e0,e1,e2,e3,e4,e5,e6,e7,e8,e9,iX,iY,iZ,ja,ix,iy]):=by kernel_rfl
def G1{A B C D:Array ab}{q:Q4}(h:QR A B C D q):prog.built 90 [(0,aG A),(1,aG B),(2,aG C),(3,aG D)]=some (q4 A B C D):=by
 obtain⟨a7,a8,a9,b0⟩:=h.zr;clear h;obtain⟨a,b,j,k,l,m,n,o,p,r,c,d,e,f,g,i,rfl⟩:=nw a7;obtain⟨s,t,E,F,G,H,I,J,b8,K,u,v,w,x,y,z,rfl⟩:=nw a8;obtain⟨L,M,X,a0,a1,a2,a3,a4,a5,a6,N,P,Q,R,S,T,rfl⟩:=nw a9;obtain⟨e0,e1,e2,e3,e4,e5,e6,e7,e8,e9,iX,iY,iZ,ja,ix,iy,rfl⟩:=nw b0;exact Pd a b j k l m n o p r c d e f g i s t E F G H I J b8 K u v w x y z L M X a0 a1 a2 a3 a4 a5 a6 N P Q R S T e0 e1 e2 e3 e4 e5 e6 e7 e8 e9 iX iY iZ ja ix iy
def BJ{A B C D:Array ab}{q:Q4}(h:QR A B C D q):prog.built 92 [(0,aK true),(1,aG (q4 A B C D))]=some (#[aK true]++q4 A B C D):=by
 obtain⟨a7,a8,a9,b0⟩:=h.zr;clear h;obtain⟨a,b,j,k,l,m,n,o,p,r,c,d,e,f,g,i,rfl⟩:=nw a7;obtain⟨s,t,E,F,G,H,I,J,b8,K,u,v,w,x,y,z,rfl⟩:=nw a8;obtain⟨L,M,X,a0,a1,a2,a3,a4,a5,a6,N,P,Q,R,S,T,rfl⟩:=nw a9;obtain⟨e0,e1,e2,e3,e4,e5,e6,e7,e8,e9,iX,iY,iZ,ja,ix,iy,rfl⟩:=nw b0;exact Pe a b j k l m n o p r c d e f g i s t E F G H I J b8 K u v w x y z L M X a0 a1 a2 a3 a4 a5 a6 N P Q R S T e0 e1 e2 e3 e4 e5 e6 e7 e8 e9 iX iY iZ ja ix iy
def yo:(prog.info? 90).map (·.size)=some 64:=by kernel_rfl
def nK:(prog.info? 92).map (·.size)=some 65:=by kernel_rfl
def QR.p{A B C D:Array ab}{q:Q4}(h:QR A B C D q):fM (aG (#[aK true]++q4 A B C D)) q:=⟨true,A,B,C,D,q,rfl,h,λ _=>rfl,λ h=>by cases h⟩
def ka(v:ab)(q:Q4):Prop:=∃A B C D:Array ab,v=aG (#[aK true]++q4 A B C D)/\QR A B C D q
def ka.p{v:ab}{q:Q4}(h:ka v q):fM v q:=by
 obtain⟨A,B,C,D,rfl,a⟩:=h;exact a.p
def fM.row{v:ab}{q:Q4}(h:fM v q):∃a:Array ab,v=aG a/\a.size=65/\∀u∈a.toList,u.oneCell'=true:=by
 obtain⟨b,A,B,C,D,p,rfl,c,-,-⟩:=h;refine⟨_,rfl,by simp[c.size],λ u a=> ?_⟩;simp only[Ae,eB] at a;rcases a with a|a
 ·simp at a;subst a;rfl
 ·exact c.one u a
end
variable{k:Nat}
section
open PT
def DI{u v:ab}(L:aN u n)(M:aN v k)(w:aa):Calls prog 192 #[u,v] w λ e a=>(∃r,e=ao r/\ka r (fT n k))/\BW w a:=by
 obtain⟨b,rfl,a1,d⟩:=L.row;obtain⟨c,rfl,hd,a4⟩:=M.row;have J:(prog.info? 88).map (·.size)=some b.size:=by rw[a1];exact dX
 have K:(prog.info? 88).map (·.size)=some c.size:=by rw[hd];exact dX
 have t:ah ((w.alloc (.cells b 88)).alloc (.cells c 88)) w.heap.size 88 b:=(ah.new _ _ _).alloc _;have x:ah ((w.alloc (.cells b 88)).alloc (.cells c 88)) (w.heap.size+1) 88 c:=fD w _ 88 _;have y:=(bJ w (.cells b 88)).alloc zS (.cells c 88);have F:=Z L;have G:=Z M
 go_enter func192,ntmps192
 go_upto_region 1 with fail
 have a0:ah (((w.alloc (.cells b 88)).alloc (.cells c 88)).alloc (.cells zeroCells92 92)) (w.heap.size+1+1) 92 zeroCells92:=by have:=ah.new ((w.alloc (.cells b 88)).alloc (.cells c 88)) 92 zeroCells92;simpa using this
 have t:=t.alloc (.cells zeroCells92 92);have x:=x.alloc (.cells zeroCells92 92);have y:=y.alloc (by simp;omega) (.cells zeroCells92 92);generalize(((w.alloc (.cells b 88)).alloc (.cells c 88)).alloc (.cells zeroCells92 92))=R at*;have m:=Z t;have p:=Z x;have z:=Z a0;have E:=Z y;refine kW 8 (λ f=> ?_);refine W2 0 5 rfl rfl (cu V 88 (Operand.tmp 2) rfl (w.heap.size) zR 88 _ (0,0) _ (λ e h=>(dR h _ (ah.lt m.U)).trans m.U) aY rfl J) f ?_;refine W2 1 6 rfl rfl (cu V 88 (Operand.tmp 3) rfl (w.heap.size+1) zR 88 _ (0,0) _ (λ e h=>(dR h _ (ah.lt p.U)).trans p.U) aY rfl K) f ?_;refine W2 3 8 rfl rfl (cu V 88 (Operand.tmp 2) rfl (w.heap.size) zR 88 _ (0,0) _ (λ e h=>(dR h _ (ah.lt m.U)).trans m.U) aY rfl J) f ?_;refine W2 4 9 rfl rfl (cu V 88 (Operand.tmp 3) rfl (w.heap.size+1) zR 88 _ (0,0) _ (λ e h=>(dR h _ (ah.lt p.U)).trans p.U) aY rfl K) f ?_;refine ay.free (w0:=R) [(2,7),(5,10),(6,11),(7,12)] [] (λ i v=>match i with|2=>aN v 1|5=>aN v (n*k%FM.PN)|6=>mX v (fT n k)|7=>ka v (fT n k)|_=>True) V V f ⟨λ o d=> ?_,OC (eV F.U G.U),λ o d=> ?_,λ o d=> ?_,trivial⟩ (λ Q a2 N X a3=> ?_)
 ·simp only[sG] at d;subst d;refine dA.call 185 rfl rfl rfl (en 185) zD rfl (λ a e s j I=> ?_);simp only[ke,bZ,eg,eval_const];exact yb 1 zD e
 ·simp only[sG] at d;subst d;refine dA.build rfl rfl zD rfl (λ a e s j I=> ?_);have e0:=s 5 _ V rfl;have e1:=s 6 _ V rfl;obtain⟨P,e2,q⟩:=j 2 7 V;obtain⟨a5,e3,H⟩:=j 5 10 V;simp only[bZ,eg,e0,e1,e2,e3];obtain⟨S,rfl,-,-⟩:=aN.row q.1;obtain⟨T,rfl,-,-⟩:=aN.row H.1;have l:QR b c S T (fT n k):=⟨F.U,G.U,q.1,H.1⟩;exact⟨_,G1 l,_,_,_,_,rfl,l⟩
 ·simp only[sG] at d;subst d;refine dA.build rfl rfl zD rfl (λ a e s j I=> ?_);obtain⟨P,e0,q⟩:=j 6 11 V;simp only[bZ,eg,eval_const,e0];obtain⟨A,B,C,D,rfl,l⟩:=(show mX P (fT n k) from q.1);exact⟨_,BJ l,_,_,_,_,rfl,l⟩
 have j:ka (Q 7) (fT n k):=(X 7 zD).1;simp only[ky,qh,lW,nc];simp only[tY,kd];generalize Q 7=r at j;obtain⟨a,rfl,s,S⟩:=j.p.row;have l:ah a2 (w.heap.size+1+1) 92 zeroCells92:=(dR N _ (ah.lt z.U)).trans z.U;have H:=Z (bL (E.U.trans (dy N E.U.size)) W a (g:=w.heap.size+1+1));have A:=Z (l.setRow a);have q:(prog.info? 92).map (·.size)=some a.size:=by rw[s];exact nK
 have P:zeroCells92.size=a.size:=by rw[s];kernel_rfl
 have I:a.all (·.oneCell')=true:=by rw[<-pX,hl];exact S
 have C:=Z j
 go_wp2_with(refine cm rfl 92 (Operand.tmp 4) (Operand.tmp 12) rfl (w.heap.size+1+1) a zR zR 92 _ l q P I ?_)
 refine cr (v:= .agg a) (fI results192 _ _ (w.heap.size+1+1) 92 a (0,0) _ rfl A.U fC rfl q) rfl ?_;exact⟨⟨_,rfl,C.U⟩,H.U⟩
end
section
open PT
def R0{A B C D:Array ab}{q:Q4}(h:QR A B C D q)(b:ab)(w:aa):(Instr.field 92 (aG (#[b]++q4 A B C D)) 1).run prog w= .ok (aG (q4 A B C D)) w:=by
 have a:=yo;have e:=xt;have f:=fC;simp only[Instr.field,cO,hX f,dd];simp[part,isAgg,cO,hX e,asAgg,sizeOf,typeInfo];cases d:prog.info? 90 with
 |none=>rw[d] at a;cases a
 |some i=>
  rw[d] at a;have:i.size=64:=by simpa using a
  have c:=K3 h;rw[dz] at c;simp[this,c]
def KN(w:aa):Calls prog 102 #[] w λ e b=>(∃r,e=ao r/\ka r lM)/\BW w b:=by
 have t:ah (w.alloc (.cells zeroCells92 92)) w.heap.size 92 zeroCells92:=ah.new _ _ _;have x:=bJ w (.cells zeroCells92 92);have c:=Z t;have d:=Z x;have z:∀a:aa,Calls prog 185 #[U 1] a λ e b=>(∃r,e=ao r/\aN r 1)/\BW a b:=λ a=>yb 1 zD a;have q:=Z z;have j:∀(a:aa) (r:ab),aN r 1->Calls prog 192 #[aG (ak (List.replicate 16 0)),r] a λ e b=>(∃r,e=ao r/\ka r lM)/\BW a b:=λ a r b=>DI aN.zero b a;rw[dK] at j;have s:=Z j
 go_enter func102,ntmps102
 go_upto_region 1 with fail
 generalize w.alloc (.cells zeroCells92 92)=E at*
 go_wp2_with fail
 refine(q.U _).mono ?_;rintro e F ⟨⟨o,rfl,A⟩,h⟩
 go_wp2_with fail
 refine(s.U _ _ A).mono ?_;rintro e D ⟨⟨r,rfl,b⟩,y⟩;obtain⟨a,rfl,k,C⟩:=b.p.row;have l:=h.trans (dy y h.size);have f:ah D w.heap.size 92 zeroCells92:=(dR l _ (ah.lt c.U)).trans c.U;have p:=Z (bL (d.U.trans (dy l d.U.size)) W a (g:=w.heap.size));have m:=Z (f.setRow a);have i:(prog.info? 92).map (·.size)=some a.size:=by rw[k];exact nK
 have B:zeroCells92.size=a.size:=by rw[k];kernel_rfl
 have u:a.all (·.oneCell')=true:=by rw[<-pX,hl];exact C
 have n:=Z b
 go_wp2_with(refine cm rfl 92 (Operand.tmp 0) (Operand.tmp 3) rfl (w.heap.size) a zR zR 92 _ f i B u ?_)
 refine cr (v:= .agg a) (fI results102 _ _ (w.heap.size) 92 a (0,0) _ rfl m.U fC rfl i) rfl ?_;exact⟨⟨_,rfl,n.U⟩,p.U⟩
end
section
open PT
def Aa:ak (List.replicate 64 0)=#[O 0,O 0,O 0,O 0,O 0,O 0,O 0,O 0,O 0,O 0,O 0,O 0,O 0,O 0,O 0,O 0,O 0,O 0,O 0,O 0,O 0,O 0,O 0,O 0,O 0,O 0,O 0,O 0,O 0,O 0,O 0,O 0,O 0,O 0,O 0,O 0,O 0,O 0,O 0,O 0,O 0,O 0,O 0,O 0,O 0,O 0,O 0,O 0,O 0,O 0,O 0,O 0,O 0,O 0,O 0,O 0,O 0,O 0,O 0,O 0,O 0,O 0,O 0,O 0]:=by kernel_rfl
def EI:(ak (List.replicate 64 0)).size=64:=by rw[cF,ez]
structure WH(w wr:aa)(cs:Array ab)(b:Bool)(A B C D:Array ab):Prop where
 aJ:BW w wr
 cell:wr.cell? ⟨w.heap.size,0,none⟩=some (aK b)
 a:wr.rangeAt w.heap.size 1 (q4 A B C D).toList
 room:ah wr (w.heap.size+1) 90 (ak (List.replicate 64 0))
def WH.mk'{A B C D:Array ab}{p:Q4}(e:QR A B C D p)(b:Bool)(w:aa){a:Array ab}(d: #[Value.bool b]++q4 A B C D=a):
 WH w ((w.alloc (.cells a 92)).alloc (.cells (ak (List.replicate 64 0)) 90)) a b A B C D:=by
 have c:ah ((w.alloc (.cells a 92)).alloc (.cells (ak (List.replicate 64 0)) 90)) w.heap.size 92 a:=(ah.new _ _ _).alloc _
 refine⟨(bJ w _).alloc zS _,?_,?_,fD w _ 90 _⟩
 ·rw[nD _ _ _ _ _ _ c,<-d];simp[Array.getElem?_append]
 ·have:=World.rangeAt_of_block c 1 64
  rwa[show a.extract 1 (1+64)=q4 A B C D by rw[<-d];exact XE e (aK b)] at this
def yY{v:ab}{q:Q4}(J:fM v q)(w:aa):Calls prog 105 #[v] w λ e a=>(∃r,e=ao r/\mX r q)/\BW w a:=by
 obtain⟨b,A,B,C,D,p,rfl,k,I,H⟩:=J;obtain⟨s,E⟩:∃s,#[Value.bool b]++q4 A B C D=s:=⟨_,rfl⟩;have y:=WH.mk' k b w E;have G:=Z KN;rw[E]
 go_enter func105,ntmps105
 go_upto_region 1 with fail
 rw[<-Aa];generalize(w.alloc (.cells s 92)).alloc (.cells (ak (List.replicate 64 0)) 90)=Q at*;have N:=y.cell;have u:(prog.info? 90).map (·.size)=some (q4 A B C D).size:=by rw[k.size];exact yo
 have i:=Z y;cases b with
 |false=>
  have e:=H rfl;subst e
  go_wp2_with fail
  refine(G.U _).mono ?_;rintro e K ⟨⟨r,rfl,⟨c,d,f,h,rfl,l⟩⟩,z⟩;have P:=λ a=>R0 l (aK true) a;have j:ah K (w.heap.size+1) 90 (ak (List.replicate 64 0)):=(dR z _ (ah.lt i.U.room)).trans i.U.room;have o:=Z (bL (i.U.aJ.trans (dy z i.U.aJ.size)) W (q4 c d f h) (g:=w.heap.size+1));have m:=Z (j.setRow (q4 c d f h));have F:(prog.info? 90).map (·.size)=some (q4 c d f h).size:=by rw[l.size];exact yo
  have x:(ak (List.replicate 64 0)).size=(q4 c d f h).size:=by rw[l.size,EI]
  have t:(q4 c d f h).all (·.oneCell')=true:=by rw[<-pX,hl];exact l.one
  have n:ai (mX (aG (q4 c d f h)) lM):=Z ⟨_,_,_,_,rfl,l⟩;generalize q4 c d f h=a at*;generalize ak (List.replicate 64 0)=L at*;generalize #[Value.bool true]++a=M at*
  go_wp2_with(refine cm rfl 90 (Operand.tmp 2) (Operand.tmp 7) rfl (w.heap.size+1) a zR zR 90 _ j F x t ?_)
  refine cr (v:= .agg a) (fI results105 _ _ (w.heap.size+1) 90 a (0,0) _ rfl m.U xt rfl F) rfl ?_;exact⟨⟨_,rfl,n.U⟩,o.U⟩
 |true=>
  have e:=I rfl;subst e;have d:=i.U.a;have j:=i.U.room;have o:=Z (bL i.U.aJ W (q4 A B C D) (g:=w.heap.size+1));have m:=Z (j.setRow (q4 A B C D));have x:(ak (List.replicate 64 0)).size=(q4 A B C D).size:=by rw[k.size,EI]
  have t:(q4 A B C D).all (·.oneCell')=true:=by rw[<-pX,hl];exact k.one
  have n:ai (mX (aG (q4 A B C D)) p):=Z ⟨_,_,_,_,rfl,k⟩;generalize q4 A B C D=a at*;generalize ak (List.replicate 64 0)=L at*;have c:(prog.info? 90).map (·.size)=some a.toList.length:=by rw[iO];exact u
  go_wp2_with(first|refine Fm rfl 90 (Operand.tmp 8) rfl w.heap.size 1 zR a.toList _ d xt rfl c ?_|refine cm rfl 90 (Operand.tmp 2) (Operand.tmp 9) rfl (w.heap.size+1) a zR zR 90 _ j u x t ?_)
  refine cr (v:= .agg a) (fI results105 _ _ (w.heap.size+1) 90 a (0,0) _ rfl m.U xt rfl u) rfl ?_;exact⟨⟨_,rfl,n.U⟩,o.U⟩
end
variable{a:Act}{o:Oper}{t:TypeId}
section
open PT
structure St(w wr:aa)(l:List (Nat×TypeId×Array ab)):Prop where
 aJ:BW w wr
 own:∀p∈l,w.heap.size<=p.1
 a:∀p∈l,ah wr p.1 p.2.1 p.2.2
 b:(l.map (·.1)).Nodup
def St.start(w:aa):St w w []:=⟨bp _ _,(λ p a=>by cases a),(λ p a=>by cases a),F1⟩
def St.lt{w wr:aa}{l:List (Nat×TypeId×Array ab)}(h:St w wr l):∀p∈l,p.1<wr.heap.size:=λ p a=>ah.lt (h.a p a)
def St.get{w wr:aa}{l:List (Nat×TypeId×Array ab)}(h:St w wr l){cs:Array ab}(a:(g,t,cs)∈l):ah wr g t cs:=h.a _ a
def Di{l:List (Nat×TypeId×Array ab)}(h:(l.map (·.1)).Nodup){a:Array ab}(b:∀p∈l,p.1≠g):(((g,t,a)::l).map (·.1)).Nodup:=by
 grind
def St.alloc{w wr:aa}{l:List (Nat×TypeId×Array ab)}(h:St w wr l)(b:Array ab)(t:TypeId):St w (wr.alloc (.cells b t)) ((wr.heap.size,t,b)::l):=by
 refine⟨h.aJ.alloc h.aJ.size _,λ p a=> ?_,λ p a=> ?_,Di h.b λ p a=>by have:=h.lt p a;omega⟩
 ·rcases bO.1 a with rfl|a
  ·exact h.aJ.size
  ·exact h.own p a
 ·rcases bO.1 a with rfl|a
  ·exact ah.new _ _ _
  ·exact(h.a p a).alloc _
def St.below{w wr c:aa}{l:List (Nat×TypeId×Array ab)}(h:St w wr l)(b:BW wr c):St w c l:=
 ⟨h.aJ.trans (dy b h.aJ.size),h.own,(λ p a=>(dR b _ (h.lt p a)).trans (h.a p a)),h.b⟩
def St.add{w wr:aa}{l:List (Nat×TypeId×Array ab)}(h:St w wr l){f:Array ab}(e:ah wr g t f)(d:w.heap.size<=g)(c:∀p∈l,p.1≠g)(b:Array ab):St w (wr.setRow g b) ((g,t,b)::l):=by
 refine⟨bL h.aJ d b,λ p a=> ?_,λ p a=> ?_,Di h.b c⟩
 ·rcases bO.1 a with rfl|a
  ·exact d
  ·exact h.own p a
 ·rcases bO.1 a with rfl|a
  ·exact e.setRow b
  ·exact(h.a p a).cH b (c p a)
def St.fresh{w wr:aa}{l:List (Nat×TypeId×Array ab)}(h:St w wr l)(c a:Array ab)(t:TypeId):St w ((wr.alloc (.cells c t)).setRow wr.heap.size a) ((wr.heap.size,t,a)::l):=by
 have d:St w (wr.alloc (.cells c t)) l:=⟨h.aJ.alloc h.aJ.size _,h.own,(λ p b=>(h.a p b).alloc _),h.b⟩;exact d.add (ah.new _ _ _) h.aJ.size (λ p b=>by have:=h.lt p b;omega) a
def St.setAt{w wr:aa}(f i:List (Nat×TypeId×Array ab)){c:Array ab}(h:St w wr (f++(g,t,c)::i))(b:Array ab):St w (wr.setRow g b) (f++(g,t,b)::i):=by
 have j:=h.b;rw[jy,bZ,lV] at j;obtain⟨m,k,l⟩:=j;rw[ue] at k;have e:(g,t,c)∈f++(g,t,c)::i:=by simp
 refine⟨bL h.aJ (h.own _ e) b,λ p a=> ?_,λ p a=> ?_,?_⟩
 ·rcases eB.1 a with a|a
  ·exact h.own p (oB _ a)
  ·rcases bO.1 a with rfl|a
   ·exact h.own (g,t,c) e
   ·exact h.own p (rT _ (mQ a))
 ·rcases eB.1 a with a|a
  ·refine(h.a p (oB _ a)).cH b λ d=> ?_;exact l p.1 (eH.2 ⟨p,a,rfl⟩) g zS d
  ·rcases bO.1 a with rfl|a
   ·exact(h.a _ e).setRow b
   ·refine(h.a p (rT _ (mQ a))).cH b λ d=> ?_;exact k.1 (eH.2 ⟨p,a,d⟩)
 ·have:=h.b;simpa using this
def rK{ops:Array Oper}{rest:List Oper}{w:aa}{Q:Exit->Act->aa->Prop}(i:o.guard=none)(e:TypeId)(x:Operand)(j:o.op= .load e x)
 (b f:Nat) (hx:a.eval x= .pointer (some ⟨b,f,none⟩)) (c:Array ab) (d:TypeDesc) (g:w.rangeAt b f c.toList)
 (k:prog.underlying e=some d) (hd:d.isRow=true) (l:(prog.info? e).map (·.size)=some c.size)
 (h:wpList prog ops Q rest (a.put o.dst (aG c)) w):wpList prog ops Q (o::rest) a w:=
 Fm i e x j b f hx c.toList d g k hd W (by simpa using h)
def ah.up{w b:aa}{a:Array ab}(h:ah w g t a)(c:BW w b):ah b g t a:=(dR c _ (ah.lt h)).trans h
def mh(w:aa):(Instr.alloc 88 true (aM #[])).run prog w= .ok (pV w.heap.size) (w.alloc (.cells (ak (List.replicate 16 0)) 88)):=by
 rw[dK];go_simp
def Gx(w:aa):(Instr.alloc 90 true (aM #[])).run prog w= .ok (pV w.heap.size) (w.alloc (.cells (ak (List.replicate 64 0)) 90)):=by
 rw[Aa];go_simp
def mO{ops:Array Oper}{S:aa->Prop}(j:Region.wanted o (yielded ops a.tmps)=true)(e:TypeId)(x:Operand)(h:o.op= .load e x)
 (b f:Nat) (hx:a.eval x= .pointer (some ⟨b,f,none⟩)) (c:Array ab) (d:TypeDesc) (g:∀w,S w->w.rangeAt b f c.toList)
 (i:prog.underlying e=some d) (hd:d.isRow=true) (k:(prog.info? e).map (·.size)=some c.size):YieldsIf prog ops S o (.agg c) a:=by
 have:=M9 (P:=prog) (S:=S) j e x h b f hx c.toList d g i hd W
 simp_all
def aN.info{A:Array ab}{n:Nat}(h:aN (aG A) n):(prog.info? 88).map (·.size)=some A.size:=by rw[h.cells.1];exact dX
def aN.all{A:Array ab}{n:Nat}(h:aN (aG A) n):A.all (·.oneCell')=true:=by rw[<-pX,hl];exact h.cells.2
def aN.hold{A:Array ab}(h:aN (aG A) n):(ak (List.replicate 16 0)).size=A.size:=by rw[h.cells.1,cF,ez]
def QR.info{A B C D:Array ab}{q:Q4}(h:QR A B C D q):(prog.info? 90).map (·.size)=some (q4 A B C D).size:=by rw[h.size];exact yo
def QR.all{A B C D:Array ab}{q:Q4}(h:QR A B C D q):(q4 A B C D).all (·.oneCell')=true:=by rw[<-pX,hl];exact h.one
def QR.hold{A B C D:Array ab}{q:Q4}(h:QR A B C D q):(ak (List.replicate 64 0)).size=(q4 A B C D).size:=by rw[h.size,EI]
def QR.of{w:aa}{A B C D:Array ab}{q:Q4}(h:QR A B C D q)(a:ah w g t (q4 A B C D)):
 w.rangeAt g 0 A.toList/\w.rangeAt g 16 B.toList/\w.rangeAt g 32 C.toList/\w.rangeAt g 48 D.toList:=by
 have:=h.at a (K3 h)
 omega
end
variable{m:List Nat}
def rL(n:Int):IntKind.u64.wrap n=n%18446744073709551616:=by rfl
def aV(l:List Nat):Array ab:=(l.map λ(x:Nat)=>Value.int .u64 (x:Int)).toArray
def Wd(l:List Nat):(aV l).size=l.length:=by simp[aV]
def lB(h:m[k]?=some g):(aV m)[k]?=some (U (g:Int)):=by
 simp only[aV,iS,ef,h];rfl
def yK(l:List Nat)(k x:Nat):(aV l).setIfInBounds k (U (x:Int))=aV (l.set k x):=by
 simp only[aV,aS,lU]
def vG(l:List Nat):∀v∈(aV l).toList,v.oneCell'=true:=by
 intro v a;simp only[aV,eH] at a;obtain⟨_,_,rfl⟩:=a;rfl
def XK:(prog.info? 46).map (λ i=>(i.zero,i.size,i.bytes))=some (some (U 0),1,8):=by kernel_rfl
def Jt(n:Nat)(e:n<=1000)(w:aa):(Instr.makeSlice 186 (O (n:Int)) (O (n:Int))).run prog w= .ok (ag (some ⟨w.heap.size,0,none⟩) n n) (w.alloc (.cells (aV (List.replicate n 0)) 46)):=by
 obtain⟨d,a,b,c,f⟩:=iB XK;have h:=run_makeSlice (P:=prog) w 186 46 d _ uA a b .i64 .i64 (n:Int) (n:Int) W (wT _) (by grind) (by grind) W;rw[h,mW,c];congr 3;simp[madeCells,aV,Value.cells];grind
structure NW(w2 wr:aa)(g:Nat)(t:TypeId)(l:List Nat):Prop where
 only:aW w2.heap.size [g] w2 wr
 a:ah wr g t (aV l)
def NW.set{a wr:aa}{g:Nat}{t:TypeId}{l:List Nat}(h:NW a wr g t l)(k x:Nat):NW a (wr.setCell ⟨g,k,none⟩ (U (x:Int))) g t (l.set k x):=
 ⟨h.only.setCell (p:=⟨g,k,none⟩) (.inl zS) _,by rw[<-yK];exact h.a.dx k _⟩
def NW.drew{a wr:aa}{g:Nat}{t:TypeId}{l:List Nat}(h:NW a wr g t l):NW a wr.drew g t l:=⟨h.only.drew,h.a⟩
def abw(r x c a b:Nat)(k:r<8)(g:2^(8*r)=a)(hx:x<256^r)(j:c<256)(d:256^r=b):bits .or .u64 (x:Int) ((c:Int)*(a:Int))=((x+c*b:Nat):Int):=by
 have e:b=a:=by rw[<-g,<-d,iT]
 subst e;rw[<-d] at*;have h:256^r<=256^7:=kU zD W;have i:c*256^r<=255*256^r:=lZ _ W;have f:=wC x (c*256^r) W W;rw[uk,pt (8*r) _ _ (by simp_all) W,qc] at f;omega
def abx{c:Nat}(e:g<8)(hx:k<256^g)(d:c<256):bits .or .u64 (k:Int) (IntKind.u64.wrap ((c:Int)*2^(8*(g:Int)).toNat))=((k+c*256^g:Nat):Int):=by
 have b:(8*(g:Int)).toNat=8*g:=by omega
 have f:c*2^(8*g)<18446744073709551616:=by
  have:=kU (n:=2) zD (show 8*g<=56 by omega);have a:=uj (show c<=255 by omega) this;omega
 have a:(c:Int)*2^(8*g)=((c*2^(8*g):Nat):Int):=by rw[qc,qd];rfl
 rw[b,a,rL,wS W W,qc];exact abw g k c _ _ e rfl hx d rfl
def zu(N:n<=1000)(s:af)(w:aa):Calls prog 113 #[ad s,O (n:Int)] w λ e a=>∃l,e=ao (ag (some ⟨w.heap.size,0,none⟩) n n)/\ah a w.heap.size 46 (aV l)/\BW w a/\l.length=n/\SC.cQ l/\SC.vW l=FM.aH (s.data.toList.take (8*n)):=by
 have X:IntKind.i64.wrap (8*(n:Int))=8*(n:Int):=aO _ W;obtain⟨z,Q,y⟩:∃z,(∀b,SC.kf b n z 0)/\∀a:aa,(Instr.makeSlice 186 (O (n:Int)) (O (n:Int))).run prog a= .ok (ag (some ⟨a.heap.size,0,none⟩) n n) (a.alloc (.cells (aV z) 46)):=⟨_,λ b=>SC.kf.start b n,λ a=>Jt n N a⟩;obtain⟨m,a,a0,M,u,a1,a6⟩:=Hf s (8*n) (8*(n:Int)) W;obtain⟨t,b⟩:∃t,s.extract 0 m=t:=⟨_,rfl⟩;have F:t.size=m:=by rw[<-b,ib];omega
 have d:t.data.toList=s.data.toList.take (8*n):=by
  rw[<-b,uL,kd,AX,a];have:s.data.toList.length=s.size:=by simp
  rcases Nat.le_total s.size (8*n) with h|h
  ·grind
  ·grind
 have J:=Z d;have R:=Z F;clear a d
 go_enter func113,ntmps113
 go_upto_region 2 with fail
 have a:ah (w.alloc (.cells (aV z) 46)) w.heap.size 46 (aV z):=ah.new _ _ _;have d:BW w (w.alloc (.cells (aV z) 46)):=bJ w _;generalize w.alloc (.cells (aV z) 46)=G at*;obtain⟨K,o,E,f,j,v,r⟩:=uS (P:=prog) G 9 29 5 t df cP eJ;obtain⟨g,h⟩:∃g,G.heap.size=g:=⟨_,rfl⟩;have q:ah o w.heap.size 46 (aV z):=(f.block _ a.lt).trans a;have k:=d.trans (f.mono d.size);have x:w.heap.size<g:=by rw[<-h];exact a.lt
 rw[h] at E r j;rw[F] at E v;have e:∀(i:Nat) (c:UInt8),t.data.toList[i]?=some c->o.cell? ⟨g,i,none⟩=some (.int .u8 (c.toNat:Int)):=λ i c p=>by
  have C:i<t.size:=by have:=(cw.1 p).1;simpa using this
  rw[xB t i C] at p;grind
 have a2:s.extract 0 m=t:=b;have p:=Z (And.intro q (And.intro k (And.intro x j)));have H:=Z e;clear a d q k f h x j r e b y;have a5:m<=K:=v
 go_wp2
 go_loopw [19] (λ i wr=>∃(k:Nat) (l:List Nat),k<=m/\i=O k/\NW o wr w.heap.size 46 l/\SC.kf t.data.toList n l k) (λ i _=>m-(intOf i).toNat)
 case atStart=>exact⟨0,_,by omega,rfl,⟨aW.refl _ _ _,p.U.1⟩,Q _⟩
 case round=>
  obtain⟨k,l,a4,rfl,f,d⟩:=hrel;have a:=Z f;have b:=Z d;clear f d;by_cases C:k<m
  ·obtain⟨c,i⟩:∃c,t.data.toList[k]?=some c:=⟨_,xB t k W⟩;have e:=c.toNat_lt;have L:wr.cell? ⟨g,k,none⟩=some (.int .u8 (c.toNat:Int)):=by
    obtain⟨-,-,q,q2⟩:=p.U;have d:=a.U.only.block g W (by grind);exact(G5 d).trans (H.U k c i)
   obtain⟨x,hx,h⟩:=b.U.cell W;have f:=b.U.step hx i h;obtain⟨j,B⟩:∃j,k/8=j:=⟨_,rfl⟩;obtain⟨r,D⟩:∃r,k%8=r:=⟨_,rfl⟩;rw[B] at hx f;rw[D] at f h;have a3:j<n:=by omega
   have T:=(a.U.a.cell j).trans (lB hx);have f0:=a.U.a.frozen j;have e1:(k:Int).tdiv 8=(j:Int):=by rw[ov W];omega
   have e3:(k:Int)/8=(j:Int):=by omega
   have e2:(k:Int).tmod 8=(r:Int):=by rw[fz W];omega
   have e4:(k:Int)%8=(r:Int):=by omega
   have b1:IntKind.i64.wrap (j:Int)=(j:Int):=aO _ W;have b2:IntKind.i64.wrap (r:Int)=(r:Int):=aO _ W;have b3:IntKind.i64.wrap (8*(r:Int))=8*(r:Int):=aO _ W;have a7:(0:Int)<=(j:Int):=by omega
   have a8:(j:Int)<(n:Int):=by omega
   have a9:(0:Int)<=(k:Int):=by omega
   have b0:(k:Int)<(m:Int):=by omega
   obtain⟨d,A⟩:∃d,c.toNat=d:=⟨_,rfl⟩;rw[A] at L f e;have wc:IntKind.u64.wrap (d:Int)=(d:Int):=by rw[rL];omega
   have S:=abx W h e;have I:=Z f;generalize x+d*256^r=y at*;clear f i hx A B h D
   go_wp2
   go_still_tail 13,zR
   show wpList _ _ _ _ _ wr.drew
   go_wp2
   go_roundw
   case rel=>exact⟨k+1,_,by omega,by go_num,(a.U.set j y).drew,I.U⟩
   case measure=>simp[intOf];omega
  ·obtain rfl:k=m:=by omega
   obtain⟨i,q,q2,q3⟩:=p.U;have f:BW w wr:=q.trans ((a.U.only.mono (show w.heap.size<=o.heap.size by omega) (λ k M u=>u)).below zS);have h:ai (ah wr w.heap.size 46 (aV l)/\BW w wr/\l.length=n/\SC.cQ l/\SC.vW l=FM.aH (s.data.toList.take (8*n))):=Z ⟨a.U.a,f,b.U.len,b.U.ok,by rw[b.U.eq,bK (by simp_all),J.U]⟩;clear f i q q2 q3 a b
   go_wp2
   go_ret
   exact⟨l,rfl,h.U⟩
