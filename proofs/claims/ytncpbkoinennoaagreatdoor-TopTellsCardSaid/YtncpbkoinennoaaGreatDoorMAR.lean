import Derived.Test.YtncpbkoinennoaaGreatDoorMAP
set_option linter.all false
set_option maxRecDepth 100000
set_option maxHeartbeats 0
namespace Go.Proofs.YtncpbkoinennoaaGreatDoor
open Go.RowKit Proofs.Tryz
attribute [local irreducible] wpList Calls
variable{g k n:Nat}
def uK(v:ShaM.V8):(br (vl v)).size=8:=by rw[yv];rfl
def tW(u v:ShaM.V8):(br (vl u)).size=(br (vl v)).size:=by rw[uK,uK]
def C2(a b:UInt32):IntKind.u32.wrap ((a.toNat:Int)+(b.toNat:Int))=((a+b).toNat:Int):=nY a b
def C4(a b c d e:UInt32):IntKind.u32.wrap (IntKind.u32.wrap (IntKind.u32.wrap (IntKind.u32.wrap ((a.toNat:Int)+(b.toNat:Int))+(c.toNat:Int))+(d.toNat:Int))+(e.toNat:Int))=((a+b+c+d+e).toNat:Int):=by
 rw[nY,nY,nY,nY]
def acd(a b c d e f g h:Int):prog.built 355 [(0,.int .u32 a),(1,.int .u32 b),(2,.int .u32 c),(3,.int .u32 d),(4,.int .u32 e),(5,.int .u32 f),(6,.int .u32 g),(7,.int .u32 h)]=some #[.int .u32 a,.int .u32 b,.int .u32 c,.int .u32 d,.int .u32 e,.int .u32 f,.int .u32 g,.int .u32 h]:=by kernel_rfl
structure hD(w wr:aa)(g b:Nat)(st:ShaM.V8)(left:List UInt8)(n:Nat)(DF:ShaM.V8):Prop where
 er:RB wr g true (vl st) left n
 a:ah wr b 380 (br (ShaM.wl left 64))
 es:ah wr (b+1) 355 (br (vl DF))
 d:aR w.heap.size [g] w wr
 c:cp wr
def cp.O5{w:aa}(h:cp w):cp w.drew:=⟨h.b,h.k⟩
def hD.drew{w wr:aa}{g b:Nat}{a:ShaM.V8}{left:List UInt8}{n:Nat}{c:ShaM.V8}(h:hD w wr g b a left n c):hD w wr.drew g b a left n c:=⟨h.er,h.a,h.es,h.d.drew,h.c.O5⟩
def hD.wk{w wr:aa}{b:ShaM.V8}{left:List UInt8}{c:ShaM.V8}(h:hD w wr g k b left n c)(a:Nat)(d:a<64):wr.cell? ⟨k,a,none⟩=some (.int .u32 (((ShaM.wl left 64).getD a 0).toNat:Int)):=by
 rw[h.a.cell];exact Dw _ a (by rw[ShaM.dK];omega)
def hD.v{w wr:aa}{b:ShaM.V8}{left:List UInt8}{a:ShaM.V8}(h:hD w wr g k b left n a)(i:Nat):wr.cell? ⟨k+1,i,none⟩=(br (vl a))[i]?:=h.es.cell i
def hD.put{w wr:aa}{b:ShaM.V8}{left:List UInt8}{j a:ShaM.V8}(h:hD w wr g k b left n j)(m:g<k)(h2:7<=g)(l:w.heap.size<=k):hD w (wr.setRow (k+1) (br (vl a))) g k b left n a:=by
 refine⟨h.er.setRow W _,h.a.cJ _ W,h.es.setRow _,h.d.setRow (.inr W) _,?_⟩;obtain⟨⟨t,c,e⟩,i,d,f⟩:=h.c;exact⟨⟨t,c,(C7 wr _ 5 _ W).trans e⟩,i,d,(C7 wr _ 6 _ W).trans f⟩
def Bl{w:aa}(N:cp w){on:Bool}{E:ShaM.V8}{left:List UInt8}(h:RB w g on (vl E) left n)(K:7<=g):
 Calls prog 312 #[pV g] w λ e a=>e=ao (aJ #[])/\RB a g true (vl (ShaM.compress (bif on then E else ShaM.fl) left)) left n/\aR w.heap.size [g] w a:=by
 have i:=h.QV
 have Q:=h.fr 0
 have b:=Z h;have a:=Z N
 clear h N
 go_enter func312,ntmps312
 go_upto_if 15 with fail
 go_cut [] (λ s=>RB s g true (vl (bif on then E else ShaM.fl)) left n/\aR w.heap.size [g] w s/\cp s)
 case first=>
  cases on
  ·obtain⟨⟨t,d,f⟩,-⟩:=a.U
   go_wp2_with(first|refine bO rfl 355 (Operand.global 5) rfl 5 rfl t _ d _ f vN rfl (tX _) ?_|refine Lf rfl 355 (Operand.tmp 22) (Operand.tmp 18) rfl g 1 (br (vl ShaM.fl)) zR zR (Zs (b.U.Ke true) _) (tX _) (uX _) ?_)
   go_meet
   have o:=(b.U.Ke true).XW ShaM.fl
   have c:aR w.heap.size [g] w ((w.setCell ⟨g,0,none⟩ (aF true)).setCells g 1 ((vl ShaM.fl).map fw)):=
    ((aR.refl _ _ _).setCell (p:=⟨g,0,none⟩) (.inl zS) _).trans (by have:=VN (w.setCell ⟨g,0,none⟩ (aF true)) g 1 ((vl ShaM.fl).map fw);simpa[World.setCell] using this)
   exact⟨o,c,a.U.grow c K⟩
  ·go_wp2
   go_meet
   exact⟨b.U,aR.refl _ _ _,a.U⟩
 case rest=>
  obtain⟨r,t,c⟩:=hcut
  generalize f:(bif on then E else ShaM.fl)=j at r
  have I:=Z f;have z:=Z r;have A:=Z t;have d:=Z c
  have B:=a
  clear f r t c i Q b a
  go_wp2_with fail
  refine(X2 g 9 left z.U.2.2 wc (λ i a3=>z.U.gL i a3)).mono ?_
  rintro e l ⟨rfl,b⟩
  have k:=z.U.below b
  have m:=d.U.below b
  have f:aR w.heap.size [g] w l:=A.U.trans ((aR.lx b _).mono A.U.size (λ _ _ h=>h))
  have y:=uH (P:=prog) l (br (List.replicate 64 0)) 380 (br (ShaM.wl left 64)).toList (by simp[br,ShaM.dK]) (Dx _)
  rw[show(br (ShaM.wl left 64)).toList.toArray=br (ShaM.wl left 64) from mP,Kh] at y
  have b1:(br (ShaM.wl left 64)).size=64:=by rw[yv,ShaM.dK]
  have v:ah (l.alloc (.cells (br (ShaM.wl left 64)) 380)) l.heap.size 380 (br (ShaM.wl left 64)):=ah.new _ _ _
  generalize x:br (ShaM.wl left 64)=u at*
  have q:=Z v;have F:=Z x;have a:=Z k;have C:=Z m;have c:=Z f
  clear v x k m f b z A d
  have d:=fC l (.cells u 380) 355 mN
  have f:ai (RB (((l.alloc (.cells u 380)).alloc (.cells mN 355)).setRow (l.heap.size+1) (br (vl j))) g true (vl j) left n):=Z (((a.U.alloc _).alloc _).setRow (by have:=a.U.lt;omega) _)
  have m:ai (ah (((l.alloc (.cells u 380)).alloc (.cells mN 355)).setRow (l.heap.size+1) (br (vl j))) l.heap.size 380 u):=Z ((q.U.alloc _).cJ _ W)
  have k:ai (ah (((l.alloc (.cells u 380)).alloc (.cells mN 355)).setRow (l.heap.size+1) (br (vl j))) (l.heap.size+1) 355 (br (vl j))):=Z (d.setRow _)
  have b:ai (aR w.heap.size [g] w (((l.alloc (.cells u 380)).alloc (.cells mN 355)).setRow (l.heap.size+1) (br (vl j)))):=Z (by
   have o:=c.U.size
   exact(((c.U.alloc o _).alloc (by simp;omega) _).setRow (.inr W) _))
  unfold mN at d f m k b
  go_wp2_with(first|refine DM rfl 355 (Operand.tmp 29) rfl g 1 zR ((vl j).map fw) _ (a.U.alloc _).range vN rfl (Ht _) ?_|refine cn rfl 355 (Operand.tmp 3) (Operand.tmp 30) rfl (l.heap.size+1) (br (vl j)) zR zR 355 _ d (tX _) rfl (uX _) ?_)
  have a2:g<l.heap.size:=a.U.lt
  have a4:w.heap.size<=l.heap.size:=c.U.size
  have o:ai (hD w (((l.alloc (.cells u 380)).alloc (.cells #[.int .u32 0,.int .u32 0,.int .u32 0,.int .u32 0,.int .u32 0,.int .u32 0,.int .u32 0,.int .u32 0] 355)).setRow (l.heap.size+1) (br (vl j))) g l.heap.size j left n j):=Z ⟨f.U,by rw[F.U];exact m.U,k.U,b.U,B.U.grow b.U K⟩
  clear y d a C c q f m k b
  generalize((l.alloc (.cells u 380)).alloc (.cells #[.int .u32 0,.int .u32 0,.int .u32 0,.int .u32 0,.int .u32 0,.int .u32 0,.int .u32 0,.int .u32 0] 355)).setRow (l.heap.size+1) (br (vl j))=b3 at*
  generalize l.heap.size=bb at*
  go_loopg [31] 64 (λ q i wr=>∃k:Nat,k+q=64/\i=O k/\hD w wr g bb j left n (ShaM.rounds (ShaM.wl left 64) j k))
  case atStart=>exact⟨0,eu _,rfl,o.U⟩
  case round=>
   clear o
   obtain⟨k,R,rfl,m⟩:=hrel
   by_cases q:k<64
   ·have x:ai (ShaM.rounds (ShaM.wl left 64) j (k+1)=ShaM.mB (ShaM.rounds (ShaM.wl left 64) j k) (ShaM.K.getD k 0) ((ShaM.wl left 64).getD k 0)):=Z rfl
    have y:=λ s (h:hD w s g bb j left n (ShaM.rounds (ShaM.wl left 64) j k))=>h.c.key k q
    have H:=λ s (h:hD w s g bb j left n (ShaM.rounds (ShaM.wl left 64) j k))=>h.wk k q
    generalize ShaM.K.getD k 0=C at*
    generalize(ShaM.wl left 64).getD k 0=D at*
    generalize ShaM.rounds (ShaM.wl left 64) j k=v at*
    obtain⟨a,b,c,d,e,f,o,h⟩:=v
    have G:=Z y;have J:=Z H;have L:=Z m
    have S:wr.cell? ⟨bb+1,0,none⟩=some (.int .u32 (a.toNat:Int)):=m.v 0
    have T:wr.cell? ⟨bb+1,4,none⟩=some (.int .u32 (e.toNat:Int)):=m.v 4
    clear y H m
    have a5:(0:Int)<=(k:Int):=by omega
    have a6:(k:Int)<64:=by omega
    have M:ai (ShaM.rx ⟨a,b,c,d,e,f,o,h⟩ C D=h+dz (dz (ShaM.aN 6 e) (ShaM.aN 11 e)) (ShaM.aN 25 e)+dz (fh e f) (fh (mI e) o)+C+D):=Z rfl
    have y:ai (ShaM.ry ⟨a,b,c,d,e,f,o,h⟩=dz (dz (ShaM.aN 2 a) (ShaM.aN 13 a)) (ShaM.aN 22 a)+dz (dz (fh a b) (fh a c)) (fh b c)):=Z rfl
    have H:ai (ShaM.rounds (ShaM.wl left 64) j (k+1)=⟨jL (ShaM.rx ⟨a,b,c,d,e,f,o,h⟩ C D) (ShaM.ry ⟨a,b,c,d,e,f,o,h⟩),a,b,c,jL d (ShaM.rx ⟨a,b,c,d,e,f,o,h⟩ C D),e,f,o⟩):=Z (by rw[x.U];rfl)
    generalize ShaM.rx ⟨a,b,c,d,e,f,o,h⟩ C D=X at*
    generalize ShaM.ry ⟨a,b,c,d,e,f,o,h⟩=a0 at*
    clear x
    go_wp2
    go_still V
    go_upto_region 8 with fail
    change Code.wp _ _ _ _ wr.drew
    have x:=Z L.U.drew
    clear S T L
    generalize wr.drew=L at*
    go_cut [7] (λ s7 s=>s7= .int .u32 (X.toNat:Int)/\hD w s g bb j left n ⟨a,b,c,d,e,f,o,h⟩)
    case first=>
     have a8:=G.U _ x.U
     have u:=J.U _ x.U
     have a9:L.cell? ⟨bb+1,5,none⟩=some (.int .u32 (f.toNat:Int)):=x.U.v 5
     have b0:L.cell? ⟨bb+1,6,none⟩=some (.int .u32 (o.toNat:Int)):=x.U.v 6
     have b2:L.cell? ⟨bb+1,7,none⟩=some (.int .u32 (h.toNat:Int)):=x.U.v 7
     have a1:=nw;have U2:=rR;have a7:=A7
     clear H y G J B I F
     refine DO V V ?_
     repeat still_step
     still_call (ZO e _)
     repeat still_step
     still_call (ZD e _)
     repeat still_step
     still_call (ZJ e _)
     repeat still_step
     refine uZ ?_
     (rw[C4])
     go_wp2
     go_meet
     exact⟨by rw[M.U],x.U.drew⟩
    case rest=>
     obtain⟨rfl,m⟩:=hcut
     clear M x
     go_upto_region 9 with fail
     have x:=Z m
     clear m
     go_cut [8] (λ s8 s=>s8= .int .u32 (a0.toNat:Int)/\hD w s g bb j left n ⟨a,b,c,d,e,f,o,h⟩)
     case first=>
      have a7:wc.cell? ⟨bb+1,1,none⟩=some (.int .u32 (b.toNat:Int)):=x.U.v 1
      have a8:wc.cell? ⟨bb+1,2,none⟩=some (.int .u32 (c.toNat:Int)):=x.U.v 2
      have a1:=nw;have U2:=rR
      clear H G J B I F
      refine DO V V ?_
      repeat still_step
      still_call (ZH a _)
      repeat still_step
      still_call (ZE a _)
      repeat still_step
      still_call (ZI a _)
      repeat still_step
      refine uZ ?_
      (rw[C2])
      go_wp2
      go_meet
      exact⟨by rw[y.U],x.U.drew⟩
     case rest=>
      obtain⟨rfl,m⟩:=hcut
      clear y x
      have S:wc.cell? ⟨bb+1,0,none⟩=some (.int .u32 (a.toNat:Int)):=m.v 0
      have a7:wc.cell? ⟨bb+1,1,none⟩=some (.int .u32 (b.toNat:Int)):=m.v 1
      have a8:wc.cell? ⟨bb+1,2,none⟩=some (.int .u32 (c.toNat:Int)):=m.v 2
      have y:wc.cell? ⟨bb+1,3,none⟩=some (.int .u32 (d.toNat:Int)):=m.v 3
      have T:wc.cell? ⟨bb+1,4,none⟩=some (.int .u32 (e.toNat:Int)):=m.v 4
      have a9:wc.cell? ⟨bb+1,5,none⟩=some (.int .u32 (f.toNat:Int)):=m.v 5
      have b0:wc.cell? ⟨bb+1,6,none⟩=some (.int .u32 (o.toNat:Int)):=m.v 6
      have B:=m.es
      have x:=Z m
      clear m
      have M:=wi
      go_wp2_with(refine cn rfl 355 (Operand.tmp 3) (Operand.tmp 111) rfl (bb+1) (br (vl ⟨jL X a0,a,b,c,jL d X,e,f,o⟩)) zR zR 355 _ B (tX _) (tW _ _) (uX _) ?_)
      go_roundg (gk-1)
      case rel=>exact⟨k+1,by omega,by go_num,by rw[H.U];exact x.U.put a2 K a4⟩
      case measure=>omega
   ·obtain rfl:k=64:=by omega
    have G:ai (ShaM.gX j (ShaM.rounds (ShaM.wl left 64) j 64)=ShaM.compress j left):=Z rfl
    generalize ShaM.rounds (ShaM.wl left 64) j 64=v at*
    have r:=m.er;have t:=m.d;have B:=m.es
    have z:=Z r;have A:=Z t
    clear r t m
    go_wp2_with(refine bO rfl 355 (Operand.tmp 3) rfl (bb+1) rfl 355 _ (0,0) _ B vN rfl (tX _) ?_)
    go_loopw [114] (λ i wr=>∃k:Nat,k<=8/\i=O k/\RB wr g true (acc (vl j) (vl v) k) left n/\aR w.heap.size [g] w wr) (λ i _=>8-(intOf i).toNat)
    case atStart=>exact⟨0,by omega,rfl,z.U,A.U⟩
    case round=>
     clear R q
     obtain⟨k,R,rfl,r,t⟩:=hrel
     by_cases q:k<8
     ·have a7:=λ s=>Hs v s k q
      have a1:=r.gS k q
      rw[vV _ _ k rfl rfl q] at a1
      have Q:=r.fr (1+k)
      have F:=vX (vl j) (vl v) k rfl rfl q
      generalize(vl j).getD k 0=x at*
      generalize(vl v).getD k 0=y at*
      have J:=Z F;have s:=Z r;have m:=Z t
      clear F r t B z A
      have a5:(0:Int)<=(k:Int):=by omega
      have a6:(k:Int)<8:=by omega
      have M:=wi
      go_wp2
      go_still_tail 11,V
      show wpList _ _ _ _ _ wr.drew
      go_wp2
      go_roundw
      case rel=>exact⟨k+1,by omega,by go_num,by rw[<-J.U];exact(s.U.drewN 1).nV k q (jL x y),(m.U.drewN 1).setCell (p:=⟨g,1+k,none⟩) (.inl zS) _⟩
      case measure=>simp[intOf];omega
     ·obtain rfl:k=8:=by omega
      rw[vU,G.U,<-I.U] at r
      have s:=Z r;have m:=Z t
      clear r t B z A
      go_wp2
      go_end0
      exact⟨rfl,s.U,m.U⟩
def je(v:ab)(l:List UInt8):Prop:=∃on st left,v=aG (cX on (vl st) left l.length)/\ShaM.aI on st left l
def EH(w:aa)(l:List UInt8)(e:Ending)(a:aa):Prop:=(∃v,e=ao v/\je v l)/\BW w a
def B4:(prog.info? 358).map (·.size)=some 74:=by kernel_rfl
def MX(s:ag)(k:Nat)(h:k<s.size):s.data.toList.take (k+1)=s.data.toList.take k++[s[k]]:=by
 rw[dC (by simp_all)];rfl
structure hM(w wr:aa)(s:ag)(l:List UInt8)(k:Nat)(on:Bool)(st:ShaM.V8)(left:List UInt8)(N:Nat):Prop where
 aK:BW w wr
 run:RB wr w.heap.size on (vl st) left N
 inv:ShaM.aI on st left (l++s.data.toList.take k)
 len:N=l.length+k
 z:ah wr (w.heap.size+1) 358 zeroCells358
 b:∀i (h:i<s.size),wr.cell? ⟨w.heap.size+2,i,none⟩=some (.int .u8 (s[i].toNat:Int))
 lt:w.heap.size+2<wr.heap.size
abbrev qR(w wr:aa)(N:Nat)(c:UInt8):aa:=(wr.setCell ⟨w.heap.size,9+N%64,none⟩ (.int .u8 (c.toNat:Int))).setCell ⟨w.heap.size,73,none⟩ (O ((N:Int)+1))
section
variable{w wr w6:aa}{s:ag}{l:List UInt8}{k:Nat}{on:Bool}{st:ShaM.V8}{left:List UInt8}{N:Nat}{c:UInt8}
def hM.fu(h:hM w wr s l k on st left N):BW w (qR w wr N c):=(h.aK.setCell (p:=⟨w.heap.size,9+N%64,none⟩) (aW _) _).setCell (p:=⟨w.heap.size,73,none⟩) (aW _) _
def hM.Jd(h:hM w wr s l k on st left N):RB (qR w wr N c) w.heap.size on (vl st) (left.set (N%64) c) (N+1):=(h.run.XU (N%64) W c).eU (N+1)
def hM.nO(h:hM w wr s l k on st left N):aR wr.heap.size [w.heap.size] wr (qR w wr N c):=((aR.refl _ _ _).setCell (p:=⟨w.heap.size,9+N%64,none⟩) (.inl zS) _).setCell (p:=⟨w.heap.size,73,none⟩) (.inl zS) _
def hM.lq(h:hM w wr s l k on st left N)(a:k<s.size):(l++s.data.toList.take k).length=N:=by
 rw[h.len,bA,ee];have:s.data.toList.length=s.size:=by simp
 omega
def hM.stay(h:hM w wr s l k on st left N)(e:k<s.size)(g:s.data.toList.take (k+1)=s.data.toList.take k++[c])(j:¬(N+1)%64=0):
 hM w (qR w wr N c) s l (k+1) on st (left.set (N%64) c) (N+1):=by
 have f:=h.lq e
 have a:=h.inv.put c W
 rw[f,di,<-g] at a
 have b:=h.nO (c:=c)
 have d:=h.lt
 refine⟨h.fu,h.Jd,a,by rw[h.len];omega,h.z.only b W zS,λ i a=> ?_,lQ d b.size⟩
 have:=b.block (w.heap.size+2) d zS
 exact(World.oI this).trans (h.b i a)
def hM.bN(h:hM w wr s l k on st left N)(f:k<s.size)(j:s.data.toList.take (k+1)=s.data.toList.take k++[c])(n:(N+1)%64=0)
 (h6:RB w6 w.heap.size true (vl (ShaM.compress (bif on then st else ShaM.fl) (left.set (N%64) c))) (left.set (N%64) c) (N+1)) (m:aR (qR w wr N c).heap.size [w.heap.size] (qR w wr N c) w6):
 hM w w6 s l (k+1) true (ShaM.compress (bif on then st else ShaM.fl) (left.set (N%64) c)) (left.set (N%64) c) (N+1):=by
 have g:=h.lq f
 have a:=h.inv.Pq c W
 rw[g,di,<-j] at a
 have e:=h.nO (c:=c)
 have d:=h.lt
 have b:aR wr.heap.size [w.heap.size] wr w6:=e.trans (m.mono e.size (λ _ _ h=>h))
 refine⟨h.aK.trans (b.M9 (vz W) zS),h6,a,by rw[h.len];omega,h.z.only b W zS,λ i a=> ?_,lQ d b.size⟩
 have:=b.block (w.heap.size+2) d zS
 exact(World.oI this).trans (h.b i a)
end
def nZ{w:aa}(u:cp w){v:ab}{l:List UInt8}(h:je v l)(s:ag)(X:l.length+s.size<=140737488355328):
 Calls prog 295 #[v,ae s] w (EH w (l++s.data.toList)):=by
 obtain⟨on,st,left,rfl,e⟩:=h
 have f:RB (w.alloc (.cells (cX on (vl st) left l.length) 358)) w.heap.size on (vl st) left l.length:=⟨ah.new _ _ _,rfl,e.hlen⟩
 generalize a:cX on (vl st) left l.length=q at*
 clear a
 have b:=fC w (.cells q 358) 358 zeroCells358
 obtain⟨I,H,j,a,i,L,g⟩:=tK (P:=prog) ((w.alloc (.cells q 358)).alloc (.cells zeroCells358 358)) 9 29 5 s dO dZ gi
 have d:ai (hM w H s l 0 on st left l.length):=Z ⟨(((bz _ _).alloc (aW _) _).alloc zS _).trans (a.mono (by simp;omega)),(f.alloc _).below a,by grind,rfl,(a.block _ b.lt).trans b,by simp_all,by simp_all⟩
 have o:=Z u
 clear g i a b f e u
 go_enter func295,ntmps295
 go_wp2
 go_loopw [6,10] (λ _ i wr=>∃k:Nat,k<=s.size/\i=O k/\∃on st left N,hM w wr s l k on st left N) (λ _ i _=>s.size-(intOf i).toNat)
 case atStart=>exact⟨0,by omega,rfl,on,st,left,_,d.U⟩
 case round=>
  clear j d
  obtain⟨k,R,rfl,d,f,b,N,a⟩:=hrel
  by_cases j:k<s.size
  ·have K:=a.b k j
   have e:=a.len
   have p:=Z (MX s k j)
   generalize s[k]=c at*
   have T:=a.run.gN
   have S:=a.run.gL (N%64) W
   have M:=a.run.fr (9+N%64)
   have Q:=a.run.fr 73
   have g:=Z a
   have J:N<140737488355328:=by omega
   clear a e
   have m0:(0:Int)<=(N:Int)%64:=by omega
   have m1:(N:Int)%64<64:=by omega
   have m2:((N:Int)%64).toNat=N%64:=by omega
   have E:=Z (o.U.below (g.U.fu (c:=c)))
   have F:=Z o.U.lt
   by_cases m:(N+1)%64=0
   ·have i:(((N:Int)+1)%64==0)=true:=by rw[fB];omega
    have n:=Z m;clear m
    go_wp2_with fail
    refine(Bl (w:=qR w wr N c) E.U g.U.Jd F.U).mono ?_
    rintro e w6 ⟨rfl,r,t⟩
    have x:=Z r;have y:=Z t
    clear r t
    go_wp2_with fail
    go_roundw
    case rel=>exact⟨k+1,by omega,by go_num,_,_,_,_,g.U.bN j p.U n.U x.U y.U⟩
    case measure=>simp[intOf];omega
   ·have i:(((N:Int)+1)%64==0)=false:=by rw[cc];omega
    have n:=Z m;clear m
    go_wp2_with fail
    go_roundw
    case rel=>exact⟨k+1,by omega,by go_num,_,_,_,_,g.U.stay j p.U n.U⟩
    case measure=>simp[intOf];omega
  ·obtain rfl:k=s.size:=by omega
   obtain⟨n,⟨C,-,D⟩,m,rfl,t,-,-⟩:=a
   rw[cS zS] at m
   have y:je (aG (cX d (vl f) b (l.length+s.size))) (l++s.data.toList):=⟨d,f,b,by simp,m⟩
   have G:(cX d (vl f) b (l.length+s.size)).size=74:=Jn rfl D
   have x:(prog.info? 358).map (·.size)=some (cX d (vl f) b (l.length+s.size)).size:=by rw[G];exact B4
   have a0:=dJ (P:=prog) t (cX d (vl f) b (l.length+s.size)) (by simp_all) CS
   have r:=t.setRow (cX d (vl f) b (l.length+s.size))
   have i:=bY n (gh _) (cX d (vl f) b (l.length+s.size))
   generalize cX d (vl f) b (l.length+s.size)=e at*
   have z:=Z r;have A:=Z i;have B:=Z y
   clear n r i y m
   go_wp2_with(refine bO rfl 358 (Operand.tmp 2) rfl w.heap.size rfl 358 e (0,0) _ C tx rfl x ?_)
   exact cq (v:= .agg e) (fL results295 _ _ (w.heap.size+1) 358 e (0,0) _ rfl z.U tx rfl x) rfl ⟨⟨_,rfl,B.U⟩,A.U⟩
def TW:(#[.int .u32 1116352408,.int .u32 1899447441,.int .u32 3049323471,.int .u32 3921009573,.int .u32 961987163,.int .u32 1508970993,.int .u32 2453635748,.int .u32 2870763221,.int .u32 3624381080,.int .u32 310598401,.int .u32 607225278,.int .u32 1426881987,.int .u32 1925078388,.int .u32 2162078206,.int .u32 2614888103,.int .u32 3248222580,.int .u32 3835390401,.int .u32 4022224774,.int .u32 264347078,.int .u32 604807628,.int .u32 770255983,.int .u32 1249150122,.int .u32 1555081692,.int .u32 1996064986,.int .u32 2554220882,.int .u32 2821834349,.int .u32 2952996808,.int .u32 3210313671,.int .u32 3336571891,.int .u32 3584528711,.int .u32 113926993,.int .u32 338241895,.int .u32 666307205,.int .u32 773529912,.int .u32 1294757372,.int .u32 1396182291,.int .u32 1695183700,.int .u32 1986661051,.int .u32 2177026350,.int .u32 2456956037,.int .u32 2730485921,.int .u32 2820302411,.int .u32 3259730800,.int .u32 3345764771,.int .u32 3516065817,.int .u32 3600352804,.int .u32 4094571909,.int .u32 275423344,.int .u32 430227734,.int .u32 506948616,.int .u32 659060556,.int .u32 883997877,.int .u32 958139571,.int .u32 1322822218,.int .u32 1537002063,.int .u32 1747873779,.int .u32 1955562222,.int .u32 2024104815,.int .u32 2227730452,.int .u32 2361852424,.int .u32 2428436474,.int .u32 2756734187,.int .u32 3204031479,.int .u32 3329325298]:Array ab)=br ShaM.K:=by kernel_rfl
def TX(w:aa):Calls prog 38 #[] w (vQ w ShaM.K):=by
 go_enter func38,ntmps38
 go_wp2
 rw[TW]
 go_ret
 exact⟨⟨_,rfl,gj.new w 95 ShaM.K 64⟩,bJ w _⟩
def lq(n:Nat):Nat->List UInt8
 |0=>[]
 |k+1=>UInt8.ofNat (n/256^k)::lq n k
def Um(n:Nat):lq n 8=ShaM.len8 n:=by simp[lq,ShaM.len8]
def Cg(n:Nat):∀k,(lq n k).length=k
 |0=>rfl
 |k+1=>by simp[lq,Cg n k]
def FA(m:Nat):(strOfNums [(m:Int)%256]).data.toList=[UInt8.ofNat m]:=by
 rw[strOfNums_data];simp only[cw,ek];congr 1;apply AG.1;have:((m:Int)%256).toNat=m%256:=by omega
 rw[this];simp
def AQ(a b:ag):(a++b).data.toList=a.data.toList++b.data.toList:=by simp[vg]
def wb(a:ag):a.size=a.data.toList.length:=by simp
def Wf(s:ag)(B:s.size<=100000000)(w:aa):CB 39 #[ae s] w (ae ⟨(ShaM.fq s.data.toList).toArray⟩):=by
 have f:∀(a:aa) (x:Int),(convert 29 9 (ad (some ⟨a.heap.size,0,none⟩) 1 1)).run prog (a.alloc (.cells #[.int .u8 x] 5))= .ok (ae (strOfNums [x])) (a.alloc (.cells #[.int .u8 x] 5)):=
  λ a x=>wy (P:=prog) a 29 9 5 [x] dZ gi dO 1 1 rfl 5
 have p:=Z f;clear f
 go_enter func39,ntmps39
 go_wp2
 go_loopg [4] (ShaM.cA s.size) (λ q t wr=>∃(j:Nat) (b:ag),j+q=ShaM.cA s.size/\t=ae b/\b.data.toList=s.data.toList++[128]++List.replicate j 0/\w=wr)
 case atStart=>exact⟨0,_,eu _,rfl,by simp,rfl⟩
 case round=>
  obtain⟨j,b,a,rfl,c,rfl⟩:=hrel;have d:b.size=s.size+1+j:=by rw[wb,c];simp;omega
  have h:=Z c;have u:=Z d;have v:b.size<=100000200:=by unfold ShaM.cA at a;omega
  by_cases g:j<ShaM.cA s.size
  ·have t:((b.size:Int)%64 !=56)=true:=by rw[nu];unfold ShaM.cA at g;omega
   have l:=Z a;clear c d a
   go_wp2
   go_roundg (gk-1)
   case measure=>have:=l.U;omega
   case rel=>exact⟨j+1,_,by have:=l.U;omega,rfl,by rw[AQ,h.U,List.replicate_succ'];simp,rfl⟩
  ·have t:((b.size:Int)%64 !=56)=false:=by rw[AX];unfold ShaM.cA at g a;omega
   obtain rfl:j=ShaM.cA s.size:=by omega
   clear c d a
   go_wp2
   go_loopw [3,5,6] (λ c a i d=>∃(k:Nat) (e:ag),k<=8/\i=O k/\c=U ((8*s.size/256^k:Nat):Int)/\a=ae e/\e.data.toList=lq (8*s.size) k/\BW w d) (λ _ _ i _=>8-(intOf i).toNat)
   case atStart=>exact⟨0,_,by omega,rfl,by rw[Nat.pow_zero,tm];congr 1;omega,rfl,rfl,bz _ _⟩
   case round=>
    obtain⟨k,e,y,rfl,rfl,rfl,i,d⟩:=hrel;have o:8*s.size/256^(k+1)=8*s.size/256^k/256:=by rw[fk,lP]
    have z:8*s.size/256^k<=8*s.size:=zy _ _;have n:lq (8*s.size) (k+1)=UInt8.ofNat (8*s.size/256^k)::lq (8*s.size) k:=rfl;generalize 8*s.size/256^k=m at*;have r:=Z o;have q:=Z n;have a:=Z i;have c:=Z d;have A:(m:Int)<=800000000:=by omega
    clear o n i d g;by_cases n:k<8
    ·have f:=p.U;have o:=λ x=>strOfNums_size [x];have i:e.size<=8:=by rw[wb,a.U,Cg];omega
     go_wp2
     go_roundw
     case rel=>exact⟨k+1,_,by omega,by go_num,by rw[r.U];congr 1,rfl,by rw[AQ,a.U,q.U,FA];rfl,c.U.alloc c.U.size _⟩
     case measure=>simp[intOf];omega
    ·obtain rfl:k=8:=by omega
     have i:e.size<=8:=by rw[wb,a.U,Cg];omega
     have d:b++e=⟨(ShaM.fq s.data.toList).toArray⟩:=v7 (by
      rw[AQ,h.U,a.U,Um];have e1:s.size=s.data.toList.length:=by simp
      unfold ShaM.fq;rw[<-e1])
     have g:=Z d;clear d
     go_wp2
     go_ret
     exact⟨by rw[<-g.U];rfl,c.U⟩
def M7:(#[.int .u32 1779033703,.int .u32 3144134277,.int .u32 1013904242,.int .u32 2773480762,.int .u32 1359893119,.int .u32 2600822924,.int .u32 528734635,.int .u32 1541459225]:Array ab)=br (vl ShaM.fl):=by rfl
structure lS(w wr:aa)(gk:Nat)(hs:List UInt32):Prop where
 aK:BW w wr
 h:ah wr w.heap.size 95 (br hs)
 k:w.heap.size<gk/\gk<wr.heap.size/\∀i,i<64->wr.cell? ⟨gk,i,none⟩=some (.int .u32 ((ShaM.K.getD i 0).toNat:Int))
def lS.below{w wr c:aa}{gk:Nat}{b:List UInt32}(h:lS w wr gk b)(a:BW wr c):lS w c gk b:=
 ⟨h.aK.trans (a.mono h.aK.size),(a.block _ h.h.lt).trans h.h,h.k.1,lQ h.k.2.1 a.size,λ i d=>(a.cell (p:=⟨gk,i,none⟩) h.k.2.1).trans (h.k.2.2 i d)⟩
def lS.set{w wr:aa}{gk:Nat}{a b:List UInt32}(h:lS w wr gk a)(i:Nat)(u:ab)(c:(br a).setIfInBounds i u=br b):lS w (wr.setCell ⟨w.heap.size,i,none⟩ u) gk b:=
 ⟨h.aK.setCell (p:=⟨w.heap.size,i,none⟩) (aW _) u,by rw[<-c];exact h.h.cN i u,h.k.1,by simpa[World.setCell] using h.k.2.1,λ j d=>by
  have e:gk≠w.heap.size:=by have:=h.k.1;omega
  exact(World.oI (ta wr ⟨w.heap.size,i,none⟩ u gk e)).trans (h.k.2.2 j d)⟩
def aam(l:List UInt32)(i:Nat)(x:UInt32):(br l).setIfInBounds i (.int .u32 (x.toNat:Int))=br (l.set i x):=by
 simp only[br,aH,mW];rfl
def qJ(l:List UInt32)(k:Nat):List UInt8:=(l.take k).flatMap ShaM.fK
def VZ(v:ShaM.V8):qJ (vl v) 8=ShaM.U v:=by rfl
def IH(l:List UInt32)(k:Nat)(h:k<l.length):qJ l (k+1)=qJ l k++ShaM.fK (l.getD k 0):=by
 unfold qJ;rw[dC h,List.flatMap_append,eY,ba h];simp
def IG(l:List UInt32):∀k,k<=l.length->(qJ l k).length=4*k
 |0,_=>rfl
 |k+1,h=>by rw[IH l k W,bA,IG l k W];rfl
def u8w(n:Nat):((UInt8.ofNat n).toNat:Int)=(n:Int)%256:=by simp
def VX(x:UInt32):(#[Value.int IntKind.u8 (IntKind.u8.wrap (IntKind.u32.wrap ((x.toNat:Int)/16777216))),Value.int IntKind.u8 (IntKind.u8.wrap ((IntKind.u32.wrap ((x.toNat:Int)/65536)).tmod 256)),Value.int IntKind.u8 (IntKind.u8.wrap ((IntKind.u32.wrap ((x.toNat:Int)/256)).tmod 256)),Value.int IntKind.u8 (IntKind.u8.wrap ((x.toNat:Int).tmod 256))]:Array ab).toList=ca (ShaM.fK x):=by
 have hx:=x.toNat_lt;have a:IntKind.u32.wrap ((x.toNat:Int)/16777216)=(x.toNat:Int)/16777216:=by rw[og];omega
 have b:IntKind.u32.wrap ((x.toNat:Int)/65536)=(x.toNat:Int)/65536:=by rw[og];omega
 have c:IntKind.u32.wrap ((x.toNat:Int)/256)=(x.toNat:Int)/256:=by rw[og];omega
 rw[a,b,c,gd W,gd W,gd W];simp only[ca,ShaM.fK,cw,ek,u8w,Ej];simp
def Yq{X:aa}{l:List UInt32}(h:ah X g 95 (br l))(c:Nat):Src prog 1 96 (ad (some ⟨g,0,none⟩) l.length c) l.length (l.map fw) X:=by
 refine oy X AB _ _ _ _ zS (λ j u a=> ?_) (λ u a=>Dx l u (by simpa[br] using a));rw[iF,eu,h.cell];simpa[br] using a
def gj.VI{X:aa}{v:ab}{l:List UInt32}(h:X.ownsRow g 95 1 v n (l.map fw))(a:l.length=n)(o:0<n):gj g X v l:=by
 subst a;rcases h.2 with⟨b,a⟩|⟨e,d,k,b,f,j,a,p,m,q⟩
 ·omega
 ·refine⟨e,d,b,f,(lG.1 j).1,λ i c=> ?_⟩;subst b;have:=h.cells rfl i (.int .u32 ((l.getD i 0).toNat:Int)) (by rw[eI,ba c,eY,ba c];rfl);rw[iF,eu] at this;omega
def Xw(s:ag)(b4:s.size<=100000000)(w:aa):CB 6 #[ae s] w (ae ⟨(ShaM.sum s.data.toList).toArray⟩):=by
 obtain⟨b8,z,b5,b6,b7⟩:=ki Ld
 go_enter func6,ntmps6
 go_wp2_with fail
 rw[M7];refine(TX _).mono ?_;rintro e c0 ⟨⟨d4,rfl,d⟩,a⟩;obtain⟨gk,c1,rfl,f,g,h⟩:=d;rw[show ShaM.K.length=64 from rfl];have c:lS w c0 gk (vl ShaM.fl):=⟨(bJ w _).trans (a.mono zS),(a.block _ zS).trans (ah.new w 95 _),by simp at f;omega,g,h⟩;have b:=Z c;clear f g h a c
 go_wp2_with fail
 refine(Wf s b4 _).mono ?_;rintro e d5 ⟨rfl,a⟩;have c:=Z (b.U.below a);clear b a;have f:=ShaM.uq s.data.toList;have k:=ShaM.IP s.data.toList;have g:s.data.toList.length=s.size:=by simp
 have a7:ai (ShaM.sum s.data.toList=ShaM.U (ShaM.chain (ShaM.fq s.data.toList) ((ShaM.fq s.data.toList).length/64))):=Z rfl;have d0:ShaM.cA s.size<=63:=by unfold ShaM.cA;omega
 rw[g] at f;generalize i:ShaM.fq s.data.toList=P at*;obtain⟨t,a⟩:∃t:ag,t=⟨P.toArray⟩:=⟨_,rfl⟩;rw[<-a];have b:t.data.toList=P:=by rw[a]
 have m:t.size=P.length:=by rw[wb,b]
 have j:P.length=64*(P.length/64):=by omega
 have c8:P.length/64<=2000000:=by omega
 generalize P.length/64=B at*;have h:t.size=64*B:=by omega
 have a8:=Z b;have L:=Z h;clear f k g i a b m j h
 go_wp2
 go_loopw [6] (λ i wr=>∃q A:Nat,q<=B/\A=64*q/\i=O (A:Int)/\lS w wr gk (vl (ShaM.chain P q))) (λ i _=>64*B-(intOf i).toNat)
 case atStart=>exact⟨0,0,by omega,rfl,rfl,c.U⟩
 case round=>
  clear c;obtain⟨q,A,d2,G,rfl,a⟩:=hrel;have h:=Z a;clear a;by_cases d1:q<B
  ·have b1:(A:Int)<(t.size:Int):=by have:=L.U;omega
   have c6:A+64<=t.size:=by have:=L.U;omega
   have c7:A<=200000000:=by omega
   have a:ai ((t.extract A (A+64)).data.toList=(P.drop (64*q)).take 64):=Z (by rw[AR,a8.U,G];simp);have a2:ai ((t.extract A (A+64)).size=64):=Z (by simp_all);have a3:ai (ShaM.chain P (q+1)=ShaM.gX (ShaM.chain P q) (ShaM.rounds (ShaM.wl ((P.drop (64*q)).take 64) 64) (ShaM.chain P q) 64)):=Z rfl;have a4:ai (ShaM.wl (t.extract A (A+64)).data.toList 64=ShaM.wl ((P.drop (64*q)).take 64) 64):=Z (by rw[a.U]);have D:=Z G;have r:=ShaM.dK ((P.drop (64*q)).take 64) 64;generalize ShaM.wl ((P.drop (64*q)).take 64) 64=j at*;generalize ShaM.chain P q=H at*;have J:=Z r;clear G r a
   go_wp2_with fail
   refine(aaJ (t.extract A (A+64)) a2.U _).mono ?_;rintro e a ⟨⟨d6,rfl,S⟩,k⟩;rw[a4.U] at S;have f:=h.U.below k;obtain⟨F,c2,rfl,n,m,c⟩:=S;rw[J.U] at c⊢;have v:=Z c;have b:=Z f;have g:=Z m;clear n m c k f;have n:(a.alloc (.cells #[] 95)).ownsRow a.heap.size 95 1 (ad (some ⟨a.heap.size,0,none⟩) 0 0) 0 []:=vT a #[] 0 (aW _) zD rfl;have E:Src prog 1 96 (ad (some ⟨w.heap.size,0,none⟩) 8 8) 8 ((vl H).map fw) (a.alloc (.cells #[] 95)):=Yq (l:=vl H) (b.U.h.alloc _) 8
   go_wp2_with(at_builtin;refine re rfl _ _ 96 96 rfl a.heap.size 95 b8 _ 1 4 AB z b5 b6 b7 rfl _ _ _ rfl n _ 8 ((vl H).map fw) rfl E zD zD zS ?_)
   intro I o C y K;have x:gj a.heap.size o I (vl H):=gj.VI C rfl zD;have f:BW a o:=(bJ a _).grown y zS (by intro k d;simp[Value.ownBlock] at d;omega);have c:=Z (b.U.below f);have m:ai (F<o.heap.size/\∀i,i<64->o.cell? ⟨F,i,none⟩=some (.int .u32 ((j.getD i 0).toNat:Int))):=Z ⟨lQ g.U f.size,λ i z=>(f.cell (p:=⟨F,i,none⟩) g.U).trans (v.U i z)⟩;have u:ai (gj (w.heap.size+1) o I (vl H)):=Z (x.mono (by have:=b.U.h.lt;omega));clear x f C y K E n b v g h
   go_wp2
   go_loopw [8,9] (λ v i b=>∃k:Nat,k<=64/\i=O (k:Int)/\BW o b/\gj (w.heap.size+1) b v (vl (ShaM.rounds j H k))) (λ _ i _=>64-(intOf i).toNat)
   case atStart=>exact⟨0,by omega,rfl,bz _ _,u.U⟩
   case round=>
    clear u;obtain⟨k,d,rfl,b,K⟩:=hrel;by_cases x:k<64
    ·have c3:=(c.U.below b).k.2.2 k x;have c5:=(b.cell (p:=⟨F,k,none⟩) m.U.1).trans (m.U.2 k x);have a6:ai (ShaM.rounds j H (k+1)=ShaM.mB (ShaM.rounds j H k) (ShaM.K.getD k 0) (j.getD k 0)):=Z rfl;have b2:=b.size;have d3:=c.U.h.lt;generalize ShaM.rounds j H k=g at*;generalize ShaM.K.getD k 0=Q at*;generalize j.getD k 0=a0 at*;have a9:=Z K;have a1:=Z b;clear K b;have T:(0:Int)<=(k:Int):=by omega
     have X:(k:Int)<64:=by omega
     go_wp2
     go_still_tail 9,zR
     show wpList _ _ _ _ _ wr.drew
     go_wp2_with fail
     refine(Xs (w:=wr.drew) (base:=w.heap.size+1) a9.U Q a0).mono ?_;rintro e R ⟨⟨b9,rfl,f⟩,u⟩;have E:ai (BW o R/\gj (w.heap.size+1) R b9 (vl (ShaM.mB g Q a0))):=Z ⟨(a1.U.drew).trans (u.mono b2),f.mono (by show w.heap.size+1<=wr.heap.size;omega)⟩;clear f u
     go_wp2
     go_roundw
     case rel=>exact⟨k+1,by omega,by go_num,E.U.1,by rw[a6.U];exact E.U.2⟩
     case measure=>simp[intOf];omega
    ·obtain rfl:k=64:=by omega
     obtain⟨C,c4,rfl,M,N,f⟩:=K;rw[DE] at f⊢;generalize ShaM.rounds j H 64=g at*;have b0:=Z M;have u:=Z f;have y:=Z (c.U.below b);clear M N f b c m x d
     go_wp2
     rw[show((64:Nat):Int)=64 from rfl]
     go_loopw [10] (λ i b=>∃k:Nat,k<=8/\i=O (k:Int)/\lS w b gk (acc (vl H) (vl g) k)/\∀i,i<8->b.cell? ⟨C,i,none⟩=some (.int .u32 (((vl g).getD i 0).toNat:Int))) (λ i _=>8-(intOf i).toNat)
     case atStart=>exact⟨0,by omega,rfl,y.U,u.U⟩
     case round=>
      clear y u;obtain⟨k,d,rfl,b,f⟩:=hrel;by_cases m:k<8
      ·have N:=f k m;have b3:=b.h.cell k;rw[Dw _ k (by rw[AJ _ _ _ rfl rfl d];exact m),vV _ _ k rfl rfl m] at b3;have c9:=b.h.frozen k;have M:=vX (vl H) (vl g) k rfl rfl m;generalize(vl H).getD k 0=x at*;generalize(vl g).getD k 0=y at*;have a5:=Z M;have c:=Z b;have u:=Z f;clear M b f;have T:(0:Int)<=(k:Int):=by omega
       have X:(k:Int)<8:=by omega
       have M:=wi
       go_wp2
       go_still_tail 12,zR
       show wpList _ _ _ _ _ wr.drew
       go_wp2
       go_roundw
       case rel=>exact⟨k+1,by omega,by go_num,lS.set (wr:=wr.drew) (c.U.below ((bz _ _).drew)) k _ (by rw[aam,<-a5.U];rfl),λ i z=>(World.oI (ta wr.drew ⟨w.heap.size,k,none⟩ _ C (by have:=b0.U;show C≠w.heap.size;omega))).trans (u.U i z)⟩
       case measure=>simp[intOf];omega
      ·obtain rfl:k=8:=by omega
       have c:=Z b;clear b f
       go_wp2
       go_roundw
       case rel=>exact⟨q+1,A+64,by omega,by have:=D.U;omega,by go_num,by rw[a3.U,<-vU];exact c.U⟩
       case measure=>have:=D.U;simp[intOf];omega
  ·obtain rfl:q=B:=by omega
   have D:=Z G;have b1:¬(A:Int)<(t.size:Int):=by have:=L.U;have:=D.U;omega
   obtain⟨b0,a0,a5,a6,a9⟩:=ki yC;generalize ShaM.chain P q=C at*;have u:=iG.new h.U.aK;have f:=Z u;have g:=Z (h.U.below (bJ wr (.cells #[] 5)));clear u
   go_wp2
   go_loopw [11,12] (λ v i wr=>∃k:Nat,k<=8/\i=O (k:Int)/\iG w wr v (qJ (vl C) k)/\ah wr w.heap.size 95 (br (vl C))) (λ _ i _=>8-(intOf i).toNat)
   case atStart=>exact⟨0,by omega,rfl,f.U,g.U.h⟩
   case round=>
    clear f g h;obtain⟨k,d,rfl,f,b⟩:=hrel;by_cases m:k<8
    ·have v:=(b.cell k).trans (Dw _ k m);have r:=IG (vl C) k d;have Q:=IH (vl C) k m;have n:=f.own;rw[r] at n;have u:∀g,some w.heap.size=g->u11.ownBlock≠g:=λ g y h=>qN n b zD (h.trans y.symm);generalize(vl C).getD k 0=x at*;have M:=Z Q;have c:=Z b;have y:=Z f;have J:=Z r;have K:=Z u;clear Q b f r u;have T:(0:Int)<=(k:Int):=by omega
     have X:(k:Int)<8:=by omega
     go_wp2
     go_region_held3 (λ b2=>b2.cell? ⟨w.heap.size,k,none⟩=some (.int .u32 (x.toNat:Int))) (first|exact v|exact r|exact(World.oI (sZ wr _ w.heap.size c.U.lt)).trans v)
      ((refine YC rfl _ _ 29 rfl w.heap.size 5 b0 (.int .u8 0) 1 dZ a0 a5 a6 a9 rfl _ _ _ rfl (xE n _).drew wr.heap.size 4 rfl _ _ _ (lo wr _) rfl zD (by intro u R;simp at R;rcases R with rfl|rfl|rfl|rfl<;>rfl) (by unfold maxLen;omega) W (by have:=y.U.aK.size;simp;omega) ?_;intro I a Q g a1;have r:a.cell? ⟨w.heap.size,k,none⟩=some (.int .u32 (x.toNat:Int)):=(World.oI (g.block w.heap.size (by have:=c.U.lt;simp;omega) (λ h=>K.U _ h rfl))).trans ((World.oI (sZ wr _ w.heap.size c.U.lt)).trans v)))
     have E:ai (iG w a I (qJ (vl C) (k+1))):=Z (by rw[M.U];exact y.U.append ((bJ wr _).drew) J.U rfl Q g (VX x));have u:ai (ah a w.heap.size 95 (br (vl C))):=Z (ah.grown ((c.U.alloc _).drew) g (λ h=>K.U _ rfl h.symm));clear Q g a1 r n v y c M K
     go_wp2
     go_roundw
     case rel=>exact⟨k+1,by omega,by go_num,E.U,u.U⟩
     case measure=>simp[intOf];omega
    ·obtain rfl:k=8:=by omega
     have N:=wv (P:=prog) dZ gi dO f.own;rw[VZ,<-a7.U] at N;have c:=Z f.aK;clear f b
     go_wp2
     go_ret
     exact⟨rfl,c.U⟩
def HG(d:List UInt8):List UInt8:=ShaM.sum (0::d)
def Io(l r:List UInt8):List UInt8:=ShaM.sum (1::(l++r))
def dn:ag:=⟨#[48,49,50,51,52,53,54,55,56,57,97,98,99,100,101,102]⟩
def Zl(s:ag)(k:Nat)(h:k<s.size):s.data.toList.take (k+1)=s.data.toList.take k++[s[k]]:=by
 rw[dC (by simpa using h)];rfl
variable{b:List UInt8}
section
section
variable{P:Program}
end
def je.form{v:ab}(h:je v b):∃a,v=aG a/\a.size=74/\a.all (·.oneCell')=true/\(prog.info? 358).map (·.size)=some a.size/\je (aG a) b:=by
 obtain⟨on,d,left,rfl,a⟩:=h;have c:(cX on (vl d) left b.length).size=74:=Jn rfl a.hlen;exact⟨_,rfl,c,by rw[Array.all_eq_true_iff_forall_mem];intro v e;exact CS v (by simpa using e),by rw[c];exact B4,on,d,left,rfl,a⟩
def ox(w:aa)(g:Nat)(l:List UInt8):Prop:=∃a,ah w g 358 a/\a.size=74/\(prog.info? 358).map (·.size)=some a.size/\je (aG a) l
def ox.rb{w:aa}(h:ox w g b):∃on a left,RB w g on (vl a) left b.length/\ShaM.aI on a left b:=by
 obtain⟨f,e,i,j,on,a,left,c,d⟩:=h;injection c with c;subst c;exact⟨on,a,left,⟨e,rfl,d.hlen⟩,d⟩
def ox.gnN{w:aa}(h:ox w g b):w.cell? ⟨g,73,none⟩=some (O (b.length:Int)):=by
 obtain⟨on,d,left,a,c⟩:=h.rb;exact a.gN
def ox.store{w d:aa}{m:List UInt8}{a:Array ab}(h:ox w g b)(e:BW w d)(h1:a.size=74)(h2:(prog.info? 358).map (·.size)=some a.size)(h3:je (aG a) m):ox (d.setRow g a) g m:=by
 obtain⟨f,c,_⟩:=h;exact⟨a,ah.setRow ((e.block g c.lt).trans c) a,h1,h2,h3⟩
structure EW(w wr:aa)(l:List UInt8):Prop where
 aK:BW w wr
 run:ox wr w.heap.size l
def EW.step{w wr d:aa}{m:List UInt8}{a:Array ab}(h:EW w wr b)(c:BW wr d)(h1:a.size=74)(h2:(prog.info? 358).map (·.size)=some a.size)(h3:je (aG a) m):EW w (d.setRow w.heap.size a) m:=
 ⟨bY (h.aK.trans (c.mono h.aK.size)) (aW _) a,h.run.store c h1 h2 h3⟩
def V0(v:ShaM.V8):((vl v).take 8).flatMap ShaM.fK=ShaM.U v:=rfl
def V3(v:ShaM.V8)(k:Nat)(a:k<8):((vl v).take (k+1)).flatMap ShaM.fK=((vl v).take k).flatMap ShaM.fK++ShaM.fK ((vl v).getD k 0):=by
 rw[dC (by exact a),List.flatMap_append,eY,ba (by exact a)];simp
def V4(v:ShaM.V8)(k:Nat)(a:k<=8):(((vl v).take k).flatMap ShaM.fK).length=4*k:=by
 rw[List.length_flatMap]
 match k,a with
 |0,_=>rfl
 |1,_=>rfl
 |2,_=>rfl
 |3,_=>rfl
 |4,_=>rfl
 |5,_=>rfl
 |6,_=>rfl
 |7,_=>rfl
 |8,_=>rfl
def VY(x:UInt32): #[Value.int .u8 ((x.toNat:Int)/16777216),Value.int .u8 ((x.toNat:Int)/65536%256),Value.int .u8 ((x.toNat:Int)/256%256),Value.int .u8 ((x.toNat:Int)%256)].toList=ca (ShaM.fK x):=by
 have:=x.toNat_lt;have a:((UInt8.ofNat (x.toNat/16777216)).toNat:Int)=(x.toNat:Int)/16777216:=by simp;omega
 have b:((UInt8.ofNat (x.toNat/65536)).toNat:Int)=(x.toNat:Int)/65536%256:=by simp
 have c:((UInt8.ofNat (x.toNat/256)).toNat:Int)=(x.toNat:Int)/256%256:=by simp
 have d:((UInt8.ofNat x.toNat).toNat:Int)=(x.toNat:Int)%256:=by simp
 simp only[ca,ShaM.fK,cw,ek];rw[a,b,c,d]
def NI(m:Nat):(strOfNums [IntKind.u8.wrap (m:Int)]).data.toList=[UInt8.ofNat m]:=by
 have:IntKind.u8.wrap (m:Int)=(m:Int)%256:=rfl;rw[this];exact FA m
def Ul(m k:Nat)(a:k<8):(ShaM.len8 (8*m)).take (k+1)=(ShaM.len8 (8*m)).take k++(strOfNums [IntKind.u8.wrap ((m:Int)*8/2^(56-8*k))]).data.toList:=by
 have e:(m:Int)*8/2^(56-8*k)=((8*m/2^(56-8*k):Nat):Int):=by rw[Int.natCast_ediv,Int.mul_comm];simp
 rw[e,NI]
 match k,a with
 |0,_=>rfl
 |1,_=>rfl
 |2,_=>rfl
 |3,_=>rfl
 |4,_=>rfl
 |5,_=>rfl
 |6,_=>rfl
 |7,_=>simp[ShaM.len8]
def Bo{w:aa}(Q:cp w){v:ab}(h:je v b)(d4:b.length<=90000000):
 CB 296 #[v] w (ae ⟨(ShaM.sum b).toArray⟩):=by
 obtain⟨m,rfl,a7,d2,a1,d⟩:=h.form
 have f:ah (w.alloc (.cells m 358)) w.heap.size 358 m:=ah.new _ _ _
 have a:EW w (w.alloc (.cells m 358)) b:=⟨bJ w _,m,f,a7,a1,d⟩
 have z:=a.run.gnN
 have c:=Z a;have B:=Z Q;have j:=Z d
 clear h Q a d
 have e:∀(d:aa) (x:Int),(convert 29 9 (ad (some ⟨d.heap.size,0,none⟩) 1 1)).run prog (d.alloc (.cells #[.int .u8 x] 5)).drew= .ok (ae (strOfNums [x])) (d.alloc (.cells #[.int .u8 x] 5)).drew:=
  λ d x=>wy (P:=prog) d.drew 29 9 5 [x] dZ gi dO 1 1 rfl 5
 have b5:=Z e;clear e
 go_enter func296,ntmps296
 go_wp2_with(refine bO rfl 358 (Operand.tmp 1) rfl w.heap.size zR 358 m (0,0) _ f tx rfl a1 ?_)
 refine(nZ (w:=w.alloc (.cells m 358)) (B.U.below c.U.aK) j.U ⟨#[128]⟩ (by show b.length+1<=_;omega)).mono ?_
 rintro e b0 ⟨⟨c6,rfl,g⟩,i⟩
 obtain⟨I,rfl,a4,b7,T,p⟩:=g.form
 have l:ah b0 w.heap.size 358 m:=(i.block _ f.lt).trans f
 have k:ai (EW w (b0.setRow w.heap.size I) (b++[128])):=Z (c.U.step i a4 T p)
 clear g p i z c j f
 go_wp2_with(refine cn rfl 358 (Operand.tmp 1) (Operand.tmp 13) rfl w.heap.size I zR zR 358 m l T (a7.trans a4.symm) b7 ?_)
 clear l
 go_frame
 go_loopg [] (ShaM.cA b.length) (λ q wr=>∃j:Nat,j+q=ShaM.cA b.length/\EW w wr (b++[128]++List.replicate j 0))
 case atStart=>exact⟨0,eu _,by simpa using k.U⟩
 case round=>
  clear k
  obtain⟨j,i,a⟩:=hrel
  have z:=a.run.gnN
  have s:(b++[128]++List.replicate j 0).length=b.length+1+j:=by simp;omega
  rw[s] at z
  by_cases f:j<ShaM.cA b.length
  ·have a8:(((b.length+1+j:Nat):Int)%64 !=56)=true:=by rw[nu];unfold ShaM.cA at f;omega
   have d3:j<=63:=by unfold ShaM.cA at f;omega
   have G:=Z i
   obtain⟨l,q,E,F,p⟩:=id a.run
   have c:=Z a;have u:=Z p;have C:=Z s
   have d1:b.length+1+j<=90000100:=by omega
   generalize b.length+1+j=N at*
   clear a p s i
   go_wp2_with(refine bO rfl 358 (Operand.tmp 1) rfl w.heap.size zR 358 l (0,0) _ q tx rfl F ?_)
   refine(nZ (w:=wr) (B.U.below c.U.aK) u.U ⟨#[0]⟩ (by rw[C.U];show N+1<=_;omega)).mono ?_
   rintro e b1 ⟨⟨c7,rfl,g⟩,k⟩
   obtain⟨J,rfl,a5,b8,X,r⟩:=g.form
   have b6:ah b1 w.heap.size 358 l:=(k.block _ q.lt).trans q
   have b3:ai (EW w (b1.setRow w.heap.size J) (b++[128]++List.replicate (j+1) 0)):=Z (by
    have:=c.U.step k a5 X r
    rw[List.replicate_succ',<-di];exact this)
   clear g r k z q c u
   go_wp2_with(refine cn rfl 358 (Operand.tmp 1) (Operand.tmp 19) rfl w.heap.size J zR zR 358 l b6 X (E.trans a5.symm) b8 ?_)
   go_frame
   go_roundg (gk-1)
   case measure=>have:=G.U;omega
   case rel=>exact⟨j+1,by have:=G.U;omega,b3.U⟩
  ·have a8:(((b.length+1+j:Nat):Int)%64 !=56)=false:=by rw[AX];unfold ShaM.cA at f i;omega
   obtain rfl:j=ShaM.cA b.length:=by omega
   have c:=Z a
   generalize b.length+1+ShaM.cA b.length=N at*
   clear a i f
   go_wp2
   generalize i:b++[128]++List.replicate (ShaM.cA b.length) 0=A at c
   have c0:A.length<=90000100:=by
    rw[<-i];simp only[bA,ej,pQ];unfold ShaM.cA;omega
   have H:=Z i
   clear i
   go_loopw [4,20] (λ _ i wr=>∃k:Nat,k<=8/\i=O (k:Int)/\EW w wr (A++(ShaM.len8 (8*b.length)).take k)) (λ _ i _=>8-(intOf i).toNat)
   case atStart=>exact⟨0,by omega,rfl,by simpa using c.U⟩
   case round=>
    clear c
    obtain⟨k,a2,rfl,a⟩:=hrel
    by_cases f:k<8
    ·obtain⟨l,q,E,F,p⟩:=id a.run
     have c:=Z a;have u:=Z p
     clear a p
     have a9:(k:Int)<8:=by omega
     have d0:IntKind.i64.wrap (8*(k:Int))=8*(k:Int):=bd _ W
     have c9:IntKind.i64.wrap (56-8*(k:Int))=56-8*(k:Int):=bd _ W
     have R:=b5.U
     have t56:(56-8*(k:Int)).toNat=56-8*k:=by omega
     go_wp2
     refine iE (n:=10) (S:=λ t=>ah t w.heap.size 358 l) V V q (λ r=> ?_)
     refine W2 0 _ rfl rfl (cv zR 358 (Operand.tmp 1) rfl w.heap.size zR 358 l (0,0) _ (λ _ h=>h) tx rfl F) zA ?_
     refine az.take (i:=1) (oi:=_) (v:=?v1) rfl zD V V (λ _ _ _ h=>h) (Or.inl ⟨by rfl,?h1⟩) zA ?r1
     case h1=>(intro t y;go_simp;try(with_reducible rfl))
     try simp only[Act.put,aH]
     refine az.take (i:=2) (oi:=_) (v:=?v2) rfl zD V V (λ _ _ _ h=>h) (Or.inl ⟨by rfl,?h2⟩) zA ?r2
     case h2=>(intro t y;go_simp;try(with_reducible rfl))
     try simp only[Act.put,aH]
     refine az.take (i:=3) (oi:=_) (v:=?v3) rfl zD V V (λ _ _ _ h=>h) (Or.inl ⟨by rfl,?h3⟩) zA ?r3
     case h3=>(intro t y;go_simp;try(with_reducible rfl))
     try simp only[Act.put,aH]
     refine az.take (i:=4) (oi:=_) (v:=?v4) rfl zD V V (λ _ _ _ h=>h) (Or.inl ⟨by rfl,?h4⟩) zA ?r4
     case h4=>(intro t y;go_simp;try(with_reducible rfl))
     try simp only[Act.put,aH]
     refine az.take (i:=5) (oi:=_) (v:=?v5) rfl zD V V (λ _ _ _ h=>h) (Or.inl ⟨by rfl,?h5⟩) zA ?r5
     case h5=>(intro t y;go_simp;try(with_reducible rfl))
     try simp only[Act.put,aH]
     refine az.take (i:=6) (oi:=_) (v:=?v6) rfl zD V V (λ _ _ _ h=>h) (Or.inl ⟨by rfl,?h6⟩) zA ?r6
     case h6=>(intro t y;go_simp;try(with_reducible rfl))
     try simp only[Act.put,aH]
     refine az.one (i:=7) (o:=?o7) V zD ?RH ?hk7
     case RH=>(simp only[sG];exact rfl)
     intro K p
     go_simp
     refine p.out _ _ (ah.alloc r _) (λ r=> ?_)
     clear p K
     try simp only[aH]
     refine az.one (i:=8) (o:=?o8) V zD ?RI ?hk8
     case RI=>(simp only[sG];exact rfl)
     intro K p
     go_simp
     refine p.out _ _ r (λ r=> ?_)
     clear p K
     try simp only[aH]
     refine az.one (i:=9) (o:=?o9) V zD ?RJ ?hk9
     case RJ=>(simp only[sG];exact rfl)
     intro K p
     go_simp
     refine(nZ (B.U.below ((c.U.aK.alloc c.U.aK.size _).drew)) u.U _ (by rw[strOfNums_size,bA,ee];have:=c0;simp;omega)).mono ?_
     rintro e b2 ⟨⟨d7,rfl,g⟩,D⟩
     rw[di,<-Ul _ _ f] at g
     obtain⟨L,rfl,a6,b9,a0,a3⟩:=g.form
     have M:ah b2 w.heap.size 358 l:=(D.block _ (ah.lt r)).trans r
     have b4:ai (EW w (b2.setRow w.heap.size L) (A++(ShaM.len8 (8*b.length)).take (k+1))):=Z (c.U.step (((bJ wr _).drew).trans (D.mono zS)) a6 a0 a3)
     go_simp
     refine p.out _ _ M (λ r=> ?_)
     clear g a3 D c u q
     clear p K
     try simp only[aH]
     refine WT ?_
     refine cn rfl 358 (Operand.tmp 1) (Operand.tmp 32) rfl w.heap.size L zR zR 358 l M a0 (E.trans a6.symm) b9 ?_
     go_wp2
     go_roundw
     case rel=>exact⟨k+1,by omega,by go_num,b4.U⟩
     case measure=>simp[intOf];omega
    ·obtain rfl:k=8:=by omega
     rw[cS (by simp[ShaM.ua])] at a
     have u:A++ShaM.len8 (8*b.length)=ShaM.fq b:=by rw[<-H.U];rfl
     rw[u] at a
     obtain⟨on,c,left,p,q⟩:=a.run.rb
     have a3:=Z (ShaM.aI.sum b q)
     have g:ai (iG w wr (ad none 0 0) []):=Z (iG.nil a.aK)
     have D:=p.range
     clear a u p q H f a2
     obtain⟨c5,H,c2,c3,c4⟩:=ki yC
     go_wp2_with(refine DM rfl 355 (Operand.tmp 34) rfl w.heap.size 1 zR ((vl c).map fw) _ D vN rfl (Ht _) ?_)
     clear D
     go_loopw [5,7,36] (λ v _ i d=>∃k:Nat,k<=8/\i=O (k:Int)/\iG w d v (((vl c).take k).flatMap ShaM.fK)) (λ _ _ i _=>8-(intOf i).toNat)
     case atStart=>exact⟨0,by omega,rfl,g.U⟩
     case round=>
      clear g
      obtain⟨k,a2,rfl,a⟩:=hrel
      by_cases f:k<8
      ·have D:=λ d=>Hs c d k f
       unfold br at D
       have c1:=Z (V3 c k f)
       have i:=a.own
       have s:=V4 c k (vz f)
       rw[s] at i
       generalize(vl c).getD k 0=x at*
       have g:=Z a;have C:=Z s
       clear a s z a8
       rename aa=>d
       have d6:=x.toNat_lt
       have a9:(k:Int)<8:=by omega
       go_wp2_with(refine yE rfl _ _ 29 rfl w.heap.size 5 c5 (.int .u8 0) 1 dZ H c2 c3 c4 rfl _ _ _ rfl (xE i _) d.heap.size 4 rfl _ _ _ (lo d _) rfl zD (by intro u p;simp at p;rcases p with rfl|rfl|rfl|rfl<;>rfl) (by unfold maxLen;omega) W (by have:=g.U.aK.size;simp;omega) ?_;intro a8 c8 z s d5)
       have q:ai (iG w c8 a8 (((vl c).take (k+1)).flatMap ShaM.fK)):=Z (by
        rw[c1.U]
        exact g.U.append (bJ d _) C.U rfl z s (VY x))
       go_roundw
       case rel=>exact⟨k+1,by omega,by go_num,q.U⟩
       case measure=>simp[intOf];omega
      ·obtain rfl:k=8:=by omega
       rw[V0] at a
       have R:=wv (P:=prog) dZ gi dO a.own
       rw[a3.U] at R
       have d:=Z a.aK
       clear a
       go_wp2
       go_ret
       exact⟨rfl,d.U⟩
end
