import Derived.Test.YtncpbkoinennoaaGreatDoorMAR
set_option linter.all false
set_option maxRecDepth 100000
set_option maxHeartbeats 0
namespace Go.Proofs.YtncpbkoinennoaaGreatDoor
open Go.RowKit Proofs.Tryz
attribute [local irreducible] wpList Calls
def Ut:(#[.int .u32 1116352408,.int .u32 1899447441,.int .u32 3049323471,.int .u32 3921009573,.int .u32 961987163,.int .u32 1508970993,.int .u32 2453635748,.int .u32 2870763221,.int .u32 3624381080,.int .u32 310598401,.int .u32 607225278,.int .u32 1426881987,.int .u32 1925078388,.int .u32 2162078206,.int .u32 2614888103,.int .u32 3248222580,.int .u32 3835390401,.int .u32 4022224774,.int .u32 264347078,.int .u32 604807628,.int .u32 770255983,.int .u32 1249150122,.int .u32 1555081692,.int .u32 1996064986,.int .u32 2554220882,.int .u32 2821834349,.int .u32 2952996808,.int .u32 3210313671,.int .u32 3336571891,.int .u32 3584528711,.int .u32 113926993,.int .u32 338241895,.int .u32 666307205,.int .u32 773529912,.int .u32 1294757372,.int .u32 1396182291,.int .u32 1695183700,.int .u32 1986661051,.int .u32 2177026350,.int .u32 2456956037,.int .u32 2730485921,.int .u32 2820302411,.int .u32 3259730800,.int .u32 3345764771,.int .u32 3516065817,.int .u32 3600352804,.int .u32 4094571909,.int .u32 275423344,.int .u32 430227734,.int .u32 506948616,.int .u32 659060556,.int .u32 883997877,.int .u32 958139571,.int .u32 1322822218,.int .u32 1537002063,.int .u32 1747873779,.int .u32 1955562222,.int .u32 2024104815,.int .u32 2227730452,.int .u32 2361852424,.int .u32 2428436474,.int .u32 2756734187,.int .u32 3204031479,.int .u32 3329325298]:Array ab)=bj ShaM.K:=by kernel_rfl
def Uu(w:aa):Calls prog 38 #[] w (xv w ShaM.K):=by
 go_enter func38,ntmps38
 go_wp2
 rw[Ut]
 go_ret
 exact⟨⟨_,rfl,fY.new w 95 ShaM.K 64⟩,bJ w _⟩
def hO(n:Nat):Nat->List UInt8
 |0=>[]
 |k+1=>UInt8.ofNat (n/256^k)::hO n k
def UR(n:Nat):hO n 8=ShaM.len8 n:=by simp[hO,ShaM.len8]
def yz(n:Nat):∀k,(hO n k).length=k
 |0=>rfl
 |k+1=>by simp[hO,yz n k]
def BM(m:Nat):(strOfNums [(m:Int)%256]).data.toList=[UInt8.ofNat m]:=by
 rw[strOfNums_data];simp only[bZ,eg];congr 1;apply xu.1;have:((m:Int)%256).toNat=m%256:=by omega
 rw[this];simp
def nx(a b:af):(a++b).data.toList=a.data.toList++b.data.toList:=by simp[rN]
def ny(a:af):a.size=a.data.toList.length:=by simp
def WQ(s:af)(B:s.size<=100000000)(w:aa):CB 39 #[ad s] w (ad ⟨(ShaM.dF s.data.toList).toArray⟩):=by
 have f:∀(a:aa) (x:Int),(convert 29 9 (ag (some ⟨a.heap.size,0,none⟩) 1 1)).run prog (a.alloc (.cells #[.int .u8 x] 5))= .ok (ad (strOfNums [x])) (a.alloc (.cells #[.int .u8 x] 5)):=
  λ a x=>uT (P:=prog) a 29 9 5 [x] cP eJ df 1 1 rfl 5
 have p:=Z f;clear f
 go_enter func39,ntmps39
 go_wp2
 go_loopg [4] (ShaM.cb s.size) (λ q t wr=>∃(j:Nat) (b:af),j+q=ShaM.cb s.size/\t=ad b/\b.data.toList=s.data.toList++[128]++List.replicate j 0/\w=wr)
 case atStart=>exact⟨0,_,dz _,rfl,by simp,rfl⟩
 case round=>
  obtain⟨j,b,a,rfl,c,rfl⟩:=hrel;have d:b.size=s.size+1+j:=by rw[ny,c];simp;omega
  have h:=Z c;have u:=Z d;have v:b.size<=100000200:=by unfold ShaM.cb at a;omega
  by_cases g:j<ShaM.cb s.size
  ·have t:((b.size:Int)%64 !=56)=true:=by rw[ml];unfold ShaM.cb at g;omega
   have l:=Z a;clear c d a
   go_wp2
   go_roundg (gk-1)
   case measure=>have:=l.U;omega
   case rel=>exact⟨j+1,_,by have:=l.U;omega,rfl,by rw[nx,h.U,AJ];simp,rfl⟩
  ·have t:((b.size:Int)%64 !=56)=false:=by rw[sx];unfold ShaM.cb at g a;omega
   obtain rfl:j=ShaM.cb s.size:=by omega
   clear c d a
   go_wp2
   go_loopw [3,5,6] (λ c a i d=>∃(k:Nat) (e:af),k<=8/\i=O k/\c=U ((8*s.size/256^k:Nat):Int)/\a=ad e/\e.data.toList=hO (8*s.size) k/\BW w d) (λ _ _ i _=>8-(intOf i).toNat)
   case atStart=>exact⟨0,_,by omega,rfl,by rw[sd,rW];congr 1;omega,rfl,rfl,bp _ _⟩
   case round=>
    obtain⟨k,e,y,rfl,rfl,rfl,i,d⟩:=hrel;have o:8*s.size/256^(k+1)=8*s.size/256^k/256:=by rw[ca,gM]
    have z:8*s.size/256^k<=8*s.size:=ng _ _;have n:hO (8*s.size) (k+1)=UInt8.ofNat (8*s.size/256^k)::hO (8*s.size) k:=rfl;generalize 8*s.size/256^k=m at*;have r:=Z o;have q:=Z n;have a:=Z i;have c:=Z d;have A:(m:Int)<=800000000:=by omega
    clear o n i d g;by_cases n:k<8
    ·have f:=p.U;have o:=λ x=>Mm [x];have i:e.size<=8:=by rw[ny,a.U,yz];omega
     go_wp2
     go_roundw
     case rel=>exact⟨k+1,_,by omega,by go_num,by rw[r.U];congr 1,rfl,by rw[nx,a.U,q.U,BM];rfl,c.U.alloc c.U.size _⟩
     case measure=>simp[intOf];omega
    ·obtain rfl:k=8:=by omega
     have i:e.size<=8:=by rw[ny,a.U,yz];omega
     have d:b++e=⟨(ShaM.dF s.data.toList).toArray⟩:=su (by
      rw[nx,h.U,a.U,UR];have e1:s.size=s.data.toList.length:=by simp
      unfold ShaM.dF;rw[<-e1])
     have g:=Z d;clear d
     go_wp2
     go_ret
     exact⟨by rw[<-g.U];rfl,c.U⟩
variable{g k n:Nat}
def wj(v:ShaM.V8):(bj (vl v)).size=8:=by rw[zF];rfl
def vr(u v:ShaM.V8):(bj (vl u)).size=(bj (vl v)).size:=by rw[wj,wj]
def tA(a b:UInt32):IntKind.u32.wrap ((a.toNat:Int)+(b.toNat:Int))=((a+b).toNat:Int):=og a b
def zn(a b c d e:UInt32):IntKind.u32.wrap (IntKind.u32.wrap (IntKind.u32.wrap (IntKind.u32.wrap ((a.toNat:Int)+(b.toNat:Int))+(c.toNat:Int))+(d.toNat:Int))+(e.toNat:Int))=((a+b+c+d+e).toNat:Int):=by
 rw[og,og,og,og]
structure gZ(w wr:aa)(g b:Nat)(st:ShaM.V8)(left:List UInt8)(n:Nat)(rI:ShaM.V8):Prop where
 er:RB wr g true (vl st) left n
 a:ah wr b 380 (bj (ShaM.wl left 64))
 es:ah wr (b+1) 355 (bj (vl rI))
 d:aW w.heap.size [g] w wr
 c:de wr
def de.QG{w:aa}(h:de w):de w.drew:=⟨h.b,h.k⟩
def gZ.drew{w wr:aa}{g b:Nat}{a:ShaM.V8}{left:List UInt8}{n:Nat}{c:ShaM.V8}(h:gZ w wr g b a left n c):gZ w wr.drew g b a left n c:=⟨h.er,h.a,h.es,h.d.drew,h.c.QG⟩
def gZ.wk{w wr:aa}{b:ShaM.V8}{left:List UInt8}{c:ShaM.V8}(h:gZ w wr g k b left n c)(a:Nat)(d:a<64):wr.cell? ⟨k,a,none⟩=some (.int .u32 (((ShaM.wl left 64).getD a 0).toNat:Int)):=by
 rw[h.a.cell];exact E8 _ a (by rw[ShaM.cU];omega)
def gZ.v{w wr:aa}{b:ShaM.V8}{left:List UInt8}{a:ShaM.V8}(h:gZ w wr g k b left n a)(i:Nat):wr.cell? ⟨k+1,i,none⟩=(bj (vl a))[i]?:=h.es.cell i
def gZ.put{w wr:aa}{b:ShaM.V8}{left:List UInt8}{j a:ShaM.V8}(h:gZ w wr g k b left n j)(m:g<k)(h2:7<=g)(l:w.heap.size<=k):gZ w (wr.setRow (k+1) (bj (vl a))) g k b left n a:=by
 refine⟨h.er.setRow W _,h.a.cH _ W,h.es.setRow _,h.d.setRow (.inr W) _,?_⟩;obtain⟨⟨t,c,e⟩,i,d,f⟩:=h.c;exact⟨⟨t,c,(EE wr _ 5 _ W).trans e⟩,i,d,(EE wr _ 6 _ W).trans f⟩
def Cg{w:aa}(N:de w){on:Bool}{E:ShaM.V8}{left:List UInt8}(h:RB w g on (vl E) left n)(K:7<=g):
 Calls prog 312 #[pV g] w λ e a=>e=ao (aM #[])/\RB a g true (vl (ShaM.compress (bif on then E else ShaM.eK) left)) left n/\aW w.heap.size [g] w a:=by
 have k:=h.Sx
 have Q:=h.fr 0
 have b:=Z h;have a:=Z N
 clear h N
 go_enter func312,ntmps312
 go_upto_if 15 with fail
 go_cut [] (λ s=>RB s g true (vl (bif on then E else ShaM.eK)) left n/\aW w.heap.size [g] w s/\de s)
 case first=>
  cases on
  ·obtain⟨⟨t,f,i⟩,-⟩:=a.U
   go_wp2_with(first|refine bD rfl 355 (Operand.global 5) rfl 5 rfl t _ f _ i xr rfl (vu _) ?_|refine MZ rfl 355 (Operand.tmp 22) (Operand.tmp 18) rfl g 1 (bj (vl ShaM.eK)) zR zR (aaD (b.U.LZ true) _) (vu _) (wF _) ?_)
   go_meet
   have q:=(b.U.LZ true).Zp ShaM.eK
   have d:aW w.heap.size [g] w ((w.setCell ⟨g,0,none⟩ (aK true)).setCells g 1 ((vl ShaM.eK).map fv)):=
    ((aW.refl _ _ _).setCell (p:=⟨g,0,none⟩) (.inl zS) _).trans (by have:=Wo (w.setCell ⟨g,0,none⟩ (aK true)) g 1 ((vl ShaM.eK).map fv);simpa[World.setCell] using this)
   exact⟨q,d,a.U.grow d K⟩
  ·go_wp2
   go_meet
   exact⟨b.U,aW.refl _ _ _,a.U⟩
 case rest=>
  obtain⟨r,t,d⟩:=hcut
  generalize i:(bif on then E else ShaM.eK)=j at r
  have I:=Z i;have z:=Z r;have A:=Z t;have f:=Z d
  have B:=a
  clear i r t d k Q b a
  go_wp2_with fail
  refine(Zv g 9 left z.U.2.2 wc (λ i a3=>z.U.gL i a3)).mono ?_
  rintro e l ⟨rfl,b⟩
  have m:=z.U.below b
  have o:=f.U.below b
  have k:aW w.heap.size [g] w l:=A.U.trans ((aW.px b _).mono A.U.size (λ _ _ h=>h))
  have C:=wg (P:=prog) l (bj (List.replicate 64 0)) 380 (bj (ShaM.wl left 64)).toList (by simp[bj,ShaM.cU]) (E9 _)
  rw[show(bj (ShaM.wl left 64)).toList.toArray=bj (ShaM.wl left 64) from mU,L1] at C
  have b1:(bj (ShaM.wl left 64)).size=64:=by rw[zF,ShaM.cU]
  have v:ah (l.alloc (.cells (bj (ShaM.wl left 64)) 380)) l.heap.size 380 (bj (ShaM.wl left 64)):=ah.new _ _ _
  generalize y:bj (ShaM.wl left 64)=u at*
  have x:=Z v;have F:=Z y;have a:=Z m;have D:=Z o;have d:=Z k
  clear v y m o k b z A f
  have f:=fD l (.cells u 380) 355 mS
  have k:ai (RB (((l.alloc (.cells u 380)).alloc (.cells mS 355)).setRow (l.heap.size+1) (bj (vl j))) g true (vl j) left n):=Z (((a.U.alloc _).alloc _).setRow (by have:=a.U.lt;omega) _)
  have o:ai (ah (((l.alloc (.cells u 380)).alloc (.cells mS 355)).setRow (l.heap.size+1) (bj (vl j))) l.heap.size 380 u):=Z ((x.U.alloc _).cH _ W)
  have m:ai (ah (((l.alloc (.cells u 380)).alloc (.cells mS 355)).setRow (l.heap.size+1) (bj (vl j))) (l.heap.size+1) 355 (bj (vl j))):=Z (f.setRow _)
  have b:ai (aW w.heap.size [g] w (((l.alloc (.cells u 380)).alloc (.cells mS 355)).setRow (l.heap.size+1) (bj (vl j)))):=Z (by
   have q:=d.U.size
   exact(((d.U.alloc q _).alloc (by simp;omega) _).setRow (.inr W) _))
  unfold mS at f k o m b
  go_wp2_with(first|refine Fm rfl 355 (Operand.tmp 29) rfl g 1 zR ((vl j).map fv) _ (a.U.alloc _).range xr rfl (I2 _) ?_|refine cm rfl 355 (Operand.tmp 3) (Operand.tmp 30) rfl (l.heap.size+1) (bj (vl j)) zR zR 355 _ f (vu _) rfl (wF _) ?_)
  have a2:g<l.heap.size:=a.U.lt
  have a4:w.heap.size<=l.heap.size:=d.U.size
  have v:ai (gZ w (((l.alloc (.cells u 380)).alloc (.cells #[.int .u32 0,.int .u32 0,.int .u32 0,.int .u32 0,.int .u32 0,.int .u32 0,.int .u32 0,.int .u32 0] 355)).setRow (l.heap.size+1) (bj (vl j))) g l.heap.size j left n j):=Z ⟨k.U,by rw[F.U];exact o.U,m.U,b.U,B.U.grow b.U K⟩
  clear C f a D d x k o m b
  generalize((l.alloc (.cells u 380)).alloc (.cells #[.int .u32 0,.int .u32 0,.int .u32 0,.int .u32 0,.int .u32 0,.int .u32 0,.int .u32 0,.int .u32 0] 355)).setRow (l.heap.size+1) (bj (vl j))=b3 at*
  generalize l.heap.size=bb at*
  go_loopg [31] 64 (λ q i wr=>∃k:Nat,k+q=64/\i=O k/\gZ w wr g bb j left n (ShaM.rounds (ShaM.wl left 64) j k))
  case atStart=>exact⟨0,dz _,rfl,v.U⟩
  case round=>
   clear v
   obtain⟨k,R,rfl,m⟩:=hrel
   by_cases q:k<64
   ·have x:ai (ShaM.rounds (ShaM.wl left 64) j (k+1)=ShaM.iJ (ShaM.rounds (ShaM.wl left 64) j k) (ShaM.K.getD k 0) ((ShaM.wl left 64).getD k 0)):=Z rfl
    have y:=λ s (h:gZ w s g bb j left n (ShaM.rounds (ShaM.wl left 64) j k))=>h.c.key k q
    have H:=λ s (h:gZ w s g bb j left n (ShaM.rounds (ShaM.wl left 64) j k))=>h.wk k q
    generalize ShaM.K.getD k 0=C at*
    generalize(ShaM.wl left 64).getD k 0=D at*
    generalize ShaM.rounds (ShaM.wl left 64) j k=v at*
    obtain⟨a,b,c,d,e,f,o,h⟩:=v
    have G:=Z y;have J:=Z H;have L:=Z m
    have S:wr.cell? ⟨bb+1,0,none⟩=some (.int .u32 (a.toNat:Int)):=m.v 0
    have T:wr.cell? ⟨bb+1,4,none⟩=some (.int .u32 (e.toNat:Int)):=m.v 4
    clear y H m
    have a5:(0:Int)<=(k:Int):=by omega
    have a6:(k:Int)<64:=by omega
    have M:ai (ShaM.rx ⟨a,b,c,d,e,f,o,h⟩ C D=h+cp (cp (ShaM.aL 6 e) (ShaM.aL 11 e)) (ShaM.aL 25 e)+cp (dY e f) (dY (jW e) o)+C+D):=Z rfl
    have y:ai (ShaM.ry ⟨a,b,c,d,e,f,o,h⟩=cp (cp (ShaM.aL 2 a) (ShaM.aL 13 a)) (ShaM.aL 22 a)+cp (cp (dY a b) (dY a c)) (dY b c)):=Z rfl
    have H:ai (ShaM.rounds (ShaM.wl left 64) j (k+1)=⟨jV (ShaM.rx ⟨a,b,c,d,e,f,o,h⟩ C D) (ShaM.ry ⟨a,b,c,d,e,f,o,h⟩),a,b,c,jV d (ShaM.rx ⟨a,b,c,d,e,f,o,h⟩ C D),e,f,o⟩):=Z (by rw[x.U];rfl)
    generalize ShaM.rx ⟨a,b,c,d,e,f,o,h⟩ C D=X at*
    generalize ShaM.ry ⟨a,b,c,d,e,f,o,h⟩=a0 at*
    clear x
    go_wp2
    go_still V
    go_upto_region 8 with fail
    change Code.wp _ _ _ _ wr.drew
    have x:=Z L.U.drew
    clear S T L
    generalize wr.drew=L at*
    go_cut [7] (λ s7 s=>s7= .int .u32 (X.toNat:Int)/\gZ w s g bb j left n ⟨a,b,c,d,e,f,o,h⟩)
    case first=>
     have a8:=G.U _ x.U
     have u:=J.U _ x.U
     have a9:L.cell? ⟨bb+1,5,none⟩=some (.int .u32 (f.toNat:Int)):=x.U.v 5
     have b0:L.cell? ⟨bb+1,6,none⟩=some (.int .u32 (o.toNat:Int)):=x.U.v 6
     have b2:L.cell? ⟨bb+1,7,none⟩=some (.int .u32 (h.toNat:Int)):=x.U.v 7
     have a1:=iU;have U2:=oX;have a7:=BS
     clear H y G J B I F
     refine Fp V V ?_
     repeat still_step
     still_call (aa1 e _)
     repeat still_step
     still_call (aaQ e _)
     repeat still_step
     still_call (aaW e _)
     repeat still_step
     refine wI ?_
     (rw[zn])
     go_wp2
     go_meet
     exact⟨by rw[M.U],x.U.drew⟩
    case rest=>
     obtain⟨rfl,m⟩:=hcut
     clear M x
     go_upto_region 9 with fail
     have x:=Z m
     clear m
     go_cut [8] (λ s8 s=>s8= .int .u32 (a0.toNat:Int)/\gZ w s g bb j left n ⟨a,b,c,d,e,f,o,h⟩)
     case first=>
      have a7:wc.cell? ⟨bb+1,1,none⟩=some (.int .u32 (b.toNat:Int)):=x.U.v 1
      have a8:wc.cell? ⟨bb+1,2,none⟩=some (.int .u32 (c.toNat:Int)):=x.U.v 2
      have a1:=iU;have U2:=oX
      clear H G J B I F
      refine Fp V V ?_
      repeat still_step
      still_call (aaU a _)
      repeat still_step
      still_call (aaR a _)
      repeat still_step
      still_call (aaV a _)
      repeat still_step
      refine wI ?_
      (rw[tA])
      go_wp2
      go_meet
      exact⟨by rw[y.U],x.U.drew⟩
     case rest=>
      obtain⟨rfl,m⟩:=hcut
      clear y x
      have S:wc.cell? ⟨bb+1,0,none⟩=some (.int .u32 (a.toNat:Int)):=m.v 0
      have a7:wc.cell? ⟨bb+1,1,none⟩=some (.int .u32 (b.toNat:Int)):=m.v 1
      have a8:wc.cell? ⟨bb+1,2,none⟩=some (.int .u32 (c.toNat:Int)):=m.v 2
      have y:wc.cell? ⟨bb+1,3,none⟩=some (.int .u32 (d.toNat:Int)):=m.v 3
      have T:wc.cell? ⟨bb+1,4,none⟩=some (.int .u32 (e.toNat:Int)):=m.v 4
      have a9:wc.cell? ⟨bb+1,5,none⟩=some (.int .u32 (f.toNat:Int)):=m.v 5
      have b0:wc.cell? ⟨bb+1,6,none⟩=some (.int .u32 (o.toNat:Int)):=m.v 6
      have B:=m.es
      have x:=Z m
      clear m
      have M:=nA
      go_wp2_with(refine cm rfl 355 (Operand.tmp 3) (Operand.tmp 111) rfl (bb+1) (bj (vl ⟨jV X a0,a,b,c,jV d X,e,f,o⟩)) zR zR 355 _ B (vu _) (vr _ _) (wF _) ?_)
      go_roundg (gk-1)
      case rel=>exact⟨k+1,by omega,by go_num,by rw[H.U];exact x.U.put a2 K a4⟩
      case measure=>omega
   ·obtain rfl:k=64:=by omega
    have G:ai (ShaM.gu j (ShaM.rounds (ShaM.wl left 64) j 64)=ShaM.compress j left):=Z rfl
    generalize ShaM.rounds (ShaM.wl left 64) j 64=v at*
    have r:=m.er;have t:=m.d;have B:=m.es
    have z:=Z r;have A:=Z t
    clear r t m
    go_wp2_with(refine bD rfl 355 (Operand.tmp 3) rfl (bb+1) rfl 355 _ (0,0) _ B xr rfl (vu _) ?_)
    go_loopw [114] (λ i wr=>∃k:Nat,k<=8/\i=O k/\RB wr g true (acc (vl j) (vl v) k) left n/\aW w.heap.size [g] w wr) (λ i _=>8-(intOf i).toNat)
    case atStart=>exact⟨0,by omega,rfl,z.U,A.U⟩
    case round=>
     clear R q
     obtain⟨k,R,rfl,r,t⟩:=hrel
     by_cases q:k<8
     ·have a7:=λ s=>I1 v s k q
      have a1:=r.gS k q
      rw[uJ _ _ k rfl rfl q] at a1
      have Q:=r.fr (1+k)
      have F:=uK (vl j) (vl v) k rfl rfl q
      generalize(vl j).getD k 0=x at*
      generalize(vl v).getD k 0=y at*
      have J:=Z F;have s:=Z r;have m:=Z t
      clear F r t B z A
      have a5:(0:Int)<=(k:Int):=by omega
      have a6:(k:Int)<8:=by omega
      have M:=nA
      go_wp2
      go_still_tail 11,V
      show wpList _ _ _ _ _ wr.drew
      go_wp2
      go_roundw
      case rel=>exact⟨k+1,by omega,by go_num,by rw[<-J.U];exact(s.U.drewN 1).oc k q (jV x y),(m.U.drewN 1).setCell (p:=⟨g,1+k,none⟩) (.inl zS) _⟩
      case measure=>simp[intOf];omega
     ·obtain rfl:k=8:=by omega
      rw[uI,G.U,<-I.U] at r
      have s:=Z r;have m:=Z t
      clear r t B z A
      go_wp2
      go_end0
      exact⟨rfl,s.U,m.U⟩
def jx(v:ab)(l:List UInt8):Prop:=∃on st left,v=aG (cM on (vl st) left l.length)/\ShaM.aI on st left l
def Gi(w:aa)(l:List UInt8)(e:Ending)(a:aa):Prop:=(∃v,e=ao v/\jx v l)/\BW w a
def CO:(prog.info? 358).map (·.size)=some 74:=by kernel_rfl
def OG(s:af)(k:Nat)(h:k<s.size):s.data.toList.take (k+1)=s.data.toList.take k++[s[k]]:=by
 rw[eC (by simp_all)];rfl
structure hG(w wr:aa)(s:af)(l:List UInt8)(k:Nat)(on:Bool)(st:ShaM.V8)(left:List UInt8)(N:Nat):Prop where
 aJ:BW w wr
 run:RB wr w.heap.size on (vl st) left N
 inv:ShaM.aI on st left (l++s.data.toList.take k)
 len:N=l.length+k
 z:ah wr (w.heap.size+1) 358 zeroCells358
 b:∀i (h:i<s.size),wr.cell? ⟨w.heap.size+2,i,none⟩=some (.int .u8 (s[i].toNat:Int))
 lt:w.heap.size+2<wr.heap.size
abbrev rB(w wr:aa)(N:Nat)(c:UInt8):aa:=(wr.setCell ⟨w.heap.size,9+N%64,none⟩ (.int .u8 (c.toNat:Int))).setCell ⟨w.heap.size,73,none⟩ (O ((N:Int)+1))
section
variable{w wr w6:aa}{s:af}{l:List UInt8}{k:Nat}{on:Bool}{st:ShaM.V8}{left:List UInt8}{N:Nat}{c:UInt8}
def hG.fp(h:hG w wr s l k on st left N):BW w (rB w wr N c):=(h.aJ.setCell (p:=⟨w.heap.size,9+N%64,none⟩) (aQ _) _).setCell (p:=⟨w.heap.size,73,none⟩) (aQ _) _
def hG.KF(h:hG w wr s l k on st left N):RB (rB w wr N c) w.heap.size on (vl st) (left.set (N%64) c) (N+1):=(h.run.Zn (N%64) W c).fU (N+1)
def hG.nW(h:hG w wr s l k on st left N):aW wr.heap.size [w.heap.size] wr (rB w wr N c):=((aW.refl _ _ _).setCell (p:=⟨w.heap.size,9+N%64,none⟩) (.inl zS) _).setCell (p:=⟨w.heap.size,73,none⟩) (.inl zS) _
def hG.hO(h:hG w wr s l k on st left N)(a:k<s.size):(l++s.data.toList.take k).length=N:=by
 rw[h.len,bV,eA];have:s.data.toList.length=s.size:=by simp
 omega
def hG.stay(h:hG w wr s l k on st left N)(e:k<s.size)(g:s.data.toList.take (k+1)=s.data.toList.take k++[c])(j:¬(N+1)%64=0):
 hG w (rB w wr N c) s l (k+1) on st (left.set (N%64) c) (N+1):=by
 have f:=h.hO e
 have a:=h.inv.put c W
 rw[f,gK,<-g] at a
 have b:=h.nW (c:=c)
 have d:=h.lt
 refine⟨h.fp,h.KF,a,by rw[h.len];omega,h.z.only b W zS,λ i a=> ?_,kS d b.size⟩
 have:=b.block (w.heap.size+2) d zS
 exact(World.jI this).trans (h.b i a)
def hG.cd(h:hG w wr s l k on st left N)(f:k<s.size)(j:s.data.toList.take (k+1)=s.data.toList.take k++[c])(n:(N+1)%64=0)
 (h6:RB w6 w.heap.size true (vl (ShaM.compress (bif on then st else ShaM.eK) (left.set (N%64) c))) (left.set (N%64) c) (N+1)) (m:aW (rB w wr N c).heap.size [w.heap.size] (rB w wr N c) w6):
 hG w w6 s l (k+1) true (ShaM.compress (bif on then st else ShaM.eK) (left.set (N%64) c)) (left.set (N%64) c) (N+1):=by
 have g:=h.hO f
 have a:=h.inv.QO c W
 rw[g,gK,<-j] at a
 have e:=h.nW (c:=c)
 have d:=h.lt
 have b:aW wr.heap.size [w.heap.size] wr w6:=e.trans (m.mono e.size (λ _ _ h=>h))
 refine⟨h.aJ.trans (b.OK (kR W) zS),h6,a,by rw[h.len];omega,h.z.only b W zS,λ i a=> ?_,kS d b.size⟩
 have:=b.block (w.heap.size+2) d zS
 exact(World.jI this).trans (h.b i a)
end
def om{w:aa}(u:de w){v:ab}{l:List UInt8}(h:jx v l)(s:af)(X:l.length+s.size<=140737488355328):
 Calls prog 295 #[v,ad s] w (Gi w (l++s.data.toList)):=by
 obtain⟨on,st,left,rfl,e⟩:=h
 have f:RB (w.alloc (.cells (cM on (vl st) left l.length) 358)) w.heap.size on (vl st) left l.length:=⟨ah.new _ _ _,rfl,e.hlen⟩
 generalize a:cM on (vl st) left l.length=q at*
 clear a
 have b:=fD w (.cells q 358) 358 zeroCells358
 obtain⟨I,H,j,a,i,L,g⟩:=uS (P:=prog) ((w.alloc (.cells q 358)).alloc (.cells zeroCells358 358)) 9 29 5 s df cP eJ
 have d:ai (hG w H s l 0 on st left l.length):=Z ⟨(((bp _ _).alloc (aQ _) _).alloc zS _).trans (a.mono (by simp;omega)),(f.alloc _).below a,by grind,rfl,(a.block _ b.lt).trans b,by simp_all,by simp_all⟩
 have o:=Z u
 clear g i a b f e u
 go_enter func295,ntmps295
 go_wp2
 go_loopw [6,10] (λ _ i wr=>∃k:Nat,k<=s.size/\i=O k/\∃on st left N,hG w wr s l k on st left N) (λ _ i _=>s.size-(intOf i).toNat)
 case atStart=>exact⟨0,by omega,rfl,on,st,left,_,d.U⟩
 case round=>
  clear j d
  obtain⟨k,R,rfl,d,f,b,N,a⟩:=hrel
  by_cases j:k<s.size
  ·have K:=a.b k j
   have e:=a.len
   have p:=Z (OG s k j)
   generalize s[k]=c at*
   have T:=a.run.gN
   have S:=a.run.gL (N%64) W
   have M:=a.run.fr (9+N%64)
   have Q:=a.run.fr 73
   have g:=Z a
   have J:N<140737488355328:=by omega
   clear a e
   have m0:(0:Int)<=(N:Int)%64:=by omega
   have m1:(N:Int)%64<64:=by omega
   have m2:((N:Int)%64).toNat=N%64:=by omega
   have E:=Z (o.U.below (g.U.fp (c:=c)))
   have F:=Z o.U.lt
   by_cases m:(N+1)%64=0
   ·have i:(((N:Int)+1)%64==0)=true:=by rw[gb];omega
    have n:=Z m;clear m
    go_wp2_with fail
    refine(Cg (w:=rB w wr N c) E.U g.U.KF F.U).mono ?_
    rintro e w6 ⟨rfl,r,t⟩
    have x:=Z r;have y:=Z t
    clear r t
    go_wp2_with fail
    go_roundw
    case rel=>exact⟨k+1,by omega,by go_num,_,_,_,_,g.U.cd j p.U n.U x.U y.U⟩
    case measure=>simp[intOf];omega
   ·have i:(((N:Int)+1)%64==0)=false:=by rw[dP];omega
    have n:=Z m;clear m
    go_wp2_with fail
    go_roundw
    case rel=>exact⟨k+1,by omega,by go_num,_,_,_,_,g.U.stay j p.U n.U⟩
    case measure=>simp[intOf];omega
  ·obtain rfl:k=s.size:=by omega
   obtain⟨n,⟨C,-,D⟩,m,rfl,t,-,-⟩:=a
   rw[bK zS] at m
   have y:jx (aG (cM d (vl f) b (l.length+s.size))) (l++s.data.toList):=⟨d,f,b,by simp,m⟩
   have G:(cM d (vl f) b (l.length+s.size)).size=74:=Lb rfl D
   have x:(prog.info? 358).map (·.size)=some (cM d (vl f) b (l.length+s.size)).size:=by rw[G];exact CO
   have a0:=dI (P:=prog) t (cM d (vl f) b (l.length+s.size)) (by simp_all) DW
   have r:=t.setRow (cM d (vl f) b (l.length+s.size))
   have i:=bL n (fN _) (cM d (vl f) b (l.length+s.size))
   generalize cM d (vl f) b (l.length+s.size)=e at*
   have z:=Z r;have A:=Z i;have B:=Z y
   clear n r i y m
   go_wp2_with(refine bD rfl 358 (Operand.tmp 2) rfl w.heap.size rfl 358 e (0,0) _ C uC rfl x ?_)
   exact cr (v:= .agg e) (fI results295 _ _ (w.heap.size+1) 358 e (0,0) _ rfl z.U uC rfl x) rfl ⟨⟨_,rfl,B.U⟩,A.U⟩
def BF:(#[.int .u32 1779033703,.int .u32 3144134277,.int .u32 1013904242,.int .u32 2773480762,.int .u32 1359893119,.int .u32 2600822924,.int .u32 528734635,.int .u32 1541459225]:Array ab)=bj (vl ShaM.eK):=by rfl
structure mb(w wr:aa)(gk:Nat)(hs:List UInt32):Prop where
 aJ:BW w wr
 h:ah wr w.heap.size 95 (bj hs)
 k:w.heap.size<gk/\gk<wr.heap.size/\∀i,i<64->wr.cell? ⟨gk,i,none⟩=some (.int .u32 ((ShaM.K.getD i 0).toNat:Int))
def mb.below{w wr c:aa}{gk:Nat}{b:List UInt32}(h:mb w wr gk b)(a:BW wr c):mb w c gk b:=
 ⟨h.aJ.trans (a.mono h.aJ.size),(a.block _ h.h.lt).trans h.h,h.k.1,kS h.k.2.1 a.size,λ i d=>(a.cell (p:=⟨gk,i,none⟩) h.k.2.1).trans (h.k.2.2 i d)⟩
def mb.set{w wr:aa}{gk:Nat}{a b:List UInt32}(h:mb w wr gk a)(i:Nat)(u:ab)(c:(bj a).setIfInBounds i u=bj b):mb w (wr.setCell ⟨w.heap.size,i,none⟩ u) gk b:=
 ⟨h.aJ.setCell (p:=⟨w.heap.size,i,none⟩) (aQ _) u,by rw[<-c];exact h.h.dx i u,h.k.1,by simpa[World.setCell] using h.k.2.1,λ j d=>by
  have e:gk≠w.heap.size:=by have:=h.k.1;omega
  exact(World.jI (tQ wr ⟨w.heap.size,i,none⟩ u gk e)).trans (h.k.2.2 j d)⟩
def abA(l:List UInt32)(i:Nat)(x:UInt32):(bj l).setIfInBounds i (.int .u32 (x.toNat:Int))=bj (l.set i x):=by
 simp only[bj,aS,lU];rfl
def ji(l:List UInt32)(k:Nat):List UInt8:=(l.take k).flatMap ShaM.fH
def Dv(v:ShaM.V8):ji (vl v) 8=ShaM.U v:=by rfl
def vM(l:List UInt32)(k:Nat)(h:k<l.length):ji l (k+1)=ji l k++ShaM.fH (l.getD k 0):=by
 unfold ji;rw[eC h,FV,dc,aU h];simp
def vL(l:List UInt32):∀k,k<=l.length->(ji l k).length=4*k
 |0,_=>rfl
 |k+1,h=>by rw[vM l k W,bV,vL l k W];rfl
def u8w(n:Nat):((UInt8.ofNat n).toNat:Int)=(n:Int)%256:=by simp
def Wx(x:UInt32):(#[Value.int IntKind.u8 (IntKind.u8.wrap (IntKind.u32.wrap ((x.toNat:Int)/16777216))),Value.int IntKind.u8 (IntKind.u8.wrap ((IntKind.u32.wrap ((x.toNat:Int)/65536)).tmod 256)),Value.int IntKind.u8 (IntKind.u8.wrap ((IntKind.u32.wrap ((x.toNat:Int)/256)).tmod 256)),Value.int IntKind.u8 (IntKind.u8.wrap ((x.toNat:Int).tmod 256))]:Array ab).toList=bB (ShaM.fH x):=by
 have hx:=x.toNat_lt;have a:IntKind.u32.wrap ((x.toNat:Int)/16777216)=(x.toNat:Int)/16777216:=by rw[ox];omega
 have b:IntKind.u32.wrap ((x.toNat:Int)/65536)=(x.toNat:Int)/65536:=by rw[ox];omega
 have c:IntKind.u32.wrap ((x.toNat:Int)/256)=(x.toNat:Int)/256:=by rw[ox];omega
 rw[a,b,c,fz W,fz W,fz W];simp only[bB,ShaM.fH,bZ,eg,u8w,FQ];simp
def EM{X:aa}{l:List UInt32}(h:ah X g 95 (bj l))(c:Nat):Src prog 1 96 (ag (some ⟨g,0,none⟩) l.length c) l.length (l.map fv) X:=by
 refine qw X Bp _ _ _ _ zS (λ j u a=> ?_) (λ u a=>E9 l u (by simpa[bj] using a));rw[gp,dz,h.cell];simpa[bj] using a
def fY.Wk{X:aa}{v:ab}{l:List UInt32}(h:X.ownsRow g 95 1 v n (l.map fv))(a:l.length=n)(o:0<n):fY g X v l:=by
 subst a;rcases h.2 with⟨b,a⟩|⟨e,d,k,b,f,j,a,p,m,q⟩
 ·omega
 ·refine⟨e,d,b,f,(mT.1 j).1,λ i c=> ?_⟩;subst b;have:=h.cells rfl i (.int .u32 ((l.getD i 0).toNat:Int)) (by rw[ef,aU c,dc,aU c];rfl);rw[gp,dz] at this;omega
def wb(s:af)(b4:s.size<=100000000)(w:aa):CB 6 #[ad s] w (ad ⟨(ShaM.sum s.data.toList).toArray⟩):=by
 obtain⟨b8,z,b5,b6,b7⟩:=iB MX
 go_enter func6,ntmps6
 go_wp2_with fail
 rw[BF];refine(Uu _).mono ?_;rintro e c0 ⟨⟨d4,rfl,d⟩,a⟩;obtain⟨gk,c1,rfl,f,g,h⟩:=d;rw[show ShaM.K.length=64 from rfl];have c:mb w c0 gk (vl ShaM.eK):=⟨(bJ w _).trans (a.mono zS),(a.block _ zS).trans (ah.new w 95 _),by simp at f;omega,g,h⟩;have b:=Z c;clear f g h a c
 go_wp2_with fail
 refine(WQ s b4 _).mono ?_;rintro e d5 ⟨rfl,a⟩;have c:=Z (b.U.below a);clear b a;have f:=ShaM.tm s.data.toList;have k:=ShaM.Kg s.data.toList;have g:s.data.toList.length=s.size:=by simp
 have a7:ai (ShaM.sum s.data.toList=ShaM.U (ShaM.chain (ShaM.dF s.data.toList) ((ShaM.dF s.data.toList).length/64))):=Z rfl;have d0:ShaM.cb s.size<=63:=by unfold ShaM.cb;omega
 rw[g] at f;generalize i:ShaM.dF s.data.toList=P at*;obtain⟨t,a⟩:∃t:af,t=⟨P.toArray⟩:=⟨_,rfl⟩;rw[<-a];have b:t.data.toList=P:=by rw[a]
 have m:t.size=P.length:=by rw[ny,b]
 have j:P.length=64*(P.length/64):=by omega
 have c8:P.length/64<=2000000:=by omega
 generalize P.length/64=B at*;have h:t.size=64*B:=by omega
 have a8:=Z b;have L:=Z h;clear f k g i a b m j h
 go_wp2
 go_loopw [6] (λ i wr=>∃q A:Nat,q<=B/\A=64*q/\i=O (A:Int)/\mb w wr gk (vl (ShaM.chain P q))) (λ i _=>64*B-(intOf i).toNat)
 case atStart=>exact⟨0,0,by omega,rfl,rfl,c.U⟩
 case round=>
  clear c;obtain⟨q,A,d2,G,rfl,a⟩:=hrel;have h:=Z a;clear a;by_cases d1:q<B
  ·have b1:(A:Int)<(t.size:Int):=by have:=L.U;omega
   have c6:A+64<=t.size:=by have:=L.U;omega
   have c7:A<=200000000:=by omega
   have a:ai ((t.extract A (A+64)).data.toList=(P.drop (64*q)).take 64):=Z (by rw[uL,a8.U,G];simp);have a2:ai ((t.extract A (A+64)).size=64):=Z (by simp_all);have a3:ai (ShaM.chain P (q+1)=ShaM.gu (ShaM.chain P q) (ShaM.rounds (ShaM.wl ((P.drop (64*q)).take 64) 64) (ShaM.chain P q) 64)):=Z rfl;have a4:ai (ShaM.wl (t.extract A (A+64)).data.toList 64=ShaM.wl ((P.drop (64*q)).take 64) 64):=Z (by rw[a.U]);have D:=Z G;have r:=ShaM.cU ((P.drop (64*q)).take 64) 64;generalize ShaM.wl ((P.drop (64*q)).take 64) 64=j at*;generalize ShaM.chain P q=H at*;have J:=Z r;clear G r a
   go_wp2_with fail
   refine(ab3 (t.extract A (A+64)) a2.U _).mono ?_;rintro e a ⟨⟨d6,rfl,S⟩,k⟩;rw[a4.U] at S;have f:=h.U.below k;obtain⟨F,c2,rfl,n,m,c⟩:=S;rw[J.U] at c⊢;have v:=Z c;have b:=Z f;have g:=Z m;clear n m c k f;have n:(a.alloc (.cells #[] 95)).ownsRow a.heap.size 95 1 (ag (some ⟨a.heap.size,0,none⟩) 0 0) 0 []:=sj a #[] 0 (aQ _) zD rfl;have E:Src prog 1 96 (ag (some ⟨w.heap.size,0,none⟩) 8 8) 8 ((vl H).map fv) (a.alloc (.cells #[] 95)):=EM (l:=vl H) (b.U.h.alloc _) 8
   go_wp2_with(at_builtin;refine mM rfl _ _ 96 96 rfl a.heap.size 95 b8 _ 1 4 Bp z b5 b6 b7 rfl _ _ _ rfl n _ 8 ((vl H).map fv) rfl E zD zD zS ?_)
   intro I o C y K;have x:fY a.heap.size o I (vl H):=fY.Wk C rfl zD;have f:BW a o:=(bJ a _).grown y zS (by intro k d;simp[Value.ownBlock] at d;omega);have c:=Z (b.U.below f);have m:ai (F<o.heap.size/\∀i,i<64->o.cell? ⟨F,i,none⟩=some (.int .u32 ((j.getD i 0).toNat:Int))):=Z ⟨kS g.U f.size,λ i z=>(f.cell (p:=⟨F,i,none⟩) g.U).trans (v.U i z)⟩;have u:ai (fY (w.heap.size+1) o I (vl H)):=Z (x.mono (by have:=b.U.h.lt;omega));clear x f C y K E n b v g h
   go_wp2
   go_loopw [8,9] (λ v i b=>∃k:Nat,k<=64/\i=O (k:Int)/\BW o b/\fY (w.heap.size+1) b v (vl (ShaM.rounds j H k))) (λ _ i _=>64-(intOf i).toNat)
   case atStart=>exact⟨0,by omega,rfl,bp _ _,u.U⟩
   case round=>
    clear u;obtain⟨k,d,rfl,b,K⟩:=hrel;by_cases x:k<64
    ·have c3:=(c.U.below b).k.2.2 k x;have c5:=(b.cell (p:=⟨F,k,none⟩) m.U.1).trans (m.U.2 k x);have a6:ai (ShaM.rounds j H (k+1)=ShaM.iJ (ShaM.rounds j H k) (ShaM.K.getD k 0) (j.getD k 0)):=Z rfl;have b2:=b.size;have d3:=c.U.h.lt;generalize ShaM.rounds j H k=g at*;generalize ShaM.K.getD k 0=Q at*;generalize j.getD k 0=a0 at*;have a9:=Z K;have a1:=Z b;clear K b;have T:(0:Int)<=(k:Int):=by omega
     have X:(k:Int)<64:=by omega
     go_wp2
     go_still_tail 9,zR
     show wpList _ _ _ _ _ wr.drew
     go_wp2_with fail
     refine(YQ (w:=wr.drew) (base:=w.heap.size+1) a9.U Q a0).mono ?_;rintro e R ⟨⟨b9,rfl,f⟩,u⟩;have E:ai (BW o R/\fY (w.heap.size+1) R b9 (vl (ShaM.iJ g Q a0))):=Z ⟨(a1.U.drew).trans (u.mono b2),f.mono (by show w.heap.size+1<=wr.heap.size;omega)⟩;clear f u
     go_wp2
     go_roundw
     case rel=>exact⟨k+1,by omega,by go_num,E.U.1,by rw[a6.U];exact E.U.2⟩
     case measure=>simp[intOf];omega
    ·obtain rfl:k=64:=by omega
     obtain⟨C,c4,rfl,M,N,f⟩:=K;rw[zJ] at f⊢;generalize ShaM.rounds j H 64=g at*;have b0:=Z M;have u:=Z f;have y:=Z (c.U.below b);clear M N f b c m x d
     go_wp2
     rw[show((64:Nat):Int)=64 from rfl]
     go_loopw [10] (λ i b=>∃k:Nat,k<=8/\i=O (k:Int)/\mb w b gk (acc (vl H) (vl g) k)/\∀i,i<8->b.cell? ⟨C,i,none⟩=some (.int .u32 (((vl g).getD i 0).toNat:Int))) (λ i _=>8-(intOf i).toNat)
     case atStart=>exact⟨0,by omega,rfl,y.U,u.U⟩
     case round=>
      clear y u;obtain⟨k,d,rfl,b,f⟩:=hrel;by_cases m:k<8
      ·have N:=f k m;have b3:=b.h.cell k;rw[E8 _ k (by rw[xy _ _ _ rfl rfl d];exact m),uJ _ _ k rfl rfl m] at b3;have c9:=b.h.frozen k;have M:=uK (vl H) (vl g) k rfl rfl m;generalize(vl H).getD k 0=x at*;generalize(vl g).getD k 0=y at*;have a5:=Z M;have c:=Z b;have u:=Z f;clear M b f;have T:(0:Int)<=(k:Int):=by omega
       have X:(k:Int)<8:=by omega
       have M:=nA
       go_wp2
       go_still_tail 12,zR
       show wpList _ _ _ _ _ wr.drew
       go_wp2
       go_roundw
       case rel=>exact⟨k+1,by omega,by go_num,mb.set (wr:=wr.drew) (c.U.below ((bp _ _).drew)) k _ (by rw[abA,<-a5.U];rfl),λ i z=>(World.jI (tQ wr.drew ⟨w.heap.size,k,none⟩ _ C (by have:=b0.U;show C≠w.heap.size;omega))).trans (u.U i z)⟩
       case measure=>simp[intOf];omega
      ·obtain rfl:k=8:=by omega
       have c:=Z b;clear b f
       go_wp2
       go_roundw
       case rel=>exact⟨q+1,A+64,by omega,by have:=D.U;omega,by go_num,by rw[a3.U,<-uI];exact c.U⟩
       case measure=>have:=D.U;simp[intOf];omega
  ·obtain rfl:q=B:=by omega
   have D:=Z G;have b1:¬(A:Int)<(t.size:Int):=by have:=L.U;have:=D.U;omega
   obtain⟨b0,a0,a5,a6,a9⟩:=iB tK;generalize ShaM.chain P q=C at*;have u:=gI.new h.U.aJ;have f:=Z u;have g:=Z (h.U.below (bJ wr (.cells #[] 5)));clear u
   go_wp2
   go_loopw [11,12] (λ v i wr=>∃k:Nat,k<=8/\i=O (k:Int)/\gI w wr v (ji (vl C) k)/\ah wr w.heap.size 95 (bj (vl C))) (λ _ i _=>8-(intOf i).toNat)
   case atStart=>exact⟨0,by omega,rfl,f.U,g.U.h⟩
   case round=>
    clear f g h;obtain⟨k,d,rfl,f,b⟩:=hrel;by_cases m:k<8
    ·have v:=(b.cell k).trans (E8 _ k m);have r:=vL (vl C) k d;have Q:=vM (vl C) k m;have n:=f.own;rw[r] at n;have u:∀g,some w.heap.size=g->u11.ownBlock≠g:=λ g y h=>tj n b zD (h.trans y.symm);generalize(vl C).getD k 0=x at*;have M:=Z Q;have c:=Z b;have y:=Z f;have J:=Z r;have K:=Z u;clear Q b f r u;have T:(0:Int)<=(k:Int):=by omega
     have X:(k:Int)<8:=by omega
     go_wp2
     go_region_held3 (λ b2=>b2.cell? ⟨w.heap.size,k,none⟩=some (.int .u32 (x.toNat:Int))) (first|exact v|exact r|exact(World.jI (pY wr _ w.heap.size c.U.lt)).trans v)
      ((refine Mh rfl _ _ 29 rfl w.heap.size 5 b0 (.int .u8 0) 1 cP a0 a5 a6 a9 rfl _ _ _ rfl (Dy n _).drew wr.heap.size 4 rfl _ _ _ (pg wr _) rfl zD (by intro u R;simp at R;rcases R with rfl|rfl|rfl|rfl<;>rfl) (by unfold maxLen;omega) W (by have:=y.U.aJ.size;simp;omega) ?_;intro I a Q g a1;have r:a.cell? ⟨w.heap.size,k,none⟩=some (.int .u32 (x.toNat:Int)):=(World.jI (g.block w.heap.size (by have:=c.U.lt;simp;omega) (λ h=>K.U _ h rfl))).trans ((World.jI (pY wr _ w.heap.size c.U.lt)).trans v)))
     have E:ai (gI w a I (ji (vl C) (k+1))):=Z (by rw[M.U];exact y.U.append ((bJ wr _).drew) J.U rfl Q g (Wx x));have u:ai (ah a w.heap.size 95 (bj (vl C))):=Z (ah.grown ((c.U.alloc _).drew) g (λ h=>K.U _ rfl h.symm));clear Q g a1 r n v y c M K
     go_wp2
     go_roundw
     case rel=>exact⟨k+1,by omega,by go_num,E.U,u.U⟩
     case measure=>simp[intOf];omega
    ·obtain rfl:k=8:=by omega
     have N:=qL (P:=prog) cP eJ df f.own;rw[Dv,<-a7.U] at N;have c:=Z f.aJ;clear f b
     go_wp2
     go_ret
     exact⟨rfl,c.U⟩
def UI(d:List UInt8):List UInt8:=ShaM.sum (0::d)
def V5(l r:List UInt8):List UInt8:=ShaM.sum (1::(l++r))
def bE:af:=⟨#[48,49,50,51,52,53,54,55,56,57,97,98,99,100,101,102]⟩
def aax(s:af)(k:Nat)(h:k<s.size):s.data.toList.take (k+1)=s.data.toList.take k++[s[k]]:=by
 rw[eC (by simpa using h)];rfl
variable{b:List UInt8}
section
section
variable{P:Program}
end
def jx.form{v:ab}(h:jx v b):∃a,v=aG a/\a.size=74/\a.all (·.oneCell')=true/\(prog.info? 358).map (·.size)=some a.size/\jx (aG a) b:=by
 obtain⟨on,d,left,rfl,a⟩:=h;have c:(cM on (vl d) left b.length).size=74:=Lb rfl a.hlen;exact⟨_,rfl,c,by rw[Array.all_eq_true_iff_forall_mem];intro v e;exact DW v (by simpa using e),by rw[c];exact CO,on,d,left,rfl,a⟩
def oJ(w:aa)(g:Nat)(l:List UInt8):Prop:=∃a,ah w g 358 a/\a.size=74/\(prog.info? 358).map (·.size)=some a.size/\jx (aG a) l
def oJ.rb{w:aa}(h:oJ w g b):∃on a left,RB w g on (vl a) left b.length/\ShaM.aI on a left b:=by
 obtain⟨f,e,i,j,on,a,left,c,d⟩:=h;injection c with c;subst c;exact⟨on,a,left,⟨e,rfl,d.hlen⟩,d⟩
def oJ.IK{w:aa}(h:oJ w g b):w.cell? ⟨g,73,none⟩=some (O (b.length:Int)):=by
 obtain⟨on,d,left,a,c⟩:=h.rb;exact a.gN
def oJ.store{w d:aa}{m:List UInt8}{a:Array ab}(h:oJ w g b)(e:BW w d)(h1:a.size=74)(h2:(prog.info? 358).map (·.size)=some a.size)(h3:jx (aG a) m):oJ (d.setRow g a) g m:=by
 obtain⟨f,c,_⟩:=h;exact⟨a,ah.setRow ((e.block g c.lt).trans c) a,h1,h2,h3⟩
structure EW(w wr:aa)(l:List UInt8):Prop where
 aJ:BW w wr
 run:oJ wr w.heap.size l
def EW.step{w wr d:aa}{m:List UInt8}{a:Array ab}(h:EW w wr b)(c:BW wr d)(h1:a.size=74)(h2:(prog.info? 358).map (·.size)=some a.size)(h3:jx (aG a) m):EW w (d.setRow w.heap.size a) m:=
 ⟨bL (h.aJ.trans (c.mono h.aJ.size)) (aQ _) a,h.run.store c h1 h2 h3⟩
def Wz(v:ShaM.V8):((vl v).take 8).flatMap ShaM.fH=ShaM.U v:=rfl
def WA(v:ShaM.V8)(k:Nat)(a:k<8):((vl v).take (k+1)).flatMap ShaM.fH=((vl v).take k).flatMap ShaM.fH++ShaM.fH ((vl v).getD k 0):=by
 rw[eC (by exact a),FV,dc,aU (by exact a)];simp
def WC(v:ShaM.V8)(k:Nat)(a:k<=8):(((vl v).take k).flatMap ShaM.fH).length=4*k:=by
 rw[List.length_flatMap]
 match k,a with
 |0,_=>rfl
 |1,_=>rfl
 |2,_=>rfl
 |3,_=>rfl
 |4,_=>rfl
 |5,_=>rfl
 |6,_=>rfl
 |7,_=>rfl
 |8,_=>rfl
def Wy(x:UInt32): #[Value.int .u8 ((x.toNat:Int)/16777216),Value.int .u8 ((x.toNat:Int)/65536%256),Value.int .u8 ((x.toNat:Int)/256%256),Value.int .u8 ((x.toNat:Int)%256)].toList=bB (ShaM.fH x):=by
 have:=x.toNat_lt;have a:((UInt8.ofNat (x.toNat/16777216)).toNat:Int)=(x.toNat:Int)/16777216:=by simp;omega
 have b:((UInt8.ofNat (x.toNat/65536)).toNat:Int)=(x.toNat:Int)/65536%256:=by simp
 have c:((UInt8.ofNat (x.toNat/256)).toNat:Int)=(x.toNat:Int)/256%256:=by simp
 have d:((UInt8.ofNat x.toNat).toNat:Int)=(x.toNat:Int)%256:=by simp
 simp only[bB,ShaM.fH,bZ,eg];rw[a,b,c,d]
def Pm(m:Nat):(strOfNums [IntKind.u8.wrap (m:Int)]).data.toList=[UInt8.ofNat m]:=by
 have:IntKind.u8.wrap (m:Int)=(m:Int)%256:=rfl;rw[this];exact BM m
def UQ(m k:Nat)(a:k<8):(ShaM.len8 (8*m)).take (k+1)=(ShaM.len8 (8*m)).take k++(strOfNums [IntKind.u8.wrap ((m:Int)*8/2^(56-8*k))]).data.toList:=by
 have e:(m:Int)*8/2^(56-8*k)=((8*m/2^(56-8*k):Nat):Int):=by rw[FP,mV];simp
 rw[e,Pm]
 match k,a with
 |0,_=>rfl
 |1,_=>rfl
 |2,_=>rfl
 |3,_=>rfl
 |4,_=>rfl
 |5,_=>rfl
 |6,_=>rfl
 |7,_=>simp[ShaM.len8]
def Ck{w:aa}(Q:de w){v:ab}(h:jx v b)(d4:b.length<=90000000):
 CB 296 #[v] w (ad ⟨(ShaM.sum b).toArray⟩):=by
 obtain⟨m,rfl,a7,d2,a1,d⟩:=h.form
 have f:ah (w.alloc (.cells m 358)) w.heap.size 358 m:=ah.new _ _ _
 have a:EW w (w.alloc (.cells m 358)) b:=⟨bJ w _,m,f,a7,a1,d⟩
 have z:=a.run.IK
 have c:=Z a;have B:=Z Q;have j:=Z d
 clear h Q a d
 have e:∀(d:aa) (x:Int),(convert 29 9 (ag (some ⟨d.heap.size,0,none⟩) 1 1)).run prog (d.alloc (.cells #[.int .u8 x] 5)).drew= .ok (ad (strOfNums [x])) (d.alloc (.cells #[.int .u8 x] 5)).drew:=
  λ d x=>uT (P:=prog) d.drew 29 9 5 [x] cP eJ df 1 1 rfl 5
 have b5:=Z e;clear e
 go_enter func296,ntmps296
 go_wp2_with(refine bD rfl 358 (Operand.tmp 1) rfl w.heap.size zR 358 m (0,0) _ f uC rfl a1 ?_)
 refine(om (w:=w.alloc (.cells m 358)) (B.U.below c.U.aJ) j.U ⟨#[128]⟩ (by show b.length+1<=_;omega)).mono ?_
 rintro e b0 ⟨⟨c6,rfl,g⟩,i⟩
 obtain⟨I,rfl,a4,b7,T,p⟩:=g.form
 have l:ah b0 w.heap.size 358 m:=(i.block _ f.lt).trans f
 have k:ai (EW w (b0.setRow w.heap.size I) (b++[128])):=Z (c.U.step i a4 T p)
 clear g p i z c j f
 go_wp2_with(refine cm rfl 358 (Operand.tmp 1) (Operand.tmp 13) rfl w.heap.size I zR zR 358 m l T (a7.trans a4.symm) b7 ?_)
 clear l
 go_frame
 go_loopg [] (ShaM.cb b.length) (λ q wr=>∃j:Nat,j+q=ShaM.cb b.length/\EW w wr (b++[128]++List.replicate j 0))
 case atStart=>exact⟨0,dz _,by simpa using k.U⟩
 case round=>
  clear k
  obtain⟨j,i,a⟩:=hrel
  have z:=a.run.IK
  have s:(b++[128]++List.replicate j 0).length=b.length+1+j:=by simp;omega
  rw[s] at z
  by_cases f:j<ShaM.cb b.length
  ·have a8:(((b.length+1+j:Nat):Int)%64 !=56)=true:=by rw[ml];unfold ShaM.cb at f;omega
   have d3:j<=63:=by unfold ShaM.cb at f;omega
   have G:=Z i
   obtain⟨l,q,E,F,p⟩:=id a.run
   have c:=Z a;have u:=Z p;have C:=Z s
   have d1:b.length+1+j<=90000100:=by omega
   generalize b.length+1+j=N at*
   clear a p s i
   go_wp2_with(refine bD rfl 358 (Operand.tmp 1) rfl w.heap.size zR 358 l (0,0) _ q uC rfl F ?_)
   refine(om (w:=wr) (B.U.below c.U.aJ) u.U ⟨#[0]⟩ (by rw[C.U];show N+1<=_;omega)).mono ?_
   rintro e b1 ⟨⟨c7,rfl,g⟩,k⟩
   obtain⟨J,rfl,a5,b8,X,r⟩:=g.form
   have b6:ah b1 w.heap.size 358 l:=(k.block _ q.lt).trans q
   have b3:ai (EW w (b1.setRow w.heap.size J) (b++[128]++List.replicate (j+1) 0)):=Z (by
    have:=c.U.step k a5 X r
    rw[AJ,<-gK];exact this)
   clear g r k z q c u
   go_wp2_with(refine cm rfl 358 (Operand.tmp 1) (Operand.tmp 19) rfl w.heap.size J zR zR 358 l b6 X (E.trans a5.symm) b8 ?_)
   go_frame
   go_roundg (gk-1)
   case measure=>have:=G.U;omega
   case rel=>exact⟨j+1,by have:=G.U;omega,b3.U⟩
  ·have a8:(((b.length+1+j:Nat):Int)%64 !=56)=false:=by rw[sx];unfold ShaM.cb at f i;omega
   obtain rfl:j=ShaM.cb b.length:=by omega
   have c:=Z a
   generalize b.length+1+ShaM.cb b.length=N at*
   clear a i f
   go_wp2
   generalize i:b++[128]++List.replicate (ShaM.cb b.length) 0=A at c
   have c0:A.length<=90000100:=by
    rw[<-i];simp only[bV,ez,rS];unfold ShaM.cb;omega
   have H:=Z i
   clear i
   go_loopw [4,20] (λ _ i wr=>∃k:Nat,k<=8/\i=O (k:Int)/\EW w wr (A++(ShaM.len8 (8*b.length)).take k)) (λ _ i _=>8-(intOf i).toNat)
   case atStart=>exact⟨0,by omega,rfl,by simpa using c.U⟩
   case round=>
    clear c
    obtain⟨k,a2,rfl,a⟩:=hrel
    by_cases f:k<8
    ·obtain⟨l,q,E,F,p⟩:=id a.run
     have c:=Z a;have u:=Z p
     clear a p
     have a9:(k:Int)<8:=by omega
     have d0:IntKind.i64.wrap (8*(k:Int))=8*(k:Int):=aO _ W
     have c9:IntKind.i64.wrap (56-8*(k:Int))=56-8*(k:Int):=aO _ W
     have R:=b5.U
     have t56:(56-8*(k:Int)).toNat=56-8*k:=by omega
     go_wp2
     refine mN (n:=10) (S:=λ t=>ah t w.heap.size 358 l) V V q (λ r=> ?_)
     refine W2 0 _ rfl rfl (cu zR 358 (Operand.tmp 1) rfl w.heap.size zR 358 l (0,0) _ (λ _ h=>h) uC rfl F) zA ?_
     refine ay.take (i:=1) (oi:=_) (v:=?v1) rfl zD V V (λ _ _ _ h=>h) (Or.inl ⟨by rfl,?h1⟩) zA ?r1
     case h1=>(intro t y;go_simp;try(with_reducible rfl))
     try simp only[Act.put,aS]
     refine ay.take (i:=2) (oi:=_) (v:=?v2) rfl zD V V (λ _ _ _ h=>h) (Or.inl ⟨by rfl,?h2⟩) zA ?r2
     case h2=>(intro t y;go_simp;try(with_reducible rfl))
     try simp only[Act.put,aS]
     refine ay.take (i:=3) (oi:=_) (v:=?v3) rfl zD V V (λ _ _ _ h=>h) (Or.inl ⟨by rfl,?h3⟩) zA ?r3
     case h3=>(intro t y;go_simp;try(with_reducible rfl))
     try simp only[Act.put,aS]
     refine ay.take (i:=4) (oi:=_) (v:=?v4) rfl zD V V (λ _ _ _ h=>h) (Or.inl ⟨by rfl,?h4⟩) zA ?r4
     case h4=>(intro t y;go_simp;try(with_reducible rfl))
     try simp only[Act.put,aS]
     refine ay.take (i:=5) (oi:=_) (v:=?v5) rfl zD V V (λ _ _ _ h=>h) (Or.inl ⟨by rfl,?h5⟩) zA ?r5
     case h5=>(intro t y;go_simp;try(with_reducible rfl))
     try simp only[Act.put,aS]
     refine ay.take (i:=6) (oi:=_) (v:=?v6) rfl zD V V (λ _ _ _ h=>h) (Or.inl ⟨by rfl,?h6⟩) zA ?r6
     case h6=>(intro t y;go_simp;try(with_reducible rfl))
     try simp only[Act.put,aS]
     refine ay.one (i:=7) (o:=?o7) V zD ?S6 ?hk7
     case S6=>(simp only[sG];exact rfl)
     intro K p
     go_simp
     refine p.out _ _ (ah.alloc r _) (λ r=> ?_)
     clear p K
     try simp only[aS]
     refine ay.one (i:=8) (o:=?o8) V zD ?S7 ?hk8
     case S7=>(simp only[sG];exact rfl)
     intro K p
     go_simp
     refine p.out _ _ r (λ r=> ?_)
     clear p K
     try simp only[aS]
     refine ay.one (i:=9) (o:=?o9) V zD ?S8 ?hk9
     case S8=>(simp only[sG];exact rfl)
     intro K p
     go_simp
     refine(om (B.U.below ((c.U.aJ.alloc c.U.aJ.size _).drew)) u.U _ (by rw[Mm,bV,eA];have:=c0;simp;omega)).mono ?_
     rintro e b2 ⟨⟨d7,rfl,g⟩,D⟩
     rw[gK,<-UQ _ _ f] at g
     obtain⟨L,rfl,a6,b9,a0,a3⟩:=g.form
     have M:ah b2 w.heap.size 358 l:=(D.block _ (ah.lt r)).trans r
     have b4:ai (EW w (b2.setRow w.heap.size L) (A++(ShaM.len8 (8*b.length)).take (k+1))):=Z (c.U.step (((bJ wr _).drew).trans (D.mono zS)) a6 a0 a3)
     go_simp
     refine p.out _ _ M (λ r=> ?_)
     clear g a3 D c u q
     clear p K
     try simp only[aS]
     refine WT ?_
     refine cm rfl 358 (Operand.tmp 1) (Operand.tmp 32) rfl w.heap.size L zR zR 358 l M a0 (E.trans a6.symm) b9 ?_
     go_wp2
     go_roundw
     case rel=>exact⟨k+1,by omega,by go_num,b4.U⟩
     case measure=>simp[intOf];omega
    ·obtain rfl:k=8:=by omega
     rw[bK (by simp[ShaM.sW])] at a
     have u:A++ShaM.len8 (8*b.length)=ShaM.dF b:=by rw[<-H.U];rfl
     rw[u] at a
     obtain⟨on,c,left,p,q⟩:=a.run.rb
     have a3:=Z (ShaM.aI.sum b q)
     have g:ai (gI w wr (ag none 0 0) []):=Z (gI.nil a.aJ)
     have D:=p.range
     clear a u p q H f a2
     obtain⟨c5,H,c2,c3,c4⟩:=iB tK
     go_wp2_with(refine Fm rfl 355 (Operand.tmp 34) rfl w.heap.size 1 zR ((vl c).map fv) _ D xr rfl (I2 _) ?_)
     clear D
     go_loopw [5,7,36] (λ v _ i d=>∃k:Nat,k<=8/\i=O (k:Int)/\gI w d v (((vl c).take k).flatMap ShaM.fH)) (λ _ _ i _=>8-(intOf i).toNat)
     case atStart=>exact⟨0,by omega,rfl,g.U⟩
     case round=>
      clear g
      obtain⟨k,a2,rfl,a⟩:=hrel
      by_cases f:k<8
      ·have D:=λ d=>I1 c d k f
       unfold bj at D
       have c1:=Z (WA c k f)
       have i:=a.own
       have s:=WC c k (kR f)
       rw[s] at i
       generalize(vl c).getD k 0=x at*
       have g:=Z a;have C:=Z s
       clear a s z a8
       rename aa=>d
       have d6:=x.toNat_lt
       have a9:(k:Int)<8:=by omega
       go_wp2_with(refine ab4 rfl _ _ 29 rfl w.heap.size 5 c5 (.int .u8 0) 1 cP H c2 c3 c4 rfl _ _ _ rfl (Dy i _) d.heap.size 4 rfl _ _ _ (pg d _) rfl zD (by intro u p;simp at p;rcases p with rfl|rfl|rfl|rfl<;>rfl) (by unfold maxLen;omega) W (by have:=g.U.aJ.size;simp;omega) ?_;intro a8 c8 z s d5)
       have q:ai (gI w c8 a8 (((vl c).take (k+1)).flatMap ShaM.fH)):=Z (by
        rw[c1.U]
        exact g.U.append (bJ d _) C.U rfl z s (Wy x))
       go_roundw
       case rel=>exact⟨k+1,by omega,by go_num,q.U⟩
       case measure=>simp[intOf];omega
      ·obtain rfl:k=8:=by omega
       rw[Wz] at a
       have R:=qL (P:=prog) cP eJ df a.own
       rw[a3.U] at R
       have d:=Z a.aJ
       clear a
       go_wp2
       go_ret
       exact⟨rfl,d.U⟩
end
