import Derived.Test.YtncpbkoinennoaaGreatDoorMAH
import Derived.Test.YtncpbkoinennoaaGreatDoorMAI
set_option linter.all false
set_option maxRecDepth 100000
set_option maxHeartbeats 0
namespace Go.Proofs.YtncpbkoinennoaaGreatDoor
open Go.RowKit Proofs.Tryz
attribute [local irreducible] wpList Calls
variable{b:List UInt8}{g k:Nat}{t:TypeId}
def jq(a i:Nat):List UInt8:=((FM.dn 32 a).map UInt8.ofNat).take i++List.replicate (32-i) 0
def Ns(a i:Nat)(h:i<=32):(jq a i).length=32:=by simp[jq,FM.kU];omega
def Nu(a:Nat):jq a 0=List.replicate 32 0:=by simp[jq]
def Nr(a:Nat):jq a 32=(FM.dn 32 a).map UInt8.ofNat:=by
 unfold jq;rw[cS (by simp[FM.kU])];simp
def Nt(a i:Nat)(h:i<32):(jq a i).set i (UInt8.ofNat (a/256^i%256))=jq a (i+1):=by
 have e:(((FM.dn 32 a).map UInt8.ofNat).take i).length=i:=by simp[FM.kU];omega
 have d:((FM.dn 32 a).map UInt8.ofNat)[i]?=some (UInt8.ofNat (a/256^i%256)):=by
  rw[eI,FM.tM 32 a i h];rfl
 obtain⟨b,c⟩:=ed.1 d;unfold jq;rw[kE _ _ W,e,qc,show 32-i=(32-(i+1))+1 by omega,gF,lM,dC b,c,di];rfl
def b8(L:List UInt8):Array ab:=(ca L).toArray
def AP(L:List UInt8)(k:Nat)(b:UInt8):(b8 L).setIfInBounds k (.int .u8 (b.toNat:Int))=b8 (L.set k b):=by simp[b8,ca,mW]
def vZ{L:List UInt8}{b:UInt8}(h:L[k]?=some b):(b8 L)[k]?=some (.int .u8 (b.toNat:Int)):=by simp[b8,ca,h]
def Lt:(#[.int .u8 0,.int .u8 0,.int .u8 0,.int .u8 0,.int .u8 0,.int .u8 0,.int .u8 0,.int .u8 0,.int .u8 0,.int .u8 0,.int .u8 0,.int .u8 0,.int .u8 0,.int .u8 0,.int .u8 0,.int .u8 0,.int .u8 0,.int .u8 0,.int .u8 0,.int .u8 0,.int .u8 0,.int .u8 0,.int .u8 0,.int .u8 0,.int .u8 0,.int .u8 0,.int .u8 0,.int .u8 0,.int .u8 0,.int .u8 0,.int .u8 0,.int .u8 0]:Array ab)=b8 (List.replicate 32 0):=by kernel_rfl
def Fe{w:aa}(h:ah w g t (b8 b))(n:Nat)(d:b.length=n)(a:Nat):(convert 29 9 (ad (some ⟨g,0,none⟩) n a)).run prog w= .ok (ae ⟨b.toArray⟩) w:=by
 subst d;exact uG (P:=prog) w 29 9 5 ⟨g,0,none⟩ a b dZ gi dO (λ j c=>by
  rw[iF,eu,h.cell];exact vZ (ba c))
def pz(n:Int):IntKind.u8.wrap n=n%256:=by simp[IntKind.wrap,IntKind.bits,IntKind.signed]
structure tz(w wr:aa)(B:Nat)(a:List Nat)(L:List UInt8):Prop where
 aK:BW w wr
 c:w.heap.size<=B
 a:ah wr B 184 (aU a)
 b:ah wr (B+1) 174 (b8 L)
def tz.set{w wr:aa}{B:Nat}{a:List Nat}{L:List UInt8}(h:tz w wr B a L)(k:Nat)(b:UInt8):tz w (wr.setCell ⟨B+1,k,none⟩ (.int .u8 (b.toNat:Int))) B a (L.set k b):=
 ⟨h.aK.setCell (by have:=h.c;simp;omega) _,h.c,h.a.cG zS _,by rw[<-AP];exact h.b.cN k _⟩
def Ku(a:List Nat)(y:a.length=4)(h:SC.da a)(w:aa):CB 114 #[aG (aU a)] w (ae (FM.enc (SC.vW a))):=by
 have p:=Z (And.intro y h)
 go_enter func114,ntmps114
 go_upto_region 2 with fail
 rw[Lt];have u:tz w ((w.alloc (.cells (aU a) 184)).alloc (.cells (b8 (List.replicate 32 0)) 174)) w.heap.size a (List.replicate 32 0):=
  ⟨((bz _ _).alloc (aW _) _).alloc zS _,aW _,(ah.new w 184 _).alloc _,fC w _ 174 _⟩
 generalize(w.alloc (.cells (aU a) 184)).alloc (.cells (b8 (List.replicate 32 0)) 174)=K at*;have t:=Z u
 go_wp2
 go_loopw [5] (λ i wr=>∃k:Nat,k<=32/\i=O k/\tz w wr w.heap.size a (jq (SC.vW a) k)) (λ i _=>32-(intOf i).toNat)
 case atStart=>exact⟨0,by omega,rfl,by rw[Nu];exact t.U⟩
 case round=>
  obtain⟨k,B,rfl,h⟩:=hrel;by_cases r:k<32
  ·obtain⟨x,hx⟩:∃x,a[k/8]?=some x:=⟨_,ba (by rw[p.U.1];omega)⟩;have z:=SC.aaF p.U.2 hx;have c:=Nt (SC.vW a) k r;have C:=Ns (SC.vW a) k B;rw[<-z] at c;obtain⟨j,A⟩:∃j,k/8=j:=⟨_,rfl⟩;rw[A] at hx;have E:=(h.a.cell j).trans (lv hx);obtain⟨s,D⟩:∃s,(jq (SC.vW a) k)[k]?=some s:=⟨_,ba (by rw[C];exact r)⟩;have F:=(h.b.cell k).trans (vZ D);have f1:=h.b.frozen k;have e1:(k:Int).tdiv 8=(j:Int):=by rw[vn W];omega
   have L:IntKind.i64.wrap (j:Int)=(j:Int):=bd _ W;have G:(0:Int)<=(j:Int):=by omega
   have H:(j:Int)<4:=by omega
   have I:(0:Int)<=(k:Int):=by omega
   have J:(k:Int)<32:=by omega
   have l:=Z h;obtain⟨L2,q⟩:∃L2,jq (SC.vW a) (k+1)=L2:=⟨_,rfl⟩;rw[q] at c;have i:=Z q;generalize jq (SC.vW a) k=m at*;have v:k%8=0\/k%8=1\/k%8=2\/k%8=3\/k%8=4\/k%8=5\/k%8=6\/k%8=7:=by omega
   rcases v with e|e|e|e|e|e|e|e
   ·rw[e] at c;have e2:(k:Int).tmod 8=0:=by rw[gd W];omega
    have o:IntKind.i64.wrap 0=0:=by decide
    have f:m.set k (UInt8.ofNat (x/1%256))=L2:=c;have g:(x:Int)%256=((UInt8.ofNat (x/1%256)).toNat:Int):=by rw[qh];omega
    have n:IntKind.u8.wrap ((x:Int))=((UInt8.ofNat (x/1%256)).toNat:Int):=by rw[pz];exact g
    generalize UInt8.ofNat (x/1%256)=b at*;have d:=Z f
    go_wp2
    go_roundw
    case rel=>exact⟨k+1,by omega,by go_num,by have:=l.U.set k b;rw[d.U,<-i.U] at this;exact this⟩
    case measure=>simp[intOf];omega
   ·rw[e] at c;have e2:(k:Int).tmod 8=1:=by rw[gd W];omega
    have o:IntKind.i64.wrap 8=8:=by decide
    have f:m.set k (UInt8.ofNat (x/256%256))=L2:=c;have g:(x:Int)/256%256=((UInt8.ofNat (x/256%256)).toNat:Int):=by rw[qh];omega
    have n:IntKind.u8.wrap ((x:Int)/256)=((UInt8.ofNat (x/256%256)).toNat:Int):=by rw[pz];exact g
    generalize UInt8.ofNat (x/256%256)=b at*;have d:=Z f
    go_wp2
    go_roundw
    case rel=>exact⟨k+1,by omega,by go_num,by have:=l.U.set k b;rw[d.U,<-i.U] at this;exact this⟩
    case measure=>simp[intOf];omega
   ·rw[e] at c;have e2:(k:Int).tmod 8=2:=by rw[gd W];omega
    have o:IntKind.i64.wrap 16=16:=by decide
    have f:m.set k (UInt8.ofNat (x/65536%256))=L2:=c;have g:(x:Int)/65536%256=((UInt8.ofNat (x/65536%256)).toNat:Int):=by rw[qh];omega
    have n:IntKind.u8.wrap ((x:Int)/65536)=((UInt8.ofNat (x/65536%256)).toNat:Int):=by rw[pz];exact g
    generalize UInt8.ofNat (x/65536%256)=b at*;have d:=Z f
    go_wp2
    go_roundw
    case rel=>exact⟨k+1,by omega,by go_num,by have:=l.U.set k b;rw[d.U,<-i.U] at this;exact this⟩
    case measure=>simp[intOf];omega
   ·rw[e] at c;have e2:(k:Int).tmod 8=3:=by rw[gd W];omega
    have o:IntKind.i64.wrap 24=24:=by decide
    have f:m.set k (UInt8.ofNat (x/16777216%256))=L2:=c;have g:(x:Int)/16777216%256=((UInt8.ofNat (x/16777216%256)).toNat:Int):=by rw[qh];omega
    have n:IntKind.u8.wrap ((x:Int)/16777216)=((UInt8.ofNat (x/16777216%256)).toNat:Int):=by rw[pz];exact g
    generalize UInt8.ofNat (x/16777216%256)=b at*;have d:=Z f
    go_wp2
    go_roundw
    case rel=>exact⟨k+1,by omega,by go_num,by have:=l.U.set k b;rw[d.U,<-i.U] at this;exact this⟩
    case measure=>simp[intOf];omega
   ·rw[e] at c;have e2:(k:Int).tmod 8=4:=by rw[gd W];omega
    have o:IntKind.i64.wrap 32=32:=by decide
    have f:m.set k (UInt8.ofNat (x/4294967296%256))=L2:=c;have g:(x:Int)/4294967296%256=((UInt8.ofNat (x/4294967296%256)).toNat:Int):=by rw[qh];omega
    have n:IntKind.u8.wrap ((x:Int)/4294967296)=((UInt8.ofNat (x/4294967296%256)).toNat:Int):=by rw[pz];exact g
    generalize UInt8.ofNat (x/4294967296%256)=b at*;have d:=Z f
    go_wp2
    go_roundw
    case rel=>exact⟨k+1,by omega,by go_num,by have:=l.U.set k b;rw[d.U,<-i.U] at this;exact this⟩
    case measure=>simp[intOf];omega
   ·rw[e] at c;have e2:(k:Int).tmod 8=5:=by rw[gd W];omega
    have o:IntKind.i64.wrap 40=40:=by decide
    have f:m.set k (UInt8.ofNat (x/1099511627776%256))=L2:=c;have g:(x:Int)/1099511627776%256=((UInt8.ofNat (x/1099511627776%256)).toNat:Int):=by rw[qh];omega
    have n:IntKind.u8.wrap ((x:Int)/1099511627776)=((UInt8.ofNat (x/1099511627776%256)).toNat:Int):=by rw[pz];exact g
    generalize UInt8.ofNat (x/1099511627776%256)=b at*;have d:=Z f
    go_wp2
    go_roundw
    case rel=>exact⟨k+1,by omega,by go_num,by have:=l.U.set k b;rw[d.U,<-i.U] at this;exact this⟩
    case measure=>simp[intOf];omega
   ·rw[e] at c;have e2:(k:Int).tmod 8=6:=by rw[gd W];omega
    have o:IntKind.i64.wrap 48=48:=by decide
    have f:m.set k (UInt8.ofNat (x/281474976710656%256))=L2:=c;have g:(x:Int)/281474976710656%256=((UInt8.ofNat (x/281474976710656%256)).toNat:Int):=by rw[qh];omega
    have n:IntKind.u8.wrap ((x:Int)/281474976710656)=((UInt8.ofNat (x/281474976710656%256)).toNat:Int):=by rw[pz];exact g
    generalize UInt8.ofNat (x/281474976710656%256)=b at*;have d:=Z f
    go_wp2
    go_roundw
    case rel=>exact⟨k+1,by omega,by go_num,by have:=l.U.set k b;rw[d.U,<-i.U] at this;exact this⟩
    case measure=>simp[intOf];omega
   ·rw[e] at c;have e2:(k:Int).tmod 8=7:=by rw[gd W];omega
    have o:IntKind.i64.wrap 56=56:=by decide
    have f:m.set k (UInt8.ofNat (x/72057594037927936%256))=L2:=c;have g:(x:Int)/72057594037927936%256=((UInt8.ofNat (x/72057594037927936%256)).toNat:Int):=by rw[qh];omega
    have n:IntKind.u8.wrap ((x:Int)/72057594037927936)=((UInt8.ofNat (x/72057594037927936%256)).toNat:Int):=by rw[pz];exact g
    generalize UInt8.ofNat (x/72057594037927936%256)=b at*;have d:=Z f
    go_wp2
    go_roundw
    case rel=>exact⟨k+1,by omega,by go_num,by have:=l.U.set k b;rw[d.U,<-i.U] at this;exact this⟩
    case measure=>simp[intOf];omega
  ·obtain rfl:k=32:=by omega
   rw[Nr] at h;have f:=Fe h.b 32 (by simp[FM.kU]) 32;have d:ai (FM.enc (SC.vW a)=⟨((FM.dn 32 (SC.vW a)).map UInt8.ofNat).toArray⟩):=Z rfl;have b:=Z h.aK
   go_wp2
   go_ret
   exact⟨by rw[d.U];rfl,b.U⟩
variable{m:List Nat}{i n:Nat}
def kM(w:aa):Prop:=∃t b,w.heap[3]?=some (.cells (aU SC.sA) t b)
def kM.lt{w:aa}(h:kM w):3<w.heap.size:=by
 obtain⟨t,b,h⟩:=h;exact(lG.1 h).1
def kM.below{w b:aa}(h:kM w)(d:Below n w b)(e:3<n):kM b:=by
 obtain⟨t,c,h⟩:=h;exact⟨t,c,(d.block 3 e).trans h⟩
section
variable{ops:Array Oper}{rest:List Oper}{op:Oper}{a:Act}{Q:Exit->Act->aa->Prop}{w:aa}
def zh(q:Region.wanted op (yielded ops a.tmps)=true)(c n:Nat){x:Operand}(u:op.op= .load c x)(hx:a.eval x=pV g){e:Nat×Nat}{b:Array ab}(p:w.heap[g]?=some (.cells b t e))
 (k:ic c n=true) (s:b.size=n) (m:wpList prog ops Q rest (a.put op.dst (aG b)) w):wpList prog ops Q (op::rest) a w:=by
 obtain⟨⟨d,f,h⟩,i⟩:=pn k
 have o:wpList prog ops Q rest (a.put op.dst (aG b.toList.toArray)) w:=by simpa using m
 refine dW q λ _ l=>DN c x u g 0 hx b.toList d (λ j v r=> ?_) f h (by rw[i];simp[s]) (l _ _ o)
 unfold World.cell?
 rw[p]
 simpa using r
end
structure jO(w wr:aa)(B:Nat)(l:List Nat):Prop where
 aK:BW w wr
 c:w.heap.size<=B
 z:ah wr B 184 (aU [0,0,0,0])
 a:ah wr (B+1) 184 (aU l)
def jO.set{w wr:aa}{B:Nat}{l:List Nat}(h:jO w wr B l)(k x:Nat):jO w (wr.setCell ⟨B+1,k,none⟩ (U (x:Int))) B (l.set k x):=
 ⟨h.aK.setCell (by have:=h.c;simp;omega) _,h.c,h.z.cG zS _,by rw[<-xx];exact h.a.cN k _⟩
def jO.below{w wr c:aa}{B:Nat}(h:jO w wr B m)(b:BW wr c):jO w c B m:=
 ⟨h.aK.trans (b.mono h.aK.size),h.c,(b.block _ (ah.lt h.z)).trans h.z,(b.block _ (ah.lt h.a)).trans h.a⟩
def aal(x c:Nat)(hx:x<18446744073709551616)(f:c<=1):bits .or .u64 ((x:Int)*2%18446744073709551616) (c:Int)=((2*x%18446744073709551616+c:Nat):Int):=by
 have b:((x:Int)*2%18446744073709551616)=((2*x%18446744073709551616:Nat):Int):=by omega
 have d:=Dr (2*x%18446744073709551616) c W W;rw[b,d];congr 1;rw[vD,rB];have e:2*x%18446744073709551616=(x%9223372036854775808)*2^1:=by omega
 rw[e];have:=oX 1 (x%9223372036854775808*2^1) c zS W;rw[vD] at this;omega
def jO.row{w b:aa}{B:Nat}(h:jO w b B m)(e:B+2<=b.heap.size)(z c:Array ab)(t:TypeId):jO w ((b.alloc (.cells z t)).setRow b.heap.size c) B m:=by
 have d:=h.below ((bz b.heap.size b).alloc (aW _) (.cells z t));exact⟨bY d.aK h.aK.size c,h.c,d.z.cJ c W,d.a.cJ c W⟩
def Ti:(prog.info? 46).isSome=true:=by kernel_rfl
def NZ:prog.cellsOf 46=1:=by kernel_rfl
def SZ{cs:Array ab}{v:ab}(w:aa)(b:i<4)(c:cs[i]?=some v):(Instr.index 184 (aG cs) (O (i:Int))).run prog w= .ok v w:=
 C0 w oA nn Ti NZ b c
def J6{w:aa}(a1:kM w)(E:Nat)(f:List Nat)(n:Nat)(c6:f.length=n)(e6:n<=1000)(b8:ah w E 46 (aU f))(b9:SC.da f)(b3:Nat):
 Calls prog 112 #[ad (some ⟨E,0,none⟩) n b3] w λ e b=>∃l,e=ao (aG (aU l))/\BW w b/\l.length=4/\SC.da l/\SC.vW l=SC.vW f%SC.LQ:=by
 have a9:=Z a1;have S:=Z b8;have J:=Z b9
 have R:=Z c6
 have b6:=a1.lt
 have f6:IntKind.i64.wrap (64*(n:Int))=64*(n:Int):=bd _ W
 have D:IntKind.i64.wrap (64*(n:Int)-1)=64*(n:Int)-1:=bd _ W
 go_enter func112,ntmps112
 go_wp2
 go_step3
 go_wp2
 go_step3
 go_wp2
 rw[Iv]
 have b4:jO w ((w.alloc (.cells (aU [0,0,0,0]) 184)).alloc (.cells (aU [0,0,0,0]) 184)) w.heap.size [0,0,0,0]:=
  ⟨((bz _ _).alloc (aW _) _).alloc zS _,aW _,(ah.new w 184 _).alloc _,fC w _ 184 _⟩
 generalize(w.alloc (.cells (aU [0,0,0,0]) 184)).alloc (.cells (aU [0,0,0,0]) 184)=f9 at*
 have a6:=Z b4
 go_loopw [4] (λ i wr=>∃(k:Nat) (l:List Nat),k<=64*n/\i=O ((k:Int)-1)/\jO w wr w.heap.size l/\l.length=4/\SC.da l/\SC.vW l=SC.mf (SC.vW f) k) (λ i _=>(intOf i+1).toNat)
 case atStart=>
  refine⟨64*n,[0,0,0,0],aW _,rfl,a6.U,rfl,?_,?_⟩
  ·intro d hd;simp at hd;omega
  ·rw[<-R.U,SC.OD J.U];rfl
 case round=>
  obtain⟨k,l,e4,rfl,s,c4,c5,C⟩:=hrel
  have g:=Z s;have d:=Z (And.intro c4 (And.intro c5 C))
  rcases k with _|k
  ·have C:=d.U.2.2
   have c1:SC.vW l=SC.vW f%SC.LQ:=by rw[C];unfold SC.mf;simp
   have HD:=Z c1
   have B:=g.U.a
   have t:(prog.info? 184).map (·.size)=some (aU l).size:=by rw[oT d.U.1];exact tY
   have F:=dJ (P:=prog) g.U.z (aU l) (by rw[oT d.U.1];rfl) (um _)
   have a7:=Z (g.U.z.setRow (aU l))
   have b1:=Z (bY g.U.aK (aW _) (aU l))
   have G:(aU l).size=4:=oT d.U.1
   go_wp2_with(refine bO rfl 184 (Operand.tmp 3) rfl (w.heap.size+1) rfl 184 (aU l) (0,0) _ B oA rfl t ?_)
   try rw[iJ]
   exact cq (v:= .agg (aU l)) (fL results112 _ _ w.heap.size 184 (aU l) (0,0) _ rfl a7.U oA rfl t) rfl ⟨l,rfl,b1.U,d.U.1,d.U.2.1,HD.U⟩
  ·obtain⟨j,c3⟩:∃j,k/64=j:=⟨_,rfl⟩
   obtain⟨r,c8⟩:∃r,k%64=r:=⟨_,rfl⟩
   obtain⟨x,hx⟩:∃x,f[j]?=some x:=⟨_,ba (by rw[R.U];omega)⟩
   have f3:=J.U.get hx
   have d6:wr.cell? ⟨E,j,none⟩=some (U (x:Int)):=((show ah wr E 46 (aU f) from(g.U.aK.block _ (ah.lt S.U)).trans S.U).cell j).trans (lv hx)
   obtain⟨b,a2⟩:∃b,x/2^r%2=b:=⟨_,rfl⟩
   have a8:=Z (show SC.vW f/2^k%2=b by rw[<-a2,<-c8];exact(SC.Oy J.U (by rw[c3];exact hx)).symm)
   have K:b<=1:=by omega
   have e5:x/2^r<=x:=zy _ _
   have d9:bits .and .u64 ((x:Int)/2^r) 1=(b:Int):=by
    have e:((x:Int)/2^r)=((x/2^r:Nat):Int):=by push_cast;rfl
    have h:=u64_and_nat (x/2^r) 1 W W
    rw[nat_mask1,a2] at h
    rw[e];exact h
   have e1:(k:Int).tdiv 64=(j:Int):=by rw[vn W];omega
   have e2:(k:Int).tmod 64=(r:Int):=by rw[gd W];omega
   have e3:((k+1:Nat):Int)-1=(k:Int):=by omega
   have f7:IntKind.i64.wrap (j:Int)=(j:Int):=bd _ W
   have f8:IntKind.i64.wrap (r:Int)=(r:Int):=bd _ W
   have d4:(0:Int)<=(j:Int):=by omega
   have d5:(j:Int)<(n:Int):=by omega
   have f4:(0:Int)<=(k:Int):=by omega
   rw[e3]
   have B:=g.U.a
   have t:(prog.info? 184).map (·.size)=some (aU l).size:=by rw[oT d.U.1];exact tY
   go_wp2_with(refine bO rfl 184 (Operand.tmp 3) rfl (w.heap.size+1) rfl 184 (aU l) (0,0) _ B oA rfl t ?_)
   go_loopw [28,5] (λ o p u=>∃(q:Nat) (m:List Nat) (c:Nat),q<=4/\o=O (q:Int)/\p=U (c:Int)/\jO w u w.heap.size m/\SC.qg l m b c q) (λ o _ _=>4-(intOf o).toNat)
   case atStart=>exact⟨0,l,b,by omega,rfl,rfl,g.U,SC.qg.start b d.U.1 d.U.2.1 K⟩
   case round=>
    obtain⟨q,m,c,e7,rfl,rfl,s,p⟩:=hrel
    have g:=Z s
    by_cases o:q<4
    ·obtain⟨y,N⟩:∃y,l[q]?=some y:=⟨_,ba (by rw[d.U.1];exact o)⟩
     have a4:=d.U.2.1.get N
     have L:=p.c
     obtain⟨z,d2⟩:∃z,m[q]?=some z:=⟨_,ba (by rw[p.len];exact o)⟩
     have d7:=(s.a.cell q).trans (lv d2)
     have f1:=s.a.frozen q
     have e0:=λ u=>SZ (cs:=aU l) (i:=q) u o (lv N)
     have c7:bits .or .u64 (IntKind.u64.wrap ((y:Int)*2)) (c:Int)=((2*y%18446744073709551616+c:Nat):Int):=by rw[rh];exact aal y c a4 L
     have F:=p.step o N a4
     have e9:((y:Int)/9223372036854775808)=((y/9223372036854775808:Nat):Int):=by omega
     obtain⟨v,C⟩:∃v,2*y%18446744073709551616+c=v:=⟨_,rfl⟩
     obtain⟨u,d0⟩:∃u,y/9223372036854775808=u:=⟨_,rfl⟩
     rw[C] at c7 F
     rw[d0] at e9 F
     have d4:(0:Int)<=(q:Int):=by omega
     have d5:(q:Int)<4:=by omega
     have b2:=Z F
     go_wp2
     refine⟨⟨q+1,_,u,by omega,by go_num,rfl,g.U.set q v,b2.U⟩,?_⟩
     simp[intOf];omega
    ·obtain rfl:q=4:=by omega
     have M:=p.low
     rw[cS (by rw[p.len];exact aW _),cS (by rw[d.U.1];exact aW _),d.U.2.2] at M
     have e8:=SC.Oz (SC.vW f) (k+1)
     have c0:c=0:=by
      have i:SC.LQ<18446744073709551616^4/4:=by decide
      have:=p.c
      have L:c=0\/c=1:=by omega
      rcases L with h|h
      ·exact h
      ·subst h;omega
     subst c0
     rw[tn,hJ] at M
     have a3:=SC.OB (SC.vW f) k
     rw[a8.U,<-M] at a3
     have i:=Z (And.intro p.len (And.intro p.ok a3))
     have b0:ai (kM wr):=Z (a9.U.below s.aK b6)
     have B:=s.a
     have t:(prog.info? 184).map (·.size)=some (aU m).size:=by rw[oT p.len];exact tY
     obtain⟨f5,d8,b7⟩:=b0.U
     go_wp2_with(first|refine bO rfl 184 (Operand.tmp 3) rfl (w.heap.size+1) rfl 184 (aU m) (0,0) _ B oA rfl t ?_|refine zh rfl 184 4 rfl (x:= .global 3) rfl b7 V rfl ?_)
     refine(Yt m SC.sA i.U.1 rfl i.U.2.1 SC.VT _).mono ?_
     rintro e D ⟨h,rfl,K,X,b5,a0⟩
     rw[SC.VU] at a0⊢
     have d1:=g.U.below K
     have T:=Z d1
     have H:=Z (And.intro X (And.intro b5 a0))
     have G:(aU h).size=4:=oT X
     have c2:(prog.info? 184).map (·.size)=some (aU h).size:=by rw[G];exact tY
     have a5:ah (D.alloc (.cells #[U 0,U 0,U 0,U 0] 184)) D.heap.size 184 #[U 0,U 0,U 0,U 0]:=ah.new _ _ _
     have f0:=dJ (P:=prog) a5 (aU h) (by rw[G];rfl) (um _)
     have c9:w.heap.size+2<=D.heap.size:=by have:=ah.lt T.U.a;omega
     have A:=Z (T.U.row c9 #[U 0,U 0,U 0,U 0] (aU h) 184)
     have d3:=a5.setRow (aU h)
     by_cases o:SC.vW m<SC.LQ
     ·have hd:decide (SC.vW m<SC.LQ)=true:=aS o
      have hcut:=i.U.2.2
      rw[ax o] at hcut
      have I:=Z hcut
      rw[hd]
      go_wp2
      exact⟨⟨k,m,by omega,rfl,A.U,i.U.1,i.U.2.1,I.U.symm⟩,by simp[intOf]⟩
     ·have hd:decide (SC.vW m<SC.LQ)=false:=bu o
      have hcut:=i.U.2.2
      rw[aj o,<-H.U.2.2 o] at hcut
      have I:=Z hcut
      rw[hd]
      have f2:=dJ (P:=prog) A.U.a (aU h) (by rw[G,oT i.U.1]) (um _)
      go_wp2_with(refine bO rfl 184 (Operand.tmp 8) rfl D.heap.size rfl 184 (aU h) (0,0) _ d3 oA rfl c2 ?_)
      refine⟨⟨k,h,by omega,rfl,?_,H.U.1,H.U.2.1,I.U.symm⟩,by simp[intOf]⟩
      exact⟨bY A.U.aK (Nat.le_add_right _ 1) (aU h),aW _,A.U.z.cJ _ W,A.U.a.setRow _⟩
