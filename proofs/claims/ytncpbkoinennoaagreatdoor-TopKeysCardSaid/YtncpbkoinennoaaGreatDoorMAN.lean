import Derived.Test.YtncpbkoinennoaaGreatDoorMAK
set_option linter.all false
set_option maxRecDepth 100000
set_option maxHeartbeats 0
namespace Go.Proofs.YtncpbkoinennoaaGreatDoor
open Go.RowKit Proofs.Tryz
attribute [local irreducible] wpList Calls
namespace WD
def tx(n:Nat)(f:n<=64)(x:UInt64):(WM.aL n x).toNat=x.toNat/2^n+x.toNat%2^n*2^(64-n):=by
 have hx:=x.toNat_lt;have a:2^n*2^(64-n)=18446744073709551616:=by rw[<-eI,show n+(64-n)=64 by omega]
 have b:0<2^n:=by grind
 have e:x.toNat/2^n<2^(64-n):=by rw[AQ b,fg,a];exact hx
 have c:x.toNat%2^n+1<=2^n:=by omega
 have d:=lZ (2^(64-n)) c;rw[a,oF,sa] at d;unfold WM.aL;rw[uF,bY W]
def fq(n a b:Nat)(j:n<=64)(h:2^n=a)(i:2^(64-n)=b)(x:UInt64):bits .or .u64 ((x.toNat:Int)*(b:Int)%18446744073709551616) ((x.toNat:Int)/(a:Int))=((WM.aL n x).toNat:Int):=by
 subst h i;have c:2^n*2^(64-n)=18446744073709551616:=by rw[<-eI,show n+(64-n)=64 by omega]
 have hx:=x.toNat_lt;have d:0<2^n:=by grind
 have e:x.toNat/2^n<2^(64-n):=by rw[AQ d,fg,c];exact hx
 have e1:(x.toNat:Int)*((2^(64-n):Nat):Int)%18446744073709551616=((x.toNat%2^n*2^(64-n):Nat):Int):=by
  rw[<-Nat.mul_mod_mul_right,c];omega
 have f:x.toNat%2^n+1<=2^n:=by omega
 have g:=lZ (2^(64-n)) f;rw[c,oF,sa] at g;rw[e1,show(x.toNat:Int)/((2^n:Nat):Int)=((x.toNat/2^n:Nat):Int) by omega,wC _ _ W W,pt (64-n) _ _ (Nat.mul_mod_left _ _) e,tx n j x,qk]
def aa5(x:UInt64)(w:aa):
 Calls prog 183 #[U (x.toNat:Int),O 1] w λ e a=>e=ao (U ((WM.aL 1 x).toNat:Int))/\w=a:=by
 have b:bits .or .u64 ((x.toNat:Int)*9223372036854775808%18446744073709551616) ((x.toNat:Int)/2)=((WM.aL 1 x).toNat:Int):=fq 1 2 9223372036854775808 zD zD zD x
 have d:bits BinOp.and IntKind.u64 (IntKind.u64.wrap (-1)) 63=63:=by decide
 have c:=Z b
 clear b
 go_enter nk,nr
 go_wp2_with fail
 refine fV (R:=λ e a=>e=ao (U ((WM.aL 1 x).toNat:Int))/\w=a) ?_ ?_
 ·go_enter nm,ns
  go_wp2
  go_ret
  exact⟨by rw[<-c.U];rfl,rfl⟩
 ·rintro e a ⟨rfl,rfl⟩
  go_wp2
  go_ret
  simp
def abk(x:UInt64)(w:aa):
 Calls prog 183 #[U (x.toNat:Int),O 8] w λ e a=>e=ao (U ((WM.aL 8 x).toNat:Int))/\w=a:=by
 have b:bits .or .u64 ((x.toNat:Int)*72057594037927936%18446744073709551616) ((x.toNat:Int)/256)=((WM.aL 8 x).toNat:Int):=fq 8 256 72057594037927936 zD zD zD x
 have d:bits BinOp.and IntKind.u64 (IntKind.u64.wrap (-8)) 63=56:=by decide
 have c:=Z b
 clear b
 go_enter nk,nr
 go_wp2_with fail
 refine fV (R:=λ e a=>e=ao (U ((WM.aL 8 x).toNat:Int))/\w=a) ?_ ?_
 ·go_enter nm,ns
  go_wp2
  go_ret
  exact⟨by rw[<-c.U];rfl,rfl⟩
 ·rintro e a ⟨rfl,rfl⟩
  go_wp2
  go_ret
  simp
def E3(x:UInt64)(w:aa):
 Calls prog 183 #[U (x.toNat:Int),O 19] w λ e a=>e=ao (U ((WM.aL 19 x).toNat:Int))/\w=a:=by
 have b:bits .or .u64 ((x.toNat:Int)*35184372088832%18446744073709551616) ((x.toNat:Int)/524288)=((WM.aL 19 x).toNat:Int):=fq 19 524288 35184372088832 zD zD zD x
 have d:bits BinOp.and IntKind.u64 (IntKind.u64.wrap (-19)) 63=45:=by decide
 have c:=Z b
 clear b
 go_enter nk,nr
 go_wp2_with fail
 refine fV (R:=λ e a=>e=ao (U ((WM.aL 19 x).toNat:Int))/\w=a) ?_ ?_
 ·go_enter nm,ns
  go_wp2
  go_ret
  exact⟨by rw[<-c.U];rfl,rfl⟩
 ·rintro e a ⟨rfl,rfl⟩
  go_wp2
  go_ret
  simp
def abi(x:UInt64)(w:aa):
 Calls prog 183 #[U (x.toNat:Int),O 61] w λ e a=>e=ao (U ((WM.aL 61 x).toNat:Int))/\w=a:=by
 have b:bits .or .u64 ((x.toNat:Int)*8%18446744073709551616) ((x.toNat:Int)/2305843009213693952)=((WM.aL 61 x).toNat:Int):=fq 61 2305843009213693952 8 zD zD zD x
 have d:bits BinOp.and IntKind.u64 (IntKind.u64.wrap (-61)) 63=3:=by decide
 have c:=Z b
 clear b
 go_enter nk,nr
 go_wp2_with fail
 refine fV (R:=λ e a=>e=ao (U ((WM.aL 61 x).toNat:Int))/\w=a) ?_ ?_
 ·go_enter nm,ns
  go_wp2
  go_ret
  exact⟨by rw[<-c.U];rfl,rfl⟩
 ·rintro e a ⟨rfl,rfl⟩
  go_wp2
  go_ret
  simp
def aa8(x:UInt64)(w:aa):
 Calls prog 183 #[U (x.toNat:Int),O 14] w λ e a=>e=ao (U ((WM.aL 14 x).toNat:Int))/\w=a:=by
 have b:bits .or .u64 ((x.toNat:Int)*1125899906842624%18446744073709551616) ((x.toNat:Int)/16384)=((WM.aL 14 x).toNat:Int):=fq 14 16384 1125899906842624 zD zD zD x
 have d:bits BinOp.and IntKind.u64 (IntKind.u64.wrap (-14)) 63=50:=by decide
 have c:=Z b
 clear b
 go_enter nk,nr
 go_wp2_with fail
 refine fV (R:=λ e a=>e=ao (U ((WM.aL 14 x).toNat:Int))/\w=a) ?_ ?_
 ·go_enter nm,ns
  go_wp2
  go_ret
  exact⟨by rw[<-c.U];rfl,rfl⟩
 ·rintro e a ⟨rfl,rfl⟩
  go_wp2
  go_ret
  simp
def E2(x:UInt64)(w:aa):
 Calls prog 183 #[U (x.toNat:Int),O 18] w λ e a=>e=ao (U ((WM.aL 18 x).toNat:Int))/\w=a:=by
 have b:bits .or .u64 ((x.toNat:Int)*70368744177664%18446744073709551616) ((x.toNat:Int)/262144)=((WM.aL 18 x).toNat:Int):=fq 18 262144 70368744177664 zD zD zD x
 have d:bits BinOp.and IntKind.u64 (IntKind.u64.wrap (-18)) 63=46:=by decide
 have c:=Z b
 clear b
 go_enter nk,nr
 go_wp2_with fail
 refine fV (R:=λ e a=>e=ao (U ((WM.aL 18 x).toNat:Int))/\w=a) ?_ ?_
 ·go_enter nm,ns
  go_wp2
  go_ret
  exact⟨by rw[<-c.U];rfl,rfl⟩
 ·rintro e a ⟨rfl,rfl⟩
  go_wp2
  go_ret
  simp
def abg(x:UInt64)(w:aa):
 Calls prog 183 #[U (x.toNat:Int),O 41] w λ e a=>e=ao (U ((WM.aL 41 x).toNat:Int))/\w=a:=by
 have b:bits .or .u64 ((x.toNat:Int)*8388608%18446744073709551616) ((x.toNat:Int)/2199023255552)=((WM.aL 41 x).toNat:Int):=fq 41 2199023255552 8388608 zD zD zD x
 have d:bits BinOp.and IntKind.u64 (IntKind.u64.wrap (-41)) 63=23:=by decide
 have c:=Z b
 clear b
 go_enter nk,nr
 go_wp2_with fail
 refine fV (R:=λ e a=>e=ao (U ((WM.aL 41 x).toNat:Int))/\w=a) ?_ ?_
 ·go_enter nm,ns
  go_wp2
  go_ret
  exact⟨by rw[<-c.U];rfl,rfl⟩
 ·rintro e a ⟨rfl,rfl⟩
  go_wp2
  go_ret
  simp
def abd(x:UInt64)(w:aa):
 Calls prog 183 #[U (x.toNat:Int),O 28] w λ e a=>e=ao (U ((WM.aL 28 x).toNat:Int))/\w=a:=by
 have b:bits .or .u64 ((x.toNat:Int)*68719476736%18446744073709551616) ((x.toNat:Int)/268435456)=((WM.aL 28 x).toNat:Int):=fq 28 268435456 68719476736 zD zD zD x
 have d:bits BinOp.and IntKind.u64 (IntKind.u64.wrap (-28)) 63=36:=by decide
 have c:=Z b
 clear b
 go_enter nk,nr
 go_wp2_with fail
 refine fV (R:=λ e a=>e=ao (U ((WM.aL 28 x).toNat:Int))/\w=a) ?_ ?_
 ·go_enter nm,ns
  go_wp2
  go_ret
  exact⟨by rw[<-c.U];rfl,rfl⟩
 ·rintro e a ⟨rfl,rfl⟩
  go_wp2
  go_ret
  simp
def abe(x:UInt64)(w:aa):
 Calls prog 183 #[U (x.toNat:Int),O 34] w λ e a=>e=ao (U ((WM.aL 34 x).toNat:Int))/\w=a:=by
 have b:bits .or .u64 ((x.toNat:Int)*1073741824%18446744073709551616) ((x.toNat:Int)/17179869184)=((WM.aL 34 x).toNat:Int):=fq 34 17179869184 1073741824 zD zD zD x
 have d:bits BinOp.and IntKind.u64 (IntKind.u64.wrap (-34)) 63=30:=by decide
 have c:=Z b
 clear b
 go_enter nk,nr
 go_wp2_with fail
 refine fV (R:=λ e a=>e=ao (U ((WM.aL 34 x).toNat:Int))/\w=a) ?_ ?_
 ·go_enter nm,ns
  go_wp2
  go_ret
  exact⟨by rw[<-c.U];rfl,rfl⟩
 ·rintro e a ⟨rfl,rfl⟩
  go_wp2
  go_ret
  simp
def abf(x:UInt64)(w:aa):
 Calls prog 183 #[U (x.toNat:Int),O 39] w λ e a=>e=ao (U ((WM.aL 39 x).toNat:Int))/\w=a:=by
 have b:bits .or .u64 ((x.toNat:Int)*33554432%18446744073709551616) ((x.toNat:Int)/549755813888)=((WM.aL 39 x).toNat:Int):=fq 39 549755813888 33554432 zD zD zD x
 have d:bits BinOp.and IntKind.u64 (IntKind.u64.wrap (-39)) 63=25:=by decide
 have c:=Z b
 clear b
 go_enter nk,nr
 go_wp2_with fail
 refine fV (R:=λ e a=>e=ao (U ((WM.aL 39 x).toNat:Int))/\w=a) ?_ ?_
 ·go_enter nm,ns
  go_wp2
  go_ret
  exact⟨by rw[<-c.U];rfl,rfl⟩
 ·rintro e a ⟨rfl,rfl⟩
  go_wp2
  go_ret
  simp
def aaP(x:UInt64)(w:aa):Calls prog 183 #[U (x.toNat:Int),O 1] w λ e c=>e=ao (U ((WM.aL 1 x).toNat:Int))/\c=w:=(aa5 x w).mono λ _ _ ⟨a,b⟩=>⟨a,b.symm⟩
def aa4(x:UInt64)(w:aa):Calls prog 183 #[U (x.toNat:Int),O 8] w λ e c=>e=ao (U ((WM.aL 8 x).toNat:Int))/\c=w:=(abk x w).mono λ _ _ ⟨a,b⟩=>⟨a,b.symm⟩
def E1(x:UInt64)(w:aa):Calls prog 183 #[U (x.toNat:Int),O 19] w λ e c=>e=ao (U ((WM.aL 19 x).toNat:Int))/\c=w:=(E3 x w).mono λ _ _ ⟨a,b⟩=>⟨a,b.symm⟩
def aa2(x:UInt64)(w:aa):Calls prog 183 #[U (x.toNat:Int),O 61] w λ e c=>e=ao (U ((WM.aL 61 x).toNat:Int))/\c=w:=(abi x w).mono λ _ _ ⟨a,b⟩=>⟨a,b.symm⟩
def aaS(x:UInt64)(w:aa):Calls prog 183 #[U (x.toNat:Int),O 14] w λ e c=>e=ao (U ((WM.aL 14 x).toNat:Int))/\c=w:=(aa8 x w).mono λ _ _ ⟨a,b⟩=>⟨a,b.symm⟩
def E0(x:UInt64)(w:aa):Calls prog 183 #[U (x.toNat:Int),O 18] w λ e c=>e=ao (U ((WM.aL 18 x).toNat:Int))/\c=w:=(E2 x w).mono λ _ _ ⟨a,b⟩=>⟨a,b.symm⟩
def aa0(x:UInt64)(w:aa):Calls prog 183 #[U (x.toNat:Int),O 41] w λ e c=>e=ao (U ((WM.aL 41 x).toNat:Int))/\c=w:=(abg x w).mono λ _ _ ⟨a,b⟩=>⟨a,b.symm⟩
def aaX(x:UInt64)(w:aa):Calls prog 183 #[U (x.toNat:Int),O 28] w λ e c=>e=ao (U ((WM.aL 28 x).toNat:Int))/\c=w:=(abd x w).mono λ _ _ ⟨a,b⟩=>⟨a,b.symm⟩
def aaY(x:UInt64)(w:aa):Calls prog 183 #[U (x.toNat:Int),O 34] w λ e c=>e=ao (U ((WM.aL 34 x).toNat:Int))/\c=w:=(abe x w).mono λ _ _ ⟨a,b⟩=>⟨a,b.symm⟩
def aaZ(x:UInt64)(w:aa):Calls prog 183 #[U (x.toNat:Int),O 39] w λ e c=>e=ao (U ((WM.aL 39 x).toNat:Int))/\c=w:=(abf x w).mono λ _ _ ⟨a,b⟩=>⟨a,b.symm⟩
end WD
def WD.wm(n:Nat)(e:n<18446744073709551616)(w:aa):CB 99 #[U (n:Int)] w (ad (fp n)):=by
 have a:=Z (ae.start w [])
 go_enter func99,ntmps99
 go_wp2_with(first|refine KA a _ 3 Nd λ c b d a=>?_|refine KS a λ b a=>?_)
 refine M0 9 ?_;rw[gG]
 go_wp2_with(refine KS a λ b a=>?_)
 rw[gG]
 go_wp2_with(refine KS a λ b a=>?_)
 rw[gG]
 go_wp2_with(refine KS a λ b a=>?_)
 rw[gG]
 go_wp2_with(refine KS a λ b a=>?_)
 rw[gG]
 go_wp2_with(refine KS a λ b a=>?_)
 rw[gG]
 go_wp2_with(refine KS a λ b a=>?_)
 rw[gG]
 go_wp2_with(refine KS a λ b a=>?_)
 rw[gG]
 go_wp2_with(refine KS a λ b a=>?_)
 rw[gG]
 go_wp2_with(refine Cv a.U 0 rfl rfl rfl rfl (fp n).data.toList ?_ rfl ?_;·simp only[fp,bB,lf,bZ,eg,bH,dJ,dr];have e0:∀x:Nat,x%256=(UInt8.ofNat (x%256)).toNat:=(λ x=>by simp);simp only[<-e0,Nat.reducePow,rW];congr 1;(congr 1;omega))
 go_ret
 exact⟨rfl,a.U.aq⟩
def ofNat_mod(n:Nat):UInt8.ofNat (n%256)=UInt8.ofNat n:=by
 apply xu.1;simp
def WD.C1(n:Nat):(fp n).data.toList=WM.len8 n:=by
 unfold fp WM.len8 lf;simp only[ofNat_mod,Nat.reducePow,rW]
def WD.OO(m c:Nat)(b:m<72057594037927936)(a:c<256):bits .or .u64 ((m:Int)*256) (c:Int)=((m*256+c:Nat):Int):=by
 have e:((m:Int)*256)=((m*256:Nat):Int):=by omega
 rw[e,wC _ _ W W,pt 8 _ _ W W]
def WD.ON(s:af)(C:s.size<=8)(w:aa):CB 182 #[ad s] w (U (WM.iu s.data.toList:Int)):=by
 obtain⟨q,o,x,f,n,u,a⟩:=uS (P:=prog) w 9 29 5 s df cP eJ;have y:s.data.toList.length=s.size:=by rw[iO];rfl
 have d:=Z a;clear a;have b:=Z f;have p:=Z n
 go_enter func182,ntmps182
 go_wp2
 go_loop [3,9] (λ v i=>∃k:Nat,k<=s.size/\i=O k/\v=U (WM.iu (s.data.toList.take k))) (λ _ i=>s.size-(intOf i).toNat)
 case atStart=>exact⟨0,by omega,rfl,rfl⟩
 case round=>
  obtain⟨k,v,rfl,rfl⟩:=hrel;by_cases i:k<s.size
  ·have z:=WM.xD s.data.toList k W;have a:=WM.GQ s.data.toList k W;have B:256^k<=256^7:=kU zD W;have j:WM.iu (s.data.toList.take k)<72057594037927936:=by
    have:256^7=72057594037927936:=by decide
    omega
   have t:o.cell? ⟨w.heap.size,k,none⟩=some (.int .u8 (s[k].toNat:Int)):=by simpa using d.U k i
   have g:s[k].toNat<256:=s[k].toNat_lt;have l:(s.data.toList[k]'W).toNat=s[k].toNat:=rfl;rw[l] at a;generalize s[k].toNat=c at*;generalize WM.iu (s.data.toList.take k)=m at*;have A:=WD.OO m c j g;have e:=Z a;have r:decide (k<s.size)=true:=by simp;omega
   go_wp2
   go_round
   case rel=>exact⟨k+1,by omega,by go_num,by rw[e.U];simp only[Aw,qc];rfl⟩
   case measure=>simp[intOf];omega
  ·obtain rfl:k=s.size:=by omega
   have h:s.data.toList.take s.size=s.data.toList:=bK W;rw[h]
   go_wp2
   go_ret
   exact⟨rfl,b.U⟩
namespace WD
def tu(x:UInt64):ab:=U (x.toNat:Int)
def br(l:List UInt64):Array ab:=(l.map tu).toArray
def vl(v:WM.V8):List UInt64:=[v.a,v.b,v.c,v.d,v.e,v.f,v.g,v.h]
def zJ(v:WM.V8):(vl v).length=8:=rfl
def cV(b:List UInt8)(k:Nat):Array ab:=br (WM.wl b k++List.replicate (80-k) 0)
def Fu(b:List UInt8):cV b 0=br (List.replicate 80 0):=rfl
def abW:zeroCells251=br (List.replicate 80 0):=by rfl
def Fs(b:List UInt8)(k i:Nat)(h:i<k)(a:k<=80):(cV b k)[i]?=some (U (((WM.wl b k).getD i 0).toNat:Int)):=by
 simp only[cV,br,iS,ef];rw[kO (by rw[WM.cU];exact h),dc,aU (by rw[WM.cU];exact h)];rfl
def Ft(b:List UInt8)(k:Nat)(h:k<80):(cV b k).setIfInBounds k (U ((WM.fS b (WM.wl b k)).toNat:Int))=cV b (k+1):=by
 simp only[cV,br,aS];congr 1;rw[show 80-k=(80-(k+1))+1 by omega,ff];simp only[jy,bZ,WM.wl];rw[kQ _ _ (by simp[WM.cU])];simp[WM.cU,tu]
def wJ(b:List UInt8)(k:Nat)(h:k<80):(cV b k)[k]?=some (U 0):=by
 simp only[cV,br,iS,ef];rw[iR (by rw[WM.cU];omega),WM.cU,qm,AE,au W];rfl
def Fq(b:List UInt8):cV b 80=br (WM.wl b 80):=by simp[cV]
def vF(b:List UInt8)(k:Nat)(h:k<16):WM.fS b (WM.wl b k)=UInt64.ofNat (WM.iu ((b.drop (8*k)).take 8)):=by
 unfold WM.fS;rw[WM.cU,au h]
def vE(b:List UInt8)(k:Nat)(h:¬k<16):WM.fS b (WM.wl b k)=(WM.wl b k).getD (k-16) 0+(WM.wl b k).getD (k-7) 0+WM.tE ((WM.wl b k).getD (k-15) 0)+WM.tF ((WM.wl b k).getD (k-2) 0):=by
 unfold WM.fS;rw[WM.cU,ar h]
def L4(x:UInt64):(x.toNat:Int)/128=((WM.shr 7 x).toNat:Int):=by
 have:=x.toNat_lt;unfold WM.shr;simp_all
def L3(x:UInt64):(x.toNat:Int)/64=((WM.shr 6 x).toNat:Int):=by
 have:=x.toNat_lt;unfold WM.shr;simp_all
def TO:(prog.info? 172).map (·.size)=some 8:=by kernel_rfl
def CN(v:WM.V8):(prog.info? 172).map (·.size)=some (br (vl v)).size:=TO
def wF(v:WM.V8):(br (vl v)).all (·.oneCell')=true:=by simp[br,vl,tu,Value.oneCell']
def DU(l:List UInt64):∀v∈(br l).toList,v.oneCell'=true:=by
 intro v a;simp only[br,eH] at a;obtain⟨_,_,rfl⟩:=a;rfl
def pF(l:List UInt64)(i:Nat)(h:i<l.length):(br l)[i]?=some (U ((l.getD i 0).toNat:Int)):=by
 simp only[br,iS,ef];rw[aU h,dc,aU h];rfl
structure jE(w:aa):Prop where
 b:∃t fr,w.heap[1]?=some (.cells (br (vl WM.eK)) t fr)
 k:∃t fr,w.heap[2]?=some (.cells (br WM.K) t fr)
def jE.lt{w:aa}(h:jE w):3<=w.heap.size:=by
 obtain⟨_,t,a,h⟩:=h;grind
def jE.key{w:aa}(h:jE w)(i:Nat)(a:i<80):w.cell? ⟨2,i,none⟩=some (U ((WM.K.getD i 0).toNat:Int)):=by
 obtain⟨_,t,b,h⟩:=h;rw[nD _ _ _ _ _ _ h];exact pF _ i a
def jE.below{w b:aa}(h:jE w)(a:BW w b):jE b:=by
 have:=h.lt;obtain⟨⟨t,c,e⟩,g,d,f⟩:=h;exact⟨⟨t,c,(a.block 1 W).trans e⟩,g,d,(a.block 2 W).trans f⟩
def acc(s t:List UInt64)(k:Nat):List UInt64:=(List.zipWith (λ x y=>x+y) s t).take k++s.drop k
def uI(x y:WM.V8):acc (vl x) (vl y) 8=vl (WM.gu x y):=rfl
def xy(s t:List UInt64)(k:Nat)(a:s.length=8)(b:t.length=8)(c:k<=8):(acc s t k).length=8:=by simp[acc,a,b];omega
def uJ(s t:List UInt64)(k:Nat)(b:s.length=8)(c:t.length=8)(a:k<8):(acc s t k).getD k 0=s.getD k 0:=by
 simp only[acc,dc];grind
def uK(s t:List UInt64)(k:Nat)(b:s.length=8)(c:t.length=8)(d:k<8):(acc s t k).set k (s.getD k 0+t.getD k 0)=acc s t (k+1):=by
 have a:((List.zipWith (λ x y=>x+y) s t).take k).length=k:=by simp[b,c];omega
 unfold acc;rw[kQ _ _ W,a,qm,iQ W,lW,eC (by grind),FY,gK];grind
def N4(x y:WM.V8):WM.gu x y=WM.gu y x:=by
 unfold WM.gu;simp only[UInt64.add_comm]
def jV(x y:UInt64):UInt64:=x+y
def nA(a b:UInt64):((a.toNat:Int)+(b.toNat:Int))%18446744073709551616=((jV a b).toNat:Int):=xI a b
def BS(x:UInt64):bits .xor .u64 (if IntKind.u64.signed=true then-1 else IntKind.u64.max) (x.toNat:Int)=((jW x).toNat:Int):=BR x
def tA(a b:UInt64):IntKind.u64.wrap ((a.toNat:Int)+(b.toNat:Int))=((a+b).toNat:Int):=og a b
def zn(a b c d e:UInt64):IntKind.u64.wrap (IntKind.u64.wrap (IntKind.u64.wrap (IntKind.u64.wrap ((a.toNat:Int)+(b.toNat:Int))+(c.toNat:Int))+(d.toNat:Int))+(e.toNat:Int))=((a+b+c+d+e).toNat:Int):=by
 rfl
def wj(v:WM.V8):(br (vl v)).size=8:=by rfl
def vr(u v:WM.V8):(br (vl u)).size=(br (vl v)).size:=by rfl
end WD
variable{b:List UInt8}{g i k n:Nat}
namespace WD
def ra:Code->List Code
 | .loop c=>[c]
 | .seq a b=>ra a++ra b
 | .block _ c=>ra c
 | .scope c=>ra c
 | .cond _ a b=>ra a++ra b
 |_=>[]
noncomputable def Cf(i:Nat):Code:=(ra (f100.body.getD .skip)).getD i .skip
def pI(id:Nat):Code->Option Code
 | .region i ops d=>if i=id then some (.region i ops d) else none
 | .loop c=>pI id c
 | .seq a b=>match pI id a with|some c=>some c|none=>pI id b
 | .block _ c=>pI id c
 | .scope c=>pI id c
 | .cond _ a b=>match pI id a with|some c=>some c|none=>pI id b
 |_=>none
noncomputable def HN(i:Nat):Code:=(pI i (f100.body.getD .skip)).getD .skip
structure fW(w wr:aa)(b0 b1 b2:Nat)(st:WM.V8)(row:Array ab):Prop where
 aJ:BW w wr
 dQ:jE w
 l0:w.heap.size<=b0
 l2:w.heap.size<=b2
 e0:ah wr b0 172 (br (vl st))
 e1:ah wr b1 172 (br (vl ⟨0,0,0,0,0,0,0,0⟩))
 e2:ah wr b2 251 row
 n0:b0≠b2
 n1:b1≠b2
def fW.below{w wr d:aa}{c:WM.V8}{b:Array ab}(h:fW w wr g n k c b)(a:BW wr d):fW w d g n k c b:=
 ⟨h.aJ.trans (a.mono h.aJ.size),h.dQ,h.l0,h.l2,(a.block _ h.e0.lt).trans h.e0,(a.block _ h.e1.lt).trans h.e1,(a.block _ h.e2.lt).trans h.e2,h.n0,h.n1⟩
def fW.drewN{w wr:aa}{a b c:Nat}{e:WM.V8}{d:Array ab}(h:fW w wr a b c e d)(n:Nat):fW w (wr.drewN n) a b c e d:=h.below (gv (bp _ _) n)
def fW.put{w wr:aa}{a:WM.V8}(h:fW w wr g n i a (cV b k))(c:k<80)(v:Int)(d:v=((WM.fS b (WM.wl b k)).toNat:Int)):fW w (wr.setCell ⟨i,k,none⟩ (U v)) g n i a (cV b (k+1)):=by
 subst d;refine⟨h.aJ.setCell h.l2 _,h.dQ,h.l0,h.l2,h.e0.cE h.n0 _,h.e1.cE h.n1 _,?_,h.n0,h.n1⟩;rw[<-Ft b k c];exact h.e2.dx k _
def fW.wt{w wr:aa}{b:WM.V8}{a:Array ab}(h:fW w wr g n k b a):jE wr:=h.dQ.below h.aJ
structure dM(w wr:aa)(b0 b1 b2 b3:Nat)(st:WM.V8)(b:List UInt8)(rI:List UInt64):Prop where
 a:fW w wr b0 b1 b2 st (cV b 80)
 l3:w.heap.size<=b3
 e3:ah wr b3 172 (br rI)
 m0:b0≠b3
 m1:b1≠b3
 m2:b2≠b3
def dM.below{w wr j:aa}{a c d e:Nat}{g:WM.V8}{b:List UInt8}{i:List UInt64}(h:dM w wr a c d e g b i)(f:BW wr j):dM w j a c d e g b i:=⟨h.a.below f,h.l3,(f.block _ h.e3.lt).trans h.e3,h.m0,h.m1,h.m2⟩
def dM.drew{w wr:aa}{a c d e:Nat}{f:WM.V8}{b:List UInt8}{g:List UInt64}(h:dM w wr a c d e f b g):dM w wr.drew a c d e f b g:=h.below (gv (bp _ _) 1)
def dM.wk{w wr:aa}{c:WM.V8}{d:List UInt64}(h:dM w wr g n k i c b d)(a:Nat)(e:a<80):wr.cell? ⟨k,a,none⟩=some (U (((WM.wl b 80).getD a 0).toNat:Int)):=by
 rw[h.a.e2.cell,Fq];exact pF _ a (by rw[WM.cU];omega)
def dM.v{w wr:aa}{a:Nat}{d:WM.V8}{c:List UInt64}(h:dM w wr g n k a d b c)(i:Nat):wr.cell? ⟨a,i,none⟩=(br c)[i]?:=h.e3.cell i
def dM.put{w wr:aa}{c:WM.V8}{d:List UInt64}(h:dM w wr g n k i c b d)(a:List UInt64):dM w (wr.setRow i (br a)) g n k i c b a:=
 ⟨⟨bL h.a.aJ h.l3 _,h.a.dQ,h.a.l0,h.a.l2,h.a.e0.cH _ h.m0,h.a.e1.cH _ h.m1,h.a.e2.cH _ h.m2,h.a.n0,h.a.n1⟩,h.l3,h.e3.setRow _,h.m0,h.m1,h.m2⟩
def dM.set{w wr:aa}{d f g c:Nat}{i:WM.V8}{b:List UInt8}{a:List UInt64}(h:dM w wr d f g c i b a)(k:Nat)(x:UInt64):dM w (wr.setCell ⟨c,k,none⟩ (U (x.toNat:Int))) d f g c i b (a.set k x):=by
 refine⟨⟨h.a.aJ.setCell h.l3 _,h.a.dQ,h.a.l0,h.a.l2,h.a.e0.cE h.m0 _,h.a.e1.cE h.m1 _,h.a.e2.cE h.m2 _,h.a.n0,h.a.n1⟩,h.l3,?_,h.m0,h.m1,h.m2⟩;have e:(br a).setIfInBounds k (U (x.toNat:Int))=br (a.set k x):=by simp[br,lU,tu]
 rw[<-e];exact h.e3.dx k _
def P1(s:af)(k:Nat)(h:8*k+8<=s.size):(s.extract (8*k) (8*k+8)).size=8/\(s.extract (8*k) (8*k+8)).data.toList=(s.data.toList.drop (8*k)).take 8:=by
 simp_all
def Zb(a b c d:UInt64):IntKind.u64.wrap (IntKind.u64.wrap (IntKind.u64.wrap ((a.toNat:Int)+(b.toNat:Int))+(c.toNat:Int))+(d.toNat:Int))=((a+b+c+d).toNat:Int):=by
 rfl
def XF(a b c d e f g h:UInt64):br (vl ⟨a,b,c,d,e,f,g,h⟩)=#[U (a.toNat:Int),U (b.toNat:Int),U (c.toNat:Int),U (d.toNat:Int),U (e.toNat:Int),U (f.toNat:Int),U (g.toNat:Int),U (h.toNat:Int)]:=rfl
def OM(l:List UInt8)(h:l.length=8):WM.iu l<18446744073709551616:=by
 have:=WM.xD l 8 W;grind
end WD
namespace WD
set_option maxRecDepth 1000000 in
def QS{w o4:aa}{b1 b2:Nat}{a d:WM.V8}(k:Nat)(o1:k=0)(Q:Exit->Act->aa->Prop)(j f e4 f5 g6 i7 j8 k9 l A L a3 b6 c9 d1 d2 d3 d4 d5 d6 d7 d8 d9 e0 e1 e2 e3 e5 e6 e7 e8 e9 f0 f1 f2 f3 f4 f6 f7 f8 f9 g0 g1 g2 g3 g4 g5 g7 g8 g9 i0 i1 i2 i3 i4 i5 i6 i8 i9 j0 j1 j2 j3 j4 j5 j6 j7 j9 k0 k1 k2 k3 k4 k5 k6 k7 k8 l0 l1 l2 l3 l4 l5 l6 l7 l8 l9 n0 n1 n2 n3 n4 n5 n6 n7 n8 n9 m o p q r s t u v z B C D E F G H I J K M N P R S T X a0 a1 a2 a4 a5 a6 a7 a8 a9 b0 b3 b4 b5 b7 b8 b9 c0 c1 c2 c3 c4 c5 c6 c7 c8 d0 u15 u153 u154 u155 u156 u157 u158 u159 u160 u161 u162 u163:ab)(h:dM w o4 g b1 b2 n a b (vl d))
 (o0:∀(c:aa) (u15 u154 u155 u156 u157 u158 u159 u160 u161 u162 u163:ab),dM w c g b1 b2 n a b (acc (vl d) (vl a) 8)->Q (.exit 4) ⟨List.toArray (j::f::(pV g)::e4::f5::g6::i7::j8::k9::(pV n)::l::A::L::a3::b6::u15::c9::d1::d2::d3::d4::d5::d6::d7::d8::d9::e0::e1::e2::e3::e5::e6::e7::e8::e9::f0::f1::f2::f3::f4::f6::f7::f8::f9::g0::g1::g2::g3::g4::g5::g7::g8::g9::i0::i1::i2::i3::i4::i5::i6::i8::i9::j0::j1::j2::j3::j4::j5::j6::j7::j9::k0::k1::k2::k3::k4::k5::k6::k7::k8::l0::l1::l2::l3::l4::l5::l6::l7::l8::l9::n0::n1::n2::n3::n4::n5::n6::n7::n8::n9::m::o::p::q::r::s::t::u::v::z::B::C::D::E::F::G::H::I::J::K::M::N::P::R::S::T::X::a0::a1::a2::a4::a5::a6::a7::a8::a9::b0::b3::b4::b5::b7::b8::b9::c0::c1::c2::c3::c4::c5::c6::c7::c8::(O 8)::(aK false)::u154::u155::u156::u157::u158::u159::u160::u161::u162::u163::d0::[]),[]⟩ c):
 Code.wp prog (Code.loop (Cf 2)) Q ⟨List.toArray (j::f::(pV g)::e4::f5::g6::i7::j8::k9::(pV n)::l::A::L::a3::b6::u15::c9::d1::d2::d3::d4::d5::d6::d7::d8::d9::e0::e1::e2::e3::e5::e6::e7::e8::e9::f0::f1::f2::f3::f4::f6::f7::f8::f9::g0::g1::g2::g3::g4::g5::g7::g8::g9::i0::i1::i2::i3::i4::i5::i6::i8::i9::j0::j1::j2::j3::j4::j5::j6::j7::j9::k0::k1::k2::k3::k4::k5::k6::k7::k8::l0::l1::l2::l3::l4::l5::l6::l7::l8::l9::n0::n1::n2::n3::n4::n5::n6::n7::n8::n9::m::o::p::q::r::s::t::u::v::z::B::C::D::E::F::G::H::I::J::K::M::N::P::R::S::T::X::a0::a1::a2::a4::a5::a6::a7::a8::a9::b0::b3::b4::b5::b7::b8::b9::c0::c1::c2::c3::c4::c5::c6::c7::c8::(O (k:Int))::u153::u154::u155::u156::u157::u158::u159::u160::u161::u162::u163::d0::[]),[]⟩ o4:=by
 conv=>arg 2;arg 1;whnf
 have o5:=Z o0
 clear o0
 go_loopw [152] (λ i wr=>∃k:Nat,k<=8/\i=O k/\dM w wr g b1 b2 n a b (acc (vl d) (vl a) k)) (λ i _=>8-(intOf i).toNat)
 case atStart=>exact⟨k,by omega,rfl,by subst o1;exact h⟩
 case round=>
  clear h o1
  obtain⟨k,o7,rfl,c⟩:=hrel
  by_cases e:k<8
  ·have o2:=xy (vl d) (vl a) k rfl rfl o7
   have f:=(c.v k).trans (pF _ k (by rw[o2];exact e))
   rw[uJ _ _ k rfl rfl e] at f
   have o8:wr.cell? ⟨g,k,none⟩=some (U (((vl a).getD k 0).toNat:Int)):=(c.a.e0.cell k).trans (pF _ k (by rw[zJ];exact e))
   have o9:=c.e3.frozen k
   have o3:=uK (vl d) (vl a) k rfl rfl e
   generalize(vl d).getD k 0=x at*
   generalize(vl a).getD k 0=y at*
   have o6:=Z o3;have i:=Z c
   have p0:(0:Int)<=(k:Int):=by omega
   have p1:(k:Int)<8:=by omega
   clear o3 c o2
   go_wp2
   go_still_tail 8,V
   show wpList _ _ _ _ _ wr.drew
   go_wp2
   refine⟨⟨k+1,by omega,by go_num,by rw[<-o6.U];exact i.U.drew.set k (jV x y)⟩,by simp[intOf];omega⟩
  ·obtain rfl:k=8:=by omega
   have i:=Z c
   clear c e
   go_wp2
   exact o5.U _ _ _ _ _ _ _ _ _ _ _ _ i.U
end WD
namespace WD
set_option maxRecDepth 1000000 in
def QP{w k5:aa}{j:WM.V8}{s:af}(k3:s.size=128)(a:Nat)(l1:a=0)(Q:Exit->Act->aa->Prop)(E q f6 f7 j0 F S a8 b9 d0 p f8 g0 g1 g2 g3 g4 g5 g6 g7 g8 g9 i0 i1 i2 i3 i4 i5 i6 i7 i8 i9 j1 j2 j3 j4 j5 j6 j7 j8 j9 k0 G H I J K L M N P R T X a0 a1 a2 a3 a4 a5 a6 a7 a9 b0 b1 b2 b3 b4 b5 b6 b7 b8 c0 c1 c2 c3 c4 c5 c6 c7 c8 c9 d1 d2 d3 d4 d5 d6 d7 d8 d9 e0 e1 e2 e3 e4 e5 e6 e7 e8 e9 f0 f1 f2 f3 f4 f5 u6 u7 u8 u17 u18 u19 u20 u21 u22 u23 u24 u25 u26 u27 u28 u29 u30 u31 u32 u33 u34 u35 u36 u37 u38 u39 u40 u41 u42 u43 u44 u45 u46 u47 u48 u49 u50 u51 u52 u53 u54 u55 u56 u57 u58 u59 u60 u61 u62 u63 u64 u65 u66 u67 u68:ab)(h:fW w k5 g n k j (cV s.data.toList a))
 (k2:∀(b:aa) (u6 u7 u8 u18 u19 u20 u21 u22 u23 u24 u25 u26 u27 u28 u29 u30 u31 u32 u33 u34 u35 u36 u37 u38 u39 u40 u41 u42 u43 u44 u45 u46 u47 u48 u49 u50 u51 u52 u53 u54 u55 u56 u57 u58 u59 u60 u61 u62 u63 u64 u65 u66 u67 u68:ab),fW w b g n k j (cV s.data.toList 80)->Q (.exit 0) ⟨List.toArray (E::(ad s)::q::f6::f7::(pV k)::u6::u7::u8::j0::F::S::a8::b9::d0::p::(O 80)::(aK false)::u18::u19::u20::u21::u22::u23::u24::u25::u26::u27::u28::u29::u30::u31::u32::u33::u34::u35::u36::u37::u38::u39::u40::u41::u42::u43::u44::u45::u46::u47::u48::u49::u50::u51::u52::u53::u54::u55::u56::u57::u58::u59::u60::u61::u62::u63::u64::u65::u66::u67::u68::f8::g0::g1::g2::g3::g4::g5::g6::g7::g8::g9::i0::i1::i2::i3::i4::i5::i6::i7::i8::i9::j1::j2::j3::j4::j5::j6::j7::j8::j9::k0::G::H::I::J::K::L::M::N::P::R::T::X::a0::a1::a2::a3::a4::a5::a6::a7::a9::b0::b1::b2::b3::b4::b5::b6::b7::b8::c0::c1::c2::c3::c4::c5::c6::c7::c8::c9::d1::d2::d3::d4::d5::d6::d7::d8::d9::e0::e1::e2::e3::e4::e5::e6::e7::e8::e9::f0::f1::f2::f3::f4::f5::[]),[]⟩ b):
 Code.wp prog (Code.loop (Cf 0)) Q ⟨List.toArray (E::(ad s)::q::f6::f7::(pV k)::u6::u7::u8::j0::F::S::a8::b9::d0::p::(O (a:Int))::u17::u18::u19::u20::u21::u22::u23::u24::u25::u26::u27::u28::u29::u30::u31::u32::u33::u34::u35::u36::u37::u38::u39::u40::u41::u42::u43::u44::u45::u46::u47::u48::u49::u50::u51::u52::u53::u54::u55::u56::u57::u58::u59::u60::u61::u62::u63::u64::u65::u66::u67::u68::f8::g0::g1::g2::g3::g4::g5::g6::g7::g8::g9::i0::i1::i2::i3::i4::i5::i6::i7::i8::i9::j1::j2::j3::j4::j5::j6::j7::j8::j9::k0::G::H::I::J::K::L::M::N::P::R::T::X::a0::a1::a2::a3::a4::a5::a6::a7::a9::b0::b1::b2::b3::b4::b5::b6::b7::b8::c0::c1::c2::c3::c4::c5::c6::c7::c8::c9::d1::d2::d3::d4::d5::d6::d7::d8::d9::e0::e1::e2::e3::e4::e5::e6::e7::e8::e9::f0::f1::f2::f3::f4::f5::[]),[]⟩ k5:=by
 conv=>arg 2;arg 1;whnf
 have k9:=Z k2
 have k7:=Z k3
 clear k2 k3
 go_loopw [16] (λ i wr=>∃a:Nat,a<=80/\i=O a/\fW w wr g n k j (cV s.data.toList a)) (λ i _=>80-(intOf i).toNat)
 case atStart=>exact⟨a,by omega,rfl,h⟩
 case round=>
  clear h l1
  obtain⟨a,B,rfl,b⟩:=hrel
  have k4:=k7.U
  by_cases m:a<80
  ·have C:=vF s.data.toList a
   have r:=b.e2.frozen a
   have u:wr.cell? ⟨k,a,none⟩=some (U 0):=by rw[b.e2.cell];exact wJ _ a m
   have D:ai (∀o,fW w o g n k j (cV s.data.toList a)->∀v:Int,v=((WM.fS s.data.toList (WM.wl s.data.toList a)).toNat:Int)->fW w (o.setCell ⟨k,a,none⟩ (U v)) g n k j (cV s.data.toList (a+1))):=Z (λ o e v c=>e.put m v c)
   have n3:(0:Int)<=(a:Int):=by omega
   have n4:(a:Int)<80:=by omega
   by_cases h16:a<16
   ·obtain⟨e,l⟩:=P1 s a W
    have d:=C h16
    rw[<-l] at d
    obtain⟨t,x⟩:∃t,s.extract (8*a) (8*a+8)=t:=⟨_,rfl⟩
    rw[x] at e l d
    have z:=OM t.data.toList (by rw[iO];exact e)
    have A:ai ((WM.iu t.data.toList:Int)=((WM.fS s.data.toList (WM.wl s.data.toList a)).toNat:Int)):=Z (by rw[d,uF];omega)
    have y:=λ c=>ON t W c
    have k6:=Z y;have f:=Z b;have k8:=Z x
    have l4:IntKind.i64.wrap (8*(a:Int))=8*(a:Int):=aO _ W
    have l5:IntKind.i64.wrap (8*(a:Int)+8)=8*(a:Int)+8:=aO _ W
    have t0:(8*(a:Int)).toNat=8*a:=by omega
    have t1:(8*(a:Int)+8).toNat=8*a+8:=by omega
    have p0:(0:Int)<=8*(a:Int):=by omega
    have p1:8*(a:Int)+8<=(s.size:Int):=by omega
    have p2:8*(a:Int)<=8*(a:Int)+8:=by omega
    have l0:(a:Int)<16:=by omega
    clear d y b x e l z C r u k4 h16 m B
    go_wp2_with((go_at_call 182;rw[k8.U];refine(k6.U _).mono ?_;rintro e o ⟨rfl,k1⟩;have b:=f.U.below k1;have r:=b.e2.frozen a;have u:o.cell? ⟨k,a,none⟩=some (U 0):=(b.e2.cell a).trans (wJ _ a W);have B:=Z b;clear b k1))
    exact⟨⟨a+1,by omega,by go_num,D.U _ B.U _ A.U⟩,by simp[intOf];omega⟩
   ·have l:=λ i (h:i<a)=>(b.e2.cell i).trans (Fs s.data.toList a i h W)
    have p:=l (a-15) W
    have q:=l (a-2) W
    have i:=l (a-16) W
    have f9:=l (a-7) W
    have d:=vE s.data.toList a h16
    generalize(WM.wl s.data.toList a).getD (a-15) 0=x at*
    generalize(WM.wl s.data.toList a).getD (a-2) 0=y at*
    generalize(WM.wl s.data.toList a).getD (a-16) 0=v at*
    generalize(WM.wl s.data.toList a).getD (a-7) 0=z at*
    have A:=Z d;have f:=Z b
    have l6:IntKind.i64.wrap ((a:Int)-15)=(a:Int)-15:=aO _ W
    have l8:IntKind.i64.wrap ((a:Int)-2)=(a:Int)-2:=aO _ W
    have l7:IntKind.i64.wrap ((a:Int)-16)=(a:Int)-16:=aO _ W
    have l9:IntKind.i64.wrap ((a:Int)-7)=(a:Int)-7:=aO _ W
    have t15:((a:Int)-15).toNat=a-15:=by omega
    have t2:((a:Int)-2).toNat=a-2:=by omega
    have t16:((a:Int)-16).toNat=a-16:=by omega
    have t7:((a:Int)-7).toNat=a-7:=by omega
    have n1:(0:Int)<=(a:Int)-15:=by omega
    have p2:(0:Int)<=(a:Int)-2:=by omega
    have n2:(0:Int)<=(a:Int)-16:=by omega
    have vR:(a:Int)-15<80:=by omega
    have q2:(a:Int)-2<80:=by omega
    have vS:(a:Int)-16<80:=by omega
    have q7:(a:Int)-7<80:=by omega
    have m15:(15:Int)<=(a:Int):=by omega
    have m2:(2:Int)<=(a:Int):=by omega
    have m16:(16:Int)<=(a:Int):=by omega
    have m7:(7:Int)<=(a:Int):=by omega
    have l0:decide ((a:Int)<16)=false:=by simp;omega
    have U2:=iU;have l2:=L4;have l3:=L3
    clear d b l C k4 h16 m
    go_wp2
    go_quiet (fail)
    go_wp2
    obtain⟨c,d⟩:∃c,wr.drewN nq=c:=⟨_,rfl⟩
    rw[d]
    have B:ai (fW w c g n k j (cV s.data.toList a)):=Z (by rw[<-d];exact f.U.drewN nq)
    have l:c.cell? ⟨k,a-16,none⟩=some (U v.toNat):=by rw[<-d];exact i
    have C:c.cell? ⟨k,a-7,none⟩=some (U z.toNat):=by rw[<-d];exact f9
    have n0:c.cell? ⟨k,a,none⟩=some (U 0):=by rw[<-d];exact u
    have k4:c.frozen? ⟨k,a,none⟩=false:=by rw[<-d];exact r
    clear d f p q i f9 u r
    go_still_tail 29,V
    still_call (aaP x _)
    repeat still_step
    still_call (aa4 x _)
    repeat still_step
    still_call (E1 y _)
    repeat still_step
    still_call (aa2 y _)
    repeat still_step
    refine wI ?_
    show wpList _ _ _ _ _ c.drew
    go_wp2
    exact⟨⟨a+1,by omega,by go_num,D.U _ (B.U.drewN 1) _ (by rw[A.U];exact Zb v z _ _)⟩,by simp[intOf];omega⟩
  ·obtain rfl:a=80:=by omega
   have f:=Z b
   clear b m
   go_wp2
   exact k9.U _ _ _ _ _ _ _ _ _ _ _ _ _ _ _ _ _ _ _ _ _ _ _ _ _ _ _ _ _ _ _ _ _ _ _ _ _ _ _ _ _ _ _ _ _ _ _ _ _ _ _ _ _ _ _ f.U
end WD
namespace WD
set_option maxRecDepth 1000000 in
def QT{w c:aa}{b0 b1:Nat}{st:WM.V8}{l4 l5 l6 l7 a d e f l3 l9 X:UInt64}(k9:X=f+cp (cp (WM.aL 14 a) (WM.aL 18 a)) (WM.aL 41 a)+cp (dY a d) (dY (jW a) e)+l3+l9)(n2:k<80)(l1:c.cell? ⟨2,k,none⟩=some (U (l3.toNat:Int)))(l2:c.cell? ⟨g,k,none⟩=some (U (l9.toNat:Int)))(Q:Exit->Act->aa->Prop)(i j d6 e7 f8 i9 k0 k8 p a3 b6 c7 d3 d4 d5 d7 d8 d9 e0 e1 e2 e3 e4 e5 e6 e8 e9 f0 f1 f2 f3 f4 f5 f6 f7 f9 g0 g1 g2 g3 g4 g5 g6 g7 g8 g9 i0 i1 i2 i3 i4 i5 i6 i7 i8 j0 j1 j2 j3 j4 j5 j6 j7 j8 j9 k1 k2 k3 k4 k5 k6 k7 l m o q r s t u v x y z A B C D E F G H I J K L M N P R S T a0 a1 a2 a4 a5 a6 a7 a8 a9 b2 b3 b4 b5 b7 b8 b9 c0 c1 c2 c3 c4 c5 c6 c8 c9 d0 d1 d2 u13 u77 u78 u79 u80 u81 u82 u83 u84 u85 u86 u87 u88 u89 u90 u91 u92 u93 u94 u95 u96 u97 u98 u99 u100 u101 u102 u103 u104 u105 u106:ab)(h:dM w c b0 b1 g n st b (vl ⟨l4,l5,l6,l7,a,d,e,f⟩))
 (l0:∀(l8:aa) (u77 u78 u79 u80 u81 u82 u83 u84 u85 u86 u87 u88 u89 u90 u91 u92 u93 u94 u95 u96 u97 u98 u99 u100 u101 u102 u103 u104 u105 u106:ab),dM w l8 b0 b1 g n st b (vl ⟨l4,l5,l6,l7,a,d,e,f⟩)->Q .normal ⟨List.toArray (i::j::d6::e7::f8::(pV g)::i9::k0::k8::(pV n)::(O (k:Int))::p::(U (a.toNat:Int))::(U (X.toNat:Int))::a3::b6::c7::d3::d4::d5::d7::d8::d9::e0::e1::e2::e3::e4::e5::e6::e8::e9::f0::f1::f2::f3::f4::f5::f6::f7::f9::g0::g1::g2::g3::g4::g5::g6::g7::g8::g9::i0::i1::i2::i3::i4::i5::i6::i7::i8::j0::j1::j2::j3::j4::j5::j6::j7::j8::j9::k1::k2::k3::k4::k5::k6::k7::u77::u78::u79::u80::u81::u82::u83::u84::u85::u86::u87::u88::u89::u90::u91::u92::u93::u94::u95::u96::u97::u98::u99::u100::u101::u102::u103::u104::u105::u106::l::m::o::q::r::s::t::u::v::x::y::z::A::B::C::D::E::F::G::H::I::J::K::L::M::N::P::R::S::T::a0::a1::a2::a4::a5::a6::a7::a8::a9::b2::b3::b4::b5::b7::b8::b9::c0::c1::c2::c3::c4::c5::c6::c8::c9::d0::d1::d2::[]),[]⟩ l8):
 Code.wp prog (HN 15) Q ⟨List.toArray (i::j::d6::e7::f8::(pV g)::i9::k0::k8::(pV n)::(O (k:Int))::p::(U (a.toNat:Int))::u13::a3::b6::c7::d3::d4::d5::d7::d8::d9::e0::e1::e2::e3::e4::e5::e6::e8::e9::f0::f1::f2::f3::f4::f5::f6::f7::f9::g0::g1::g2::g3::g4::g5::g6::g7::g8::g9::i0::i1::i2::i3::i4::i5::i6::i7::i8::j0::j1::j2::j3::j4::j5::j6::j7::j8::j9::k1::k2::k3::k4::k5::k6::k7::u77::u78::u79::u80::u81::u82::u83::u84::u85::u86::u87::u88::u89::u90::u91::u92::u93::u94::u95::u96::u97::u98::u99::u100::u101::u102::u103::u104::u105::u106::l::m::o::q::r::s::t::u::v::x::y::z::A::B::C::D::E::F::G::H::I::J::K::L::M::N::P::R::S::T::a0::a1::a2::a4::a5::a6::a7::a8::a9::b2::b3::b4::b5::b7::b8::b9::c0::c1::c2::c3::c4::c5::c6::c8::c9::d0::d1::d2::[]),[]⟩ c:=by
 conv=>arg 2;whnf
 have n1:=Z l0
 have n7:=l1
 have n8:=l2
 have n5:c.cell? ⟨n,5,none⟩=some (U (d.toNat:Int)):=h.v 5
 have n6:c.cell? ⟨n,6,none⟩=some (U (e.toNat:Int)):=h.v 6
 have ch:c.cell? ⟨n,7,none⟩=some (U (f.toNat:Int)):=h.v 7
 have n3:=iU;have U2:=oX;have n4:=BS
 have n9:(0:Int)<=(k:Int):=by omega
 have o0:(k:Int)<80:=by omega
 have n0:=Z h;have l8:=Z k9
 clear l0 h k9 l1 l2 n2
 refine Fp V V ?_
 repeat still_step
 still_call (aaS a _)
 repeat still_step
 still_call (E0 a _)
 repeat still_step
 still_call (aa0 a _)
 repeat still_step
 refine wI ?_
 (rw[zn])
 go_wp2
 rw[<-l8.U]
 exact n1.U _ _ _ _ _ _ _ _ _ _ _ _ _ _ _ _ _ _ _ _ _ _ _ _ _ _ _ _ _ _ _ n0.U.drew
set_option maxRecDepth 1000000 in
def QU{w e:aa}{b0 b1 b2:Nat}{st:WM.V8}{a c d l6 l7 l8 l9 n0 yzqv:UInt64}(l4:yzqv=cp (cp (WM.aL 28 a) (WM.aL 34 a)) (WM.aL 39 a)+cp (cp (dY a c) (dY a d)) (dY c d))(Q:Exit->Act->aa->Prop)(f i b7 c8 d9 f0 g1 i2 j3 j r s N a5 b4 b5 b6 b8 b9 c0 c1 c2 c3 c4 c5 c6 c7 c9 d0 d1 d2 d3 d4 d5 d6 d7 d8 e0 e1 e2 e3 e4 e5 e6 e7 e8 e9 f1 f2 f3 f4 f5 f6 f7 f8 f9 g0 g2 g3 g4 g5 g6 g7 g8 g9 i0 i1 i3 i4 i5 i6 i7 i8 i9 j0 j1 j2 j4 j5 j6 j7 j8 j9 k0 k1 k2 k3 k4 k5 k6 k7 k8 k9 l0 l1 l2 l3 k l m n o p q t u v x y z A B C D E F G H I J K L M P R S T X a0 a1 a2 a3 a4 a6 a7 a8 a9 b3 u14 u107 u108 u109 u110 u111 u112 u113 u114 u115 u116 u117 u118 u119 u120 u121 u122 u123 u124 u125 u126 u127 u128 u129 u130:ab)(h:dM w e b0 b1 b2 g st b (vl ⟨a,c,d,l6,l7,l8,l9,n0⟩))
 (l5:∀(n1:aa) (u107 u108 u109 u110 u111 u112 u113 u114 u115 u116 u117 u118 u119 u120 u121 u122 u123 u124 u125 u126 u127 u128 u129 u130:ab),dM w n1 b0 b1 b2 g st b (vl ⟨a,c,d,l6,l7,l8,l9,n0⟩)->Q .normal ⟨List.toArray (f::i::b7::c8::d9::f0::g1::i2::j3::(pV g)::j::(U (a.toNat:Int))::r::s::(U (yzqv.toNat:Int))::N::a5::b4::b5::b6::b8::b9::c0::c1::c2::c3::c4::c5::c6::c7::c9::d0::d1::d2::d3::d4::d5::d6::d7::d8::e0::e1::e2::e3::e4::e5::e6::e7::e8::e9::f1::f2::f3::f4::f5::f6::f7::f8::f9::g0::g2::g3::g4::g5::g6::g7::g8::g9::i0::i1::i3::i4::i5::i6::i7::i8::i9::j0::j1::j2::j4::j5::j6::j7::j8::j9::k0::k1::k2::k3::k4::k5::k6::k7::k8::k9::l0::l1::l2::l3::k::l::m::n::o::p::q::u107::u108::u109::u110::u111::u112::u113::u114::u115::u116::u117::u118::u119::u120::u121::u122::u123::u124::u125::u126::u127::u128::u129::u130::t::u::v::x::y::z::A::B::C::D::E::F::G::H::I::J::K::L::M::P::R::S::T::X::a0::a1::a2::a3::a4::a6::a7::a8::a9::b3::[]),[]⟩ n1):
 Code.wp prog (HN 16) Q ⟨List.toArray (f::i::b7::c8::d9::f0::g1::i2::j3::(pV g)::j::(U (a.toNat:Int))::r::s::u14::N::a5::b4::b5::b6::b8::b9::c0::c1::c2::c3::c4::c5::c6::c7::c9::d0::d1::d2::d3::d4::d5::d6::d7::d8::e0::e1::e2::e3::e4::e5::e6::e7::e8::e9::f1::f2::f3::f4::f5::f6::f7::f8::f9::g0::g2::g3::g4::g5::g6::g7::g8::g9::i0::i1::i3::i4::i5::i6::i7::i8::i9::j0::j1::j2::j4::j5::j6::j7::j8::j9::k0::k1::k2::k3::k4::k5::k6::k7::k8::k9::l0::l1::l2::l3::k::l::m::n::o::p::q::u107::u108::u109::u110::u111::u112::u113::u114::u115::u116::u117::u118::u119::u120::u121::u122::u123::u124::u125::u126::u127::u128::u129::u130::t::u::v::x::y::z::A::B::C::D::E::F::G::H::I::J::K::L::M::P::R::S::T::X::a0::a1::a2::a3::a4::a6::a7::a8::a9::b3::[]),[]⟩ e:=by
 conv=>arg 2;whnf
 have n3:=Z l5
 have n5:e.cell? ⟨g,1,none⟩=some (U (c.toNat:Int)):=h.v 1
 have n6:e.cell? ⟨g,2,none⟩=some (U (d.toNat:Int)):=h.v 2
 have n4:=iU;have U2:=oX
 have n2:=Z h;have n1:=Z l4
 clear l5 h l4
 refine Fp V V ?_
 repeat still_step
 still_call (aaX a _)
 repeat still_step
 still_call (aaY a _)
 repeat still_step
 still_call (aaZ a _)
 repeat still_step
 refine wI ?_
 (rw[tA])
 go_wp2
 rw[<-n1.U]
 exact n3.U _ _ _ _ _ _ _ _ _ _ _ _ _ _ _ _ _ _ _ _ _ _ _ _ _ n2.U.drew
end WD
namespace WD
set_option maxRecDepth 1000000 in
def QQ{w g5:aa}{b0 b1:Nat}{a:WM.V8}(k:Nat)(g3:k=0)(Q:Exit->Act->aa->Prop)(A B a2 b5 c6 e7 f8 f9 C L T a0 a1 a3 a4 a5 a6 a7 a8 a9 b2 b3 b4 b6 b7 b8 b9 c0 c1 c2 c3 c4 c5 c7 c8 c9 d0 d1 d2 d3 d4 d5 d6 d7 d8 d9 e0 e1 e2 e3 e4 e5 e6 e8 e9 f0 f1 f2 f3 f4 f5 f6 f7 D E F G H I J K M N P R S u10 u11 u12 u13 u14 u71 u72 u73 u74 u75 u76 u77 u78 u79 u80 u81 u82 u83 u84 u85 u86 u87 u88 u89 u90 u91 u92 u93 u94 u95 u96 u97 u98 u99 u100 u101 u102 u103 u104 u105 u106 u107 u108 u109 u110 u111 u112 u113 u114 u115 u116 u117 u118 u119 u120 u121 u122 u123 u124 u125 u126 u127 u128 u129 u130 u131 u132 u133 u134 u135 u136 u137 u138 u139 u140 u141 u142 u143 u144 u145 u146 u147 u148 u149 u150 u151:ab)(h:dM w g5 b0 b1 g n a b (vl a))
 (g2:∀(c:aa) (u10 u11 u12 u13 u14 u72 u73 u74 u75 u76 u77 u78 u79 u80 u81 u82 u83 u84 u85 u86 u87 u88 u89 u90 u91 u92 u93 u94 u95 u96 u97 u98 u99 u100 u101 u102 u103 u104 u105 u106 u107 u108 u109 u110 u111 u112 u113 u114 u115 u116 u117 u118 u119 u120 u121 u122 u123 u124 u125 u126 u127 u128 u129 u130 u131 u132 u133 u134 u135 u136 u137 u138 u139 u140 u141 u142 u143 u144 u145 u146 u147 u148 u149 u150 u151:ab),dM w c b0 b1 g n a b (vl (WM.rounds (WM.wl b 80) a 80))->Q (.exit 2) ⟨List.toArray (A::B::a2::b5::c6::(pV g)::e7::f8::f9::(pV n)::u10::u11::u12::u13::u14::C::L::T::a0::a1::a3::a4::a5::a6::a7::a8::a9::b2::b3::b4::b6::b7::b8::b9::c0::c1::c2::c3::c4::c5::c7::c8::c9::d0::d1::d2::d3::d4::d5::d6::d7::d8::d9::e0::e1::e2::e3::e4::e5::e6::e8::e9::f0::f1::f2::f3::f4::f5::f6::f7::(O 80)::(aK false)::u72::u73::u74::u75::u76::u77::u78::u79::u80::u81::u82::u83::u84::u85::u86::u87::u88::u89::u90::u91::u92::u93::u94::u95::u96::u97::u98::u99::u100::u101::u102::u103::u104::u105::u106::u107::u108::u109::u110::u111::u112::u113::u114::u115::u116::u117::u118::u119::u120::u121::u122::u123::u124::u125::u126::u127::u128::u129::u130::u131::u132::u133::u134::u135::u136::u137::u138::u139::u140::u141::u142::u143::u144::u145::u146::u147::u148::u149::u150::u151::D::E::F::G::H::I::J::K::M::N::P::R::S::[]),[]⟩ c):
 Code.wp prog (Code.loop (Cf 1)) Q ⟨List.toArray (A::B::a2::b5::c6::(pV g)::e7::f8::f9::(pV n)::u10::u11::u12::u13::u14::C::L::T::a0::a1::a3::a4::a5::a6::a7::a8::a9::b2::b3::b4::b6::b7::b8::b9::c0::c1::c2::c3::c4::c5::c7::c8::c9::d0::d1::d2::d3::d4::d5::d6::d7::d8::d9::e0::e1::e2::e3::e4::e5::e6::e8::e9::f0::f1::f2::f3::f4::f5::f6::f7::(O (k:Int))::u71::u72::u73::u74::u75::u76::u77::u78::u79::u80::u81::u82::u83::u84::u85::u86::u87::u88::u89::u90::u91::u92::u93::u94::u95::u96::u97::u98::u99::u100::u101::u102::u103::u104::u105::u106::u107::u108::u109::u110::u111::u112::u113::u114::u115::u116::u117::u118::u119::u120::u121::u122::u123::u124::u125::u126::u127::u128::u129::u130::u131::u132::u133::u134::u135::u136::u137::u138::u139::u140::u141::u142::u143::u144::u145::u146::u147::u148::u149::u150::u151::D::E::F::G::H::I::J::K::M::N::P::R::S::[]),[]⟩ g5:=by
 conv=>arg 2;arg 1;whnf
 have z:=Z g2
 clear g2
 go_loopg [70] 80 (λ q i wr=>∃k:Nat,k+q=80/\i=O k/\dM w wr b0 b1 g n a b (vl (WM.rounds (WM.wl b 80) a k)))
 case atStart=>exact⟨k,by omega,rfl,by subst g3;exact h⟩
 case round=>
  clear h g3
  obtain⟨k,i3,rfl,c⟩:=hrel
  by_cases t:k<80
  ·have p:ai (WM.rounds (WM.wl b 80) a (k+1)=WM.iJ (WM.rounds (WM.wl b 80) a k) (WM.K.getD k 0) ((WM.wl b 80).getD k 0)):=Z rfl
   have u:=λ d (h:dM w d b0 b1 g n a b (vl (WM.rounds (WM.wl b 80) a k)))=>h.a.wt.key k t
   have x:=λ d (h:dM w d b0 b1 g n a b (vl (WM.rounds (WM.wl b 80) a k)))=>h.wk k t
   generalize WM.K.getD k 0=q at*
   generalize(WM.wl b 80).getD k 0=r at*
   generalize WM.rounds (WM.wl b 80) a k=v at*
   obtain⟨d,f,i,m,e,j,l,o⟩:=v
   have g6:=Z u;have g8:=Z x;have s:=Z c
   have g0:wr.cell? ⟨n,0,none⟩=some (U (d.toNat:Int)):=c.v 0
   have g1:wr.cell? ⟨n,4,none⟩=some (U (e.toNat:Int)):=c.v 4
   clear u x c
   have o8:(k:Int)<80:=by omega
   have x:ai (WM.rx ⟨d,f,i,m,e,j,l,o⟩ q r=o+cp (cp (WM.aL 14 e) (WM.aL 18 e)) (WM.aL 41 e)+cp (dY e j) (dY (jW e) l)+q+r):=Z rfl
   have y:ai (WM.ry ⟨d,f,i,m,e,j,l,o⟩=cp (cp (WM.aL 28 d) (WM.aL 34 d)) (WM.aL 39 d)+cp (cp (dY d f) (dY d i)) (dY f i)):=Z rfl
   have g7:ai (WM.rounds (WM.wl b 80) a (k+1)=⟨jV (WM.rx ⟨d,f,i,m,e,j,l,o⟩ q r) (WM.ry ⟨d,f,i,m,e,j,l,o⟩),d,f,i,jV m (WM.rx ⟨d,f,i,m,e,j,l,o⟩ q r),e,j,l⟩):=Z (by rw[p.U];rfl)
   generalize WM.rx ⟨d,f,i,m,e,j,l,o⟩ q r=X at*
   generalize WM.ry ⟨d,f,i,m,e,j,l,o⟩=u at*
   clear p z
   go_wp2
   go_still V
   go_upto_region 15 with fail
   change Code.wp _ _ _ _ wr.drew
   have p:=Z s.U.drew
   clear g0 g1 s
   generalize wr.drew=o9 at*
   refine QT (X:=X) (b0:=b0) (b1:=b1) (st:=a) (b:=b) x.U t (g6.U _ p.U) (g8.U _ p.U) _ _ _ _ _ _ _ _ _ _ _ _ _ _ _ _ _ _ _ _ _ _ _ _ _ _ _ _ _ _ _ _ _ _ _ _ _ _ _ _ _ _ _ _ _ _ _ _ _ _ _ _ _ _ _ _ _ _ _ _ _ _ _ _ _ _ _ _ _ _ _ _ _ _ _ _ _ _ _ _ _ _ _ _ _ _ _ _ _ _ _ _ _ _ _ _ _ _ _ _ _ _ _ _ _ _ _ _ _ _ _ _ _ _ _ _ _ _ _ _ _ _ _ _ _ _ _ _ _ _ _ _ _ _ _ _ _ _ _ _ _ _ _ _ _ _ _ _ _ _ _ _ _ _ _ _ _ _ _ _ _ _ p.U ?_
   intro pw j1 j2 j3 j4 j5 j6 j7 j8 j9 k0 k1 k2 k3 k4 k5 k6 k7 k8 k9 l0 l1 l2 l3 i4 i5 i6 i7 i8 i9 j0 g4
   clear x p
   have x:=Z g4
   clear g4
   go_upto_region 16 with fail
   refine QU (yzqv:=u) (b0:=b0) (b1:=b1) (b2:=g) (st:=a) (b:=b) y.U _ _ _ _ _ _ _ _ _ _ _ _ _ _ _ _ _ _ _ _ _ _ _ _ _ _ _ _ _ _ _ _ _ _ _ _ _ _ _ _ _ _ _ _ _ _ _ _ _ _ _ _ _ _ _ _ _ _ _ _ _ _ _ _ _ _ _ _ _ _ _ _ _ _ _ _ _ _ _ _ _ _ _ _ _ _ _ _ _ _ _ _ _ _ _ _ _ _ _ _ _ _ _ _ _ _ _ _ _ _ _ _ _ _ _ _ _ _ _ _ _ _ _ _ _ _ _ _ _ _ _ _ _ _ _ _ _ _ _ _ _ _ _ _ _ _ _ _ _ _ _ _ _ _ _ _ _ _ _ _ _ _ _ _ x.U ?_
   intro p l4 l5 l6 l7 l8 l9 n0 n1 n2 n3 n4 n5 n6 n7 n8 n9 o0 o1 o2 o3 o4 o5 o6 o7 g4
   clear y x
   have c:=g4
   clear g4
   have g0:p.cell? ⟨n,0,none⟩=some (U (d.toNat:Int)):=c.v 0
   have g4:p.cell? ⟨n,1,none⟩=some (U (f.toNat:Int)):=c.v 1
   have g9:p.cell? ⟨n,2,none⟩=some (U (i.toNat:Int)):=c.v 2
   have i0:p.cell? ⟨n,3,none⟩=some (U (m.toNat:Int)):=c.v 3
   have g1:p.cell? ⟨n,4,none⟩=some (U (e.toNat:Int)):=c.v 4
   have i1:p.cell? ⟨n,5,none⟩=some (U (j.toNat:Int)):=c.v 5
   have i2:p.cell? ⟨n,6,none⟩=some (U (l.toNat:Int)):=c.v 6
   have y:=c.e3
   have x:=Z c
   clear c
   go_wp2_with(refine cm rfl 172 (Operand.tmp 9) (Operand.tmp 150) rfl n (br (vl ⟨jV X u,d,f,i,jV m X,e,j,l⟩)) zR (by rw[XF];simp[Act.eval];exact⟨og _ _,og _ _⟩) 172 _ y (CN _) (vr _ _) (wF _) ?_)
   go_roundg (gk-1)
   case rel=>exact⟨k+1,by omega,by go_num,by rw[g7.U];exact x.U.put _⟩
   case measure=>omega
  ·obtain rfl:k=80:=by omega
   have s:=Z c
   clear c t
   go_wp2
   exact z.U _ _ _ _ _ _ _ _ _ _ _ _ _ _ _ _ _ _ _ _ _ _ _ _ _ _ _ _ _ _ _ _ _ _ _ _ _ _ _ _ _ _ _ _ _ _ _ _ _ _ _ _ _ _ _ _ _ _ _ _ _ _ _ _ _ _ _ _ _ _ _ _ _ _ _ _ _ _ _ _ _ _ _ _ _ _ s.U
end WD
