import Derived.Test.YtncpbkoinennoaaGreatDoorMAP
set_option linter.all false
set_option maxRecDepth 100000
set_option maxHeartbeats 0
namespace Go.Proofs.YtncpbkoinennoaaGreatDoor
open Go.RowKit Proofs.Tryz
attribute [local irreducible] wpList Calls
def tx(n:Nat)(f:n<=32)(x:UInt32):(ShaM.aL n x).toNat=x.toNat/2^n+x.toNat%2^n*2^(32-n):=by
 have hx:=x.toNat_lt;have a:2^n*2^(32-n)=4294967296:=by rw[<-eI,show n+(32-n)=32 by omega]
 have b:0<2^n:=by grind
 have e:x.toNat/2^n<2^(32-n):=by rw[AQ b,fg,a];exact hx
 have c:x.toNat%2^n+1<=2^n:=by omega
 have d:=lZ (2^(32-n)) c;rw[a,oF,sa] at d;unfold ShaM.aL;rw[si,bY W]
def fq(n a b:Nat)(j:n<=32)(h:2^n=a)(i:2^(32-n)=b)(x:UInt32):bits .or .u32 ((x.toNat:Int)*(b:Int)%4294967296) ((x.toNat:Int)/(a:Int))=((ShaM.aL n x).toNat:Int):=by
 subst h i;have c:2^n*2^(32-n)=4294967296:=by rw[<-eI,show n+(32-n)=32 by omega]
 have hx:=x.toNat_lt;have d:0<2^n:=by grind
 have e:x.toNat/2^n<2^(32-n):=by rw[AQ d,fg,c];exact hx
 have e1:(x.toNat:Int)*((2^(32-n):Nat):Int)%4294967296=((x.toNat%2^n*2^(32-n):Nat):Int):=by
  rw[<-Nat.mul_mod_mul_right,c];omega
 have f:x.toNat%2^n+1<=2^n:=by omega
 have g:=lZ (2^(32-n)) f;rw[c,oF,sa] at g;rw[e1,show(x.toNat:Int)/((2^n:Nat):Int)=((x.toNat/2^n:Nat):Int) by omega,E4 _ _ W W,pt (32-n) _ _ (Nat.mul_mod_left _ _) e,tx n j x,qk]
def aba(x:UInt32)(w:aa):
 Calls prog 323 #[.int .u32 (x.toNat:Int),O 2] w λ e a=>e=ao (.int .u32 ((ShaM.aL 2 x).toNat:Int))/\w=a:=by
 have b:bits .or .u32 ((x.toNat:Int)*1073741824%4294967296) ((x.toNat:Int)/4)=((ShaM.aL 2 x).toNat:Int):=fq 2 4 1073741824 zD zD zD x
 have d:bits BinOp.and IntKind.u64 (IntKind.u64.wrap (-2)) 31=30:=by decide
 have c:=Z b
 clear b
 go_enter nn,nt
 go_wp2_with fail
 refine fV (R:=λ e a=>e=ao (.int .u32 ((ShaM.aL 2 x).toNat:Int))/\w=a) ?_ ?_
 ·go_enter np,nu
  go_wp2
  go_ret
  exact⟨by rw[<-c.U];rfl,rfl⟩
 ·rintro e a ⟨rfl,rfl⟩
  go_wp2
  go_ret
  simp
def abh(x:UInt32)(w:aa):
 Calls prog 323 #[.int .u32 (x.toNat:Int),O 6] w λ e a=>e=ao (.int .u32 ((ShaM.aL 6 x).toNat:Int))/\w=a:=by
 have b:bits .or .u32 ((x.toNat:Int)*67108864%4294967296) ((x.toNat:Int)/64)=((ShaM.aL 6 x).toNat:Int):=fq 6 64 67108864 zD zD zD x
 have d:bits BinOp.and IntKind.u64 (IntKind.u64.wrap (-6)) 31=26:=by decide
 have c:=Z b
 clear b
 go_enter nn,nt
 go_wp2_with fail
 refine fV (R:=λ e a=>e=ao (.int .u32 ((ShaM.aL 6 x).toNat:Int))/\w=a) ?_ ?_
 ·go_enter np,nu
  go_wp2
  go_ret
  exact⟨by rw[<-c.U];rfl,rfl⟩
 ·rintro e a ⟨rfl,rfl⟩
  go_wp2
  go_ret
  simp
def abj(x:UInt32)(w:aa):
 Calls prog 323 #[.int .u32 (x.toNat:Int),O 7] w λ e a=>e=ao (.int .u32 ((ShaM.aL 7 x).toNat:Int))/\w=a:=by
 have b:bits .or .u32 ((x.toNat:Int)*33554432%4294967296) ((x.toNat:Int)/128)=((ShaM.aL 7 x).toNat:Int):=fq 7 128 33554432 zD zD zD x
 have d:bits BinOp.and IntKind.u64 (IntKind.u64.wrap (-7)) 31=25:=by decide
 have c:=Z b
 clear b
 go_enter nn,nt
 go_wp2_with fail
 refine fV (R:=λ e a=>e=ao (.int .u32 ((ShaM.aL 7 x).toNat:Int))/\w=a) ?_ ?_
 ·go_enter np,nu
  go_wp2
  go_ret
  exact⟨by rw[<-c.U];rfl,rfl⟩
 ·rintro e a ⟨rfl,rfl⟩
  go_wp2
  go_ret
  simp
def aa6(x:UInt32)(w:aa):
 Calls prog 323 #[.int .u32 (x.toNat:Int),O 11] w λ e a=>e=ao (.int .u32 ((ShaM.aL 11 x).toNat:Int))/\w=a:=by
 have b:bits .or .u32 ((x.toNat:Int)*2097152%4294967296) ((x.toNat:Int)/2048)=((ShaM.aL 11 x).toNat:Int):=fq 11 2048 2097152 zD zD zD x
 have d:bits BinOp.and IntKind.u64 (IntKind.u64.wrap (-11)) 31=21:=by decide
 have c:=Z b
 clear b
 go_enter nn,nt
 go_wp2_with fail
 refine fV (R:=λ e a=>e=ao (.int .u32 ((ShaM.aL 11 x).toNat:Int))/\w=a) ?_ ?_
 ·go_enter np,nu
  go_wp2
  go_ret
  exact⟨by rw[<-c.U];rfl,rfl⟩
 ·rintro e a ⟨rfl,rfl⟩
  go_wp2
  go_ret
  simp
def aa7(x:UInt32)(w:aa):
 Calls prog 323 #[.int .u32 (x.toNat:Int),O 13] w λ e a=>e=ao (.int .u32 ((ShaM.aL 13 x).toNat:Int))/\w=a:=by
 have b:bits .or .u32 ((x.toNat:Int)*524288%4294967296) ((x.toNat:Int)/8192)=((ShaM.aL 13 x).toNat:Int):=fq 13 8192 524288 zD zD zD x
 have d:bits BinOp.and IntKind.u64 (IntKind.u64.wrap (-13)) 31=19:=by decide
 have c:=Z b
 clear b
 go_enter nn,nt
 go_wp2_with fail
 refine fV (R:=λ e a=>e=ao (.int .u32 ((ShaM.aL 13 x).toNat:Int))/\w=a) ?_ ?_
 ·go_enter np,nu
  go_wp2
  go_ret
  exact⟨by rw[<-c.U];rfl,rfl⟩
 ·rintro e a ⟨rfl,rfl⟩
  go_wp2
  go_ret
  simp
def aa9(x:UInt32)(w:aa):
 Calls prog 323 #[.int .u32 (x.toNat:Int),O 17] w λ e a=>e=ao (.int .u32 ((ShaM.aL 17 x).toNat:Int))/\w=a:=by
 have b:bits .or .u32 ((x.toNat:Int)*32768%4294967296) ((x.toNat:Int)/131072)=((ShaM.aL 17 x).toNat:Int):=fq 17 131072 32768 zD zD zD x
 have d:bits BinOp.and IntKind.u64 (IntKind.u64.wrap (-17)) 31=15:=by decide
 have c:=Z b
 clear b
 go_enter nn,nt
 go_wp2_with fail
 refine fV (R:=λ e a=>e=ao (.int .u32 ((ShaM.aL 17 x).toNat:Int))/\w=a) ?_ ?_
 ·go_enter np,nu
  go_wp2
  go_ret
  exact⟨by rw[<-c.U];rfl,rfl⟩
 ·rintro e a ⟨rfl,rfl⟩
  go_wp2
  go_ret
  simp
def E2(x:UInt32)(w:aa):
 Calls prog 323 #[.int .u32 (x.toNat:Int),O 18] w λ e a=>e=ao (.int .u32 ((ShaM.aL 18 x).toNat:Int))/\w=a:=by
 have b:bits .or .u32 ((x.toNat:Int)*16384%4294967296) ((x.toNat:Int)/262144)=((ShaM.aL 18 x).toNat:Int):=fq 18 262144 16384 zD zD zD x
 have d:bits BinOp.and IntKind.u64 (IntKind.u64.wrap (-18)) 31=14:=by decide
 have c:=Z b
 clear b
 go_enter nn,nt
 go_wp2_with fail
 refine fV (R:=λ e a=>e=ao (.int .u32 ((ShaM.aL 18 x).toNat:Int))/\w=a) ?_ ?_
 ·go_enter np,nu
  go_wp2
  go_ret
  exact⟨by rw[<-c.U];rfl,rfl⟩
 ·rintro e a ⟨rfl,rfl⟩
  go_wp2
  go_ret
  simp
def E3(x:UInt32)(w:aa):
 Calls prog 323 #[.int .u32 (x.toNat:Int),O 19] w λ e a=>e=ao (.int .u32 ((ShaM.aL 19 x).toNat:Int))/\w=a:=by
 have b:bits .or .u32 ((x.toNat:Int)*8192%4294967296) ((x.toNat:Int)/524288)=((ShaM.aL 19 x).toNat:Int):=fq 19 524288 8192 zD zD zD x
 have d:bits BinOp.and IntKind.u64 (IntKind.u64.wrap (-19)) 31=13:=by decide
 have c:=Z b
 clear b
 go_enter nn,nt
 go_wp2_with fail
 refine fV (R:=λ e a=>e=ao (.int .u32 ((ShaM.aL 19 x).toNat:Int))/\w=a) ?_ ?_
 ·go_enter np,nu
  go_wp2
  go_ret
  exact⟨by rw[<-c.U];rfl,rfl⟩
 ·rintro e a ⟨rfl,rfl⟩
  go_wp2
  go_ret
  simp
def abb(x:UInt32)(w:aa):
 Calls prog 323 #[.int .u32 (x.toNat:Int),O 22] w λ e a=>e=ao (.int .u32 ((ShaM.aL 22 x).toNat:Int))/\w=a:=by
 have b:bits .or .u32 ((x.toNat:Int)*1024%4294967296) ((x.toNat:Int)/4194304)=((ShaM.aL 22 x).toNat:Int):=fq 22 4194304 1024 zD zD zD x
 have d:bits BinOp.and IntKind.u64 (IntKind.u64.wrap (-22)) 31=10:=by decide
 have c:=Z b
 clear b
 go_enter nn,nt
 go_wp2_with fail
 refine fV (R:=λ e a=>e=ao (.int .u32 ((ShaM.aL 22 x).toNat:Int))/\w=a) ?_ ?_
 ·go_enter np,nu
  go_wp2
  go_ret
  exact⟨by rw[<-c.U];rfl,rfl⟩
 ·rintro e a ⟨rfl,rfl⟩
  go_wp2
  go_ret
  simp
def abc(x:UInt32)(w:aa):
 Calls prog 323 #[.int .u32 (x.toNat:Int),O 25] w λ e a=>e=ao (.int .u32 ((ShaM.aL 25 x).toNat:Int))/\w=a:=by
 have b:bits .or .u32 ((x.toNat:Int)*128%4294967296) ((x.toNat:Int)/33554432)=((ShaM.aL 25 x).toNat:Int):=fq 25 33554432 128 zD zD zD x
 have d:bits BinOp.and IntKind.u64 (IntKind.u64.wrap (-25)) 31=7:=by decide
 have c:=Z b
 clear b
 go_enter nn,nt
 go_wp2_with fail
 refine fV (R:=λ e a=>e=ao (.int .u32 ((ShaM.aL 25 x).toNat:Int))/\w=a) ?_ ?_
 ·go_enter np,nu
  go_wp2
  go_ret
  exact⟨by rw[<-c.U];rfl,rfl⟩
 ·rintro e a ⟨rfl,rfl⟩
  go_wp2
  go_ret
  simp
def aaU(x:UInt32)(w:aa):Calls prog 323 #[.int .u32 (x.toNat:Int),O 2] w λ e c=>e=ao (.int .u32 ((ShaM.aL 2 x).toNat:Int))/\c=w:=(aba x w).mono λ _ _ ⟨a,b⟩=>⟨a,b.symm⟩
def aa1(x:UInt32)(w:aa):Calls prog 323 #[.int .u32 (x.toNat:Int),O 6] w λ e c=>e=ao (.int .u32 ((ShaM.aL 6 x).toNat:Int))/\c=w:=(abh x w).mono λ _ _ ⟨a,b⟩=>⟨a,b.symm⟩
def aa3(x:UInt32)(w:aa):Calls prog 323 #[.int .u32 (x.toNat:Int),O 7] w λ e c=>e=ao (.int .u32 ((ShaM.aL 7 x).toNat:Int))/\c=w:=(abj x w).mono λ _ _ ⟨a,b⟩=>⟨a,b.symm⟩
def aaQ(x:UInt32)(w:aa):Calls prog 323 #[.int .u32 (x.toNat:Int),O 11] w λ e c=>e=ao (.int .u32 ((ShaM.aL 11 x).toNat:Int))/\c=w:=(aa6 x w).mono λ _ _ ⟨a,b⟩=>⟨a,b.symm⟩
def aaR(x:UInt32)(w:aa):Calls prog 323 #[.int .u32 (x.toNat:Int),O 13] w λ e c=>e=ao (.int .u32 ((ShaM.aL 13 x).toNat:Int))/\c=w:=(aa7 x w).mono λ _ _ ⟨a,b⟩=>⟨a,b.symm⟩
def aaT(x:UInt32)(w:aa):Calls prog 323 #[.int .u32 (x.toNat:Int),O 17] w λ e c=>e=ao (.int .u32 ((ShaM.aL 17 x).toNat:Int))/\c=w:=(aa9 x w).mono λ _ _ ⟨a,b⟩=>⟨a,b.symm⟩
def E0(x:UInt32)(w:aa):Calls prog 323 #[.int .u32 (x.toNat:Int),O 18] w λ e c=>e=ao (.int .u32 ((ShaM.aL 18 x).toNat:Int))/\c=w:=(E2 x w).mono λ _ _ ⟨a,b⟩=>⟨a,b.symm⟩
def E1(x:UInt32)(w:aa):Calls prog 323 #[.int .u32 (x.toNat:Int),O 19] w λ e c=>e=ao (.int .u32 ((ShaM.aL 19 x).toNat:Int))/\c=w:=(E3 x w).mono λ _ _ ⟨a,b⟩=>⟨a,b.symm⟩
def aaV(x:UInt32)(w:aa):Calls prog 323 #[.int .u32 (x.toNat:Int),O 22] w λ e c=>e=ao (.int .u32 ((ShaM.aL 22 x).toNat:Int))/\c=w:=(abb x w).mono λ _ _ ⟨a,b⟩=>⟨a,b.symm⟩
def aaW(x:UInt32)(w:aa):Calls prog 323 #[.int .u32 (x.toNat:Int),O 25] w λ e c=>e=ao (.int .u32 ((ShaM.aL 25 x).toNat:Int))/\c=w:=(abc x w).mono λ _ _ ⟨a,b⟩=>⟨a,b.symm⟩
def YO(k:Nat)(f:k<32)(x:UInt32):(ShaM.aL k x).toNat/2+(ShaM.aL k x).toNat%2*2147483648=(ShaM.aL (k+1) x).toNat:=by
 rw[tx k W,tx (k+1) W];have c:2^(32-k)=2*2^(32-(k+1)):=by rw[show 32-k=(32-(k+1))+1 by omega,ca,fg]
 have b:2^k*2^(32-(k+1))=2147483648:=by rw[<-eI,show k+(32-(k+1))=31 by omega]
 have a:2^(k+1)=2^k*2:=by omega
 have hd:x.toNat/2^(k+1)=x.toNat/2^k/2:=by rw[a,gM]
 have d:x.toNat%2^(k+1)=x.toNat%2^k+2^k*(x.toNat/2^k%2):=by rw[a,AT]
 rw[hd,d,c,oF];have e:2^k*(x.toNat/2^k%2)*2^(32-(k+1))=x.toNat/2^k%2*2147483648:=by rw[<-b];ac_rfl
 grind
def YP(x:UInt32):ShaM.aL 0 x=x:=by
 apply UInt32.toNat_inj.1;rw[tx 0 W];omega
def EF(k:Nat)(x:UInt32):(ShaM.shr k x).toNat=x.toNat/2^k:=by
 unfold ShaM.shr;have:=x.toNat_lt;have h:=ng x.toNat (2^k);rw[si,bY W]
def Zy(k:Nat)(x:UInt32):(ShaM.shr k x).toNat/2=(ShaM.shr (k+1) x).toNat:=by
 rw[EF,EF,ca,gM]
def Zz(x:UInt32):ShaM.shr 0 x=x:=by
 apply UInt32.toNat_inj.1;rw[EF];simp
def vY(x:UInt32)(n:Int)(c:0<=n)(h1:n<=31)(w:aa):
 Calls prog 110 #[.int .u32 (x.toNat:Int),O n] w λ e a=>e=ao (.int .u32 ((ShaM.aL n.toNat x).toNat:Int))/\a=w:=by
 go_enter func110,ntmps110
 go_wp2
 go_loop [0,5] (λ y i=>∃k:Nat,(k:Int)<=n/\i=O k/\y= .int .u32 ((ShaM.aL k x).toNat:Int)) (λ _ i=>n.toNat-(intOf i).toNat)
 case atStart=>exact⟨0,by omega,rfl,by rw[YP]⟩
 case round=>
  obtain⟨k,d,rfl,rfl⟩:=hrel
  by_cases e:(k:Int)<n
  ·have b:=Z (YO k W x)
   generalize ShaM.aL k x=r at*
   have f:=r.toNat_lt
   go_wp2
   go_round
   case rel=>exact⟨k+1,by omega,by go_num,by rw[<-b.U];rfl⟩
   case measure=>simp[intOf];omega
  ·have a:ai (n.toNat=k):=Z W
   go_wp2
   go_ret
   exact⟨by rw[a.U];rfl,rfl⟩
def QF(x:UInt32)(n:Int)(c:0<=n)(h1:n<=31)(w:aa):
 Calls prog 111 #[.int .u32 (x.toNat:Int),O n] w λ e a=>e=ao (.int .u32 ((ShaM.shr n.toNat x).toNat:Int))/\a=w:=by
 go_enter func111,ntmps111
 go_wp2
 go_loop [0,5] (λ y i=>∃k:Nat,(k:Int)<=n/\i=O k/\y= .int .u32 ((ShaM.shr k x).toNat:Int)) (λ _ i=>n.toNat-(intOf i).toNat)
 case atStart=>exact⟨0,by omega,rfl,by rw[Zz]⟩
 case round=>
  obtain⟨k,d,rfl,rfl⟩:=hrel
  by_cases e:(k:Int)<n
  ·have b:=Z (Zy k x)
   generalize ShaM.shr k x=r at*
   have f:=r.toNat_lt
   go_wp2
   go_round
   case rel=>exact⟨k+1,by omega,by go_num,by rw[<-b.U];rfl⟩
   case measure=>simp[intOf];omega
  ·have a:ai (n.toNat=k):=Z W
   go_wp2
   go_ret
   exact⟨by rw[a.U];rfl,rfl⟩
def Yu(x:UInt32)(n:Int)(c:0<=n)(h1:n<=31)(w:aa):
 Calls prog 110 #[.int .u32 (x.toNat:Int),O n] w λ e a=>e=ao (.int .u32 ((ShaM.aL n.toNat x).toNat:Int))/\w=a:=(vY x n c h1 w).mono λ _ _ ⟨a,b⟩=>⟨a,b.symm⟩
def QE(x:UInt32)(n:Int)(c:0<=n)(h1:n<=31)(w:aa):
 Calls prog 111 #[.int .u32 (x.toNat:Int),O n] w λ e a=>e=ao (.int .u32 ((ShaM.shr n.toNat x).toNat:Int))/\w=a:=(QF x n c h1 w).mono λ _ _ ⟨a,b⟩=>⟨a,b.symm⟩
variable{b:List UInt8}{k:Nat}
def fv(x:UInt32):ab:= .int .u32 (x.toNat:Int)
def bj(l:List UInt32):Array ab:=(l.map fv).toArray
def cV(b:List UInt8)(k:Nat):Array ab:=bj (ShaM.wl b k++List.replicate (64-k) 0)
def Fu(b:List UInt8):cV b 0=bj (List.replicate 64 0):=rfl
def L1:bj (List.replicate 64 0)=#[.int .u32 0,.int .u32 0,.int .u32 0,.int .u32 0,.int .u32 0,.int .u32 0,.int .u32 0,.int .u32 0,.int .u32 0,.int .u32 0,.int .u32 0,.int .u32 0,.int .u32 0,.int .u32 0,.int .u32 0,.int .u32 0,.int .u32 0,.int .u32 0,.int .u32 0,.int .u32 0,.int .u32 0,.int .u32 0,.int .u32 0,.int .u32 0,.int .u32 0,.int .u32 0,.int .u32 0,.int .u32 0,.int .u32 0,.int .u32 0,.int .u32 0,.int .u32 0,.int .u32 0,.int .u32 0,.int .u32 0,.int .u32 0,.int .u32 0,.int .u32 0,.int .u32 0,.int .u32 0,.int .u32 0,.int .u32 0,.int .u32 0,.int .u32 0,.int .u32 0,.int .u32 0,.int .u32 0,.int .u32 0,.int .u32 0,.int .u32 0,.int .u32 0,.int .u32 0,.int .u32 0,.int .u32 0,.int .u32 0,.int .u32 0,.int .u32 0,.int .u32 0,.int .u32 0,.int .u32 0,.int .u32 0,.int .u32 0,.int .u32 0,.int .u32 0]:=by rfl
def Fs(b:List UInt8)(k i:Nat)(h:i<k)(a:k<=64):(cV b k)[i]?=some (.int .u32 (((ShaM.wl b k).getD i 0).toNat:Int)):=by
 simp only[cV,bj,iS,ef];rw[kO (by rw[ShaM.cU];exact h),dc,aU (by rw[ShaM.cU];exact h)];rfl
def Ft(b:List UInt8)(k:Nat)(h:k<64):(cV b k).setIfInBounds k (.int .u32 ((ShaM.fS b (ShaM.wl b k)).toNat:Int))=cV b (k+1):=by
 simp only[cV,bj,aS];congr 1;rw[show 64-k=(64-(k+1))+1 by omega,ff];simp only[jy,bZ,ShaM.wl];rw[kQ _ _ (by simp[ShaM.cU])];simp[ShaM.cU,fv]
def abE(c:UInt8):IntKind.u32.wrap (c.toNat:Int)=(c.toNat:Int):=by
 have:=c.toNat_lt;rw[ox];omega
def ab0(a b c d:UInt8):bits .or .u32 (bits .or .u32 (bits .or .u32 (IntKind.u32.wrap (IntKind.u32.wrap (a.toNat:Int)*16777216)) (IntKind.u32.wrap (IntKind.u32.wrap (b.toNat:Int)*65536))) (IntKind.u32.wrap (IntKind.u32.wrap (c.toNat:Int)*256))) (IntKind.u32.wrap (d.toNat:Int))=((ShaM.word a b c d).toNat:Int):=by
 have e:=a.toNat_lt;have f:=b.toNat_lt;have g:=c.toNat_lt;have hd:=d.toNat_lt;simp only[abE];rw[show IntKind.u32.wrap ((a.toNat:Int)*16777216)=((a.toNat*16777216:Nat):Int) by rw[ox];omega,
  show IntKind.u32.wrap ((b.toNat:Int)*65536)=((b.toNat*65536:Nat):Int) by rw[ox];omega,
  show IntKind.u32.wrap ((c.toNat:Int)*256)=((c.toNat*256:Nat):Int) by rw[ox];omega]
 rw[E4 _ _ W W,pt 24 _ _ W W,E4 _ _ W W,pt 16 _ _ W W,E4 _ _ W W,pt 8 _ _ W W];unfold ShaM.word;rw[si,bY W]
def Zx(x:UInt32):(x.toNat:Int)/8=((ShaM.shr 3 x).toNat:Int):=by
 have:=x.toNat_lt;unfold ShaM.shr;simp_all
def Zw(x:UInt32):(x.toNat:Int)/1024=((ShaM.shr 10 x).toNat:Int):=by
 have:=x.toNat_lt;unfold ShaM.shr;simp_all
def vF(b:List UInt8)(k:Nat)(h:k<16):ShaM.fS b (ShaM.wl b k)=ShaM.word (b.getD (4*k) 0) (b.getD (4*k+1) 0) (b.getD (4*k+2) 0) (b.getD (4*k+3) 0):=by
 unfold ShaM.fS;rw[ShaM.cU,au h]
def vE(b:List UInt8)(k:Nat)(h:¬k<16):ShaM.fS b (ShaM.wl b k)=(ShaM.wl b k).getD (k-16) 0+(ShaM.wl b k).getD (k-7) 0+ShaM.tE ((ShaM.wl b k).getD (k-15) 0)+ShaM.tF ((ShaM.wl b k).getD (k-2) 0):=by
 unfold ShaM.fS;rw[ShaM.cU,ar h]
def wJ(b:List UInt8)(k:Nat)(h:k<64):(cV b k)[k]?=some (.int .u32 0):=by
 simp only[cV,bj,iS,ef];rw[iR (by rw[ShaM.cU];omega),ShaM.cU,qm,AE,au W];rfl
def TN:(prog.info? 380).map (·.size)=some 64:=by kernel_rfl
def zF(l:List UInt32):(bj l).size=l.length:=by simp[bj]
def Fq(b:List UInt8):cV b 64=bj (ShaM.wl b 64):=by simp[cV]
def E9(l:List UInt32):∀v∈(bj l).toList,v.oneCell'=true:=by
 intro v a;simp only[bj,eH] at a;obtain⟨_,_,rfl⟩:=a;rfl
structure nj(w wr:aa)(b:List UInt8)(k:Nat):Prop where
 aJ:BW w wr
 z:ah wr w.heap.size 380 (bj (List.replicate 64 0))
 r:ah wr (w.heap.size+1) 380 (cV b k)
def nj.draw{w wr:aa}(h:nj w wr b k)(n:Nat):nj w (wr.drewN n) b k:=⟨gv h.aJ n,h.z,h.r⟩
def nj.put{w wr:aa}(h:nj w wr b k)(a:k<64)(v:Int)(c:v=((ShaM.fS b (ShaM.wl b k)).toNat:Int)):nj w (wr.setCell ⟨w.heap.size+1,k,none⟩ (.int .u32 v)) b (k+1):=by
 subst c;refine⟨h.aJ.setCell zS _,h.z.cE zS _,?_⟩;rw[<-Ft b k a];exact h.r.dx k _
def Zv(g o:Nat)(b:List UInt8)(n:b.length=64)(w:aa)(p:∀i,i<64->w.cell? ⟨g,o+i,none⟩=some (.int .u8 ((b.getD i 0).toNat:Int))):
 CB 322 #[.pointer (some ⟨g,o,none⟩)] w (aG (bj (ShaM.wl b 64))):=by
 have j:g<w.heap.size:=World.block_lt_of_cell? w _ (p 0 W)
 have f:=Z p;clear p
 go_enter func322,ntmps322
 go_wp2
 rw[<-L1]
 go_loopw [8] (λ i wr=>∃k:Nat,k<=16/\i=O k/\nj w wr b k) (λ i _=>16-(intOf i).toNat)
 case atStart=>exact⟨0,by omega,rfl,⟨(((bp _ _).alloc (aQ _) _).alloc zS _),(ah.new w 380 _).alloc _,by rw[Fu];exact fD w _ 380 _⟩⟩
 case round=>
  obtain⟨k,u,rfl,a⟩:=hrel
  by_cases r:k<16
  ·have S:wr.cell? ⟨g,o+4*k,none⟩=some (.int .u8 ((b.getD (4*k) 0).toNat:Int)):=by rw[a.aJ.cell (by exact j)];exact f.U (4*k) W
   have T:wr.cell? ⟨g,o+(4*k+1),none⟩=some (.int .u8 ((b.getD (4*k+1) 0).toNat:Int)):=by rw[a.aJ.cell (by exact j)];exact f.U (4*k+1) W
   have s:wr.cell? ⟨g,o+(4*k+2),none⟩=some (.int .u8 ((b.getD (4*k+2) 0).toNat:Int)):=by rw[a.aJ.cell (by exact j)];exact f.U (4*k+2) W
   have a0:wr.cell? ⟨g,o+(4*k+3),none⟩=some (.int .u8 ((b.getD (4*k+3) 0).toNat:Int)):=by rw[a.aJ.cell (by exact j)];exact f.U (4*k+3) W
   have q:=a.r.frozen k
   have l:wr.cell? ⟨w.heap.size+1,k,none⟩=some (.int .u32 0):=by rw[a.r.cell];exact wJ b k W
   have e:=vF b k r
   generalize b.getD (4*k) 0=x0 at*
   generalize b.getD (4*k+1) 0=x1 at*
   generalize b.getD (4*k+2) 0=x2 at*
   generalize b.getD (4*k+3) 0=x3 at*
   have m:=Z e;have d:=Z a
   clear e a
   have K:IntKind.i64.wrap (4*(k:Int))=4*(k:Int):=aO _ W
   have L:IntKind.i64.wrap (4*(k:Int)+1)=4*(k:Int)+1:=aO _ W
   have F:IntKind.i64.wrap (4*(k:Int)+2)=4*(k:Int)+2:=aO _ W
   have Q:IntKind.i64.wrap (4*(k:Int)+3)=4*(k:Int)+3:=aO _ W
   have t0:(4*(k:Int)).toNat=4*k:=by omega
   have t1:(4*(k:Int)+1).toNat=4*k+1:=by omega
   have t2:(4*(k:Int)+2).toNat=4*k+2:=by omega
   have t3:(4*(k:Int)+3).toNat=4*k+3:=by omega
   have p0:(0:Int)<=4*(k:Int):=by omega
   have p1:(0:Int)<=4*(k:Int)+1:=by omega
   have p2:(0:Int)<=4*(k:Int)+2:=by omega
   have p3:(0:Int)<=4*(k:Int)+3:=by omega
   have G:(0:Int)<=(k:Int):=by omega
   have H:(k:Int)<64:=by omega
   have a5:4*(k:Int)<64:=by omega
   have a6:4*(k:Int)+1<64:=by omega
   have q2:4*(k:Int)+2<64:=by omega
   have q3:4*(k:Int)+3<64:=by omega
   go_wp2
   go_still_tail 39,zR
   show wpList _ _ _ _ _ wr.drew
   go_wp2
   go_roundw
   case rel=>exact⟨k+1,by omega,by go_num,(d.U.draw 1).put W _ (by rw[m.U];exact ab0 x0 x1 x2 x3)⟩
   case measure=>simp[intOf];omega
  ·obtain rfl:k=16:=by omega
   have d:=Z a;clear a
   go_wp2
   rw[show((16:Nat):Int)=16 from rfl]
   go_loopw [5] (λ i wr=>∃k:Nat,16<=k/\k<=64/\i=O k/\nj w wr b k) (λ i _=>64-(intOf i).toNat)
   case atStart=>exact⟨16,by omega,by omega,rfl,d.U⟩
   case round=>
    clear d r u
    obtain⟨k,a3,u,rfl,a⟩:=hrel
    by_cases r:k<64
    ·have c:=λ i (h:i<k)=>(a.r.cell i).trans (Fs b k i h W)
     have t:=c (k-15) W
     have s:=c (k-2) W
     have h:=c (k-16) W
     have i:=c (k-7) W
     have q:=a.r.frozen k
     have l:wr.cell? ⟨w.heap.size+1,k,none⟩=some (.int .u32 0):=by rw[a.r.cell];exact wJ b k W
     have e:=vE b k W
     generalize(ShaM.wl b k).getD (k-15) 0=x at*
     generalize(ShaM.wl b k).getD (k-2) 0=y at*
     generalize(ShaM.wl b k).getD (k-16) 0=v at*
     generalize(ShaM.wl b k).getD (k-7) 0=z at*
     have m:=Z e;have d:=Z a
     clear e a c
     have M:IntKind.i64.wrap ((k:Int)-15)=(k:Int)-15:=aO _ W
     have F:IntKind.i64.wrap ((k:Int)-2)=(k:Int)-2:=aO _ W
     have N:IntKind.i64.wrap ((k:Int)-16)=(k:Int)-16:=aO _ W
     have R:IntKind.i64.wrap ((k:Int)-7)=(k:Int)-7:=aO _ W
     have t15:((k:Int)-15).toNat=k-15:=by omega
     have t2:((k:Int)-2).toNat=k-2:=by omega
     have t16:((k:Int)-16).toNat=k-16:=by omega
     have t7:((k:Int)-7).toNat=k-7:=by omega
     have p2:(0:Int)<=(k:Int)-2:=by omega
     have vR:(k:Int)-15<64:=by omega
     have q2:(k:Int)-2<64:=by omega
     have vS:(k:Int)-16<64:=by omega
     have q7:(k:Int)-7<64:=by omega
     have m15:(15:Int)<=(k:Int):=by omega
     have m2:(2:Int)<=(k:Int):=by omega
     have m16:(16:Int)<=(k:Int):=by omega
     have m7:(7:Int)<=(k:Int):=by omega
     have G:(0:Int)<=(k:Int):=by omega
     have H:(k:Int)<64:=by omega
     have U2:=iU;have I:=Zx;have J:=Zw
     go_wp2
     go_quiet (fail)
     go_wp2
     obtain⟨c,e⟩:∃c,wr.drewN nq=c:=⟨_,rfl⟩
     rw[e]
     have E:ai (nj w c b k):=Z (by rw[<-e];exact d.U.draw nq)
     have X:c.cell? ⟨w.heap.size+1,k-16,none⟩=some (.int .u32 v.toNat):=by rw[<-e];exact h
     have a1:c.cell? ⟨w.heap.size+1,k-7,none⟩=some (.int .u32 z.toNat):=by rw[<-e];exact i
     have a4:c.cell? ⟨w.heap.size+1,k,none⟩=some (.int .u32 0):=by rw[<-e];exact l
     have a2:c.frozen? ⟨w.heap.size+1,k,none⟩=false:=by rw[<-e];exact q
     clear e d t s h i l q
     go_still_tail 29,zR
     still_call (aa3 x _)
     repeat still_step
     still_call (E0 x _)
     repeat still_step
     still_call (aaT y _)
     repeat still_step
     still_call (E1 y _)
     repeat still_step
     refine wI ?_
     show wpList _ _ _ _ _ c.drew
     go_wp2
     go_roundw
     case rel=>exact⟨k+1,by omega,by omega,by go_num,(E.U.draw 1).put W _ (by rw[m.U];exact G3 v z _ _)⟩
     case measure=>simp[intOf];omega
    ·obtain rfl:k=64:=by omega
     obtain⟨e,h,i⟩:=a
     rw[Fq] at i
     have A:(bj (ShaM.wl b 64)).size=64:=by rw[zF,ShaM.cU]
     have t:(prog.info? 380).map (·.size)=some (bj (ShaM.wl b 64)).size:=by rw[A];exact TN
     have l:=dI (P:=prog) h (bj (ShaM.wl b 64)) (by rw[A,zF,ez]) (E9 _)
     have q:=h.setRow (bj (ShaM.wl b 64))
     have n:=bL e (aQ _) (bj (ShaM.wl b 64))
     generalize s:bj (ShaM.wl b 64)=d at*
     have D:=Z s;clear s
     have B:=Z q;have C:=Z n
     clear e q n
     go_wp2_with(refine bD rfl 380 (Operand.tmp 3) rfl (w.heap.size+1) rfl 380 d (0,0) _ i Gl rfl t ?_)
     exact cr (v:= .agg d) (fI results322 _ _ w.heap.size 380 d (0,0) _ rfl B.U Gl rfl t) rfl ⟨by rw[D.U],C.U⟩
variable{m:List Nat}
def nY(on:Bool)(s:List UInt32)(left:List UInt8)(n:Nat):List ab:=Value.bool on::(s.map fv++(bB left++[O (n:Int)]))
def cM(on:Bool)(s:List UInt32)(left:List UInt8)(n:Nat):Array ab:=(nY on s left n).toArray
section
variable{on:Bool}{s:List UInt32}{left:List UInt8}{n:Nat}
def Lb(b:s.length=8)(a:left.length=64):(cM on s left n).size=74:=by simp[cM,nY,bB,b,a]
def DW:∀v∈(cM on s left n).toList,v.oneCell'=true:=by
 intro v a;simp only[cM,nY,bO,eB,eH,bB,uf,vK] at a;rcases a with rfl|⟨x,_,rfl⟩|⟨x,_,rfl⟩|rfl<;>rfl
def XT:(cM on s left n)[0]?=some (aK on):=by rfl
def XU(b:s.length=8)(i:Nat)(a:i<8):(cM on s left n)[1+i]?=some (.int .u32 ((s.getD i 0).toNat:Int)):=by
 rw[qk 1 i];simp only[cM,nY,iS,oA];rw[kO (by grind),ef,aU W,dc,aU W];rfl
def XR(a:s.length=8)(c:left.length=64)(i:Nat)(b:i<64):(cM on s left n)[9+i]?=some (.int .u8 ((left.getD i 0).toNat:Int)):=by
 rw[show 9+i=(8+i)+1 by omega];simp only[cM,nY,iS,oA];rw[iR (by simp[a]),cC,a,Nat.add_sub_cancel_left,kO (by simp[bB,c,b])];simp only[bB,ef];grind
def XS(b:s.length=8)(a:left.length=64):(cM on s left n)[73]?=some (O (n:Int)):=by
 simp only[cM,nY,iS];rw[show 73=72+1 from rfl,oA,iR (by simp[b]),cC,b,iR (by simp[bB,a])];simp[bB,a]
def Zs(b:Bool):(cM on s left n).setIfInBounds 0 (aK b)=cM b s left n:=by rfl
def Zt(b:s.length=8)(i:Nat)(a:i<8)(x:UInt32):(cM on s left n).setIfInBounds (1+i) (.int .u32 (x.toNat:Int))=cM on (s.set i x) left n:=by
 rw[qk 1 i];simp only[cM,nY,aS,ax];rw[AK _ _ (by grind),lU];rfl
def Zq(a:s.length=8)(d:left.length=64)(i:Nat)(b:i<64)(c:UInt8):(cM on s left n).setIfInBounds (9+i) (.int .u8 (c.toNat:Int))=cM on s (left.set i c) n:=by
 rw[show 9+i=(8+i)+1 by omega];simp only[cM,nY,aS,ax];rw[kQ _ _ (by simp[a]),cC,a,Nat.add_sub_cancel_left,AK _ _ (by simp[bB,d,b])];simp only[bB,lU]
def Zr(b:s.length=8)(a:left.length=64)(m:Nat):(cM on s left n).setIfInBounds 73 (O (m:Int))=cM on s left m:=by
 simp only[cM,nY,aS];rw[show 73=72+1 from rfl,nc,kQ _ _ (by simp[b]),cC,b,kQ _ _ (by simp[bB,a])];simp[bB,a]
end
def vl(v:ShaM.V8):List UInt32:=[v.a,v.b,v.c,v.d,v.e,v.f,v.g,v.h]
def zJ(v:ShaM.V8):(vl v).length=8:=rfl
section
variable{w w':aa}{g:Nat}{on:Bool}{s:List UInt32}{left:List UInt8}{n:Nat}
def RB(w:aa)(g:Nat)(on:Bool)(s:List UInt32)(left:List UInt8)(n:Nat):Prop:=ah w g 358 (cM on s left n)/\s.length=8/\left.length=64
def RB.Sx(h:RB w g on s left n):w.cell? ⟨g,0,none⟩=some (aK on):=(h.1.cell 0).trans XT
def RB.gS(h:RB w g on s left n)(i:Nat)(a:i<8):w.cell? ⟨g,1+i,none⟩=some (.int .u32 ((s.getD i 0).toNat:Int)):=(h.1.cell _).trans (XU h.2.1 i a)
def RB.gL(h:RB w g on s left n)(i:Nat)(a:i<64):w.cell? ⟨g,9+i,none⟩=some (.int .u8 ((left.getD i 0).toNat:Int)):=(h.1.cell _).trans (XR h.2.1 h.2.2 i a)
def RB.gN(h:RB w g on s left n):w.cell? ⟨g,73,none⟩=some (O (n:Int)):=(h.1.cell _).trans (XS h.2.1 h.2.2)
def RB.fr(h:RB w g on s left n)(i:Nat):w.frozen? ⟨g,i,none⟩=false:=h.1.frozen i
def RB.LZ(h:RB w g on s left n)(b:Bool):RB (w.setCell ⟨g,0,none⟩ (aK b)) g b s left n:=⟨by rw[<-Zs (on:=on)];exact h.1.dx 0 _,h.2⟩
def RB.oc(h:RB w g on s left n)(i:Nat)(a:i<8)(x:UInt32):RB (w.setCell ⟨g,1+i,none⟩ (.int .u32 (x.toNat:Int))) g on (s.set i x) left n:=
 ⟨by rw[<-Zt h.2.1 i a];exact h.1.dx _ _,by simp[h.2.1],h.2.2⟩
def RB.Zn(h:RB w g on s left n)(i:Nat)(a:i<64)(c:UInt8):RB (w.setCell ⟨g,9+i,none⟩ (.int .u8 (c.toNat:Int))) g on s (left.set i c) n:=
 ⟨by rw[<-Zq h.2.1 h.2.2 i a];exact h.1.dx _ _,h.2.1,by simp[h.2.2]⟩
def RB.fU(h:RB w g on s left n)(m:Nat):RB (w.setCell ⟨g,73,none⟩ (O (m:Int))) g on s left m:=⟨by rw[<-Zr h.2.1 h.2.2];exact h.1.dx _ _,h.2⟩
def RB.Zp(h:RB w g on s left n)(v:ShaM.V8):RB (w.setCells g 1 ((vl v).map fv)) g on (vl v) left n:=by
 have a:=(((((((h.oc 0 zD v.a).oc 1 zD v.b).oc 2 zD v.c).oc 3 zD v.d).oc 4 zD v.e).oc 5 zD v.f).oc 6 zD v.g).oc 7 zD v.h;have b:=h.2.1
 match s,b with
 |[c,d,e,f,i,j,k,l],_=>exact a
def RB.range(h:RB w g on s left n):w.rangeAt g 1 (s.map fv):=by
 intro j v a;have b:j<8:=by
  have:=(cw.1 a).1;rw[cC,h.2.1] at this;exact this
 rw[h.gS j b,<-a,ef,aU (by grind),dc,aU (by grind)];rfl
def RB.there(h:RB w g on s left n):w.there g 1 8:=λ j a=>⟨by rw[h.gS j a];rfl,h.fr _⟩
def RB.lt(h:RB w g on s left n):g<w.heap.size:=h.1.lt
def RB.below(h:RB w g on s left n)(a:BW w w'):RB w' g on s left n:=⟨(a.block g h.lt).trans h.1,h.2⟩
def RB.drewN(h:RB w g on s left n)(q:Nat):RB (w.drewN q) g on s left n:=h
def RB.alloc(h:RB w g on s left n)(o:Obj):RB (w.alloc o) g on s left n:=⟨h.1.alloc o,h.2⟩
def RB.setRow(h:RB w g on s left n){k:Nat}(b:g≠k)(a:Array ab):RB (w.setRow k a) g on s left n:=⟨h.1.cH a b,h.2⟩
end
structure de(w:aa):Prop where
 b:∃t fr,w.heap[5]?=some (.cells (bj (vl ShaM.eK)) t fr)
 k:∃t fr,w.heap[6]?=some (.cells (bj ShaM.K) t fr)
def de.lt{w:aa}(h:de w):7<=w.heap.size:=by
 obtain⟨_,t,a,h⟩:=h;grind
def de.key{w:aa}(h:de w)(i:Nat)(a:i<64):w.cell? ⟨6,i,none⟩=some (.int .u32 ((ShaM.K.getD i 0).toNat:Int)):=by
 obtain⟨_,t,b,h⟩:=h;rw[nD _ _ _ _ _ _ h];simp only[bj,iS,ef];rw[aU (by exact a),dc,aU (by exact a)];rfl
def de.below{w w':aa}(h:de w)(a:BW w w'):de w':=by
 have:=h.lt;obtain⟨⟨t,b,d⟩,f,c,e⟩:=h;exact⟨⟨t,b,(a.block 5 W).trans d⟩,f,c,(a.block 6 W).trans e⟩
def de.only{w w':aa}{B:Nat}(h:de w)(a:aW B m w w')(f:7<=B)(d:5∉m)(h1:6∉m):de w':=by
 obtain⟨⟨t,b,e1⟩,e,c,e2⟩:=h;exact⟨⟨t,b,(a.block 5 W d).trans e1⟩,e,c,(a.block 6 W h1).trans e2⟩
variable{g n:Nat}
def fY(a:Nat)(w:aa)(v:ab)(l:List UInt32):Prop:=∃g b,v=ag (some ⟨g,0,none⟩) l.length b/\a<=g/\g<w.heap.size/\∀i,i<l.length->w.cell? ⟨g,i,none⟩=some (.int .u32 ((l.getD i 0).toNat:Int))
def fY.mono{w:aa}{v:ab}{l:List UInt32}(h:fY g w v l)(e:n<=g):fY n w v l:=by
 obtain⟨b,a,c,d,r⟩:=h;exact⟨b,a,c,by omega,r⟩
def fY.new(w:aa)(t:TypeId)(l:List UInt32)(b:Nat):fY w.heap.size (w.alloc (.cells (bj l) t)) (ag (some ⟨w.heap.size,0,none⟩) l.length b) l:=
 ⟨_,_,rfl,aQ _,by simp,λ i a=>by
  rw[(ah.new w t (bj l)).cell]
  simp only[bj,iS,ef]
  rw[aU a,dc,aU a];rfl⟩
def xH(x:UInt32):(4294967295:Int)-(x.toNat:Int)=((jW x).toNat:Int):=wD x
def gA(x:UInt32):(x.toNat:Int)%4294967296=(x.toNat:Int):=by have:=x.toNat_lt;omega
def Sy(a b c d e:UInt32):(((a.toNat:Int)+(b.toNat:Int)+(c.toNat:Int)+(d.toNat:Int))%4294967296+(e.toNat:Int))%4294967296=((a+b+c+d+e).toNat:Int):=by
 rw[oP,oP,oP,oP];omega
def Pq(a b c:UInt32):((a.toNat:Int)+((b.toNat:Int)+(c.toNat:Int)))%4294967296=((a+(b+c)).toNat:Int):=by
 rw[oP,oP];omega
def fY.Dj(w:aa)(t:TypeId)(a b c d e f g h:UInt32):fY w.heap.size (w.alloc (.cells #[.int .u32 (a.toNat:Int),.int .u32 (b.toNat:Int),.int .u32 (c.toNat:Int),.int .u32 (d.toNat:Int),.int .u32 (e.toNat:Int),.int .u32 (f.toNat:Int),.int .u32 (g.toNat:Int),.int .u32 (h.toNat:Int)] t)) (ag (some ⟨w.heap.size,0,none⟩) 8 8) [a,b,c,d,e,f,g,h]:=fY.new w t [a,b,c,d,e,f,g,h] 8
def xv(w:aa)(l:List UInt32)(e:Ending)(a:aa):Prop:=(∃v,e=ao v/\fY w.heap.size a v l)/\BW w a
def YQ{w:aa}{base:Nat}{x:ab}{v:ShaM.V8}(h:fY base w x (vl v))(k l:UInt32):
 Calls prog 41 #[x,.int .u32 (k.toNat:Int),.int .u32 (l.toNat:Int)] w (xv w (vl (ShaM.iJ v k l))):=by
 obtain⟨g,r,rfl,-,m,i⟩:=h
 obtain⟨a,b,c,d,e,f,j,h⟩:=v
 have s:w.cell? ⟨g,0,none⟩=some (.int .u32 (a.toNat:Int)):=i 0 (show 0<8 by decide)
 have t:w.cell? ⟨g,1,none⟩=some (.int .u32 (b.toNat:Int)):=i 1 (show 1<8 by decide)
 have u:w.cell? ⟨g,2,none⟩=some (.int .u32 (c.toNat:Int)):=i 2 (show 2<8 by decide)
 have y:w.cell? ⟨g,3,none⟩=some (.int .u32 (d.toNat:Int)):=i 3 (show 3<8 by decide)
 have z:w.cell? ⟨g,4,none⟩=some (.int .u32 (e.toNat:Int)):=i 4 (show 4<8 by decide)
 have A:w.cell? ⟨g,5,none⟩=some (.int .u32 (f.toNat:Int)):=i 5 (show 5<8 by decide)
 have B:w.cell? ⟨g,6,none⟩=some (.int .u32 (j.toNat:Int)):=i 6 (show 6<8 by decide)
 have C:w.cell? ⟨g,7,none⟩=some (.int .u32 (h.toNat:Int)):=i 7 (show 7<8 by decide)
 clear i m
 have o:=iU;have U2:=oX;have p:=xH;have q:=gA
 rw[show(vl ⟨a,b,c,d,e,f,j,h⟩).length=8 from rfl]
 go_enter func41,ntmps41
 go_wp2
 go_quiet (fail)
 go_wp2
 go_quiet ((go_at_call 110;exact(vY e _ zD zD _).mono λ _ _ ⟨m,n⟩=>⟨m,_,n⟩))
 rw[Sy]
 generalize i:h+cp (cp (ShaM.aL 6 e) (ShaM.aL 11 e)) (ShaM.aL 25 e)+cp (dY e f) (dY (jW e) j)+k+l=X
 have m:ai (ShaM.rx ⟨a,b,c,d,e,f,j,h⟩ k l=X):=Z i
 clear i
 go_wp2_with((go_at_call 110;refine(vY a _ zD zD _).mono ?_;rintro e D ⟨rfl,rfl⟩))
 rw[Pq,xI d X]
 have i:vl (ShaM.iJ ⟨a,b,c,d,e,f,j,h⟩ k l)=[X+(cp (cp (ShaM.aL 2 a) (ShaM.aL 13 a)) (ShaM.aL 22 a)+cp (cp (dY a b) (dY a c)) (dY b c)),a,b,c,d+X,e,f,j]:=by
  unfold ShaM.iJ;rw[m.U];rfl
 have n:=Z i;clear i
 go_ret
 exact⟨⟨_,rfl,by rw[n.U];exact fY.Dj (w.drewN _) 95 _ _ _ _ _ _ _ _⟩,(gv (bp _ _) _).alloc (aQ _) _⟩
variable{a:Act}{B:Array Bool}{r:Int}{o:Oper}{t:TypeId}
def MX:(prog.info? 95).map (λ i=>(i.zero,i.size,i.bytes))=some (some (.int .u32 0),1,4):=by kernel_rfl
def abD(l m:List UInt32):(l++m).map fv=l.map fv++m.map fv:=by simp
structure fZ(w wr:aa)(v:ab)(l:List UInt32):Prop where
 own:wr.ownsRow w.heap.size 95 1 v l.length (l.map fv)
 aJ:BW w wr
def Dx{w:aa}{size:Nat}{v:ab}{a:List ab}(h:w.ownsRow g t size v n a)(o:Obj):(w.alloc o).ownsRow g t size v n a:=DB h (bJ w o)
section
variable{w wr w3:aa}{v v':ab}{l:List UInt32}
def fZ.drewN(h:fZ w wr v l)(q:Nat):fZ w (wr.drewN q) v l:=⟨h.own,gv h.aJ q⟩
def fZ.append{X:aa}(h:fZ w wr v l)(a:BW wr X)(x:UInt32)(n:Int)(e:n=(x.toNat:Int))(f:w3.ownsRow w.heap.size 95 1 v' (l.length+1) (l.map fv++[.int .u32 n]))(c:X.grownBy w3 v.ownBlock):fZ w w3 v' (l++[x]):=by
 subst e;refine⟨?_,?_⟩
 ·rw[bV,abD];exact f
 ·have b:=h.aJ.size;exact(h.aJ.trans (a.mono b)).grown c (hy b a.size) (λ k d=>(h.own.lt k d).1)
def fZ.Ot{X:aa}(h:fZ w wr v l)(a:BW wr X)(x:UInt32)(c:l.length=g)(e:w3.ownsRow w.heap.size 95 1 v' (g+1) (l.map fv++[.int .u32 r]))(b:X.grownBy w3 v.ownBlock)(d:r=(x.toNat:Int)):fZ w w3 v' (l++[x]):=by
 subst c;exact h.append a x r d e b
def fZ.form(h:fZ w wr v l)(m:0<l.length):∃g a,v=ag (some ⟨g,0,none⟩) l.length a/\w.heap.size<=g/\g<wr.heap.size/\∀i,i<l.length->wr.cell? ⟨g,i,none⟩=some (.int .u32 ((l.getD i 0).toNat:Int)):=by
 rcases h.own.2 with⟨b,f⟩|⟨g,a,j,b,d,e,f,n,k,o⟩
 ·omega
 ·refine⟨g,a,b,d,(mT.1 e).1,λ i c=> ?_⟩;subst b;have:=h.own.cells rfl i (.int .u32 ((l.getD i 0).toNat:Int)) (by rw[ef,aU c,dc,aU c];rfl);rw[gp,dz] at this;exact this
def fZ.post(h:fZ w wr v l)(e:0<l.length):xv w l (ao v) wr:=by
 obtain⟨g,a,f,b,d,c⟩:=h.form e;exact⟨⟨v,rfl,g,a,f,b,d,c⟩,h.aJ⟩
end
def Pu(w:aa)(u:ab)(t:TypeId):(w.alloc (.cells #[u] t)).cell? ⟨w.heap.size,0,none⟩=some u:=by rw[(ah.new w t #[u]).cell];rfl
def BX(w:aa)(u:ab)(t:TypeId):(w.alloc (.cells #[u] t)).drew.cell? ⟨w.heap.size,0,none⟩=some u:=Pu w u t
def ab1(a b c d:UInt8):((a.toNat:Int)*16777216+(b.toNat:Int)*65536+(c.toNat:Int)*256+(d.toNat:Int))=((ShaM.word a b c d).toNat:Int):=by
 have e:=a.toNat_lt;have f:=b.toNat_lt;have g:=c.toNat_lt;have hd:=d.toNat_lt;unfold ShaM.word;rw[si,bY W];omega
def ab2(a b c d:UInt8):IntKind.u32.wrap (IntKind.u32.wrap (IntKind.u32.wrap (IntKind.u32.wrap (IntKind.u32.wrap (a.toNat:Int)*16777216)+IntKind.u32.wrap (IntKind.u32.wrap (b.toNat:Int)*65536))+IntKind.u32.wrap (IntKind.u32.wrap (c.toNat:Int)*256))+IntKind.u32.wrap (d.toNat:Int))=((ShaM.word a b c d).toNat:Int):=by
 have e:=a.toNat_lt;have f:=b.toNat_lt;have g:=c.toNat_lt;have hd:=d.toNat_lt;rw[<-ab1];simp only[ox];omega
def Z9(a b c d:UInt32):IntKind.u32.wrap (IntKind.u32.wrap (IntKind.u32.wrap ((a.toNat:Int)+(b.toNat:Int))+(c.toNat:Int))+(d.toNat:Int))=((a+c+b+d).toNat:Int):=by
 rw[oP,oP,oP];simp only[ox];omega
def xC(s:af)(i:Nat)(h:i<s.size):s[i]=s.data.toList.getD i 0:=by
 rw[dc,aU (by simpa using h)];rfl
def VH{ops:Array Oper}{Q:Exit->Act->aa->Prop}{b:Region.Mode}{S:aa->Prop}{v:ab}{w:aa}(i:Nat)(e:S w)(h:wpAnyH prog b ops Q S g (B.setIfInBounds i true) (a.put o.dst v) w)
 (j:ops[i]?=some o:=by exact rfl) (m:Region.noSelect ops=true:=by kernel_rfl) (f:Region.free b ops B i=true:=by kernel_rfl) (k:(Region.ready b ops B).contains i=true:=by kernel_rfl) (d:∀c a w,Q (.panic c) (a.put o.dst v) w->Q (.panic c) a w:=by exact λ _ _ _ h=>h)
 (n:YieldsIf prog ops S o v a:=by exact Or.inl ⟨by rfl,by intro q p;go_simp;try(with_reducible rfl)⟩):wpAnyH prog b ops Q S (g+1) B a w:=wpAnyH_take j m f k d n e h
def ab3(s:af)(P:s.size=64)(w:aa):Calls prog 40 #[ad s] w (xv w (ShaM.wl s.data.toList 64)):=by
 obtain⟨H,B,E,F,G⟩:=iB MX;have h64:64<=s.size:=by omega
 clear P;have a:ai (fZ w (w.alloc (.cells #[] 95)) (ag (some ⟨w.heap.size,0,none⟩) 0 0) []):=Z ⟨sj w #[] 0 (aQ _) zD rfl,bJ w _⟩
 go_enter func40,ntmps40
 go_wp2
 go_loopw [3,4] (λ v i wr=>∃k:Nat,k<=16/\i=O k/\fZ w wr v (ShaM.wl s.data.toList k)) (λ _ i _=>16-(intOf i).toNat)
 case atStart=>exact⟨0,by omega,rfl,a.U⟩
 case round=>
  clear a;obtain⟨k,C,rfl,b⟩:=hrel;by_cases p:k<16
  ·have e:=vF s.data.toList k p;rw[<-xC s (4*k) W,<-xC s (4*k+1) W,<-xC s (4*k+2) W,<-xC s (4*k+3) W] at e;have h:=Z e;have a:=Z b;have d:=ShaM.cU s.data.toList k;clear e;have T:IntKind.i64.wrap (4*(k:Int))=4*(k:Int):=aO _ W;have X:IntKind.i64.wrap (4*(k:Int)+1)=4*(k:Int)+1:=aO _ W;have I:IntKind.i64.wrap (4*(k:Int)+2)=4*(k:Int)+2:=aO _ W;have a2:IntKind.i64.wrap (4*(k:Int)+3)=4*(k:Int)+3:=aO _ W;have t0:(4*(k:Int)).toNat=4*k:=by omega
   have t1:(4*(k:Int)+1).toNat=4*k+1:=by omega
   have t2:(4*(k:Int)+2).toNat=4*k+2:=by omega
   have t3:(4*(k:Int)+3).toNat=4*k+3:=by omega
   have p0:(0:Int)<=4*(k:Int):=by omega
   have p1:(0:Int)<=4*(k:Int)+1:=by omega
   have p2:(0:Int)<=4*(k:Int)+2:=by omega
   have p3:(0:Int)<=4*(k:Int)+3:=by omega
   have a5:4*k<s.size:=by omega
   have a7:4*k+1<s.size:=by omega
   have q2:4*k+2<s.size:=by omega
   have q3:4*k+3<s.size:=by omega
   have a6:4*(k:Int)<(s.size:Int):=by omega
   have a8:4*(k:Int)+1<(s.size:Int):=by omega
   have a9:4*(k:Int)+2<(s.size:Int):=by omega
   have b0:4*(k:Int)+3<(s.size:Int):=by omega
   clear b;have r:=Z d;clear d
   go_wp2
   have f:=a.U.own;refine wp_region_held_drew (S:=λ _=>True) V trivial (λ o=> ?_);refine VH 0 zA ?_;simp only[Act.put,aS];refine VH 1 zA ?_;simp only[Act.put];refine VH 2 zA ?_;simp only[Act.put];refine VH 3 zA ?_;simp only[Act.put];refine VH 4 zA ?_;simp only[Act.put];refine VH 5 zA ?_;simp only[Act.put];refine VH 6 zA ?_;simp only[Act.put];refine VH 7 zA ?_;simp only[Act.put];refine VH 8 zA ?_;simp only[Act.put];refine VH 9 zA ?_;simp only[Act.put];refine VH 10 zA ?_;simp only[Act.put];refine VH 11 zA ?_;simp only[Act.put];refine VH 12 zA ?_;simp only[Act.put];refine VH 13 zA ?_;simp only[Act.put];refine VH 14 zA ?_;simp only[Act.put];refine VH 15 zA ?_;simp only[Act.put];refine VH 16 zA ?_;simp only[Act.put];refine VH 17 zA ?_;simp only[Act.put];refine VH 18 zA ?_;simp only[Act.put];refine VH 19 zA ?_;simp only[Act.put];refine VH 20 zA ?_;simp only[Act.put];refine VH 21 zA ?_;simp only[Act.put];refine VH 22 zA ?_;simp only[Act.put];refine VH 23 zA ?_;simp only[Act.put];refine VH 24 zA ?_;simp only[Act.put];refine VH 25 zA ?_;simp only[Act.put];refine VH 26 zA ?_;simp only[Act.put];refine VH 27 zA ?_;simp only[Act.put];refine VH 28 zA ?_;simp only[Act.put];refine VH 29 zA ?_;simp only[Act.put];refine wpAnyH_ready (rs:=[30]) V zS (FJ rfl (λ K c=> ?_) AllReadyH.nil)
   go_simp
   refine c.out _ _ (by trivial) (λ o=> ?_);clear c K;try simp only[Act.put,aS,av,ax]
   refine wpAnyH_ready (rs:=[31]) V zS (FJ rfl (λ K c=> ?_) AllReadyH.nil)
   (refine ER rfl _ _ 96 rfl w.heap.size 95 H (.int .u32 0) 4 Bp B E F G rfl u3 _ _ rfl (Dx f _).drew wr.heap.size rfl _ (BX wr _ _) rfl (by rw[ShaM.cU];unfold maxLen;omega) (by rw[ShaM.cU];omega) (by have:=a.U.aJ.size;simp;omega) ?_;intro v' w3 m j q)
   refine c.out _ _ (by trivial) (λ o=> ?_);clear c K;try simp only[Act.put,aS]
   refine wpAnyH_ready (rs:=[32]) V zS (FJ rfl (λ K c=> ?_) AllReadyH.nil)
   go_simp
   refine c.out _ _ (by trivial) (λ o=> ?_);clear c K;try simp only[Act.put,aS,av,ax]
   refine wpAnyH_done V ?_ _;have n:ai (fZ w w3 v' (ShaM.wl s.data.toList (k+1))):=Z (a.U.append ((bJ wr _).drew) _ _ (by rw[h.U];exact ab2 _ _ _ _) m j);clear m j q f a h
   go_wp2
   go_roundw
   case rel=>exact⟨k+1,by omega,by go_num,n.U⟩
   case measure=>simp[intOf];omega
  ·obtain rfl:k=16:=by omega
   have a:=Z b;clear b
   go_wp2
   rw[show((16:Nat):Int)=16 from rfl]
   go_loopw [3,5] (λ v i wr=>∃k:Nat,16<=k/\k<=64/\i=O k/\fZ w wr v (ShaM.wl s.data.toList k)) (λ _ i _=>64-(intOf i).toNat)
   case atStart=>exact⟨16,by omega,by omega,rfl,a.U⟩
   case round=>
    clear a p C;obtain⟨k,a4,C,rfl,b⟩:=hrel;by_cases p:k<64
    ·have d:=ShaM.cU s.data.toList k;obtain⟨g,A,Q,-,i,c⟩:=b.form W;subst Q;rw[d] at c;have J:=c (k-15) W;have M:=c (k-2) W;have t:=c (k-16) W;have u:=c (k-7) W;have e:=vE s.data.toList k W;have f:=b.own;rw[d] at f;have a:=Z b;rw[d];clear b c i;generalize(ShaM.wl s.data.toList k).getD (k-15) 0=x at*;generalize(ShaM.wl s.data.toList k).getD (k-2) 0=y at*;generalize(ShaM.wl s.data.toList k).getD (k-16) 0=v at*;generalize(ShaM.wl s.data.toList k).getD (k-7) 0=z at*;have h:=Z e;have r:=Z d;clear e d;have a0:IntKind.i64.wrap ((k:Int)-15)=(k:Int)-15:=aO _ W;have I:IntKind.i64.wrap ((k:Int)-2)=(k:Int)-2:=aO _ W;have a1:IntKind.i64.wrap ((k:Int)-16)=(k:Int)-16:=aO _ W;have a3:IntKind.i64.wrap ((k:Int)-7)=(k:Int)-7:=aO _ W;have t15:((k:Int)-15).toNat=k-15:=by omega
     have t2:((k:Int)-2).toNat=k-2:=by omega
     have t16:((k:Int)-16).toNat=k-16:=by omega
     have t7:((k:Int)-7).toNat=k-7:=by omega
     have p2:(0:Int)<=(k:Int)-2:=by omega
     have m15:(15:Int)<=(k:Int):=by omega
     have m2:(2:Int)<=(k:Int):=by omega
     have m16:(16:Int)<=(k:Int):=by omega
     have m7:(7:Int)<=(k:Int):=by omega
     have vR:(k:Int)-15<(k:Int):=by omega
     have q2:(k:Int)-2<(k:Int):=by omega
     have vS:(k:Int)-16<(k:Int):=by omega
     have q7:(k:Int)-7<(k:Int):=by omega
     have R:=iU
     go_wp2
     go_quiet (fail)
     obtain⟨c,d⟩:∃c,wr.drewN nq=c:=⟨_,rfl⟩;rw[d];have i:ai (fZ w c (.slice (some ⟨g,0,none⟩) (ShaM.wl s.data.toList k).length A) (ShaM.wl s.data.toList k)):=Z (by rw[<-d];exact a.U.drewN nq);have L:c.cell? ⟨g,k-16,none⟩=some (.int .u32 v.toNat):=by rw[<-d];exact t
     have N:c.cell? ⟨g,k-7,none⟩=some (.int .u32 z.toNat):=by rw[<-d];exact u
     have D:c.ownsRow w.heap.size 95 1 (ag (some ⟨g,0,none⟩) k A) k ((ShaM.wl s.data.toList k).map fv):=by rw[<-d];exact f
     clear d a J M t u f
     go_wp2_with(first|go_at_call 110;refine(Yu _ _ zD zD _).mono ?_;rintro e d ⟨rfl,rfl⟩|go_at_call 111;refine(QE _ _ zD zD _).mono ?_;rintro e d ⟨rfl,rfl⟩)
     go_region_law (refine ER rfl _ _ 96 rfl w.heap.size 95 H (.int .u32 0) 4 Bp B E F G rfl _ _ _ rfl (Dx D _).drew c.heap.size rfl _ (BX c _ _) rfl (by unfold maxLen;omega) W (by have:=i.U.aJ.size;simp;omega) ?_;intro v' w3 m j q)
     all_goals
      have n:ai (fZ w w3 v' (ShaM.wl s.data.toList (k+1))):=Z (i.U.Ot ((bJ c _).drew) _ r.U m j (by rw[h.U];exact Z9 v _ z _));clear m j q D i h L N
      go_wp2
      go_roundw
      case rel=>exact⟨k+1,by omega,by omega,by go_num,n.U⟩
      case measure=>simp[intOf];omega
    ·obtain rfl:k=64:=by omega
     have a:=Z b;clear b
     go_wp2
     go_ret
     exact a.U.post (by rw[ShaM.cU];omega)
def BS(x:UInt32):bits .xor .u32 (if IntKind.u32.signed=true then-1 else IntKind.u32.max) (x.toNat:Int)=((jW x).toNat:Int):=BR x
def acc(s t:List UInt32)(k:Nat):List UInt32:=(List.zipWith (λ x y=>x+y) s t).take k++s.drop k
def uI(x y:ShaM.V8):acc (vl x) (vl y) 8=vl (ShaM.gu x y):=rfl
def xy(s t:List UInt32)(k:Nat)(a:s.length=8)(b:t.length=8)(c:k<=8):(acc s t k).length=8:=by simp[acc,a,b];omega
def uJ(s t:List UInt32)(k:Nat)(b:s.length=8)(c:t.length=8)(a:k<8):(acc s t k).getD k 0=s.getD k 0:=by
 simp only[acc,dc];grind
def uK(s t:List UInt32)(k:Nat)(b:s.length=8)(c:t.length=8)(d:k<8):(acc s t k).set k (s.getD k 0+t.getD k 0)=acc s t (k+1):=by
 have a:((List.zipWith (λ x y=>x+y) s t).take k).length=k:=by simp[b,c];omega
 unfold acc;rw[kQ _ _ W,a,qm,iQ W,lW,eC (by grind),FY,gK];grind
def I1(v:ShaM.V8)(w:aa):∀k:Nat,k<8->(Instr.index 355 (aG (bj (vl v))) (O (k:Int))).run prog w= .ok (.int .u32 (((vl v).getD k 0).toNat:Int)) w
 |0,_=>by kernel_rfl
 |1,_=>by kernel_rfl
 |2,_=>by kernel_rfl
 |3,_=>by kernel_rfl
 |4,_=>by kernel_rfl
 |5,_=>by kernel_rfl
 |6,_=>by kernel_rfl
 |7,_=>by kernel_rfl
 |k+8,h=>absurd h W
def jV(x y:UInt32):UInt32:=x+y
def nA(a b:UInt32):((a.toNat:Int)+(b.toNat:Int))%4294967296=((jV a b).toNat:Int):=xI a b
def I3:(prog.info? 355).map (·.size)=some 8:=by kernel_rfl
def vu(v:ShaM.V8):(prog.info? 355).map (·.size)=some (bj (vl v)).size:=I3
def I2(v:ShaM.V8):(prog.info? 355).map (·.size)=some ((vl v).map fv).length:=I3
def wF(v:ShaM.V8):(bj (vl v)).all (·.oneCell')=true:=by simp[bj,vl,fv,Value.oneCell']
def aaD{w:aa}{on:Bool}{s:List UInt32}{left:List UInt8}(h:RB w g on s left n)(v:ShaM.V8):w.there g 1 (bj (vl v)).size:=h.there
def Wo(w:aa)(g o:Nat)(a:List ab):aW w.heap.size [g] w (w.setCells g o a):=by
 have h:=ED g a o w;exact⟨h.2.1,h.1,h.2.2.1,by omega,λ k b c=>Gr w g o a b (by grind)⟩
def mS:Array ab:=#[.int .u32 0,.int .u32 0,.int .u32 0,.int .u32 0,.int .u32 0,.int .u32 0,.int .u32 0,.int .u32 0]
def aW.setRow{B:Nat}{l:List Nat}{a w:aa}(h:aW B l a w){g:Nat}(e:g∈l\/B<=g)(b:Array ab):aW B l a (w.setRow g b):=
 h.trans ⟨rfl,rfl,rfl,by simp,λ k c d=>EE w g k b (by grind)⟩
def JW(a:7<=g):5∉[g]/\6∉[g]:=⟨by grind,by grind⟩
def E8(l:List UInt32)(i:Nat)(h:i<l.length):(bj l)[i]?=some (.int .u32 ((l.getD i 0).toNat:Int)):=by
 simp only[bj,iS,ef];rw[aU h,dc,aU h];rfl
def de.grow{w b:aa}(h:de w)(c:aW w.heap.size [g] w b)(a:7<=g):de b:=h.only c h.lt (JW a).1 (JW a).2
