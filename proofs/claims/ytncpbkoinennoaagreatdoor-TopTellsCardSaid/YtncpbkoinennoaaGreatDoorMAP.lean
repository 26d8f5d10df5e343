import Derived.Test.YtncpbkoinennoaaGreatDoorMAM
set_option linter.all false
set_option maxRecDepth 100000
set_option maxHeartbeats 0
namespace Go.Proofs.YtncpbkoinennoaaGreatDoor
open Go.RowKit Proofs.Tryz
attribute [local irreducible] wpList Calls
def sI(n:Nat)(f:n<=32)(x:UInt32):(ShaM.aN n x).toNat=x.toNat/2^n+x.toNat%2^n*2^(32-n):=by
 have hx:=x.toNat_lt;have a:2^n*2^(32-n)=4294967296:=by rw[<-kH,show n+(32-n)=32 by omega]
 have b:0<2^n:=by grind
 have e:x.toNat/2^n<2^(32-n):=by rw[zz b,jU,a];exact hx
 have c:x.toNat%2^n+1<=2^n:=by omega
 have d:=lR (2^(32-n)) c;rw[a,kG,zE] at d;unfold ShaM.aN;rw[rI,ik W]
def fM(n a b:Nat)(j:n<=32)(h:2^n=a)(i:2^(32-n)=b)(x:UInt32):bits .or .u32 ((x.toNat:Int)*(b:Int)%4294967296) ((x.toNat:Int)/(a:Int))=((ShaM.aN n x).toNat:Int):=by
 subst h i;have c:2^n*2^(32-n)=4294967296:=by rw[<-kH,show n+(32-n)=32 by omega]
 have hx:=x.toNat_lt;have d:0<2^n:=by grind
 have e:x.toNat/2^n<2^(32-n):=by rw[zz d,jU,c];exact hx
 have e1:(x.toNat:Int)*((2^(32-n):Nat):Int)%4294967296=((x.toNat%2^n*2^(32-n):Nat):Int):=by
  rw[<-Nat.mul_mod_mul_right,c];omega
 have f:x.toNat%2^n+1<=2^n:=by omega
 have g:=lR (2^(32-n)) f;rw[c,kG,zE] at g;rw[e1,show(x.toNat:Int)/((2^n:Nat):Int)=((x.toNat/2^n:Nat):Int) by omega,Dq _ _ W W,oX (32-n) _ _ (Nat.mul_mod_left _ _) e,sI n j x,rB]
def ZX(x:UInt32)(w:aa):
 Calls prog 323 #[.int .u32 (x.toNat:Int),O 2] w λ e a=>e=ao (.int .u32 ((ShaM.aN 2 x).toNat:Int))/\w=a:=by
 have b:bits .or .u32 ((x.toNat:Int)*1073741824%4294967296) ((x.toNat:Int)/4)=((ShaM.aN 2 x).toNat:Int):=fM 2 4 1073741824 zD zD zD x
 have d:bits BinOp.and IntKind.u64 (IntKind.u64.wrap (-2)) 31=30:=by decide
 have c:=Z b
 clear b
 go_enter ng,nk
 go_wp2_with fail
 refine ga (R:=λ e a=>e=ao (.int .u32 ((ShaM.aN 2 x).toNat:Int))/\w=a) ?_ ?_
 ·go_enter nh,nm
  go_wp2
  go_ret
  exact⟨by rw[<-c.U];rfl,rfl⟩
 ·rintro e a ⟨rfl,rfl⟩
  go_wp2
  go_ret
  simp
def Z4(x:UInt32)(w:aa):
 Calls prog 323 #[.int .u32 (x.toNat:Int),O 6] w λ e a=>e=ao (.int .u32 ((ShaM.aN 6 x).toNat:Int))/\w=a:=by
 have b:bits .or .u32 ((x.toNat:Int)*67108864%4294967296) ((x.toNat:Int)/64)=((ShaM.aN 6 x).toNat:Int):=fM 6 64 67108864 zD zD zD x
 have d:bits BinOp.and IntKind.u64 (IntKind.u64.wrap (-6)) 31=26:=by decide
 have c:=Z b
 clear b
 go_enter ng,nk
 go_wp2_with fail
 refine ga (R:=λ e a=>e=ao (.int .u32 ((ShaM.aN 6 x).toNat:Int))/\w=a) ?_ ?_
 ·go_enter nh,nm
  go_wp2
  go_ret
  exact⟨by rw[<-c.U];rfl,rfl⟩
 ·rintro e a ⟨rfl,rfl⟩
  go_wp2
  go_ret
  simp
def Z6(x:UInt32)(w:aa):
 Calls prog 323 #[.int .u32 (x.toNat:Int),O 7] w λ e a=>e=ao (.int .u32 ((ShaM.aN 7 x).toNat:Int))/\w=a:=by
 have b:bits .or .u32 ((x.toNat:Int)*33554432%4294967296) ((x.toNat:Int)/128)=((ShaM.aN 7 x).toNat:Int):=fM 7 128 33554432 zD zD zD x
 have d:bits BinOp.and IntKind.u64 (IntKind.u64.wrap (-7)) 31=25:=by decide
 have c:=Z b
 clear b
 go_enter ng,nk
 go_wp2_with fail
 refine ga (R:=λ e a=>e=ao (.int .u32 ((ShaM.aN 7 x).toNat:Int))/\w=a) ?_ ?_
 ·go_enter nh,nm
  go_wp2
  go_ret
  exact⟨by rw[<-c.U];rfl,rfl⟩
 ·rintro e a ⟨rfl,rfl⟩
  go_wp2
  go_ret
  simp
def ZT(x:UInt32)(w:aa):
 Calls prog 323 #[.int .u32 (x.toNat:Int),O 11] w λ e a=>e=ao (.int .u32 ((ShaM.aN 11 x).toNat:Int))/\w=a:=by
 have b:bits .or .u32 ((x.toNat:Int)*2097152%4294967296) ((x.toNat:Int)/2048)=((ShaM.aN 11 x).toNat:Int):=fM 11 2048 2097152 zD zD zD x
 have d:bits BinOp.and IntKind.u64 (IntKind.u64.wrap (-11)) 31=21:=by decide
 have c:=Z b
 clear b
 go_enter ng,nk
 go_wp2_with fail
 refine ga (R:=λ e a=>e=ao (.int .u32 ((ShaM.aN 11 x).toNat:Int))/\w=a) ?_ ?_
 ·go_enter nh,nm
  go_wp2
  go_ret
  exact⟨by rw[<-c.U];rfl,rfl⟩
 ·rintro e a ⟨rfl,rfl⟩
  go_wp2
  go_ret
  simp
def ZU(x:UInt32)(w:aa):
 Calls prog 323 #[.int .u32 (x.toNat:Int),O 13] w λ e a=>e=ao (.int .u32 ((ShaM.aN 13 x).toNat:Int))/\w=a:=by
 have b:bits .or .u32 ((x.toNat:Int)*524288%4294967296) ((x.toNat:Int)/8192)=((ShaM.aN 13 x).toNat:Int):=fM 13 8192 524288 zD zD zD x
 have d:bits BinOp.and IntKind.u64 (IntKind.u64.wrap (-13)) 31=19:=by decide
 have c:=Z b
 clear b
 go_enter ng,nk
 go_wp2_with fail
 refine ga (R:=λ e a=>e=ao (.int .u32 ((ShaM.aN 13 x).toNat:Int))/\w=a) ?_ ?_
 ·go_enter nh,nm
  go_wp2
  go_ret
  exact⟨by rw[<-c.U];rfl,rfl⟩
 ·rintro e a ⟨rfl,rfl⟩
  go_wp2
  go_ret
  simp
def ZW(x:UInt32)(w:aa):
 Calls prog 323 #[.int .u32 (x.toNat:Int),O 17] w λ e a=>e=ao (.int .u32 ((ShaM.aN 17 x).toNat:Int))/\w=a:=by
 have b:bits .or .u32 ((x.toNat:Int)*32768%4294967296) ((x.toNat:Int)/131072)=((ShaM.aN 17 x).toNat:Int):=fM 17 131072 32768 zD zD zD x
 have d:bits BinOp.and IntKind.u64 (IntKind.u64.wrap (-17)) 31=15:=by decide
 have c:=Z b
 clear b
 go_enter ng,nk
 go_wp2_with fail
 refine ga (R:=λ e a=>e=ao (.int .u32 ((ShaM.aN 17 x).toNat:Int))/\w=a) ?_ ?_
 ·go_enter nh,nm
  go_wp2
  go_ret
  exact⟨by rw[<-c.U];rfl,rfl⟩
 ·rintro e a ⟨rfl,rfl⟩
  go_wp2
  go_ret
  simp
def Dm(x:UInt32)(w:aa):
 Calls prog 323 #[.int .u32 (x.toNat:Int),O 18] w λ e a=>e=ao (.int .u32 ((ShaM.aN 18 x).toNat:Int))/\w=a:=by
 have b:bits .or .u32 ((x.toNat:Int)*16384%4294967296) ((x.toNat:Int)/262144)=((ShaM.aN 18 x).toNat:Int):=fM 18 262144 16384 zD zD zD x
 have d:bits BinOp.and IntKind.u64 (IntKind.u64.wrap (-18)) 31=14:=by decide
 have c:=Z b
 clear b
 go_enter ng,nk
 go_wp2_with fail
 refine ga (R:=λ e a=>e=ao (.int .u32 ((ShaM.aN 18 x).toNat:Int))/\w=a) ?_ ?_
 ·go_enter nh,nm
  go_wp2
  go_ret
  exact⟨by rw[<-c.U];rfl,rfl⟩
 ·rintro e a ⟨rfl,rfl⟩
  go_wp2
  go_ret
  simp
def Dn(x:UInt32)(w:aa):
 Calls prog 323 #[.int .u32 (x.toNat:Int),O 19] w λ e a=>e=ao (.int .u32 ((ShaM.aN 19 x).toNat:Int))/\w=a:=by
 have b:bits .or .u32 ((x.toNat:Int)*8192%4294967296) ((x.toNat:Int)/524288)=((ShaM.aN 19 x).toNat:Int):=fM 19 524288 8192 zD zD zD x
 have d:bits BinOp.and IntKind.u64 (IntKind.u64.wrap (-19)) 31=13:=by decide
 have c:=Z b
 clear b
 go_enter ng,nk
 go_wp2_with fail
 refine ga (R:=λ e a=>e=ao (.int .u32 ((ShaM.aN 19 x).toNat:Int))/\w=a) ?_ ?_
 ·go_enter nh,nm
  go_wp2
  go_ret
  exact⟨by rw[<-c.U];rfl,rfl⟩
 ·rintro e a ⟨rfl,rfl⟩
  go_wp2
  go_ret
  simp
def ZY(x:UInt32)(w:aa):
 Calls prog 323 #[.int .u32 (x.toNat:Int),O 22] w λ e a=>e=ao (.int .u32 ((ShaM.aN 22 x).toNat:Int))/\w=a:=by
 have b:bits .or .u32 ((x.toNat:Int)*1024%4294967296) ((x.toNat:Int)/4194304)=((ShaM.aN 22 x).toNat:Int):=fM 22 4194304 1024 zD zD zD x
 have d:bits BinOp.and IntKind.u64 (IntKind.u64.wrap (-22)) 31=10:=by decide
 have c:=Z b
 clear b
 go_enter ng,nk
 go_wp2_with fail
 refine ga (R:=λ e a=>e=ao (.int .u32 ((ShaM.aN 22 x).toNat:Int))/\w=a) ?_ ?_
 ·go_enter nh,nm
  go_wp2
  go_ret
  exact⟨by rw[<-c.U];rfl,rfl⟩
 ·rintro e a ⟨rfl,rfl⟩
  go_wp2
  go_ret
  simp
def ZZ(x:UInt32)(w:aa):
 Calls prog 323 #[.int .u32 (x.toNat:Int),O 25] w λ e a=>e=ao (.int .u32 ((ShaM.aN 25 x).toNat:Int))/\w=a:=by
 have b:bits .or .u32 ((x.toNat:Int)*128%4294967296) ((x.toNat:Int)/33554432)=((ShaM.aN 25 x).toNat:Int):=fM 25 33554432 128 zD zD zD x
 have d:bits BinOp.and IntKind.u64 (IntKind.u64.wrap (-25)) 31=7:=by decide
 have c:=Z b
 clear b
 go_enter ng,nk
 go_wp2_with fail
 refine ga (R:=λ e a=>e=ao (.int .u32 ((ShaM.aN 25 x).toNat:Int))/\w=a) ?_ ?_
 ·go_enter nh,nm
  go_wp2
  go_ret
  exact⟨by rw[<-c.U];rfl,rfl⟩
 ·rintro e a ⟨rfl,rfl⟩
  go_wp2
  go_ret
  simp
def ZH(x:UInt32)(w:aa):Calls prog 323 #[.int .u32 (x.toNat:Int),O 2] w λ e c=>e=ao (.int .u32 ((ShaM.aN 2 x).toNat:Int))/\c=w:=(ZX x w).mono λ _ _ ⟨a,b⟩=>⟨a,b.symm⟩
def ZO(x:UInt32)(w:aa):Calls prog 323 #[.int .u32 (x.toNat:Int),O 6] w λ e c=>e=ao (.int .u32 ((ShaM.aN 6 x).toNat:Int))/\c=w:=(Z4 x w).mono λ _ _ ⟨a,b⟩=>⟨a,b.symm⟩
def ZQ(x:UInt32)(w:aa):Calls prog 323 #[.int .u32 (x.toNat:Int),O 7] w λ e c=>e=ao (.int .u32 ((ShaM.aN 7 x).toNat:Int))/\c=w:=(Z6 x w).mono λ _ _ ⟨a,b⟩=>⟨a,b.symm⟩
def ZD(x:UInt32)(w:aa):Calls prog 323 #[.int .u32 (x.toNat:Int),O 11] w λ e c=>e=ao (.int .u32 ((ShaM.aN 11 x).toNat:Int))/\c=w:=(ZT x w).mono λ _ _ ⟨a,b⟩=>⟨a,b.symm⟩
def ZE(x:UInt32)(w:aa):Calls prog 323 #[.int .u32 (x.toNat:Int),O 13] w λ e c=>e=ao (.int .u32 ((ShaM.aN 13 x).toNat:Int))/\c=w:=(ZU x w).mono λ _ _ ⟨a,b⟩=>⟨a,b.symm⟩
def ZG(x:UInt32)(w:aa):Calls prog 323 #[.int .u32 (x.toNat:Int),O 17] w λ e c=>e=ao (.int .u32 ((ShaM.aN 17 x).toNat:Int))/\c=w:=(ZW x w).mono λ _ _ ⟨a,b⟩=>⟨a,b.symm⟩
def Dk(x:UInt32)(w:aa):Calls prog 323 #[.int .u32 (x.toNat:Int),O 18] w λ e c=>e=ao (.int .u32 ((ShaM.aN 18 x).toNat:Int))/\c=w:=(Dm x w).mono λ _ _ ⟨a,b⟩=>⟨a,b.symm⟩
def Dl(x:UInt32)(w:aa):Calls prog 323 #[.int .u32 (x.toNat:Int),O 19] w λ e c=>e=ao (.int .u32 ((ShaM.aN 19 x).toNat:Int))/\c=w:=(Dn x w).mono λ _ _ ⟨a,b⟩=>⟨a,b.symm⟩
def ZI(x:UInt32)(w:aa):Calls prog 323 #[.int .u32 (x.toNat:Int),O 22] w λ e c=>e=ao (.int .u32 ((ShaM.aN 22 x).toNat:Int))/\c=w:=(ZY x w).mono λ _ _ ⟨a,b⟩=>⟨a,b.symm⟩
def ZJ(x:UInt32)(w:aa):Calls prog 323 #[.int .u32 (x.toNat:Int),O 25] w λ e c=>e=ao (.int .u32 ((ShaM.aN 25 x).toNat:Int))/\c=w:=(ZZ x w).mono λ _ _ ⟨a,b⟩=>⟨a,b.symm⟩
variable{b:List UInt8}{k:Nat}
def fw(x:UInt32):ab:= .int .u32 (x.toNat:Int)
def br(l:List UInt32):Array ab:=(l.map fw).toArray
def dd(b:List UInt8)(k:Nat):Array ab:=br (ShaM.wl b k++List.replicate (64-k) 0)
def DU(b:List UInt8):dd b 0=br (List.replicate 64 0):=rfl
def Kh:br (List.replicate 64 0)=#[.int .u32 0,.int .u32 0,.int .u32 0,.int .u32 0,.int .u32 0,.int .u32 0,.int .u32 0,.int .u32 0,.int .u32 0,.int .u32 0,.int .u32 0,.int .u32 0,.int .u32 0,.int .u32 0,.int .u32 0,.int .u32 0,.int .u32 0,.int .u32 0,.int .u32 0,.int .u32 0,.int .u32 0,.int .u32 0,.int .u32 0,.int .u32 0,.int .u32 0,.int .u32 0,.int .u32 0,.int .u32 0,.int .u32 0,.int .u32 0,.int .u32 0,.int .u32 0,.int .u32 0,.int .u32 0,.int .u32 0,.int .u32 0,.int .u32 0,.int .u32 0,.int .u32 0,.int .u32 0,.int .u32 0,.int .u32 0,.int .u32 0,.int .u32 0,.int .u32 0,.int .u32 0,.int .u32 0,.int .u32 0,.int .u32 0,.int .u32 0,.int .u32 0,.int .u32 0,.int .u32 0,.int .u32 0,.int .u32 0,.int .u32 0,.int .u32 0,.int .u32 0,.int .u32 0,.int .u32 0,.int .u32 0,.int .u32 0,.int .u32 0,.int .u32 0]:=by rfl
def DR(b:List UInt8)(k i:Nat)(h:i<k)(a:k<=64):(dd b k)[i]?=some (.int .u32 (((ShaM.wl b k).getD i 0).toNat:Int)):=by
 simp only[dd,br,iL,eI];rw[pO (by rw[ShaM.dK];exact h),eY,ba (by rw[ShaM.dK];exact h)];rfl
def DT(b:List UInt8)(k:Nat)(h:k<64):(dd b k).setIfInBounds k (.int .u32 ((ShaM.hl b (ShaM.wl b k)).toNat:Int))=dd b (k+1):=by
 simp only[dd,br,aH];congr 1;rw[show 64-k=(64-(k+1))+1 by omega,gF];simp only[pR,cw,ShaM.wl];rw[kE _ _ (by simp[ShaM.dK])];simp[ShaM.dK,fw]
def aav(c:UInt8):IntKind.u32.wrap (c.toNat:Int)=(c.toNat:Int):=by
 have:=c.toNat_lt;rw[og];omega
def aaG(a b c d:UInt8):bits .or .u32 (bits .or .u32 (bits .or .u32 (IntKind.u32.wrap (IntKind.u32.wrap (a.toNat:Int)*16777216)) (IntKind.u32.wrap (IntKind.u32.wrap (b.toNat:Int)*65536))) (IntKind.u32.wrap (IntKind.u32.wrap (c.toNat:Int)*256))) (IntKind.u32.wrap (d.toNat:Int))=((ShaM.word a b c d).toNat:Int):=by
 have e:=a.toNat_lt;have f:=b.toNat_lt;have g:=c.toNat_lt;have hd:=d.toNat_lt;simp only[aav];rw[show IntKind.u32.wrap ((a.toNat:Int)*16777216)=((a.toNat*16777216:Nat):Int) by rw[og];omega,
  show IntKind.u32.wrap ((b.toNat:Int)*65536)=((b.toNat*65536:Nat):Int) by rw[og];omega,
  show IntKind.u32.wrap ((c.toNat:Int)*256)=((c.toNat*256:Nat):Int) by rw[og];omega]
 rw[Dq _ _ W W,oX 24 _ _ W W,Dq _ _ W W,oX 16 _ _ W W,Dq _ _ W W,oX 8 _ _ W W];unfold ShaM.word;rw[rI,ik W]
def X4(x:UInt32):(x.toNat:Int)/8=((ShaM.shr 3 x).toNat:Int):=by
 have:=x.toNat_lt;unfold ShaM.shr;simp_all
def X3(x:UInt32):(x.toNat:Int)/1024=((ShaM.shr 10 x).toNat:Int):=by
 have:=x.toNat_lt;unfold ShaM.shr;simp_all
def xt(b:List UInt8)(k:Nat)(h:k<16):ShaM.hl b (ShaM.wl b k)=ShaM.word (b.getD (4*k) 0) (b.getD (4*k+1) 0) (b.getD (4*k+2) 0) (b.getD (4*k+3) 0):=by
 unfold ShaM.hl;rw[ShaM.dK,ax h]
def xr(b:List UInt8)(k:Nat)(h:¬k<16):ShaM.hl b (ShaM.wl b k)=(ShaM.wl b k).getD (k-16) 0+(ShaM.wl b k).getD (k-7) 0+ShaM.uI ((ShaM.wl b k).getD (k-15) 0)+ShaM.uJ ((ShaM.wl b k).getD (k-2) 0):=by
 unfold ShaM.hl;rw[ShaM.dK,aj h]
def vb(b:List UInt8)(k:Nat)(h:k<64):(dd b k)[k]?=some (.int .u32 0):=by
 simp only[dd,br,iL,eI];rw[kD (by rw[ShaM.dK];omega),ShaM.dK,qc,List.getElem?_replicate,ax W];rfl
def Te:(prog.info? 380).map (·.size)=some 64:=by kernel_rfl
def yv(l:List UInt32):(br l).size=l.length:=by simp[br]
def DQ(b:List UInt8):dd b 64=br (ShaM.wl b 64):=by simp[dd]
def Dx(l:List UInt32):∀v∈(br l).toList,v.oneCell'=true:=by
 intro v a;simp only[br,ep] at a;obtain⟨_,_,rfl⟩:=a;rfl
structure na(w wr:aa)(b:List UInt8)(k:Nat):Prop where
 aK:BW w wr
 z:ah wr w.heap.size 380 (br (List.replicate 64 0))
 r:ah wr (w.heap.size+1) 380 (dd b k)
def na.draw{w wr:aa}(h:na w wr b k)(n:Nat):na w (wr.drewN n) b k:=⟨gp h.aK n,h.z,h.r⟩
def na.put{w wr:aa}(h:na w wr b k)(a:k<64)(v:Int)(c:v=((ShaM.hl b (ShaM.wl b k)).toNat:Int)):na w (wr.setCell ⟨w.heap.size+1,k,none⟩ (.int .u32 v)) b (k+1):=by
 subst c;refine⟨h.aK.setCell zS _,h.z.cG zS _,?_⟩;rw[<-DT b k a];exact h.r.cN k _
def X2(g o:Nat)(b:List UInt8)(n:b.length=64)(w:aa)(p:∀i,i<64->w.cell? ⟨g,o+i,none⟩=some (.int .u8 ((b.getD i 0).toNat:Int))):
 CB 322 #[.pointer (some ⟨g,o,none⟩)] w (aG (br (ShaM.wl b 64))):=by
 have j:g<w.heap.size:=ER w _ (p 0 W)
 have f:=Z p;clear p
 go_enter func322,ntmps322
 go_wp2
 rw[<-Kh]
 go_loopw [8] (λ i wr=>∃k:Nat,k<=16/\i=O k/\na w wr b k) (λ i _=>16-(intOf i).toNat)
 case atStart=>exact⟨0,by omega,rfl,⟨(((bz _ _).alloc (aW _) _).alloc zS _),(ah.new w 380 _).alloc _,by rw[DU];exact fC w _ 380 _⟩⟩
 case round=>
  obtain⟨k,u,rfl,a⟩:=hrel
  by_cases r:k<16
  ·have T:wr.cell? ⟨g,o+4*k,none⟩=some (.int .u8 ((b.getD (4*k) 0).toNat:Int)):=by rw[a.aK.cell (by exact j)];exact f.U (4*k) W
   have X:wr.cell? ⟨g,o+(4*k+1),none⟩=some (.int .u8 ((b.getD (4*k+1) 0).toNat:Int)):=by rw[a.aK.cell (by exact j)];exact f.U (4*k+1) W
   have s:wr.cell? ⟨g,o+(4*k+2),none⟩=some (.int .u8 ((b.getD (4*k+2) 0).toNat:Int)):=by rw[a.aK.cell (by exact j)];exact f.U (4*k+2) W
   have a1:wr.cell? ⟨g,o+(4*k+3),none⟩=some (.int .u8 ((b.getD (4*k+3) 0).toNat:Int)):=by rw[a.aK.cell (by exact j)];exact f.U (4*k+3) W
   have q:=a.r.frozen k
   have l:wr.cell? ⟨w.heap.size+1,k,none⟩=some (.int .u32 0):=by rw[a.r.cell];exact vb b k W
   have e:=xt b k r
   generalize b.getD (4*k) 0=x0 at*
   generalize b.getD (4*k+1) 0=x1 at*
   generalize b.getD (4*k+2) 0=x2 at*
   generalize b.getD (4*k+3) 0=x3 at*
   have m:=Z e;have d:=Z a
   clear e a
   have L:IntKind.i64.wrap (4*(k:Int))=4*(k:Int):=bd _ W
   have M:IntKind.i64.wrap (4*(k:Int)+1)=4*(k:Int)+1:=bd _ W
   have F:IntKind.i64.wrap (4*(k:Int)+2)=4*(k:Int)+2:=bd _ W
   have R:IntKind.i64.wrap (4*(k:Int)+3)=4*(k:Int)+3:=bd _ W
   have t0:(4*(k:Int)).toNat=4*k:=by omega
   have t1:(4*(k:Int)+1).toNat=4*k+1:=by omega
   have t2:(4*(k:Int)+2).toNat=4*k+2:=by omega
   have t3:(4*(k:Int)+3).toNat=4*k+3:=by omega
   have p0:(0:Int)<=4*(k:Int):=by omega
   have p1:(0:Int)<=4*(k:Int)+1:=by omega
   have p2:(0:Int)<=4*(k:Int)+2:=by omega
   have p3:(0:Int)<=4*(k:Int)+3:=by omega
   have H:(0:Int)<=(k:Int):=by omega
   have I:(k:Int)<64:=by omega
   have a6:4*(k:Int)<64:=by omega
   have a7:4*(k:Int)+1<64:=by omega
   have G:4*(k:Int)+2<64:=by omega
   have b0:4*(k:Int)+3<64:=by omega
   go_wp2
   go_still_tail 39,zR
   show wpList _ _ _ _ _ wr.drew
   go_wp2
   go_roundw
   case rel=>exact⟨k+1,by omega,by go_num,(d.U.draw 1).put W _ (by rw[m.U];exact aaG x0 x1 x2 x3)⟩
   case measure=>simp[intOf];omega
  ·obtain rfl:k=16:=by omega
   have d:=Z a;clear a
   go_wp2
   rw[show((16:Nat):Int)=16 from rfl]
   go_loopw [5] (λ i wr=>∃k:Nat,16<=k/\k<=64/\i=O k/\na w wr b k) (λ i _=>64-(intOf i).toNat)
   case atStart=>exact⟨16,by omega,by omega,rfl,d.U⟩
   case round=>
    clear d r u
    obtain⟨k,a4,u,rfl,a⟩:=hrel
    by_cases r:k<64
    ·have c:=λ i (h:i<k)=>(a.r.cell i).trans (DR b k i h W)
     have t:=c (k-15) W
     have s:=c (k-2) W
     have h:=c (k-16) W
     have i:=c (k-7) W
     have q:=a.r.frozen k
     have l:wr.cell? ⟨w.heap.size+1,k,none⟩=some (.int .u32 0):=by rw[a.r.cell];exact vb b k W
     have e:=xr b k W
     generalize(ShaM.wl b k).getD (k-15) 0=x at*
     generalize(ShaM.wl b k).getD (k-2) 0=y at*
     generalize(ShaM.wl b k).getD (k-16) 0=v at*
     generalize(ShaM.wl b k).getD (k-7) 0=z at*
     have m:=Z e;have d:=Z a
     clear e a c
     have N:IntKind.i64.wrap ((k:Int)-15)=(k:Int)-15:=bd _ W
     have F:IntKind.i64.wrap ((k:Int)-2)=(k:Int)-2:=bd _ W
     have Q:IntKind.i64.wrap ((k:Int)-16)=(k:Int)-16:=bd _ W
     have S:IntKind.i64.wrap ((k:Int)-7)=(k:Int)-7:=bd _ W
     have t15:((k:Int)-15).toNat=k-15:=by omega
     have t2:((k:Int)-2).toNat=k-2:=by omega
     have t16:((k:Int)-16).toNat=k-16:=by omega
     have t7:((k:Int)-7).toNat=k-7:=by omega
     have p2:(0:Int)<=(k:Int)-2:=by omega
     have a8:(k:Int)-15<64:=by omega
     have G:(k:Int)-2<64:=by omega
     have a9:(k:Int)-16<64:=by omega
     have b1:(k:Int)-7<64:=by omega
     have m15:(15:Int)<=(k:Int):=by omega
     have m2:(2:Int)<=(k:Int):=by omega
     have m16:(16:Int)<=(k:Int):=by omega
     have m7:(7:Int)<=(k:Int):=by omega
     have H:(0:Int)<=(k:Int):=by omega
     have I:(k:Int)<64:=by omega
     have U2:=nw;have J:=X4;have K:=X3
     go_wp2
     go_quiet (fail)
     go_wp2
     obtain⟨c,e⟩:∃c,wr.drewN nq=c:=⟨_,rfl⟩
     rw[e]
     have E:ai (na w c b k):=Z (by rw[<-e];exact d.U.draw nq)
     have a0:c.cell? ⟨w.heap.size+1,k-16,none⟩=some (.int .u32 v.toNat):=by rw[<-e];exact h
     have a2:c.cell? ⟨w.heap.size+1,k-7,none⟩=some (.int .u32 z.toNat):=by rw[<-e];exact i
     have a5:c.cell? ⟨w.heap.size+1,k,none⟩=some (.int .u32 0):=by rw[<-e];exact l
     have a3:c.frozen? ⟨w.heap.size+1,k,none⟩=false:=by rw[<-e];exact q
     clear e d t s h i l q
     go_still_tail 29,zR
     still_call (ZQ x _)
     repeat still_step
     still_call (Dk x _)
     repeat still_step
     still_call (ZG y _)
     repeat still_step
     still_call (Dl y _)
     repeat still_step
     refine uZ ?_
     show wpList _ _ _ _ _ c.drew
     go_wp2
     go_roundw
     case rel=>exact⟨k+1,by omega,by omega,by go_num,(E.U.draw 1).put W _ (by rw[m.U];exact FD v z _ _)⟩
     case measure=>simp[intOf];omega
    ·obtain rfl:k=64:=by omega
     obtain⟨e,h,i⟩:=a
     rw[DQ] at i
     have A:(br (ShaM.wl b 64)).size=64:=by rw[yv,ShaM.dK]
     have t:(prog.info? 380).map (·.size)=some (br (ShaM.wl b 64)).size:=by rw[A];exact Te
     have l:=dJ (P:=prog) h (br (ShaM.wl b 64)) (by rw[A,yv,ej]) (Dx _)
     have q:=h.setRow (br (ShaM.wl b 64))
     have n:=bY e (aW _) (br (ShaM.wl b 64))
     generalize s:br (ShaM.wl b 64)=d at*
     have D:=Z s;clear s
     have B:=Z q;have C:=Z n
     clear e q n
     go_wp2_with(refine bO rfl 380 (Operand.tmp 3) rfl (w.heap.size+1) rfl 380 d (0,0) _ i EL rfl t ?_)
     exact cq (v:= .agg d) (fL results322 _ _ w.heap.size 380 d (0,0) _ rfl B.U EL rfl t) rfl ⟨by rw[D.U],C.U⟩
variable{m:List Nat}
def nP(on:Bool)(s:List UInt32)(left:List UInt8)(n:Nat):List ab:=Value.bool on::(s.map fw++(ca left++[O (n:Int)]))
def cX(on:Bool)(s:List UInt32)(left:List UInt8)(n:Nat):Array ab:=(nP on s left n).toArray
section
variable{on:Bool}{s:List UInt32}{left:List UInt8}{n:Nat}
def Jn(b:s.length=8)(a:left.length=64):(cX on s left n).size=74:=by simp[cX,nP,ca,b,a]
def CS:∀v∈(cX on s left n).toList,v.oneCell'=true:=by
 intro v a;simp only[cX,nP,bV,eJ,ep,ca,rz,sz] at a;rcases a with rfl|⟨x,_,rfl⟩|⟨x,_,rfl⟩|rfl<;>rfl
def WV:(cX on s left n)[0]?=some (aF on):=by rfl
def WW(b:s.length=8)(i:Nat)(a:i<8):(cX on s left n)[1+i]?=some (.int .u32 ((s.getD i 0).toNat:Int)):=by
 rw[rB 1 i];simp only[cX,nP,iL,mV];rw[pO (by grind),eI,ba W,eY,ba W];rfl
def WQ(a:s.length=8)(c:left.length=64)(i:Nat)(b:i<64):(cX on s left n)[9+i]?=some (.int .u8 ((left.getD i 0).toNat:Int)):=by
 rw[show 9+i=(8+i)+1 by omega];simp only[cX,nP,iL,mV];rw[kD (by simp[a]),cR,a,Ev,pO (by simp[ca,c,b])];simp only[ca,eI];grind
def WU(b:s.length=8)(a:left.length=64):(cX on s left n)[73]?=some (O (n:Int)):=by
 simp only[cX,nP,iL];rw[show 73=72+1 from rfl,mV,kD (by simp[b]),cR,b,kD (by simp[ca,a])];simp[ca,a]
def XZ(b:Bool):(cX on s left n).setIfInBounds 0 (aF b)=cX b s left n:=by rfl
def X0(b:s.length=8)(i:Nat)(a:i<8)(x:UInt32):(cX on s left n).setIfInBounds (1+i) (.int .u32 (x.toNat:Int))=cX on (s.set i x) left n:=by
 rw[rB 1 i];simp only[cX,nP,aH,ay];rw[List.set_append_left _ _ (by grind),mW];rfl
def XX(a:s.length=8)(d:left.length=64)(i:Nat)(b:i<64)(c:UInt8):(cX on s left n).setIfInBounds (9+i) (.int .u8 (c.toNat:Int))=cX on s (left.set i c) n:=by
 rw[show 9+i=(8+i)+1 by omega];simp only[cX,nP,aH,ay];rw[kE _ _ (by simp[a]),cR,a,Ev,List.set_append_left _ _ (by simp[ca,d,b])];simp only[ca,mW]
def XY(b:s.length=8)(a:left.length=64)(m:Nat):(cX on s left n).setIfInBounds 73 (O (m:Int))=cX on s left m:=by
 simp only[cX,nP,aH];rw[show 73=72+1 from rfl,mX,kE _ _ (by simp[b]),cR,b,kE _ _ (by simp[ca,a])];simp[ca,a]
end
def vl(v:ShaM.V8):List UInt32:=[v.a,v.b,v.c,v.d,v.e,v.f,v.g,v.h]
def DE(v:ShaM.V8):(vl v).length=8:=rfl
section
variable{w w':aa}{g:Nat}{on:Bool}{s:List UInt32}{left:List UInt8}{n:Nat}
def RB(w:aa)(g:Nat)(on:Bool)(s:List UInt32)(left:List UInt8)(n:Nat):Prop:=ah w g 358 (cX on s left n)/\s.length=8/\left.length=64
def RB.QV(h:RB w g on s left n):w.cell? ⟨g,0,none⟩=some (aF on):=(h.1.cell 0).trans WV
def RB.gS(h:RB w g on s left n)(i:Nat)(a:i<8):w.cell? ⟨g,1+i,none⟩=some (.int .u32 ((s.getD i 0).toNat:Int)):=(h.1.cell _).trans (WW h.2.1 i a)
def RB.gL(h:RB w g on s left n)(i:Nat)(a:i<64):w.cell? ⟨g,9+i,none⟩=some (.int .u8 ((left.getD i 0).toNat:Int)):=(h.1.cell _).trans (WQ h.2.1 h.2.2 i a)
def RB.gN(h:RB w g on s left n):w.cell? ⟨g,73,none⟩=some (O (n:Int)):=(h.1.cell _).trans (WU h.2.1 h.2.2)
def RB.fr(h:RB w g on s left n)(i:Nat):w.frozen? ⟨g,i,none⟩=false:=h.1.frozen i
def RB.Ke(h:RB w g on s left n)(b:Bool):RB (w.setCell ⟨g,0,none⟩ (aF b)) g b s left n:=⟨by rw[<-XZ (on:=on)];exact h.1.cN 0 _,h.2⟩
def RB.nV(h:RB w g on s left n)(i:Nat)(a:i<8)(x:UInt32):RB (w.setCell ⟨g,1+i,none⟩ (.int .u32 (x.toNat:Int))) g on (s.set i x) left n:=
 ⟨by rw[<-X0 h.2.1 i a];exact h.1.cN _ _,by simp[h.2.1],h.2.2⟩
def RB.XU(h:RB w g on s left n)(i:Nat)(a:i<64)(c:UInt8):RB (w.setCell ⟨g,9+i,none⟩ (.int .u8 (c.toNat:Int))) g on s (left.set i c) n:=
 ⟨by rw[<-XX h.2.1 h.2.2 i a];exact h.1.cN _ _,h.2.1,by simp[h.2.2]⟩
def RB.eU(h:RB w g on s left n)(m:Nat):RB (w.setCell ⟨g,73,none⟩ (O (m:Int))) g on s left m:=⟨by rw[<-XY h.2.1 h.2.2];exact h.1.cN _ _,h.2⟩
def RB.XW(h:RB w g on s left n)(v:ShaM.V8):RB (w.setCells g 1 ((vl v).map fw)) g on (vl v) left n:=by
 have a:=(((((((h.nV 0 zD v.a).nV 1 zD v.b).nV 2 zD v.c).nV 3 zD v.d).nV 4 zD v.e).nV 5 zD v.f).nV 6 zD v.g).nV 7 zD v.h;have b:=h.2.1
 match s,b with
 |[c,d,e,f,i,j,k,l],_=>exact a
def RB.range(h:RB w g on s left n):w.rangeAt g 1 (s.map fw):=by
 intro j v a;have b:j<8:=by
  have:=(ed.1 a).1;rw[cR,h.2.1] at this;exact this
 rw[h.gS j b,<-a,eI,ba (by grind),eY,ba (by grind)];rfl
def RB.there(h:RB w g on s left n):w.there g 1 8:=λ j a=>⟨by rw[h.gS j a];rfl,h.fr _⟩
def RB.lt(h:RB w g on s left n):g<w.heap.size:=h.1.lt
def RB.below(h:RB w g on s left n)(a:BW w w'):RB w' g on s left n:=⟨(a.block g h.lt).trans h.1,h.2⟩
def RB.drewN(h:RB w g on s left n)(q:Nat):RB (w.drewN q) g on s left n:=h
def RB.alloc(h:RB w g on s left n)(o:Obj):RB (w.alloc o) g on s left n:=⟨h.1.alloc o,h.2⟩
def RB.setRow(h:RB w g on s left n){k:Nat}(b:g≠k)(a:Array ab):RB (w.setRow k a) g on s left n:=⟨h.1.cJ a b,h.2⟩
end
structure cp(w:aa):Prop where
 b:∃t fr,w.heap[5]?=some (.cells (br (vl ShaM.fl)) t fr)
 k:∃t fr,w.heap[6]?=some (.cells (br ShaM.K) t fr)
def cp.lt{w:aa}(h:cp w):7<=w.heap.size:=by
 obtain⟨_,t,a,h⟩:=h;grind
def cp.key{w:aa}(h:cp w)(i:Nat)(a:i<64):w.cell? ⟨6,i,none⟩=some (.int .u32 ((ShaM.K.getD i 0).toNat:Int)):=by
 obtain⟨_,t,b,h⟩:=h;rw[nx _ _ _ _ _ _ h];simp only[br,iL,eI];rw[ba (by exact a),eY,ba (by exact a)];rfl
def cp.below{w w':aa}(h:cp w)(a:BW w w'):cp w':=by
 have:=h.lt;obtain⟨⟨t,b,d⟩,f,c,e⟩:=h;exact⟨⟨t,b,(a.block 5 W).trans d⟩,f,c,(a.block 6 W).trans e⟩
def cp.only{w w':aa}{B:Nat}(h:cp w)(a:aR B m w w')(f:7<=B)(d:5∉m)(h1:6∉m):cp w':=by
 obtain⟨⟨t,b,e1⟩,e,c,e2⟩:=h;exact⟨⟨t,b,(a.block 5 W d).trans e1⟩,e,c,(a.block 6 W h1).trans e2⟩
variable{g n:Nat}
def A7(x:UInt32):bits .xor .u32 (if IntKind.u32.signed=true then-1 else IntKind.u32.max) (x.toNat:Int)=((mI x).toNat:Int):=A6 x
def acc(s t:List UInt32)(k:Nat):List UInt32:=(List.zipWith (λ x y=>x+y) s t).take k++s.drop k
def vU(x y:ShaM.V8):acc (vl x) (vl y) 8=vl (ShaM.gX x y):=rfl
def AJ(s t:List UInt32)(k:Nat)(a:s.length=8)(b:t.length=8)(c:k<=8):(acc s t k).length=8:=by simp[acc,a,b];omega
def vV(s t:List UInt32)(k:Nat)(b:s.length=8)(c:t.length=8)(a:k<8):(acc s t k).getD k 0=s.getD k 0:=by
 simp only[acc,eY];grind
def vX(s t:List UInt32)(k:Nat)(b:s.length=8)(c:t.length=8)(d:k<8):(acc s t k).set k (s.getD k 0+t.getD k 0)=acc s t (k+1):=by
 have a:((List.zipWith (λ x y=>x+y) s t).take k).length=k:=by simp[b,c];omega
 unfold acc;rw[kE _ _ W,a,qc,gE W,lM,dC (by grind),Eo,di];grind
def Hs(v:ShaM.V8)(w:aa):∀k:Nat,k<8->(Instr.index 355 (aG (br (vl v))) (O (k:Int))).run prog w= .ok (.int .u32 (((vl v).getD k 0).toNat:Int)) w
 |0,_=>by kernel_rfl
 |1,_=>by kernel_rfl
 |2,_=>by kernel_rfl
 |3,_=>by kernel_rfl
 |4,_=>by kernel_rfl
 |5,_=>by kernel_rfl
 |6,_=>by kernel_rfl
 |7,_=>by kernel_rfl
 |k+8,h=>absurd h W
def jL(x y:UInt32):UInt32:=x+y
def wi(a b:UInt32):((a.toNat:Int)+(b.toNat:Int))%4294967296=((jL a b).toNat:Int):=wj a b
def Hu:(prog.info? 355).map (·.size)=some 8:=by kernel_rfl
def tX(v:ShaM.V8):(prog.info? 355).map (·.size)=some (br (vl v)).size:=Hu
def Ht(v:ShaM.V8):(prog.info? 355).map (·.size)=some ((vl v).map fw).length:=Hu
def uX(v:ShaM.V8):(br (vl v)).all (·.oneCell')=true:=by simp[br,vl,fw,Value.oneCell']
def Zs{w:aa}{on:Bool}{s:List UInt32}{left:List UInt8}(h:RB w g on s left n)(v:ShaM.V8):w.there g 1 (br (vl v)).size:=h.there
def VN(w:aa)(g o:Nat)(a:List ab):aR w.heap.size [g] w (w.setCells g o a):=by
 have h:=C6 g a o w;exact⟨h.2.1,h.1,h.2.2.1,by omega,λ k b c=>ES w g o a b (by grind)⟩
def mN:Array ab:=#[.int .u32 0,.int .u32 0,.int .u32 0,.int .u32 0,.int .u32 0,.int .u32 0,.int .u32 0,.int .u32 0]
def aR.setRow{B:Nat}{l:List Nat}{a w:aa}(h:aR B l a w){g:Nat}(e:g∈l\/B<=g)(b:Array ab):aR B l a (w.setRow g b):=
 h.trans ⟨rfl,rfl,rfl,by simp,λ k c d=>C7 w g k b (by grind)⟩
def Iq(a:7<=g):5∉[g]/\6∉[g]:=⟨by grind,by grind⟩
def Dw(l:List UInt32)(i:Nat)(h:i<l.length):(br l)[i]?=some (.int .u32 ((l.getD i 0).toNat:Int)):=by
 simp only[br,iL,eI];rw[ba h,eY,ba h];rfl
def cp.grow{w b:aa}(h:cp w)(c:aR w.heap.size [g] w b)(a:7<=g):cp b:=h.only c h.lt (Iq a).1 (Iq a).2
def Xq(k:Nat)(f:k<32)(x:UInt32):(ShaM.aN k x).toNat/2+(ShaM.aN k x).toNat%2*2147483648=(ShaM.aN (k+1) x).toNat:=by
 rw[sI k W,sI (k+1) W];have c:2^(32-k)=2*2^(32-(k+1)):=by rw[show 32-k=(32-(k+1))+1 by omega,fk,jU]
 have b:2^k*2^(32-(k+1))=2147483648:=by rw[<-kH,show k+(32-(k+1))=31 by omega]
 have a:2^(k+1)=2^k*2:=by omega
 have hd:x.toNat/2^(k+1)=x.toNat/2^k/2:=by rw[a,lP]
 have d:x.toNat%2^(k+1)=x.toNat%2^k+2^k*(x.toNat/2^k%2):=by rw[a,Nat.mod_mul]
 rw[hd,d,c,kG];have e:2^k*(x.toNat/2^k%2)*2^(32-(k+1))=x.toNat/2^k%2*2147483648:=by rw[<-b];ac_rfl
 grind
def Xr(x:UInt32):ShaM.aN 0 x=x:=by
 apply UInt32.toNat_inj.1;rw[sI 0 W];omega
def C8(k:Nat)(x:UInt32):(ShaM.shr k x).toNat=x.toNat/2^k:=by
 unfold ShaM.shr;have:=x.toNat_lt;have h:=zy x.toNat (2^k);rw[rI,ik W]
def X7(k:Nat)(x:UInt32):(ShaM.shr k x).toNat/2=(ShaM.shr (k+1) x).toNat:=by
 rw[C8,C8,fk,lP]
def X8(x:UInt32):ShaM.shr 0 x=x:=by
 apply UInt32.toNat_inj.1;rw[C8];simp
def CV(x:UInt32)(n:Int)(c:0<=n)(h1:n<=31)(w:aa):
 Calls prog 110 #[.int .u32 (x.toNat:Int),O n] w λ e a=>e=ao (.int .u32 ((ShaM.aN n.toNat x).toNat:Int))/\a=w:=by
 go_enter func110,ntmps110
 go_wp2
 go_loop [0,5] (λ y i=>∃k:Nat,(k:Int)<=n/\i=O k/\y= .int .u32 ((ShaM.aN k x).toNat:Int)) (λ _ i=>n.toNat-(intOf i).toNat)
 case atStart=>exact⟨0,by omega,rfl,by rw[Xr]⟩
 case round=>
  obtain⟨k,d,rfl,rfl⟩:=hrel
  by_cases e:(k:Int)<n
  ·have b:=Z (Xq k W x)
   generalize ShaM.aN k x=r at*
   have f:=r.toNat_lt
   go_wp2
   go_round
   case rel=>exact⟨k+1,by omega,by go_num,by rw[<-b.U];rfl⟩
   case measure=>simp[intOf];omega
  ·have a:ai (n.toNat=k):=Z W
   go_wp2
   go_ret
   exact⟨by rw[a.U];rfl,rfl⟩
def O4(x:UInt32)(n:Int)(c:0<=n)(h1:n<=31)(w:aa):
 Calls prog 111 #[.int .u32 (x.toNat:Int),O n] w λ e a=>e=ao (.int .u32 ((ShaM.shr n.toNat x).toNat:Int))/\a=w:=by
 go_enter func111,ntmps111
 go_wp2
 go_loop [0,5] (λ y i=>∃k:Nat,(k:Int)<=n/\i=O k/\y= .int .u32 ((ShaM.shr k x).toNat:Int)) (λ _ i=>n.toNat-(intOf i).toNat)
 case atStart=>exact⟨0,by omega,rfl,by rw[X8]⟩
 case round=>
  obtain⟨k,d,rfl,rfl⟩:=hrel
  by_cases e:(k:Int)<n
  ·have b:=Z (X7 k x)
   generalize ShaM.shr k x=r at*
   have f:=r.toNat_lt
   go_wp2
   go_round
   case rel=>exact⟨k+1,by omega,by go_num,by rw[<-b.U];rfl⟩
   case measure=>simp[intOf];omega
  ·have a:ai (n.toNat=k):=Z W
   go_wp2
   go_ret
   exact⟨by rw[a.U];rfl,rfl⟩
def Xl(x:UInt32)(n:Int)(c:0<=n)(h1:n<=31)(w:aa):
 Calls prog 110 #[.int .u32 (x.toNat:Int),O n] w λ e a=>e=ao (.int .u32 ((ShaM.aN n.toNat x).toNat:Int))/\w=a:=(CV x n c h1 w).mono λ _ _ ⟨a,b⟩=>⟨a,b.symm⟩
def O3(x:UInt32)(n:Int)(c:0<=n)(h1:n<=31)(w:aa):
 Calls prog 111 #[.int .u32 (x.toNat:Int),O n] w λ e a=>e=ao (.int .u32 ((ShaM.shr n.toNat x).toNat:Int))/\w=a:=(O4 x n c h1 w).mono λ _ _ ⟨a,b⟩=>⟨a,b.symm⟩
def gj(a:Nat)(w:aa)(v:ab)(l:List UInt32):Prop:=∃g b,v=ad (some ⟨g,0,none⟩) l.length b/\a<=g/\g<w.heap.size/\∀i,i<l.length->w.cell? ⟨g,i,none⟩=some (.int .u32 ((l.getD i 0).toNat:Int))
def gj.mono{w:aa}{v:ab}{l:List UInt32}(h:gj g w v l)(e:n<=g):gj n w v l:=by
 obtain⟨b,a,c,d,r⟩:=h;exact⟨b,a,c,by omega,r⟩
def gj.new(w:aa)(t:TypeId)(l:List UInt32)(b:Nat):gj w.heap.size (w.alloc (.cells (br l) t)) (ad (some ⟨w.heap.size,0,none⟩) l.length b) l:=
 ⟨_,_,rfl,aW _,by simp,λ i a=>by
  rw[(ah.new w t (br l)).cell]
  simp only[br,iL,eI]
  rw[ba a,eY,ba a];rfl⟩
def NN(x:UInt32):(4294967295:Int)-(x.toNat:Int)=((mI x).toNat:Int):=yu x
def NM(x:UInt32):(x.toNat:Int)%4294967296=(x.toNat:Int):=by have:=x.toNat_lt;omega
def QW(a b c d e:UInt32):(((a.toNat:Int)+(b.toNat:Int)+(c.toNat:Int)+(d.toNat:Int))%4294967296+(e.toNat:Int))%4294967296=((a+b+c+d+e).toNat:Int):=by
 rw[oD,oD,oD,oD];omega
def NO(a b c:UInt32):((a.toNat:Int)+((b.toNat:Int)+(c.toNat:Int)))%4294967296=((a+(b+c)).toNat:Int):=by
 rw[oD,oD];omega
def gj.Vp(w:aa)(t:TypeId)(a b c d e f g h:UInt32):gj w.heap.size (w.alloc (.cells #[.int .u32 (a.toNat:Int),.int .u32 (b.toNat:Int),.int .u32 (c.toNat:Int),.int .u32 (d.toNat:Int),.int .u32 (e.toNat:Int),.int .u32 (f.toNat:Int),.int .u32 (g.toNat:Int),.int .u32 (h.toNat:Int)] t)) (ad (some ⟨w.heap.size,0,none⟩) 8 8) [a,b,c,d,e,f,g,h]:=gj.new w t [a,b,c,d,e,f,g,h] 8
def vQ(w:aa)(l:List UInt32)(e:Ending)(a:aa):Prop:=(∃v,e=ao v/\gj w.heap.size a v l)/\BW w a
def Xs{w:aa}{base:Nat}{x:ab}{v:ShaM.V8}(h:gj base w x (vl v))(k l:UInt32):
 Calls prog 41 #[x,.int .u32 (k.toNat:Int),.int .u32 (l.toNat:Int)] w (vQ w (vl (ShaM.mB v k l))):=by
 obtain⟨g,r,rfl,-,m,i⟩:=h
 obtain⟨a,b,c,d,e,f,j,h⟩:=v
 have s:w.cell? ⟨g,0,none⟩=some (.int .u32 (a.toNat:Int)):=i 0 (show 0<8 by decide)
 have t:w.cell? ⟨g,1,none⟩=some (.int .u32 (b.toNat:Int)):=i 1 (show 1<8 by decide)
 have u:w.cell? ⟨g,2,none⟩=some (.int .u32 (c.toNat:Int)):=i 2 (show 2<8 by decide)
 have y:w.cell? ⟨g,3,none⟩=some (.int .u32 (d.toNat:Int)):=i 3 (show 3<8 by decide)
 have z:w.cell? ⟨g,4,none⟩=some (.int .u32 (e.toNat:Int)):=i 4 (show 4<8 by decide)
 have A:w.cell? ⟨g,5,none⟩=some (.int .u32 (f.toNat:Int)):=i 5 (show 5<8 by decide)
 have B:w.cell? ⟨g,6,none⟩=some (.int .u32 (j.toNat:Int)):=i 6 (show 6<8 by decide)
 have C:w.cell? ⟨g,7,none⟩=some (.int .u32 (h.toNat:Int)):=i 7 (show 7<8 by decide)
 clear i m
 have o:=nw;have U2:=rR;have p:=NN;have q:=NM
 rw[show(vl ⟨a,b,c,d,e,f,j,h⟩).length=8 from rfl]
 go_enter func41,ntmps41
 go_wp2
 go_quiet (fail)
 go_wp2
 go_quiet ((go_at_call 110;exact(CV e _ zD zD _).mono λ _ _ ⟨m,n⟩=>⟨m,_,n⟩))
 rw[QW]
 generalize i:h+dz (dz (ShaM.aN 6 e) (ShaM.aN 11 e)) (ShaM.aN 25 e)+dz (fh e f) (fh (mI e) j)+k+l=X
 have m:ai (ShaM.rx ⟨a,b,c,d,e,f,j,h⟩ k l=X):=Z i
 clear i
 go_wp2_with((go_at_call 110;refine(CV a _ zD zD _).mono ?_;rintro e D ⟨rfl,rfl⟩))
 rw[NO,wj d X]
 have i:vl (ShaM.mB ⟨a,b,c,d,e,f,j,h⟩ k l)=[X+(dz (dz (ShaM.aN 2 a) (ShaM.aN 13 a)) (ShaM.aN 22 a)+dz (dz (fh a b) (fh a c)) (fh b c)),a,b,c,d+X,e,f,j]:=by
  unfold ShaM.mB;rw[m.U];rfl
 have n:=Z i;clear i
 go_ret
 exact⟨⟨_,rfl,by rw[n.U];exact gj.Vp (w.drewN _) 95 _ _ _ _ _ _ _ _⟩,(gp (bz _ _) _).alloc (aW _) _⟩
variable{a:Act}{B:Array Bool}{r:Int}{o:Oper}{t:TypeId}
def Ld:(prog.info? 95).map (λ i=>(i.zero,i.size,i.bytes))=some (some (.int .u32 0),1,4):=by kernel_rfl
def aau(l m:List UInt32):(l++m).map fw=l.map fw++m.map fw:=by simp
structure gl(w wr:aa)(v:ab)(l:List UInt32):Prop where
 own:wr.ownsRow w.heap.size 95 1 v l.length (l.map fw)
 aK:BW w wr
def IK{w:aa}{size:Nat}{v:ab}{a:List ab}(h:w.ownsRow g t size v n a)(o:Obj):(w.alloc o).ownsRow g t size v n a:=xG h (bJ w o)
section
variable{w wr w3:aa}{v v':ab}{l:List UInt32}
def gl.drewN(h:gl w wr v l)(q:Nat):gl w (wr.drewN q) v l:=⟨h.own,gp h.aK q⟩
def gl.append{X:aa}(h:gl w wr v l)(a:BW wr X)(x:UInt32)(n:Int)(e:n=(x.toNat:Int))(f:w3.ownsRow w.heap.size 95 1 v' (l.length+1) (l.map fw++[.int .u32 n]))(c:X.grownBy w3 v.ownBlock):gl w w3 v' (l++[x]):=by
 subst e;refine⟨?_,?_⟩
 ·rw[bA,aau];exact f
 ·have b:=h.aK.size;exact(h.aK.trans (a.mono b)).grown c (iM b a.size) (λ k d=>(h.own.lt k d).1)
def gl.ML{X:aa}(h:gl w wr v l)(a:BW wr X)(x:UInt32)(c:l.length=g)(e:w3.ownsRow w.heap.size 95 1 v' (g+1) (l.map fw++[.int .u32 r]))(b:X.grownBy w3 v.ownBlock)(d:r=(x.toNat:Int)):gl w w3 v' (l++[x]):=by
 subst c;exact h.append a x r d e b
def gl.form(h:gl w wr v l)(m:0<l.length):∃g a,v=ad (some ⟨g,0,none⟩) l.length a/\w.heap.size<=g/\g<wr.heap.size/\∀i,i<l.length->wr.cell? ⟨g,i,none⟩=some (.int .u32 ((l.getD i 0).toNat:Int)):=by
 rcases h.own.2 with⟨b,f⟩|⟨g,a,j,b,d,e,f,n,k,o⟩
 ·omega
 ·refine⟨g,a,b,d,(lG.1 e).1,λ i c=> ?_⟩;subst b;have:=h.own.cells rfl i (.int .u32 ((l.getD i 0).toNat:Int)) (by rw[eI,ba c,eY,ba c];rfl);rw[iF,eu] at this;exact this
def gl.post(h:gl w wr v l)(e:0<l.length):vQ w l (ao v) wr:=by
 obtain⟨g,a,f,b,d,c⟩:=h.form e;exact⟨⟨v,rfl,g,a,f,b,d,c⟩,h.aK⟩
end
def NX(w:aa)(u:ab)(t:TypeId):(w.alloc (.cells #[u] t)).cell? ⟨w.heap.size,0,none⟩=some u:=by rw[(ah.new w t #[u]).cell];rfl
def FF(w:aa)(u:ab)(t:TypeId):(w.alloc (.cells #[u] t)).drew.cell? ⟨w.heap.size,0,none⟩=some u:=NX w u t
def aaH(a b c d:UInt8):((a.toNat:Int)*16777216+(b.toNat:Int)*65536+(c.toNat:Int)*256+(d.toNat:Int))=((ShaM.word a b c d).toNat:Int):=by
 have e:=a.toNat_lt;have f:=b.toNat_lt;have g:=c.toNat_lt;have hd:=d.toNat_lt;unfold ShaM.word;rw[rI,ik W];omega
def aaI(a b c d:UInt8):IntKind.u32.wrap (IntKind.u32.wrap (IntKind.u32.wrap (IntKind.u32.wrap (IntKind.u32.wrap (a.toNat:Int)*16777216)+IntKind.u32.wrap (IntKind.u32.wrap (b.toNat:Int)*65536))+IntKind.u32.wrap (IntKind.u32.wrap (c.toNat:Int)*256))+IntKind.u32.wrap (d.toNat:Int))=((ShaM.word a b c d).toNat:Int):=by
 have e:=a.toNat_lt;have f:=b.toNat_lt;have g:=c.toNat_lt;have hd:=d.toNat_lt;rw[<-aaH];simp only[og];omega
def YQ(a b c d:UInt32):IntKind.u32.wrap (IntKind.u32.wrap (IntKind.u32.wrap ((a.toNat:Int)+(b.toNat:Int))+(c.toNat:Int))+(d.toNat:Int))=((a+c+b+d).toNat:Int):=by
 rw[oD,oD,oD];simp only[og];omega
def wa(s:ag)(i:Nat)(h:i<s.size):s[i]=s.data.toList.getD i 0:=by
 rw[eY,ba (by simpa using h)];rfl
def VH{ops:Array Oper}{Q:Exit->Act->aa->Prop}{b:Region.Mode}{S:aa->Prop}{v:ab}{w:aa}(i:Nat)(e:S w)(h:wpAnyH prog b ops Q S g (B.setIfInBounds i true) (a.put o.dst v) w)
 (j:ops[i]?=some o:=by exact rfl) (m:Region.noSelect ops=true:=by kernel_rfl) (f:Region.free b ops B i=true:=by kernel_rfl) (k:(Region.ready b ops B).contains i=true:=by kernel_rfl) (d:∀c a w,Q (.panic c) (a.put o.dst v) w->Q (.panic c) a w:=by exact λ _ _ _ h=>h)
 (c:YieldsIf prog ops S o v a:=by exact Or.inl ⟨by rfl,by intro p n;go_simp;try(with_reducible rfl)⟩):wpAnyH prog b ops Q S (g+1) B a w:=wpAnyH_take j m f k d c e h
def aaJ(s:ag)(P:s.size=64)(w:aa):Calls prog 40 #[ae s] w (vQ w (ShaM.wl s.data.toList 64)):=by
 obtain⟨H,B,E,F,G⟩:=ki Ld;have h64:64<=s.size:=by omega
 clear P;have a:ai (gl w (w.alloc (.cells #[] 95)) (ad (some ⟨w.heap.size,0,none⟩) 0 0) []):=Z ⟨vT w #[] 0 (aW _) zD rfl,bJ w _⟩
 go_enter func40,ntmps40
 go_wp2
 go_loopw [3,4] (λ v i wr=>∃k:Nat,k<=16/\i=O k/\gl w wr v (ShaM.wl s.data.toList k)) (λ _ i _=>16-(intOf i).toNat)
 case atStart=>exact⟨0,by omega,rfl,a.U⟩
 case round=>
  clear a;obtain⟨k,C,rfl,b⟩:=hrel;by_cases p:k<16
  ·have e:=xt s.data.toList k p;rw[<-wa s (4*k) W,<-wa s (4*k+1) W,<-wa s (4*k+2) W,<-wa s (4*k+3) W] at e;have h:=Z e;have a:=Z b;have d:=ShaM.dK s.data.toList k;clear e;have X:IntKind.i64.wrap (4*(k:Int))=4*(k:Int):=bd _ W;have a0:IntKind.i64.wrap (4*(k:Int)+1)=4*(k:Int)+1:=bd _ W;have I:IntKind.i64.wrap (4*(k:Int)+2)=4*(k:Int)+2:=bd _ W;have a3:IntKind.i64.wrap (4*(k:Int)+3)=4*(k:Int)+3:=bd _ W;have t0:(4*(k:Int)).toNat=4*k:=by omega
   have t1:(4*(k:Int)+1).toNat=4*k+1:=by omega
   have t2:(4*(k:Int)+2).toNat=4*k+2:=by omega
   have t3:(4*(k:Int)+3).toNat=4*k+3:=by omega
   have p0:(0:Int)<=4*(k:Int):=by omega
   have p1:(0:Int)<=4*(k:Int)+1:=by omega
   have p2:(0:Int)<=4*(k:Int)+2:=by omega
   have p3:(0:Int)<=4*(k:Int)+3:=by omega
   have a6:4*k<s.size:=by omega
   have a8:4*k+1<s.size:=by omega
   have R:4*k+2<s.size:=by omega
   have b3:4*k+3<s.size:=by omega
   have a7:4*(k:Int)<(s.size:Int):=by omega
   have a9:4*(k:Int)+1<(s.size:Int):=by omega
   have b2:4*(k:Int)+2<(s.size:Int):=by omega
   have b4:4*(k:Int)+3<(s.size:Int):=by omega
   clear b;have r:=Z d;clear d
   go_wp2
   have f:=a.U.own;refine wp_region_held_drew (S:=λ _=>True) V trivial (λ o=> ?_);refine VH 0 zA ?_;simp only[Act.put,aH];refine VH 1 zA ?_;simp only[Act.put];refine VH 2 zA ?_;simp only[Act.put];refine VH 3 zA ?_;simp only[Act.put];refine VH 4 zA ?_;simp only[Act.put];refine VH 5 zA ?_;simp only[Act.put];refine VH 6 zA ?_;simp only[Act.put];refine VH 7 zA ?_;simp only[Act.put];refine VH 8 zA ?_;simp only[Act.put];refine VH 9 zA ?_;simp only[Act.put];refine VH 10 zA ?_;simp only[Act.put];refine VH 11 zA ?_;simp only[Act.put];refine VH 12 zA ?_;simp only[Act.put];refine VH 13 zA ?_;simp only[Act.put];refine VH 14 zA ?_;simp only[Act.put];refine VH 15 zA ?_;simp only[Act.put];refine VH 16 zA ?_;simp only[Act.put];refine VH 17 zA ?_;simp only[Act.put];refine VH 18 zA ?_;simp only[Act.put];refine VH 19 zA ?_;simp only[Act.put];refine VH 20 zA ?_;simp only[Act.put];refine VH 21 zA ?_;simp only[Act.put];refine VH 22 zA ?_;simp only[Act.put];refine VH 23 zA ?_;simp only[Act.put];refine VH 24 zA ?_;simp only[Act.put];refine VH 25 zA ?_;simp only[Act.put];refine VH 26 zA ?_;simp only[Act.put];refine VH 27 zA ?_;simp only[Act.put];refine VH 28 zA ?_;simp only[Act.put];refine VH 29 zA ?_;simp only[Act.put];refine wpAnyH_ready (rs:=[30]) V zS (Eb rfl (λ K c=> ?_) AllReadyH.nil)
   go_simp
   refine c.out _ _ (by trivial) (λ o=> ?_);clear c K;try simp only[Act.put,aH,au,ay]
   refine wpAnyH_ready (rs:=[31]) V zS (Eb rfl (λ K c=> ?_) AllReadyH.nil)
   (refine Kr rfl _ _ 96 rfl w.heap.size 95 H (.int .u32 0) 4 AB B E F G rfl u3 _ _ rfl (IK f _).drew wr.heap.size rfl _ (FF wr _ _) rfl (by rw[ShaM.dK];unfold maxLen;omega) (by rw[ShaM.dK];omega) (by have:=a.U.aK.size;simp;omega) ?_;intro v' w3 m j q)
   refine c.out _ _ (by trivial) (λ o=> ?_);clear c K;try simp only[Act.put,aH]
   refine wpAnyH_ready (rs:=[32]) V zS (Eb rfl (λ K c=> ?_) AllReadyH.nil)
   go_simp
   refine c.out _ _ (by trivial) (λ o=> ?_);clear c K;try simp only[Act.put,aH,au,ay]
   refine wpAnyH_done V ?_ _;have n:ai (gl w w3 v' (ShaM.wl s.data.toList (k+1))):=Z (a.U.append ((bJ wr _).drew) _ _ (by rw[h.U];exact aaI _ _ _ _) m j);clear m j q f a h
   go_wp2
   go_roundw
   case rel=>exact⟨k+1,by omega,by go_num,n.U⟩
   case measure=>simp[intOf];omega
  ·obtain rfl:k=16:=by omega
   have a:=Z b;clear b
   go_wp2
   rw[show((16:Nat):Int)=16 from rfl]
   go_loopw [3,5] (λ v i wr=>∃k:Nat,16<=k/\k<=64/\i=O k/\gl w wr v (ShaM.wl s.data.toList k)) (λ _ i _=>64-(intOf i).toNat)
   case atStart=>exact⟨16,by omega,by omega,rfl,a.U⟩
   case round=>
    clear a p C;obtain⟨k,a5,C,rfl,b⟩:=hrel;by_cases p:k<64
    ·have d:=ShaM.dK s.data.toList k;obtain⟨g,A,Q,-,i,c⟩:=b.form W;subst Q;rw[d] at c;have J:=c (k-15) W;have M:=c (k-2) W;have t:=c (k-16) W;have u:=c (k-7) W;have e:=xr s.data.toList k W;have f:=b.own;rw[d] at f;have a:=Z b;rw[d];clear b c i;generalize(ShaM.wl s.data.toList k).getD (k-15) 0=x at*;generalize(ShaM.wl s.data.toList k).getD (k-2) 0=y at*;generalize(ShaM.wl s.data.toList k).getD (k-16) 0=v at*;generalize(ShaM.wl s.data.toList k).getD (k-7) 0=z at*;have h:=Z e;have r:=Z d;clear e d;have a1:IntKind.i64.wrap ((k:Int)-15)=(k:Int)-15:=bd _ W;have I:IntKind.i64.wrap ((k:Int)-2)=(k:Int)-2:=bd _ W;have a2:IntKind.i64.wrap ((k:Int)-16)=(k:Int)-16:=bd _ W;have a4:IntKind.i64.wrap ((k:Int)-7)=(k:Int)-7:=bd _ W;have t15:((k:Int)-15).toNat=k-15:=by omega
     have t2:((k:Int)-2).toNat=k-2:=by omega
     have t16:((k:Int)-16).toNat=k-16:=by omega
     have t7:((k:Int)-7).toNat=k-7:=by omega
     have p2:(0:Int)<=(k:Int)-2:=by omega
     have m15:(15:Int)<=(k:Int):=by omega
     have m2:(2:Int)<=(k:Int):=by omega
     have m16:(16:Int)<=(k:Int):=by omega
     have m7:(7:Int)<=(k:Int):=by omega
     have b0:(k:Int)-15<(k:Int):=by omega
     have R:(k:Int)-2<(k:Int):=by omega
     have b1:(k:Int)-16<(k:Int):=by omega
     have b5:(k:Int)-7<(k:Int):=by omega
     have T:=nw
     go_wp2
     go_quiet (fail)
     obtain⟨c,d⟩:∃c,wr.drewN nq=c:=⟨_,rfl⟩;rw[d];have i:ai (gl w c (.slice (some ⟨g,0,none⟩) (ShaM.wl s.data.toList k).length A) (ShaM.wl s.data.toList k)):=Z (by rw[<-d];exact a.U.drewN nq);have L:c.cell? ⟨g,k-16,none⟩=some (.int .u32 v.toNat):=by rw[<-d];exact t
     have N:c.cell? ⟨g,k-7,none⟩=some (.int .u32 z.toNat):=by rw[<-d];exact u
     have D:c.ownsRow w.heap.size 95 1 (ad (some ⟨g,0,none⟩) k A) k ((ShaM.wl s.data.toList k).map fw):=by rw[<-d];exact f
     clear d a J M t u f
     go_wp2_with(first|go_at_call 110;refine(Xl _ _ zD zD _).mono ?_;rintro e d ⟨rfl,rfl⟩|go_at_call 111;refine(O3 _ _ zD zD _).mono ?_;rintro e d ⟨rfl,rfl⟩)
     go_region_law (refine Kr rfl _ _ 96 rfl w.heap.size 95 H (.int .u32 0) 4 AB B E F G rfl _ _ _ rfl (IK D _).drew c.heap.size rfl _ (FF c _ _) rfl (by unfold maxLen;omega) W (by have:=i.U.aK.size;simp;omega) ?_;intro v' w3 m j q)
     all_goals
      have n:ai (gl w w3 v' (ShaM.wl s.data.toList (k+1))):=Z (i.U.ML ((bJ c _).drew) _ r.U m j (by rw[h.U];exact YQ v _ z _));clear m j q D i h L N
      go_wp2
      go_roundw
      case rel=>exact⟨k+1,by omega,by omega,by go_num,n.U⟩
      case measure=>simp[intOf];omega
    ·obtain rfl:k=64:=by omega
     have a:=Z b;clear b
     go_wp2
     go_ret
     exact a.U.post (by rw[ShaM.dK];omega)
