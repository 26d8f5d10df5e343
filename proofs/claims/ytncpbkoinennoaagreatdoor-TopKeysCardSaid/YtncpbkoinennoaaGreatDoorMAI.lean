import Derived.Test.YtncpbkoinennoaaGreatDoorMAH
set_option linter.all false
set_option maxRecDepth 100000
set_option maxHeartbeats 0
namespace Go.Proofs.YtncpbkoinennoaaGreatDoor
open Go.RowKit Proofs.Tryz
attribute [local irreducible] wpList Calls
variable{a:Act}{g:Nat}{o:Oper}{t:TypeId}
section
open PT
def ah.WW{w:aa}{A B C D X:Array ab}(h:ah w g t (q4 A B C D))(b:A.size=X.size):ah (w.setCells g 0 X.toList) g t (q4 X B C D):=by
 have a:ah w g t (#[]++A++(B++C++D)):=by simpa[q4] using h
 have:=a.L0 #[] A (B++C++D) X b;simpa[q4] using this
def ah.WV{w:aa}{A B C D X:Array ab}(h:ah w g t (q4 A B C D))(b:A.size=16)(c:B.size=16)(d:C.size=16)(f:D.size=X.size):ah (w.setCells g 48 X.toList) g t (q4 A B C X):=by
 have a:ah w g t (A++B++C++D++ #[]):=by simpa[q4] using h
 have:=a.L0 (A++B++C) D #[] X f;have e:(A++B++C).size=48:=by simp[b,c,d]
 rw[e] at this;simpa[q4] using this
def wpList_build{ops:Array Oper}{rest:List Oper}{w:aa}{Q:Exit->Act->aa->Prop}(f:o.guard=none)(t:TypeId)(parts:Array (Nat×Operand))(g:o.op= .build t parts)(b:Array ab)
 (e:prog.built t (parts.toList.map λ(i,x)=>(i,a.eval x))=some b) (h:wpList prog ops Q rest (a.put o.dst (aG b)) w):wpList prog ops Q (o::rest) a w:=by
 have c:prog.built t (parts.map λ(i,x)=>(i,a.eval x)).toList=some b:=by rw[FL];exact e
 exact wpList_plain f λ _ d=>wp_build t parts g (by rw[c];rfl) (by rw[c];exact d _ _ h)
def Xa{v:ab}{q:Q4}(S:fM v q)(w:aa):Calls prog 119 #[v] w λ e a=>(∃r,e=ao r/\ka r (tb q))/\BW w a:=by
 obtain⟨j,rfl,c2,-⟩:=S.row;have P:(prog.info? 92).map (·.size)=some j.size:=by rw[c2];exact nK
 have b7:St w ((w.alloc (.cells j 92)).alloc (.cells zeroCells92 92)) [(w.heap.size+1,92,zeroCells92),(w.heap.size,92,j)]:=by
  have:=(((St.start w).alloc j 92).alloc zeroCells92 92);simpa using this
 have H:=Z S;have G:=Z b7
 go_enter func119,ntmps119
 go_upto_region 1 with fail
 generalize(w.alloc (.cells j 92)).alloc (.cells zeroCells92 92)=a5 at*;have y:=(show ah a5 (w.heap.size) 92 (j) from G.U.get zS)
 go_wp2_with(refine bD rfl 92 (Operand.tmp 1) rfl (w.heap.size) zR 92 j (0,0) _ y fC rfl P ?_)
 refine(yY H.U _).mono ?_;rintro e wc ⟨⟨x,rfl,⟨aA,aB,aC,aD,rfl,qa⟩⟩,hb⟩;have b0:=Z (G.U.below hb);have n:=Z (St.fresh b0.U (ak (List.replicate 64 0)) (q4 aA aB aC aD) 90);have L:ah (wc.alloc (.cells (ak (List.replicate 64 0)) 90)) wc.heap.size 90 (ak (List.replicate 64 0)):=ah.new _ _ _;have a0:=qa.info;have c5:=qa.all;have J:=qa.hold;have c:=Z qa;have T:=Aa;obtain⟨F,b8⟩:∃F,ak (List.replicate 64 0)=F:=⟨_,rfl⟩;rw[b8] at n L J T;have b1:=Z T
 go_upto_region 2 with((rw[<-b1.U];refine cm rfl 90 (Operand.tmp 3) (Operand.tmp 5) rfl (wc.heap.size) (q4 aA aB aC aD) zR zR 90 _ L a0 J c5 ?_))
 generalize d0:wc.heap.size=b at*;generalize(wc.alloc (.cells F 90)).setRow b (q4 aA aB aC aD)=C at*;have a1:=c.U.x.info;have a2:=c.U.t.info;refine kW 7 (λ l=> ?_);refine V2 0 6 l ?_;refine W2 1 7 rfl rfl (mO V 88 (Operand.tmp 6) rfl b (0) zR aA _ (λ a6 h=>(c.U.of ((show ah C (b) 90 (q4 aA aB aC aD) from n.U.get zS).up h)).1) aY rfl a1) l ?_;refine V2 3 9 l ?_;refine W2 4 10 rfl rfl (mO V 88 (Operand.tmp 9) rfl b (48) zR aD _ (λ a6 h=>(c.U.of ((show ah C (b) 90 (q4 aA aB aC aD) from n.U.get zS).up h)).2.2.2) aY rfl a2) l ?_;refine ay.free (w0:=C) [(2,8),(5,11),(6,12)] [] (λ i v=>match i with|2=>aN v (ek q.x)|5=>aN v (ek q.t)|6=>v=pV b|_=>True) V V l ⟨OC (ya c.U.x),OC (ya c.U.t),λ o Q=> ?_,trivial⟩ (λ m E c3 z c9=> ?_)
 ·simp only[sG] at Q;subst Q;refine dA.value rfl zD rfl (λ a a6 d p k=> ?_);have e0:=d 3 _ V rfl;refine⟨pV b,?_,rfl⟩;simp only[execOp,e0]
  go_simp
 have f:aN (m 2) (ek q.x):=(z 2 zD).1;have k:aN (m 5) (ek q.t):=(z 5 zD).1;have b5:m 6=pV b:=(z 6 zD).1;simp only[ky,aS,av,ax];simp only[ck,bH];simp only[b5];generalize m 2=d1 at f;generalize m 5=d2 at k;obtain⟨rx,rfl,-,-⟩:=f.row;obtain⟨a,rfl,-,-⟩:=k.row;have I:=n.U.below c3;have K:=I.get (g:=b) (t:=90) (cs:=q4 aA aB aC aD) zS;have c8:QR rx aB aC aD ⟨ek q.x,q.y,q.z,q.t⟩:=⟨f,c.U.y,c.U.z,c.U.t⟩;have q2:QR rx aB aC a (tb q):=⟨f,c.U.y,c.U.z,k⟩;have u:=K.WW (X:=rx) (by rw[f.cells.1,c.U.x.cells.1]);have b6:=u.WV (X:=a) f.cells.1 c.U.y.cells.1 c.U.z.cells.1 (by rw[k.cells.1,c.U.t.cells.1]);have t1:E.there b 0 rx.size:=K.rH (by rw[c.U.size,f.cells.1];decide);have t2:(E.setCells b 0 rx.toList).there b 48 a.size:=u.rH (by rw[c8.size,k.cells.1];decide);have b3:=St.cells [] _ I 0 rx.toList u;have b4:=St.cells [] _ b3 48 a.toList b6;have a4:=f.info;have a3:=k.info;have c7:=f.all;have c6:=k.all;have a8:=Z b4;have r:=Z q2
 go_upto_region 3 with(first|(refine MZ rfl 88 (Operand.tmp 12) (Operand.tmp 8) rfl b 0 rx zR zR t1 a4 c7 ?_)|(refine MZ rfl 88 (Operand.tmp 13) (Operand.tmp 11) rfl b 48 a zR zR t2 a3 c6 ?_))
 generalize(E.setCells b 0 rx.toList).setCells b 48 a.toList=D at*;have p:ai (St w D [(b,90,q4 rx aB aC a),(w.heap.size+1,92,zeroCells92),(w.heap.size,92,j)]):=a8;have y:=(show ah D (b) 90 (q4 rx aB aC a) from p.U.get zS);have M:=(show ah D (w.heap.size+1) 92 (zeroCells92) from p.U.get zS);have c4:=r.U.info;have s:ka (aG (#[aK true]++q4 rx aB aC a)) (tb q):=⟨_,_,_,_,rfl,r.U⟩;obtain⟨d,B,A,R⟩:=s.p.row;have c0:prog.built 92 [(0,aK true),(1,aG (q4 rx aB aC a))]=some d:=by rw[BJ r.U];injection B with h;rw[h]
 rw[B] at s;have b2:=Z (bL p.U.aJ W d (g:=w.heap.size+1));have a7:=Z (M.setRow d);have N:(prog.info? 92).map (·.size)=some d.size:=by rw[A];exact nK
 have c1:zeroCells92.size=d.size:=by rw[A];kernel_rfl
 have b9:d.all (·.oneCell')=true:=by rw[<-pX,hl];exact R
 have a9:=Z s;clear s R A B p c r H P a1 a2 a0 a4 a3;generalize q4 rx aB aC a=c at*
 go_wp2_with(first|(refine bD rfl 90 (Operand.tmp 3) rfl (b) zR 90 c (0,0) _ y xt rfl c4 ?_)|(refine wpList_build rfl 92 _ rfl d (by exact c0) ?_)|(refine cm rfl 92 (Operand.tmp 2) (Operand.tmp 15) rfl (w.heap.size+1) (d) zR zR 92 _ M N c1 b9 ?_))
 refine cr (v:= .agg d) (fI results119 _ _ (w.heap.size+1) 92 d (0,0) _ rfl a7.U fC rfl N) rfl ?_;exact⟨⟨_,rfl,a9.U⟩,b2.U⟩
end
section
open PT
def OP(s:af)(i:Nat)(d:i<256)(w:aa):CB 104 #[ad s,O (i:Int)] w (O ((dt s i:Nat):Int)):=by
 by_cases b:i/8<s.size
 ·have a:dt s i=(s[i/8].toNat/2^(i%8))%2:=by
   unfold dt;rw[au b];have c:i/8<s.data.toList.length:=by simpa using b
   rw[dc,aU c];rfl
  have hx:=s[i/8].toNat_lt;have f:s[i/8].toNat/2^(i%8)<=s[i/8].toNat:=ng _ _;have c:bits .and .u8 ((s[i/8].toNat/2^(i%8):Nat):Int) 1=((dt s i:Nat):Int):=by
   have:=zE (s[i/8].toNat/2^(i%8)) 1 W W;rw[yF] at this;rw[show((1:Nat):Int)=1 from rfl] at this;rw[this,a]
  have g:dt s i<2:=by rw[a];omega
  have H:=Z c
  go_enter func104,ntmps104
  go_wp2_with fail
  go_ret
  refine⟨?_,bp _ _⟩;have e:((s[i/8].toNat:Int)/2^(i%8))=((s[i/8].toNat/2^(i%8):Nat):Int):=by push_cast;rfl
  rw[e,H.U];have:wrap64 ((dt s i:Nat):Int)=((dt s i:Nat):Int):=by
   unfold wrap64;omega
  rw[this];rfl
 ·have a:dt s i=0:=by unfold dt;rw[ar b]
  rw[a]
  go_enter func104,ntmps104
  go_wp2_with fail
  go_ret
  exact⟨rfl,bp _ _⟩
end
section
open PT
structure Ge(rs:Array ab)(q:Q4):Prop where
 p:fM (aG rs) q
 info:(prog.info? 92).map (·.size)=some rs.size
 all:rs.all (·.oneCell')=true
 size:rs.size=65
def fM.pC{v:ab}{q:Q4}(h:fM v q):∃a,v=aG a/\Ge a q:=by
 obtain⟨a,rfl,b,c⟩:=h.row;exact⟨a,rfl,h,by rw[b];exact nK,Py c,b⟩
def ot:zeroCells92.size=65:=by kernel_rfl
def yQ{v:ab}{q:Q4}(c1:fM v q)(k:af)(w:aa):Calls prog 36 #[v,ad k] w λ e a=>(∃r,e=ao r/\fM r (fR q k))/\BW w a:=by
 obtain⟨h,rfl,I⟩:=c1.pC;have b6:St w ((w.alloc (.cells h 92)).alloc (.cells zeroCells92 92)) [(w.heap.size+1,92,zeroCells92),(w.heap.size,92,h)]:=by
  have:=(((St.start w).alloc h 92).alloc zeroCells92 92);simpa using this
 have c3:=I.info;have T:=Z I;have P:=Z b6
 go_enter func36,ntmps36
 go_upto_region 1 with fail
 generalize(w.alloc (.cells h 92)).alloc (.cells zeroCells92 92)=d3 at*
 go_wp2_with fail
 refine(KN _).mono ?_;rintro e wc ⟨⟨x,rfl,hx⟩,f⟩;obtain⟨o,rfl,l⟩:=hx.p.pC;have Q:=Z (P.U.below f);have N:=Z (St.fresh Q.U zeroCells92 o 92);have b2:ah (wc.alloc (.cells zeroCells92 92)) wc.heap.size 92 zeroCells92:=ah.new _ _ _;have c4:=l.info;have a7:=l.all;have b0:zeroCells92.size=o.size:=by rw[l.size,ot]
 have X:=Z l
 go_upto_region 2 with(refine cm rfl 92 (Operand.tmp 5) (Operand.tmp 7) rfl (wc.heap.size) (o) zR zR 92 _ b2 c4 b0 a7 ?_)
 generalize c9:wc.heap.size=b at*;generalize(wc.alloc (.cells zeroCells92 92)).setRow b o=d4 at*
 go_wp2
 go_loopw [6] (λ i wr=>∃(j:Nat) (a:Array ab) (c:Q4),j<=256/\i=O ((j:Int)-1)/\St w wr [(b,92,a),(w.heap.size+1,92,zeroCells92),(w.heap.size,92,h)]/\Ge a c/\ps k q j c=fR q k) (λ i _=>(intOf i+1).toNat)
 case atStart=>exact⟨256,o,lM,aQ _,rfl,N.U,X.U,rfl⟩
 case round=>
  obtain⟨j,a,c,d0,rfl,c2,b8,c0⟩:=hrel;have p:=Z c2;have m:=Z b8;have B:=Z c0;have E:=p.U.get (g:=b) (t:=92) (cs:=a) zS;have A:=m.U.info;by_cases b1:j=0
  ·subst b1;have K:((0:Nat):Int)-1= -1:=by omega
   have G:=p.U.get (g:=w.heap.size+1) (t:=92) (cs:=zeroCells92) zS;have R:=Z (bL p.U.aJ W a (g:=w.heap.size+1));have L:=Z (G.setRow a);have b9:zeroCells92.size=a.size:=by rw[m.U.size,ot]
   have b7:=m.U.all;have M:ai (fM (aG a) (fR q k)):=Z (by rw[<-B.U];exact m.U.p)
   go_wp2_with(first|refine bD rfl 92 (Operand.tmp 5) rfl (b) zR 92 a (0,0) _ E fC rfl A ?_|refine cm rfl 92 (Operand.tmp 4) (Operand.tmp 22) rfl (w.heap.size+1) (a) zR zR 92 _ G A b9 b7 ?_)
   exact cr (v:= .agg a) (fI results36 _ _ (w.heap.size+1) 92 a (0,0) _ rfl L.U fC rfl A) rfl ⟨⟨_,rfl,M.U⟩,R.U⟩
  ·obtain⟨i,rfl⟩:∃i,j=i+1:=⟨j-1,by omega⟩;have K:((i+1:Nat):Int)-1=(i:Int):=by omega
   rw[K];have d1:(0:Int)<=(i:Int):=by omega
   have d2:IntKind.i64.wrap ((i:Int)-1)=(i:Int)-1:=aO _ W
   go_wp2_with(refine bD rfl 92 (Operand.tmp 5) rfl (b) zR 92 a (0,0) _ E fC rfl A ?_)
   refine(DE m.U.p m.U.p _).mono ?_;rintro e c6 ⟨⟨r,rfl,l⟩,f⟩;obtain⟨d,rfl,u⟩:=l.p.pC;have a0:=Z (p.U.below f);have b3:=E.up f;have J:=u.info;have a5:=u.all;have a8:a.size=d.size:=by rw[m.U.size,u.size]
   have a1:=Z (St.setAt [] _ a0.U d);have D:=Z u
   go_wp2_with(refine cm rfl 92 (Operand.tmp 5) (Operand.tmp 14) rfl (b) (d) zR zR 92 _ b3 J a8 a5 ?_)
   generalize c6.setRow b d=c7 at*;have a2:ai (St w c7 [(b,92,d),(w.heap.size+1,92,zeroCells92),(w.heap.size,92,h)]):=a1;refine(OP k i W _).mono ?_;rintro e d5 ⟨rfl,f⟩;have s:=Z (a2.U.below f);have H:(((dt k i:Nat):Int)==1)=decide (dt k i=1):=by
    rw[bw,gb,jL];omega
   have F:=s.U.get (g:=b) (t:=92) (cs:=d) zS;have b5:=s.U.get (g:=w.heap.size) (t:=92) (cs:=h) zS;cases z:decide (dt k i=1) with
   |false=>
    have C:ai (ps k q i (ga c c)=fR q k):=Z (by rw[<-B.U,Df,ar (tc z)]);rw[z] at H;generalize((dt k i:Nat):Int)=bb at*
    go_wp2_with fail
    go_roundw
    case rel=>exact⟨i,d,_,by omega,rfl,s.U,D.U,C.U⟩
    case measure=>simp[intOf]<;>omega
   |true=>
    have C:ai (ps k q i (ga (ga c c) q)=fR q k):=Z (by rw[<-B.U,Df,au (iH z)]);rw[z] at H;generalize((dt k i:Nat):Int)=bb at*
    go_wp2_with(first|refine bD rfl 92 (Operand.tmp 5) rfl (b) zR 92 d (0,0) _ F fC rfl J ?_|refine bD rfl 92 (Operand.tmp 2) rfl (w.heap.size) zR 92 h (0,0) _ b5 fC rfl c3 ?_)
    refine(DE D.U.p T.U.p _).mono ?_;rintro e c8 ⟨⟨r,rfl,l⟩,f⟩;obtain⟨n,rfl,y⟩:=l.p.pC;have a3:=Z (s.U.below f);have b4:=F.up f;have c5:=y.info;have a6:=y.all;have a9:d.size=n.size:=by rw[D.U.size,y.size]
    have a4:ai (St w (c8.setRow b n) [(b,92,n),(w.heap.size+1,92,zeroCells92),(w.heap.size,92,h)]):=Z (St.setAt [] _ a3.U n);have S:=Z y
    go_wp2_with(refine cm rfl 92 (Operand.tmp 5) (Operand.tmp 21) rfl (b) (n) zR zR 92 _ b4 c5 a9 a6 ?_)
    go_roundw
    case rel=>exact⟨i,n,_,by omega,rfl,a4.U,S.U,C.U⟩
    case measure=>simp[intOf]<;>omega
end
variable{b:List UInt8}
section
open PT
def BY(wr:aa)(g:Nat)(L:List UInt8):Prop:=∃(R:Array ab) (m:Nat),wr.heap[g]?=some (.cells R 5 (m,m+1))/\L.length<=m/\∀j (a:j<L.length),R[j]?=some (.int .u8 (L[j].toNat:Int))
def BY.lt{wr:aa}(h:BY wr g b):g<wr.heap.size:=by
 obtain⟨R,m,a,-⟩:=h;grind
def BY.cell{wr:aa}{g:Nat}{L:List UInt8}(h:BY wr g L)(j:Nat)(d:j<L.length):wr.cell? ⟨g,j,none⟩=some (.int .u8 (L[j].toNat:Int)):=by
 obtain⟨R,m,a,b,c⟩:=h;rw[nD _ _ _ _ _ _ a];grind
def BY.frozen{wr:aa}{g:Nat}{L:List UInt8}(h:BY wr g L)(j:Nat)(d:j<L.length):wr.frozen? ⟨g,j,none⟩=false:=by
 obtain⟨R,m,a,b,c⟩:=h;simp[World.frozen?,a];omega
def BY.below{wr a:aa}{L:List UInt8}(h:BY wr g L)(d:BW wr a):BY a g L:=by
 have e:=h.lt;obtain⟨R,m,b,c⟩:=h;exact⟨R,m,(dR d _ e).trans b,c⟩
def BY.set{wr:aa}{g:Nat}{L:List UInt8}(h:BY wr g L)(j:Nat)(f:j<L.length)(b:UInt8):BY (wr.setCell ⟨g,j,none⟩ (.int .u8 (b.toNat:Int))) g (L.set j b):=by
 obtain⟨R,m,a,c,d⟩:=h;refine⟨R.setIfInBounds j (.int .u8 (b.toNat:Int)),m,?_,by grind,λ i e=> ?_⟩
 ·simp[World.setCell,Ad,a]
 grind
def BY.back{wr:aa}(h:BY wr g b)(a n:Nat)(d:b.length=n):(convert 29 9 (ag (some ⟨g,0,none⟩) n a)).run prog wr= .ok (ad ⟨b.toArray⟩) wr:=by
 subst d;exact tz (P:=prog) wr 29 9 5 ⟨g,0,none⟩ a b cP eJ df (λ j c=>by
  rw[gp,dz];exact h.cell j c)
def Pn(w:aa)(s:af):∃(a:Nat) (b:aa),(convert 9 29 (ad s)).run prog w= .ok (ag (some ⟨w.heap.size,0,none⟩) s.size a) b/\BY b w.heap.size s.data.toList/\BW w b:=by
 have h:=run_bytes_of_string (P:=prog) w 9 29 5 s df cP eJ;obtain⟨a,b⟩:∃a,grownCap w s.size 0 5=a:=⟨_,rfl⟩;rw[b] at h;refine⟨a,_,h,⟨bytesRow s a,(bytesRow s a).size,?_,?_,λ j c=> ?_⟩,?_⟩
 ·simp[World.alloc,World.drew,-World.alloc_eq,-World.drew_eq]
 ·simp[bytesRow]
 ·rw[bytesRow_at s _ j W];simp
 ·exact(gv (bp w.heap.size w) 1).alloc zS _
def Hq:∀(k n:Nat),n<128*256^k->FM.bE (k+1) (n+128*256^k)=(FM.bE (k+1) n).set k (n/256^k+128)
 |0,n,h=>by
  simp only[FM.bE,sd,oG,rW,av] at*
  grind
 |k+1,n,h=>by
  have a:=Hq k (n/256) W
  have e1:(n+128*256^(k+1))%256=n%256:=by rw[ca];omega
  have e2:(n+128*256^(k+1))/256=n/256+128*256^k:=by rw[ca];omega
  rw[FM.bE,e1,e2,a]
  conv=>rhs;rw[FM.bE]
  rw[nc,gM,ca,fg 256]
def Q7(n:Nat)(h:n<128*256^31):FM.enc (n+57896044618658097711785492504343953926634992332820282019728792003956564819968)=⟨((FM.enc n).data.toList.set 31 (UInt8.ofNat (n/256^31+128))).toArray⟩:=by
 have:=Hq 31 n h;rw[show 128*256^31=57896044618658097711785492504343953926634992332820282019728792003956564819968 from by decide] at this;unfold FM.enc;simp_all
def Rk(n:Nat)(h:n<128*256^31)(c:31<(FM.enc n).data.toList.length):((FM.enc n).data.toList[31]).toNat=n/256^31/\n/256^31<128:=by
 have b:=FM.qQ 32 n 31 zD;have d:n/256^31<128:=by omega
 refine⟨?_,d⟩;have a:(FM.enc n).data.toList[31]?=some (UInt8.ofNat (n/256^31%256)):=by
  show((FM.bE 32 n).map UInt8.ofNat)[31]?=_;rw[ef,b];rfl
 rw[aU c] at a;injection a with a;rw[a];simp;omega
end
section
open PT
def DG{v:ab}{q:Q4}(c9:fM v q)(w:aa):CB 37 #[v] w (ad (hK q)):=by
 obtain⟨h,rfl,b0⟩:=c9.pC;have c3:St w (w.alloc (.cells h 92)) [(w.heap.size,92,h)]:=(St.start w).alloc h 92;have c7:=b0.info;have b9:=Z b0;have T:=Z c3
 go_enter func37,ntmps37
 go_upto_region 1 with fail
 generalize w.alloc (.cells h 92)=e3 at*;have c2:=T.U.get (g:=w.heap.size) (t:=92) (cs:=h) zS
 go_wp2_with(refine bD rfl 92 (Operand.tmp 1) rfl (w.heap.size) zR 92 h (0,0) _ c2 fC rfl c7 ?_)
 refine(yY b9.U.p _).mono ?_;rintro e wc ⟨⟨x,rfl,⟨A,B,C,D,rfl,qa⟩⟩,m⟩;have J:=Z (T.U.below m);have H:=Z (St.fresh J.U (ak (List.replicate 64 0)) (q4 A B C D) 90);have l:ah (wc.alloc (.cells (ak (List.replicate 64 0)) 90)) wc.heap.size 90 (ak (List.replicate 64 0)):=ah.new _ _ _;have d3:=qa.info;have d4:=qa.all;have a1:=qa.hold;have a:=Z qa;have o:=Aa;obtain⟨f,N⟩:∃f,ak (List.replicate 64 0)=f:=⟨_,rfl⟩;rw[N] at H l a1 o;have K:=Z o
 go_upto_region 2 with(rw[<-K.U];refine cm rfl 90 (Operand.tmp 3) (Operand.tmp 7) rfl (wc.heap.size) (q4 A B C D) zR zR 90 _ l d3 a1 d4 ?_)
 generalize e0:wc.heap.size=b at*;generalize(wc.alloc (.cells f 90)).setRow b (q4 A B C D)=e4 at*;have d2:=a.U.z.info;have d1:=a.U.y.info;have d0:=a.U.x.info;have d8:=(a.U.of (H.U.get (g:=b) (t:=90) (cs:=q4 A B C D) zS)).2.2.1
 go_wp2_with(refine rK rfl 88 (Operand.tmp 8) rfl (b) 32 zR C _ d8 aY rfl d2 ?_)
 refine(Ip a.U.z _).mono ?_;rintro e r ⟨⟨x,rfl,hx⟩,m⟩;obtain⟨c,rfl,-,-⟩:=hx.row;have J:=Z (H.U.below m);have u:=Z (St.fresh J.U (ak (List.replicate 16 0)) c 88);have l:ah (r.alloc (.cells (ak (List.replicate 16 0)) 88)) r.heap.size 88 (ak (List.replicate 16 0)):=ah.new _ _ _;have Q:=hx.info;have d5:=hx.all;have a2:=hx.hold;have X:=Z hx;have o:=dK;obtain⟨f,N⟩:∃f,ak (List.replicate 16 0)=f:=⟨_,rfl⟩;rw[N] at u l a2 o;have K:=Z o
 go_upto_region 3 with(rw[<-K.U];refine cm rfl 88 (Operand.tmp 4) (Operand.tmp 10) rfl (r.heap.size) (c) zR zR 88 _ l Q a2 d5 ?_)
 generalize e1:r.heap.size=k at*;generalize(r.alloc (.cells f 88)).setRow k c=e5 at*;have d7:=(a.U.of (u.U.get (g:=b) (t:=90) (cs:=q4 A B C D) zS)).2.1;have P:=u.U.get (g:=k) (t:=88) (cs:=c) zS
 go_wp2_with(first|refine rK rfl 88 (Operand.tmp 11) rfl (b) 16 zR B _ d7 aY rfl d1 ?_|refine bD rfl 88 (Operand.tmp 4) rfl (k) zR 88 c (0,0) _ P aY rfl Q ?_)
 refine(eV a.U.y X.U _).mono ?_;rintro e e6 ⟨⟨x1,rfl,c0⟩,E⟩;have b5:=Z c0
 go_wp2_with fail
 refine(vj b5.U _).mono ?_;rintro e wf ⟨rfl,F⟩;have R:=Z ((u.U.below E).below F);obtain⟨s,b1⟩:∃s,FM.enc (q.y*FM.cZ q.z%FM.PN)=s:=⟨_,rfl⟩;have j:=Z b1;rw[b1];have a8:q.y*FM.cZ q.z%FM.PN<128*256^31:=lY (cy _ zD) zD;have b3:s.size=32:=by rw[<-j.U];exact FM.gf _
 have b2:s.data.toList.length=32:=by rw[<-b3];simp
 obtain⟨a0,e7,a6,a5,m⟩:=Pn wf s;rw[b3] at a6;obtain⟨z,a7⟩:∃z,wf.heap.size=z:=⟨_,rfl⟩;have c8:w.heap.size<=z:=by rw[<-a7];exact R.U.aJ.size
 have I:=Z (R.U.below m);rw[a7] at a6 a5
 go_upto_region 4 with fail
 have b7:=Z a5;have d6:=(a.U.of (I.U.get (g:=b) (t:=90) (cs:=q4 A B C D) zS)).1;have P:=I.U.get (g:=k) (t:=88) (cs:=c) zS
 go_wp2_with(first|refine rK rfl 88 (Operand.tmp 17) rfl (b) 0 zR A _ d6 aY rfl d0 ?_|refine bD rfl 88 (Operand.tmp 4) rfl (k) zR 88 c (0,0) _ P aY rfl Q ?_)
 refine(eV a.U.x X.U _).mono ?_;rintro e e8 ⟨⟨x2,rfl,c1⟩,E⟩;have b6:=Z c1;have b8:=Z (b7.U.below E)
 go_wp2_with fail
 refine(Ix b6.U _).mono ?_;rintro e e9 ⟨rfl,F⟩;have S:=Z ((I.U.below E).below F);have y:=Z (b8.U.below F);cases a9:decide (q.x*FM.cZ q.z%FM.PN%2=1) with
 |false=>
  have i:ai (hK q=s):=Z (by
   have:¬vf q%2=1:=tc a9;rw[<-j.U,hK,ar this];rfl)
  have c4:=y.U.back a0 32 b2;have L:=Z S.U.aJ
  go_wp2_with fail
  go_ret
  refine⟨?_,L.U⟩;rw[i.U];rfl
 |true=>
  have G:31<s.data.toList.length:=by omega
  have n:=Rk _ a8 (by rw[j.U];exact G);have i:ai (hK q=⟨(s.data.toList.set 31 (UInt8.ofNat (q.y*FM.cZ q.z%FM.PN/256^31+128))).toArray⟩):=Z (by
   have:vf q%2=1:=iH a9;have a3:=Q7 _ a8;rw[j.U] at a3;rw[<-a3,hK,au this];rfl)
  simp only[j.U] at n;obtain⟨d,hd⟩:∃d,q.y*FM.cZ q.z%FM.PN/256^31=d:=⟨_,rfl⟩;rw[hd] at i n;have c6:=y.U.cell 31 G;rw[n.1] at c6;have d9:=y.U.frozen 31 G;have e2:bits .or .u8 (d:Int) 128=(d:Int)+128:=u8_or128_right _ W (by have:=n.2;omega);have b4:((UInt8.ofNat (d+128)).toNat:Int)=(d:Int)+128:=by have:=n.2;simp;omega
  obtain⟨M,c5⟩:∃M,UInt8.ofNat (d+128)=M:=⟨_,rfl⟩;rw[c5] at b4 i;have a4:=y.U.set 31 G M;rw[b4] at a4;have c4:=a4.back a0 32 (by simpa using b2);have L:=Z (S.U.aJ.setCell (p:=⟨z,31,none⟩) (by exact c8) (.int .u8 ((d:Int)+128)))
  go_wp2_with fail
  go_ret
  refine⟨?_,L.U⟩;rw[i.U];rfl
end
section
open PT
def kK(s:af)(w:aa)(e:Ending)(a:aa):Prop:=
 (match cD s with|none=>∃r,e=ao (aM #[r,O 9])/\fM r lM|some q=>∃r,e=ao (aM #[r,O 0])/\fM r q)/\BW w a
def zZ:fM (aG zeroCells92) lM:=by
 refine⟨false,ak (List.replicate 16 0),ak (List.replicate 16 0),ak (List.replicate 16 0),ak (List.replicate 16 0),⟨0,0,0,0⟩,by kernel_rfl,⟨aN.zero,aN.zero,aN.zero,aN.zero⟩,(λ h=>by cases h),λ _=>rfl⟩
def xG:prog.built 92 []=some zeroCells92:=by kernel_rfl
def pU:(prog.info? 92).map (·.size)=some zeroCells92.size:=by rw[ot];exact nK
def zV:zeroCells92.all (·.oneCell')=true:=by kernel_rfl
def Oh:∀x:Fin 256,bits .and .u8 ((x.val:Nat):Int) 128=if 128<=x.val then 128 else 0:=by decide+kernel
def Oj:∀x:Fin 256,bits .andNot .u8 ((x.val:Nat):Int) 128=((x.val%128:Nat):Int):=by decide+kernel
def Tz(s:af)(c:s.size=32)(w:aa):(Instr.index 9 (ad s) (O 31)).run prog w= .ok (.int .u8 ((s.data.toList.getD 31 0).toNat:Int)) w:=by
 simp only[run_index_string w 9 s .i64 31 df];have a:31<s.size:=by omega
 have b:31<s.data.toList.length:=by simpa using a
 rw[dc,aU b];simp only[Int.reduceToNat];rw[dif_pos (by rw[c];decide)];rfl
def St.join{w c d:aa}{l:List (Nat×TypeId×Array ab)}(h:St w c l)(j:BW c d){e:Array ab}(i:c.heap.size<=g)(f:ah d g t e):St w d ((g,t,e)::l):=by
 have b:=h.below j;refine⟨b.aJ,λ p a=> ?_,λ p a=> ?_,Di b.b λ p a=>by have:=h.lt p a;omega⟩
 ·rcases bO.1 a with rfl|a
  ·exact hy h.aJ.size i
  ·exact b.own p a
 ·rcases bO.1 a with rfl|a
  ·exact f
  ·exact b.a p a
def kK.aR{s:af}{w a:aa}{r:ab}(hd:cD s=none)(c:fM r lM)(b:BW w a):kK s w (ao (aM #[r,O 9])) a:=by
 unfold kK;rw[hd];exact⟨⟨r,rfl,c⟩,b⟩
def Kj(s:af)(w:aa):Calls prog 101 #[ad s] w (kK s w):=by
 have k8:St w (w.alloc (.cells zeroCells92 92)) [(w.heap.size,92,zeroCells92)]:=(St.start w).alloc zeroCells92 92;have b9:=Z k8;by_cases M:s.size=32
 ·obtain⟨b,z⟩:∃b,(s.data.toList.getD 31 0).toNat=b:=⟨_,rfl⟩;have g0:b<256:=by rw[<-z];exact UInt8.toNat_lt _
  have l2:=Tz s M;rw[z] at l2;have a:=Oh ⟨b,g0⟩;have G:=Oj ⟨b,g0⟩;simp only[] at a G;obtain⟨o,d⟩:∃o,iG s=o:=⟨_,rfl⟩;have l0:decide (0<bits .and .u8 (b:Int) 128)=o:=by
   rw[a,<-d,iG,z];by_cases h:128<=b<;>simp[h]
  obtain⟨A,k0⟩:∃A,bits .and .u8 (b:Int) 128=A:=⟨_,rfl⟩;rw[k0] at l0;obtain⟨y,e9⟩:∃y,b%128=y:=⟨_,rfl⟩;rw[e9] at G;have c1:=Z d;have i3:ai (cN s=⟨(s.data.toList.take 31++[UInt8.ofNat y]).toArray⟩):=Z (by rw[cN,z,e9]);have l3:((s.size:Int) !=32)=false:=by rw[M];rfl
  clear a z d
  go_enter func101,ntmps101
  go_upto_region 3 with fail
  generalize w.alloc (.cells zeroCells92 92)=b0 at*;refine kW 8 (λ m=> ?_);refine V2 0 16 m ?_;refine V2 1 17 m ?_;refine V2 2 18 m ?_;refine V2 3 19 m ?_;refine V2 4 20 m ?_;refine V2 5 21 m ?_;refine V2 6 22 m ?_;refine V2 7 4 m ?_;refine ay.tail V ?_;have i1:=Z (b9.U.below m);have i4:=Z e9;simp only[ck,bH];generalize b0.drew=l4 at*
  go_upto_region 4 with fail
  have g6:(s.extract 0 31)++⟨#[UInt8.ofNat y]⟩=cN s:=by
   rw[i3.U];apply pZ;apply ju;simp only[rN,Ae];congr 1;simp[Aq]
  have o6:y<256:=by have:=i4.U;omega
  have e8:=λ f=>Si (cN s) f;obtain⟨a0,g5⟩:∃a0,cN s=a0:=⟨_,rfl⟩;rw[g5] at g6 e8;have f4:=Z g5;obtain⟨n,G⟩:∃n,FM.dE a0=n:=⟨_,rfl⟩;obtain⟨F,g1⟩:∃F,FM.dq a0=F:=⟨_,rfl⟩;rw[G,g1] at e8;have i6:=Z G;have i5:=Z g1;have i8:=Z e8;have i9:=Z g6;refine kW 12 (λ m=> ?_);refine V2 0 24 m ?_;refine V2 1 25 m ?_;refine V2 2 26 m ?_;refine ay.late (w0:=l4) [(3,some 27),(4,some 28),(5,some 29),(6,some 30),(7,some 23),(8,some 31),(9,some 32),(10,some 6),(11,none)] [(3,5,#[.int .u8 (y:Int)],some 1),(10,88,ak (List.replicate 16 0),none)] [(10,11,8)] (λ i v=>match i with|4=>v=ad ⟨#[UInt8.ofNat y]⟩|5=>v=ad a0|6=>(∃r,v=aM #[r,O F]/\aN r n)|7=>(∃r,v=aM #[r,O F]/\aN r n)|8=>aN v n|9=>v=O F|_=>True) V V m ⟨λ o d=> ?_,λ o d=> ?_,λ o d=> ?_,λ o d=> ?_,λ o d=> ?_,λ o d=> ?_,λ o d=> ?_,λ o d=> ?_,λ o d=> ?_,trivial⟩ (λ D b7 a8 a6 e5 e7=> ?_)
  ·simp only[sG] at d;subst d;refine dB.make rfl (gl zD) rfl (λ a f q k x=> ?_) (λ g J=>trivial);have e0:=q 26 _ V rfl;simp only[execOp,ke,bZ,eg,e0]
   go_simp
   rfl
  ·simp only[sG] at d;subst d;refine dB.value rfl (gl zD) rfl (λ a f q k x=> ?_);obtain⟨C,e0,l⟩:=k 3 27 V;obtain⟨g,J,rfl,e⟩:=l.a 5 _ _ rfl rfl;have a7:=tz (P:=prog) f 29 9 5 ⟨g,0,none⟩ 1 [UInt8.ofNat y] cP eJ df (λ j p=>by
    have u:j=0:=by simpa using p
    subst u;rw[gp,dz,e.cell 0];simp;omega)
   refine⟨ad ⟨#[UInt8.ofNat y]⟩,?_,rfl⟩;simp only[gq,ub,dz] at a7;simp only[execOp,e0,bc,cO,a7,dd,dN]
  ·simp only[sG] at d;subst d;refine dB.value rfl (gl zD) rfl (λ a f q k x=> ?_);have e0:=q 25 _ V rfl;obtain⟨C,e1,l⟩:=k 4 28 V;have j:=l.val;simp only[] at j;subst j;refine⟨ad a0,?_,rfl⟩;rw[<-i9.U];simp only[execOp,e0,e1]
   go_simp
  ·simp only[sG] at d;subst d;refine dB.call 184 rfl rfl rfl (en 184) (gl zD) rfl (λ a f q k x=> ?_);obtain⟨C,e0,l⟩:=k 5 29 V;simp only[ke,bZ,eg,e0];have j:=l.val;simp only[] at j;subst j;refine(i8.U f).mono ?_;rintro e Q ⟨⟨r,rfl,E⟩,z⟩;exact⟨⟨_,rfl,r,rfl,E⟩,z⟩
  ·simp only[sG] at d;subst d;refine dB.value rfl (gl zD) rfl (λ a f q k x=> ?_);obtain⟨C,e0,l⟩:=k 6 30 V;refine⟨C,?_,l.val⟩;simp only[execOp,e0]
   go_simp
  ·simp only[sG] at d;subst d;refine dB.value rfl (gl zD) rfl (λ a f q k x=> ?_);obtain⟨C,e0,l⟩:=k 7 23 V;obtain⟨r,rfl,E⟩:=l.val;refine⟨r,?_,E⟩;simp only[execOp,e0]
   go_simp
  ·simp only[sG] at d;subst d;refine dB.value rfl (gl zD) rfl (λ a f q k x=> ?_);obtain⟨C,e0,l⟩:=k 7 23 V;obtain⟨r,rfl,E⟩:=l.val;refine⟨O F,?_,rfl⟩;simp only[execOp,e0]
   go_simp
  ·simp only[sG] at d;subst d;exact dB.alloc rfl rfl (gl zD) rfl mh (λ g J=>trivial)
  ·simp only[sG] at d;subst d;exact dB.store 10 8 rfl rfl rfl V rfl rfl rfl trivial (λ v j=>by obtain⟨r,rfl,-,-⟩:=aN.row j;exact⟨r,rfl,aN.info j,aN.hold j,aN.all j⟩)
  have e4:aN (D 8) n:=a6 8 zD;have j9:D 9=O F:=a6 9 zD;obtain⟨H,l1,j8,k3⟩:=e5 10 zD _ _ _ rfl;simp only[nW,aS,av,ax];simp only[ck,bH];obtain⟨I,g8,-,-⟩:=e4.row;have k4:ah b7 H 88 I:=by
   have:vg [(10,11,8)] D 10 (ak (List.replicate 16 0))=I:=by
    show(D 8).cells=I;rw[g8];rfl
   rwa[this] at k3
  rw[g8] at e4;simp only[j9,j8,bc];have a5:=Z e4;have N:=Z (i1.U.join a8 l1 k4);have a4:ai (FM.dq (cN s)=F):=Z (by rw[f4.U];exact i5.U);have b4:ai (FM.dE (cN s)=n):=Z (by rw[f4.U];exact i6.U);by_cases e3:F=0
  ·subst e3
   go_upto_region 5 with fail
   go_upto_region 7 with fail
   have b6:=a5.U.info;refine kW 6 (λ m=> ?_);refine W2 1 37 rfl rfl (cu V 88 (Operand.tmp 6) rfl (H) zR 88 _ (0,0) _ (λ f h=>(show ah b7 (H) 88 (I) from N.U.get zS).up h) aY rfl b6) m ?_;refine W2 2 38 rfl rfl (cu V 88 (Operand.tmp 6) rfl (H) zR 88 _ (0,0) _ (λ f h=>(show ah b7 (H) 88 (I) from N.U.get zS).up h) aY rfl b6) m ?_;refine ay.free (w0:=b7) [(0,36),(3,39),(4,8),(5,9)] [(4,88,ak (List.replicate 16 0),none),(5,88,ak (List.replicate 16 0),none)] (λ i v=>match i with|0=>aN v 1|3=>aN v (aF n n)|_=>True) V V m ⟨λ o d=> ?_,OC (eV a5.U a5.U),OA mh,OA mh,trivial⟩ (λ D u a8 b5 e7=> ?_)
   ·simp only[sG] at d;subst d;refine dA.call 185 rfl rfl rfl (en 185) zD rfl (λ a f q k x=> ?_);simp only[ke,bZ,eg,eval_const];exact yb 1 zD f
   obtain⟨K,o2,f6,f8⟩:=(b5 4 zD).2 _ _ _ rfl;obtain⟨L,o3,f7,k5⟩:=(b5 5 zD).2 _ _ _ rfl;have g3:K≠L:=λ h=>e7 4 zD 5 zD zD zD zD (by rw[f6,f7,h]);have T:aN (D 0) 1:=(b5 0 zD).1;have X:aN (D 3) (aF n n):=(b5 3 zD).1;simp only[ky,aS,av,ax];simp only[ck,bH];simp only[f6,f7,bc];generalize D 0=o8 at T;generalize D 3=o9 at X;obtain⟨S,rfl,-,-⟩:=T.row;obtain⟨a1,rfl,-,-⟩:=X.row;have o5:=N.U.aJ.size;have g2:=N.U.lt;have j0:=N.U.below a8;have j1:=j0.add f8 W (λ p B=>by have:=g2 p B;omega) S;have f9:=k5.cH S (gr g3);have j2:=j1.add f9 W (λ p B=>by rcases bO.1 B with rfl|B;exact g3;have:=g2 p B;omega) a1;have f0:=T.info;have j3:=T.all;have j6:=T.hold;have f2:=X.info;have j4:=X.all;have j7:=X.hold;have a2:=Z j2;have f3:=Z T;have f5:=Z X;generalize o1:ak (List.replicate 16 0)=p1 at*
   go_upto_region 8 with(first|(refine cm rfl 88 (Operand.tmp 8) (Operand.tmp 36) rfl (K) (S) zR zR 88 _ f8 f0 j6 j3 ?_)|(refine cm rfl 88 (Operand.tmp 9) (Operand.tmp 39) rfl (L) (a1) zR zR 88 _ f9 f2 j7 j4 ?_))
   generalize(u.setRow K S).setRow L a1=b1 at*;refine kW 16 (λ m=> ?_);refine W2 0 41 rfl rfl (cu V 88 (Operand.tmp 9) rfl (L) zR 88 _ (0,0) _ (λ f h=>(show ah b1 (L) 88 (a1) from a2.U.get zS).up h) aY rfl f2) m ?_;refine W2 1 42 rfl rfl (cu V 88 (Operand.tmp 8) rfl (K) zR 88 _ (0,0) _ (λ f h=>(show ah b1 (K) 88 (S) from a2.U.get zS).up h) aY rfl f0) m ?_;refine W2 4 45 rfl rfl (cu V 88 (Operand.tmp 9) rfl (L) zR 88 _ (0,0) _ (λ f h=>(show ah b1 (L) 88 (a1) from a2.U.get zS).up h) aY rfl f2) m ?_;refine W2 6 47 rfl rfl (cu V 88 (Operand.tmp 8) rfl (K) zR 88 _ (0,0) _ (λ f h=>(show ah b1 (K) 88 (S) from a2.U.get zS).up h) aY rfl f0) m ?_;refine ay.late (w0:=b1) [(2,some 43),(3,some 44),(5,some 46),(7,some 48),(8,some 49),(9,some 50),(10,some 51),(11,some 40),(12,some 52),(13,some 53),(14,some 10),(15,none)] [(14,88,ak (List.replicate 16 0),none)] [(14,15,12)] (λ i v=>match i with|2=>aN v (bM (aF n n) 1)|3=>aN v cK|5=>aN v (aF cK (aF n n))|7=>aN v (bt (aF cK (aF n n)) 1)|8=>aN v (FM.cZ (bt (aF cK (aF n n)) 1))|9=>aN v (aF (bM (aF n n) 1) (FM.cZ (bt (aF cK (aF n n)) 1)))|10=>(∃r,v=aM #[r,.bool (FM.eE (aF (bM (aF n n) 1) (FM.cZ (bt (aF cK (aF n n)) 1)))).isSome]/\aN r ((FM.eE (aF (bM (aF n n) 1) (FM.cZ (bt (aF cK (aF n n)) 1)))).getD 0))|11=>(∃r,v=aM #[r,.bool (FM.eE (aF (bM (aF n n) 1) (FM.cZ (bt (aF cK (aF n n)) 1)))).isSome]/\aN r ((FM.eE (aF (bM (aF n n) 1) (FM.cZ (bt (aF cK (aF n n)) 1)))).getD 0))|12=>aN v ((FM.eE (aF (bM (aF n n) 1) (FM.cZ (bt (aF cK (aF n n)) 1)))).getD 0)|13=>v= .bool (FM.eE (aF (bM (aF n n) 1) (FM.cZ (bt (aF cK (aF n n)) 1)))).isSome|_=>True) V V m ⟨λ o d=> ?_,λ o d=> ?_,λ o d=> ?_,λ o d=> ?_,λ o d=> ?_,λ o d=> ?_,λ o d=> ?_,λ o d=> ?_,λ o d=> ?_,λ o d=> ?_,λ o d=> ?_,λ o d=> ?_,trivial⟩ (λ D u a8 a6 e5 e7=> ?_)
   ·simp only[sG] at d;subst d;refine dB.call 186 rfl rfl rfl (en 186) (gl zD) rfl (λ a f q k x=> ?_);have e0:=q 41 _ V rfl;have e1:=q 42 _ V rfl;simp only[ke,bZ,eg,e0,e1];exact sM f5.U f3.U f
   ·simp only[sG] at d;subst d;refine dB.call 187 rfl rfl rfl (en 187) (gl zD) rfl (λ a f q k x=> ?_);simp only[ke,bZ,eg,eval_const];exact Cr B2 f
   ·simp only[sG] at d;subst d;refine dB.call 107 rfl rfl rfl (en 107) (gl zD) rfl (λ a f q k x=> ?_);obtain⟨C,e0,l⟩:=k 3 44 V;have e1:=q 45 _ V rfl;simp only[ke,bZ,eg,e0,e1];exact eV l.val f5.U f
   ·simp only[sG] at d;subst d;refine dB.call 188 rfl rfl rfl (en 188) (gl zD) rfl (λ a f q k x=> ?_);obtain⟨C,e0,l⟩:=k 5 46 V;have e1:=q 47 _ V rfl;simp only[ke,bZ,eg,e0,e1];exact qT l.val f3.U f
   ·simp only[sG] at d;subst d;refine dB.call 106 rfl rfl rfl (en 106) (gl zD) rfl (λ a f q k x=> ?_);obtain⟨C,e0,l⟩:=k 7 48 V;simp only[ke,bZ,eg,e0];exact Ip l.val f
   ·simp only[sG] at d;subst d;refine dB.call 107 rfl rfl rfl (en 107) (gl zD) rfl (λ a f q k x=> ?_);obtain⟨C,e0,l⟩:=k 2 43 V;obtain⟨R,e1,p⟩:=k 8 49 V;simp only[ke,bZ,eg,e0,e1];exact eV l.val p.val f
   ·simp only[sG] at d;subst d;refine dB.call 189 rfl rfl rfl (en 189) (gl zD) rfl (λ a f q k x=> ?_);obtain⟨C,e0,l⟩:=k 9 50 V;simp only[ke,bZ,eg,e0];refine(Su l.val f).mono ?_;rintro e Q ⟨⟨r,rfl,E⟩,z⟩;exact⟨⟨_,rfl,r,rfl,E⟩,z⟩
   ·simp only[sG] at d;subst d;refine dB.value rfl (gl zD) rfl (λ a f q k x=> ?_);obtain⟨C,e0,l⟩:=k 10 51 V;refine⟨C,?_,l.val⟩;simp only[execOp,e0]
    go_simp
   ·simp only[sG] at d;subst d;refine dB.value rfl (gl zD) rfl (λ a f q k x=> ?_);obtain⟨C,e0,l⟩:=k 11 40 V;obtain⟨r,rfl,E⟩:=l.val;refine⟨r,?_,E⟩;simp only[execOp,e0]
    go_simp
   ·simp only[sG] at d;subst d;refine dB.value rfl (gl zD) rfl (λ a f q k x=> ?_);obtain⟨C,e0,l⟩:=k 11 40 V;obtain⟨r,rfl,E⟩:=l.val;refine⟨_,?_,rfl⟩;simp only[execOp,e0]
    go_simp
   ·simp only[sG] at d;subst d;exact dB.alloc rfl rfl (gl zD) rfl mh (λ g J=>trivial)
   ·simp only[sG] at d;subst d;exact dB.store 14 12 rfl rfl rfl V rfl rfl rfl trivial (λ v j=>by obtain⟨r,rfl,-,-⟩:=aN.row j;exact⟨r,rfl,aN.info j,aN.hold j,aN.all j⟩)
   have h12:aN (D 12) ((FM.eE (aF (bM (aF n n) 1) (FM.cZ (bt (aF cK (aF n n)) 1)))).getD 0):=a6 12 zD;have h13:D 13= .bool (FM.eE (aF (bM (aF n n) 1) (FM.cZ (bt (aF cK (aF n n)) 1)))).isSome:=a6 13 zD;obtain⟨a,k9,F,k1⟩:=e5 14 zD _ _ _ rfl;simp only[nW,aS,av,ax];simp only[ck,bH];obtain⟨J,g4,-,-⟩:=h12.row;have k2:ah u a 88 J:=by
    have:vg [(14,15,12)] D 14 (ak (List.replicate 16 0))=J:=by
     show(D 12).cells=J;rw[g4];rfl
    rwa[this] at k1
   rw[g4] at h12;simp only[h13,F,bc];have Q:=Z (a2.U.join a8 k9 k2);obtain⟨c,a7⟩:∃c,FM.eE (aF (bM (aF n n) 1) (FM.cZ (bt (aF cK (aF n n)) 1)))=c:=⟨_,rfl⟩;have b3:ai (kj n=c):=Z a7;rw[a7] at h12⊢;cases c with
   |none=>
    have HD:ai (cD s=none):=Z (by unfold cD;rw[au M,au a4.U,b4.U,b3.U]);have k:=Q.U.get (g:=w.heap.size) (t:=92) (cs:=zeroCells92) zS;have q:=Z (bL Q.U.aJ (aQ _) zeroCells92 (g:=w.heap.size));simp only[Option.isSome_none];cases o<;>(
     go_upto_region 9 with fail
     go_upto_region 10 with fail
     have p:=Z (k.setRow zeroCells92)
     go_wp2_with(first|(refine wpList_build rfl 92 _ rfl zeroCells92 (by exact xG) ?_)|(refine cm rfl 92 (Operand.tmp 2) (Operand.tmp 63) rfl (w.heap.size) (zeroCells92) zR zR 92 _ k pU rfl zV ?_))
     refine cr (v:= .tuple #[.agg zeroCells92,O 9]) (hR uz _ _ w.heap.size 92 zeroCells92 (0,0) _ rfl p.U fC rfl pU) rfl ?_;exact kK.aR HD.U zZ q.U)
   |some x=>
    simp only[Option.isSome_some];simp only[xi] at h12;have R:=Z h12
    go_upto_region 9 with fail
    cases o with
    |false=>
     have b8:ai (cD s=some (fT x n)):=Z (by unfold cD;rw[au M,au a4.U,b4.U,b3.U,c1.U];rfl)
     go_upto_region 11 with fail
     go_upto_region 13 with fail
     have j:=Q.U.get (g:=a) (t:=88) (cs:=J) zS;have e6:=Q.U.get (g:=H) (t:=88) (cs:=I) zS;have f1:=R.U.info
     go_wp2_with(first|(refine bD rfl 88 (Operand.tmp 10) rfl (a) zR 88 J (0,0) _ j aY rfl f1 ?_)|(refine bD rfl 88 (Operand.tmp 6) rfl (H) zR 88 I (0,0) _ e6 aY rfl b6 ?_))
     refine(DI R.U a5.U _).mono ?_;rintro e wf ⟨⟨r,rfl,E⟩,z⟩;obtain⟨l,rfl,B⟩:=E.p.pC;have a3:=Z (Q.U.below z);have k:=a3.U.get (g:=w.heap.size) (t:=92) (cs:=zeroCells92) zS;have q:=Z (bL a3.U.aJ (aQ _) l (g:=w.heap.size));have p:=Z (k.setRow l);have a9:=B.info;have d9:=B.all;have e2:zeroCells92.size=l.size:=by rw[B.size,ot]
     have c2:=Z B
     go_wp2_with((refine cm rfl 92 (Operand.tmp 2) (Operand.tmp 69) rfl (w.heap.size) (l) zR zR 92 _ k a9 e2 d9 ?_))
     refine cr (v:= .tuple #[.agg l,O 0]) (hR uz _ _ w.heap.size 92 l (0,0) _ rfl p.U fC rfl a9) rfl ?_;unfold kK;rw[b8.U];exact⟨⟨_,rfl,c2.U.p⟩,q.U⟩
    |true=>
     obtain⟨c3,c4,d1,d2,d3,d4,d5,d6,d7,d8,c5,c6,c7,c8,c9,d0,rfl⟩:=nw R.U.cells.1;have j:=Q.U.get (g:=a) (t:=88) (cs:=#[c3,c4,d1,d2,d3,d4,d5,d6,d7,d8,c5,c6,c7,c8,c9,d0]) zS;have l5:u.cell? ⟨a,0,none⟩=some c3:=j.cell 0;have l6:u.cell? ⟨a,1,none⟩=some c4:=j.cell 1;have n3:u.cell? ⟨a,2,none⟩=some d1:=j.cell 2;have n4:u.cell? ⟨a,3,none⟩=some d2:=j.cell 3;have n5:u.cell? ⟨a,4,none⟩=some d3:=j.cell 4;have n6:u.cell? ⟨a,5,none⟩=some d4:=j.cell 5;have n7:u.cell? ⟨a,6,none⟩=some d5:=j.cell 6;have n8:u.cell? ⟨a,7,none⟩=some d6:=j.cell 7;have n9:u.cell? ⟨a,8,none⟩=some d7:=j.cell 8;have o0:u.cell? ⟨a,9,none⟩=some d8:=j.cell 9;have l7:u.cell? ⟨a,10,none⟩=some c5:=j.cell 10;have l8:u.cell? ⟨a,11,none⟩=some c6:=j.cell 11;have l9:u.cell? ⟨a,12,none⟩=some c7:=j.cell 12;have n0:u.cell? ⟨a,13,none⟩=some c8:=j.cell 13;have n1:u.cell? ⟨a,14,none⟩=some c9:=j.cell 14;have n2:u.cell? ⟨a,15,none⟩=some d0:=j.cell 15
     go_wp2_with fail
     refine(Sv R.U _).mono ?_;rintro e f ⟨rfl,z⟩;have b2:=Z (Q.U.below z);cases g7:decide (x=0) with
     |true=>
      have HD:ai (cD s=none):=Z (by
       unfold cD;rw[au M,au a4.U,b4.U,b3.U];simp only[c1.U,g7,Bool.and_self,if_true])
      have k:=b2.U.get (g:=w.heap.size) (t:=92) (cs:=zeroCells92) zS;have q:=Z (bL b2.U.aJ (aQ _) zeroCells92 (g:=w.heap.size))
      go_upto_region 10 with fail
      have p:=Z (k.setRow zeroCells92)
      go_wp2_with(first|(refine wpList_build rfl 92 _ rfl zeroCells92 (by exact xG) ?_)|(refine cm rfl 92 (Operand.tmp 2) (Operand.tmp 63) rfl (w.heap.size) (zeroCells92) zR zR 92 _ k pU rfl zV ?_))
      refine cr (v:= .tuple #[.agg zeroCells92,O 9]) (hR uz _ _ w.heap.size 92 zeroCells92 (0,0) _ rfl p.U fC rfl pU) rfl ?_;exact kK.aR HD.U zZ q.U
     |false=>
      have b8:ai (cD s=some (fT (ek x) n)):=Z (by
       unfold cD;rw[au M,au a4.U,b4.U,b3.U];simp[c1.U,g7])
      generalize o4: #[c3,c4,d1,d2,d3,d4,d5,d6,d7,d8,c5,c6,c7,c8,c9,d0]=J at*;have f1:=R.U.info;have j:=b2.U.get (g:=a) (t:=88) (cs:=J) zS
      go_upto_region 11 with fail
      go_upto_region 12 with fail
      go_wp2_with((refine bD rfl 88 (Operand.tmp 10) rfl (a) zR 88 J (0,0) _ j aY rfl f1 ?_))
      refine(ya R.U _).mono ?_;rintro e i0 ⟨⟨o7,rfl,G⟩,z⟩;obtain⟨C,rfl,-,-⟩:=G.row;have k6:=j.up z;have i2:=Z (b2.U.below z);have g9:=G.info;have an:=G.all;have j5:J.size=C.size:=by rw[R.U.cells.1,G.cells.1]
      have c0:ai (St w (i0.setRow a C) [(a,88,C),(L,88,a1),(K,88,S),(H,88,I),(w.heap.size,92,zeroCells92)]):=Z (St.setAt [] _ i2.U C);have i7:=Z (show aN (aG C) (ek x) from G)
      go_upto_region 13 with((refine cm rfl 88 (Operand.tmp 10) (Operand.tmp 66) rfl (a) (C) zR zR 88 _ k6 g9 j5 an ?_))
      generalize i0.setRow a C=p0 at*;have k7:=c0.U.get (g:=a) (t:=88) (cs:=C) zS;have e6:=c0.U.get (g:=H) (t:=88) (cs:=I) zS
      go_wp2_with(first|(refine bD rfl 88 (Operand.tmp 10) rfl (a) zR 88 C (0,0) _ k7 aY rfl g9 ?_)|(refine bD rfl 88 (Operand.tmp 6) rfl (H) zR 88 I (0,0) _ e6 aY rfl b6 ?_))
      refine(DI i7.U a5.U _).mono ?_;rintro e wf ⟨⟨r,rfl,E⟩,z⟩;obtain⟨l,rfl,B⟩:=E.p.pC;have a3:=Z (c0.U.below z);have k:=a3.U.get (g:=w.heap.size) (t:=92) (cs:=zeroCells92) zS;have q:=Z (bL a3.U.aJ (aQ _) l (g:=w.heap.size));have p:=Z (k.setRow l);have a9:=B.info;have d9:=B.all;have e2:zeroCells92.size=l.size:=by rw[B.size,ot]
      have c2:=Z B
      go_wp2_with((refine cm rfl 92 (Operand.tmp 2) (Operand.tmp 69) rfl (w.heap.size) (l) zR zR 92 _ k a9 e2 d9 ?_))
      refine cr (v:= .tuple #[.agg l,O 0]) (hR uz _ _ w.heap.size 92 l (0,0) _ rfl p.U fC rfl a9) rfl ?_;unfold kK;rw[b8.U];exact⟨⟨_,rfl,c2.U.p⟩,q.U⟩
  ·have HD:ai (cD s=none):=Z (by unfold cD;rw[au M,ar (by rw[a4.U];exact e3)]);have a:(F !=0)=true:=by simpa using e3
   have k:=N.U.get (g:=w.heap.size) (t:=92) (cs:=zeroCells92) zS;have q:=Z (bL N.U.aJ (aQ _) zeroCells92 (g:=w.heap.size))
   go_upto_region 5 with fail
   go_upto_region 6 with fail
   have p:=Z (k.setRow zeroCells92)
   go_wp2_with(first|(refine wpList_build rfl 92 _ rfl zeroCells92 (by exact xG) ?_)|(refine cm rfl 92 (Operand.tmp 2) (Operand.tmp 35) rfl (w.heap.size) (zeroCells92) zR zR 92 _ k pU rfl zV ?_))
   refine cr (v:= .tuple #[.agg zeroCells92,O 9]) (hR uz _ _ w.heap.size 92 zeroCells92 (0,0) _ rfl p.U fC rfl pU) rfl ?_;exact kK.aR HD.U zZ q.U
 ·have HD:ai (cD s=none):=Z (by unfold cD;rw[ar M]);have l3:((s.size:Int) !=32)=true:=by simp;omega
  go_enter func101,ntmps101
  go_upto_region 2 with fail
  have k:=b9.U.get (g:=w.heap.size) (t:=92) (cs:=zeroCells92) zS;generalize w.alloc (.cells zeroCells92 92)=b0 at*;have q:=Z (bL b9.U.aJ (aQ _) zeroCells92 (g:=w.heap.size));have p:=Z (k.setRow zeroCells92)
  go_wp2_with(first|(refine wpList_build rfl 92 _ rfl zeroCells92 (by exact xG) ?_)|(refine cm rfl 92 (Operand.tmp 2) (Operand.tmp 15) rfl (w.heap.size) (zeroCells92) zR zR 92 _ k pU rfl zV ?_))
  refine cr (v:= .tuple #[.agg zeroCells92,O 9]) (hR uz _ _ w.heap.size 92 zeroCells92 (0,0) _ rfl p.U fC rfl pU) rfl ?_;exact kK.aR HD.U zZ q.U
end
section
open PT
def sv:af:=⟨(88::List.replicate 31 102).toArray⟩
def dO:Q4:=⟨15112221349535400772501151409588531511454012693041857206046113283949847762202,46316835694926478169428394003475163141307993866256225615783033603165251855960,1,46827403850823179245072216630277197565144205554125654976674165829533817101731⟩
def BB:cD sv=some dO:=by kernel_rfl
def Yq:(⟨#[88]⟩:af)++⟨(Lib.repeatL (ByteArray.mk #[102]).data.toList 31).toArray⟩=sv:=by kernel_rfl
def DF(w:aa):Calls prog 35 #[] w λ e a=>(∃r,e=ao r/\fM r dO)/\BW w a:=by
 have D:St w (w.alloc (.cells zeroCells92 92)) [(w.heap.size,92,zeroCells92)]:=(St.start w).alloc zeroCells92 92;have s:=Z D;have p:=Yq;obtain⟨h,k⟩:∃h:af,⟨(Lib.repeatL (ByteArray.mk #[102]).data.toList 31).toArray⟩=h:=⟨_,rfl⟩;have A:ai (∀a:aa,CB 98 #[ad ⟨#[102]⟩,O 31] a (ad h)):=Z (λ a=>by
  have:=Lr ⟨#[102]⟩ 31 a zD zD;rw[k] at this;exact this)
 rw[k] at p;have I:h.size=31:=by rw[<-k];kernel_rfl
 obtain⟨c,o⟩:∃c,sv=c:=⟨_,rfl⟩;have HD:ai (cD c=some dO):=Z (by rw[<-o];exact BB);rw[o] at p
 go_enter func35,ntmps35
 go_upto_region 1 with fail
 generalize w.alloc (.cells zeroCells92 92)=J at*
 go_wp2_with fail
 refine(A.U _).mono ?_;rintro e K ⟨rfl,E⟩;have u:=Z (s.U.below E)
 go_wp2_with fail
 refine(Kj c _).mono ?_;rintro e b ⟨hd,F⟩;rw[HD.U] at hd;obtain⟨r,rfl,G⟩:=hd;obtain⟨a,rfl,d⟩:=G.pC;have x:=Z (u.U.below F);have i:=Z (St.fresh x.U zeroCells92 a 92);have B:ah (b.alloc (.cells zeroCells92 92)) b.heap.size 92 zeroCells92:=ah.new _ _ _;have f:=d.info;have l:=d.all;have m:zeroCells92.size=a.size:=by rw[d.size,ot]
 have z:=Z d
 go_upto_region 2 with(refine cm rfl 92 (Operand.tmp 1) (Operand.tmp 7) rfl b.heap.size a zR zR 92 _ B f m l ?_)
 generalize H:b.heap.size=j at*;generalize(b.alloc (.cells zeroCells92 92)).setRow j a=L at*;have C:=i.U.get (g:=j) (t:=92) (cs:=a) zS;have n:=i.U.get (g:=w.heap.size) (t:=92) (cs:=zeroCells92) zS;have y:=Z (bL i.U.aJ (aQ _) a (g:=w.heap.size));have q:=Z (n.setRow a)
 go_wp2_with(first|refine bD rfl 92 (Operand.tmp 1) rfl j zR 92 a (0,0) _ C fC rfl f ?_|refine cm rfl 92 (Operand.tmp 0) (Operand.tmp 9) rfl w.heap.size a zR zR 92 _ n f m l ?_)
 refine cr (v:= .agg a) (fI results35 _ _ w.heap.size 92 a (0,0) _ rfl q.U fC rfl f) rfl ?_;exact⟨⟨_,rfl,z.U.p⟩,y.U⟩
end
section
open PT
def cB(s:af):af:=⟨(WM.sum s.data.toList).toArray⟩
def db(s:af):af:=FM.enc (FM.aH (s.data.toList.take 64)%SC.LQ)
def hY(s:af):Bool:=decide (s.size=32)&&decide (db s=s)
def lI(a b c:af):af:=FM.enc ((FM.aH (c.data.toList.take 32)+FM.aH (a.data.toList.take 32)*FM.aH (b.data.toList.take 32))%SC.LQ)
def sy(l:List UInt8):List UInt8:=(l.set 0 (l.getD 0 0&&&248)).set 31 (l.getD 31 0&&&63|||64)
def lG(s:af):af:=⟨(sy (s.data.toList.take 32)).toArray⟩
structure KY where
 a:af
 pre:af
 pub:af
def bC(a:af):KY:=
 ⟨lG ((cB a).extract 0 32),(cB a).extract 32 64,hK (fR dO (lG ((cB a).extract 0 32)))⟩
def gE(first a m:af):af:=db (cB (first++(a++m)))
def KY.first(k:KY)(m:af):af:=hK (fR dO (db (cB (k.pre++m))))
def KY.sign(k:KY)(m:af):af:=
 if k.pub=⟨#[]⟩ then⟨#[]⟩ else k.first m++lI (gE (k.first m) k.pub m) k.a (db (cB (k.pre++m)))
def nI(c m b:af):Bool:=
 match cD c with
 |none=>false
 |some a=>decide (hK (ga (fR dO (b.extract 32 64)) (fR (tb a) (gE (b.extract 0 32) c m)))=b.extract 0 32)
def hZ(b m a:af):Bool:=decide (a.size=64)&&(hY (a.extract 32 64)&&nI b m a)
end
