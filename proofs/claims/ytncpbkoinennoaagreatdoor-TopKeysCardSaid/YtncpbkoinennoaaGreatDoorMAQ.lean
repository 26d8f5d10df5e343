import Derived.Test.YtncpbkoinennoaaGreatDoorMAM
import Derived.Test.YtncpbkoinennoaaGreatDoorMAN
set_option linter.all false
set_option maxRecDepth 100000
set_option maxHeartbeats 0
namespace Go.Proofs.YtncpbkoinennoaaGreatDoor
open Go.RowKit Proofs.Tryz
attribute [local irreducible] wpList Calls
variable{r:Int}{l:List Int}{I:List Y}{m:List Nat}{g i n:Nat}{t:TypeId}
def zP:(prog.info? 3).map (λ i=>(i.zero,i.size,i.bytes))=some (some (O 0),1,8):=by kernel_rfl
def nG:cW 193 3 1 8:=cW.mk' uB zP rfl zD
abbrev aZ(L:List Int):List ab:=L.map λ x=>O x
def I6{ys:List ab}(h:l[i]?=some r):(aZ l++ys)[i]?=some (O r):=by
 obtain⟨a,rfl⟩:=cw.1 h;rw[kO (by simpa using a)];simp[a]
def nU{w wr:aa}(h:ae w wr m I)(i:Nat){size:Nat}{v:ab}{b:List ab}(c:I[i]?=some (Y.ow t size v n b))(q:n≠0):
 ∃g a d,v=ag (some ⟨g,0,none⟩) n a/\n<=a/\a<=maxLen/\(b++d).length=a*size/\ae w wr m (I.set i (Y.row g t (b++d))):=by
 have r:wr.ownsRow 0 t size v n b:=h.get c
 obtain⟨u,⟨-,f⟩|⟨g,a,e,rfl,-,j,l,p,s,d⟩⟩:=r
 ·exact absurd f q
 ·refine⟨g,a,e.toList.drop (n*size),rfl,l,p,?_,?_⟩
  ·rw[<-d,nf];simpa using s
  ·refine h.at i c ⟨aW.refl _ _ _,?_,λ k o=> .inl ?_⟩
   ·show ah wr g t _
    rw[<-d,nf]
    exact j
   ·have:k=g:=by simpa[Y.row] using o
    subst this
    simp[Y.ow,Value.ownBlock]
def pL{w wr:aa}(h:ae w wr m I)(i:Nat){b:List ab}(c:I[i]?=some (Y.row g t b))(n a size:Nat)(e:n<=a)(o:a<=maxLen)(d:b.length=a*size)(f:List ab)(hx:b.take (n*size)=f):
 ae w wr m (I.set i (Y.ow t size (ag (some ⟨g,0,none⟩) n a) n f)):=by
 have j:=h.row c
 refine h.at i c ⟨aW.refl _ _ _,⟨?_,.inr ⟨g,a,b.toArray,rfl,bf _,j,e,o,by simpa using d,by simpa using hx⟩⟩,λ k l=> .inl ?_⟩
 ·rw[<-hx,eA,d]
  have:=lZ size e
  omega
 ·have:k=g:=by simpa[Y.ow,Value.ownBlock] using l
  subst this
  simp[Y.row]
def FM.iP.le{o:List Int}{c:Int}(h:FM.iP l i c o)(hd:l.length<=32)(d:FM.val l<65536^32):i<=32:=by
 rcases h.min with a|a
 ·omega
 ·refine gY λ b=> ?_;have:=FM.tq (show 32<=i-1 by omega);omega
def BV{w:aa}{cap:Nat}{t:List ab}(h:(Y.row g 3 (aZ l++t)).P w)(hd:∀x∈l,0<=x/\x<=1000000000000000)(G:l.length<=32)(q:FM.val l<65536^32):
 Calls prog 254 #[ag (some ⟨g,0,none⟩) l.length cap] w λ e a=>∃v D,e=ao v/\FM.lO l D/\ae w a [] [Y.ow 3 1 v D.length (aZ D)]:=by
 have u:=Z (aX h bg)
 have a:=Z (ae.start w [])
 have z:=Z hd;have A:=Z q
 clear h hd q
 go_enter func254,ntmps254
 go_wp2_with((with_reducible show cn);(refine Mk a.U rfl 6 rfl (some 0) 3 [] (by go_simp;rfl) ?_;intro I m J b;replace a:=Z b;clear b;simp only[bc]))
 replace a:=Z (pL a.U 0 rfl 0 0 1 (aQ _) (bf _) rfl [] rfl)
 go_loopw [3,4,5] (λ f e d wr=>∃(i:Nat) (c:Int) (D:List Int) (r:Option Addr) (s:Nat),f=ag r i s/\e=O c/\d=O (i:Int)/\FM.iP l i c D/\c<=1000000000000000/\ae w wr [] [Y.ow 3 1 (ag r i s) i (aZ D)]) (λ _ _ d _=>33-(intOf d).toNat)
 case atStart=>exact⟨0,0,[],_,_,rfl,rfl,rfl,FM.iP.start l,by decide,a.U⟩
 case round=>
  obtain⟨i,c,D,r,s,rfl,rfl,rfl,e,o,f⟩:=hrel
  have a:=Z f
  have K:=e.le G A.U
  have p:=e.c0
  have d:=Z e
  have L:IntKind.i64.wrap ((i:Int)+1)=(i:Int)+1:=by rw[hh];omega
  clear f e
  by_cases f:i<l.length
  ·obtain⟨x,hx⟩:∃x,l[i]?=some x:=⟨_,aU f⟩
   have H:=z.U x (cX hx)
   have e:=Z (d.U.put hx H.1)
   have y:=Z (I6 (ys:=t) hx)
   have e1:IntKind.i64.wrap (c+x)=c+x:=by rw[hh];omega
   have e2:(c+x).tmod 65536=(c+x)%65536:=fz W
   have e3:(c+x).tdiv 65536=(c+x)/65536:=ov W
   have e4:IntKind.i64.wrap ((c+x)/65536)=(c+x)/65536:=by rw[hh];omega
   have e5:IntKind.i64.wrap ((c+x)%65536)=(c+x)%65536:=by rw[hh];omega
   have n:ai ((c+x)/65536<=1000000000000000):=Z W
   have M:(0:Int)<=(i:Int):=by omega
   have N:(i:Int)<(l.length:Int):=by omega
   have d1:decide (i<l.length)=true:=aT f
   clear hx d o p
   go_wp2_with(first|refine KH (a.U.bT u.U) ?_ (hv:=y.U)|((with_reducible show cn);(refine Mk a.U rfl 30 rfl (some 1) 3 [O ((c+x)%65536)] (by go_simp;rfl) ?_;intro C m F b;replace a:=Z b;clear b;simp only[bc]))|(refine Ap a.U rfl nG rfl 1 rfl rfl 0 rfl rfl rfl rfl (by unfold maxLen;omega) W ?_;intro E B m b;simp only[av,ax] at b;replace a:=Z b;clear b))
   go_roundw
   case rel=>exact⟨i+1,_,D++[(c+x)%65536],_,_,rfl,rfl,by go_num,e.U,n.U,by rw[aZ,jy];exact a.U.tail⟩
   case measure=>simp[intOf];omega
  ·have d1:decide (i<l.length)=false:=bm f
   have k:l.length<=i:=by omega
   by_cases j:0<c
   ·have e:=Z (d.U.more k j)
    have e2:c.tmod 65536=c%65536:=fz W
    have e3:c.tdiv 65536=c/65536:=ov W
    have e4:IntKind.i64.wrap (c/65536)=c/65536:=by rw[hh];omega
    have e5:IntKind.i64.wrap (c%65536)=c%65536:=by rw[hh];omega
    have n:ai (c/65536<=1000000000000000):=Z W
    have d2:decide (0<c)=true:=aT j
    clear d o p f k j
    go_wp2_with(first|((with_reducible show cn);(refine Mk a.U rfl 30 rfl (some 1) 3 [O (c%65536)] (by go_simp;rfl) ?_;intro C m F b;replace a:=Z b;clear b;simp only[bc]))|(refine Ap a.U rfl nG rfl 1 rfl rfl 0 rfl rfl rfl rfl (by unfold maxLen;omega) W ?_;intro E B m b;simp only[av,ax] at b;replace a:=Z b;clear b))
    go_roundw
    case rel=>exact⟨i+1,_,D++[c%65536],_,_,rfl,rfl,by go_num,e.U,n.U,by rw[aZ,jy];exact a.U.tail⟩
    case measure=>simp[intOf];omega
   ·obtain rfl:c=0:=by omega
    have e:=Z (d.U.done k)
    have v:=Z d.U.len
    clear d f k j o p
    go_wp2
    refine lP rfl rfl rfl ⟨_,_,rfl,e.U,?_⟩
    rw[v.U]
    exact a.U
def fm{w:aa}{g:Nat}{L:List Int}{ys:List ab}(h:(Y.row g 3 (aZ L++ys)).P w){j:Nat}{x:Int}(hx:L[j]?=some x):w.cell? ⟨g,j,none⟩=some (O x):=
 ((show ah w g 3 (aZ L++ys).toArray from h).cell j).trans (by simpa using I6 hx)
def TV{L:List Int}{ys:List ab}{j:Nat}(x:Int)(b:j<L.length):(aZ L++ys).set j (O x)=aZ (L.set j x)++ys:=by
 rw[AK _ _ (by simpa using b),aZ,aZ,lU]
section
variable{w wr:aa}{m:List Nat}{aj cJ:List Y}{ops:Array Oper}{rest:List Oper}{op:Oper}{a:Act}{Q:Exit->Act->aa->Prop}{L:List Int}{ys:List ab}{g j:Nat}{x:Int}{ty:TypeId}{X:Operand}{k:Tmp}
def kN(d:ai (ae w wr m aj))(l:j<L.length)(h:∀b,ai (ae w b m cJ)->wpList prog ops Q rest (a.put op.dst undef) b)(q:Y.row g 3 (aZ L++ys)∈aj:=by repeat first|with_reducible exact mZ|refine mQ ?_)
 (n:op.op= .store ty X (.tmp k):=by exact rfl) (hx:a.eval X= .pointer (some ⟨g,j,none⟩):=by exact rfl) (e:jm ty 1=true:=by exact rfl) (p:a.tmps.toList[k]?=some (O x):=by exact rfl)
 (f:Region.wanted op (yielded ops a.tmps)=true:=by exact rfl) (o:eh (Y.row g 3 (aZ L++ys)) (Y.row g 3 (aZ (L.set j x)++ys)) aj cJ:=by repeat first|with_reducible exact eh.head _|apply eh.tail):wpList prog ops Q (op::rest) a wr:=by
 obtain⟨i,e1,e2⟩:=o.idx
 refine A4 d.U i e1 f ty n hx p e rfl (by simp;omega) (λ b c=>h b (Z ?_))
 rw[TV x l,<-e2] at c
 exact c
end
def Vj(n:Nat)(p:n<=1000)(w:aa):(Instr.makeSlice 193 (O (n:Int)) (O (n:Int))).run prog w= .ok (ag (some ⟨w.heap.size,0,none⟩) n n) (w.alloc (.cells (aZ (List.replicate n 0)++[]).toArray 3)):=by
 obtain⟨f,c,d,b,e⟩:=iB zP;have h:=run_makeSlice (P:=prog) w 193 3 f _ uB c d .i64 .i64 (n:Int) (n:Int) W (wT _) (by rw[b];simp;omega) (by rw[e];simp;omega) W;rw[h,mW,b];congr 3;simp[madeCells,aZ,Value.cells];apply Array.ext
 ·simp
 ·intro i l o;simp[AU]
def yD{op:Oper}{a:Act}{wr:aa}{x:Operand}(n:Nat)(b:n<=1000)(c:op.op= .makeSlice 193 x x:=by exact rfl)(hx:a.eval x=O (n:Int):=by exact rfl):(execOp a.eval op).run prog wr= .ok (.value (bc (some n) wr.heap.size)) (wr.alloc (.cells (aZ (List.replicate n 0)++[]).toArray 3)):=by
 have d:=Vj n b wr;unfold execOp;simp only[c,hx,d,cO,dN,dd];rfl
def sF(s:af)(w:aa):Calls prog 200 #[ad s] w λ e b=>∃g L,e=ao (ag (some ⟨g,0,none⟩) 16 16)/\w.heap.size<=g/\FM.Norm L/\FM.val L=(FM.aH (s.data.toList.take 32):Int)/\ae w b [] [Y.row g 3 (aZ L++[])]:=by
 have d:=Z (ae.start w [])
 go_enter func200,ntmps200
 go_wp2_with((refine Mk d.U rfl 5 rfl (some 16) 3 (aZ (List.replicate 16 0)++[]) (yD 16 zD) λ B q E z=>?_;replace d:=Z z;clear z;simp only[bc]))
 go_loopw [4] (λ b wr=>∃(k j:Nat) (L:List Int),k=2*j/\j<=16/\b=O (k:Int)/\FM.ic s.data.toList L (min k s.size)/\ae w wr [] [Y.row B 3 (aZ L++[])]) (λ b _=>33-(intOf b).toNat)
 case atStart=>exact⟨0,0,_,rfl,by decide,rfl,by rw[Nat.zero_min];exact FM.ic.start _,d.U⟩
 case round=>
  obtain⟨k,j,L,p,J,rfl,b,h⟩:=hrel;have d:=Z h;have o:=Z b;have r:=Z b.len;have f:=Z p;clear h b;by_cases y:k<s.size/\k<32
  ·obtain⟨l,F⟩:=y;have d1:decide (k<s.size)=true:=aT l;have d2:decide ((k:Int)<32)=true:=aT W;have e1:(k:Int).tdiv 2=(j:Int):=by rw[ov W];omega
   have e2:IntKind.i64.wrap (j:Int)=(j:Int):=aO _ W;have K:(0:Int)<=(j:Int):=by omega
   have M:(j:Int)<16:=by omega
   have N:(k:Int)<(s.size:Int):=by omega
   have P:(0:Int)<=(k:Int):=by omega
   have n:j<L.length:=by rw[r.U];omega
   obtain⟨c,v⟩:∃c,s[k]=c:=⟨_,rfl⟩;have b:s.data.toList[k]?=some c:=by rw[<-v,aU (by simpa using l)];rfl
   have H:=c.toNat_lt;have e3:wrap64 ((s[k].toNat:Nat):Int)=(c.toNat:Int):=by rw[v,FT (c.toNat:Int) W]
   have t:=Z (show FM.ic s.data.toList (L.set j (c.toNat:Int)) (k+1) from FM.ic.even (by have:=o.U;rwa[hz (kR l)] at this) p W b);clear o b p;have T:IntKind.i64.wrap ((k:Int)+2)=((k+2:Nat):Int):=aO _ W;by_cases u:k+1<s.size
   ·have d3:decide ((k:Int)+1<(s.size:Int))=true:=aT W
    go_wp2_with(refine kN d n λ q d=> ?_)
    obtain⟨b,A⟩:∃b,s[k+1]=b:=⟨_,rfl⟩;have C:s.data.toList[k+1]?=some b:=by rw[<-A,aU (by simpa using u)];rfl
    have G:=b.toNat_lt;have h:=Z (FM.ic.bX t.U (show k+1=2*j+1 by have:=f.U;omega) (by have:=f.U;omega) C (lS n));rw[w5] at h;have I:=fm (d.U.get (i:=0) rfl) (lS n (a:=(c.toNat:Int)));have e5:IntKind.i64.wrap ((k:Int)+1)=(k:Int)+1:=aO _ W;have R:(0:Int)<=(k:Int)+1:=by omega
    have S:(k:Int)+1<(s.size:Int):=by omega
    have t4:((k:Int)+1).toNat=k+1:=by omega
    go_still_tail 16,zR
    show wpList _ _ _ _ _ q.drew;replace d:=Z d.U.drew;have D:j<(L.set j (c.toNat:Int)).length:=by rw[fc];exact n
    go_wp2_with(refine kN d D λ q d=> ?_)
    rw[w5,aO (b.toNat:Int) W,mV 256,aO ((b.toNat:Int)*256) W,aO ((c.toNat:Int)+(b.toNat:Int)*256) W] at d
    go_roundw
    case rel=>exact⟨k+2,j+1,_,by have:=f.U;omega,by have:=f.U;omega,by go_num,by rw[hz W];exact h.U.1,d.U⟩
    case measure=>simp[intOf];omega
   ·have d3:decide ((k:Int)+1<(s.size:Int))=false:=bm W;have h:ai (min (k+2) s.size=k+1):=Z W;clear u
    go_wp2_with(refine kN d n λ q d=> ?_)
    go_roundw
    case rel=>exact⟨k+2,j+1,_,by have:=f.U;omega,by have:=f.U;omega,by go_num,by rw[h.U];exact t.U,d.U⟩
    case measure=>simp[intOf];omega
  ·have h:=Z (show min k s.size=min 32 s.size by omega);have hd:(decide (k<s.size)&&decide ((k:Int)<32))=false:=by
    rw[Bool.and_eq_false_iff,B7,B7];omega
   obtain⟨u,C⟩:∃b,decide (k<s.size)=b:=⟨_,rfl⟩;obtain⟨A,D⟩:∃b,decide ((k:Int)<32)=b:=⟨_,rfl⟩;rw[C,D] at hd;clear y p;cases u
   rotate_left;focus
    cases A
    rotate_left;focus cases hd
   all_goals
    clear hd
    go_wp2
    refine lP rfl rfl rfl ⟨_,L,rfl,E,⟨r.U,o.U.e⟩,?_,d.U⟩;have l:=o.U.eq;have e:s.data.toList.take 32=s.data.toList.take (min 32 s.size):=by rw[List.take_eq_take_min];simp
    rw[h.U,<-e] at l;exact l
def ae.tp{j w wr:aa}{i:List Y}(h:ae j w m I)(h1:ae w wr [] i):ae j wr m (i++I):=by
 have e:=h.below h1.aq;refine⟨e.only,λ g o=> ?_,λ k f=> ?_,?_⟩
 ·rcases eB.1 o with c|c
  ·exact h1.ok g c
  ·exact e.ok g c
 ·rw[qF] at f;rcases eB.1 f with c|c
  ·rcases h1.own k c with d|d
   ·cases d
   ·right;have:=h.size;omega
  ·exact h.own k c
 ·rw[qF,lV];refine⟨h1.b,h.b,λ a l b n=> ?_⟩;have:=h.lt b n;rcases h1.own a l with d|d
  ·cases d
  ·omega
def ae.I8{w wr a:aa}{size:Nat}{v:ab}{b:List ab}(h:ae w wr m I)(e:BW wr a)(d:a.ownsRow wr.heap.size t size v n b):ae w a m (Y.ow t size v n b::I):=
 h.join e (Y.ow t size v n b) (Kc d) (λ k f=>by
  have c:k∈v.ownBlock.toList:=f
  rcases d.2 with⟨rfl,-⟩|⟨g,i,j,rfl,l,-⟩
  ·simp[Value.ownBlock] at c
  ·simp[Value.ownBlock] at c
   omega)
def Mb{w:aa}{d:List ab}(h:(Y.row g 3 (aZ l++d)).P w)(n c:Nat)(e:n<=l.length):Src prog 1 193 (ag (some ⟨g,0,none⟩) n c) n (aZ (l.take n)) w:=by
 refine qw w uB _ _ _ _ (by simp;omega) (λ j u a=> ?_) (λ u a=>by
  simp only[aZ,eH] at a;obtain⟨x,-,rfl⟩:=a;rfl)
 rw[gp,dz];have b:j<n:=by have:=(cw.1 a).1;simp at this;omega
 simp only[aZ,ef,List.getElem?_take_of_lt b] at a;rw[aU W] at a;cases a
 exact fm h (aU W)
def Sn{w:aa}{cap:Nat}{c3:List ab}(h:(Y.row g 3 (aZ l++c3)).P w)(hd:∀x∈l,0<=x/\x<=1000000000000000)(h1:1<=l.length)(J:l.length<=32)(r:FM.val l<65536^32):
 Calls prog 253 #[ag (some ⟨g,0,none⟩) l.length cap] w λ e a=>∃t a1 L b,e=ao (ag (some ⟨t,0,none⟩) 16 a1)/\FM.oL (FM.val l) 0 L/\ae w a [] [Y.row t 3 (aZ L++b)]:=by
 have d:=Z (BV (cap:=cap) h hd J r)
 have b2:=Z r;have b1:=Z J;have b0:=Z h1
 obtain⟨N,a3⟩:∃N,FM.val l=N:=⟨_,rfl⟩
 obtain⟨c1,b4,b8,b9,c0⟩:=iB zP
 clear h hd r J h1
 rw[a3]
 go_enter func253,ntmps253
 go_upto_region 2 with(go_at_call 254;refine d.U.mono ?_;rintro e F ⟨v,D,rfl,o,b⟩)
 have a:=Z b
 have j:=Z (FM.kM.start o b1.U b2.U)
 have f:ai (1<=D.length):=Z (hy b0.U o.len)
 rw[a3] at j
 clear b o d
 obtain⟨A,c5,rfl,-⟩:=da (show F.ownsRow 0 3 1 v _ _ from a.U.get (i:=0) rfl)
 go_loopg [0] 3 (λ q dv wr=>∃(D:List Int) (A:Option Addr) (c:Nat),q<=3/\dv=ag A D.length c/\1<=D.length/\FM.kM N (3-q) D/\ae w wr [] [Y.ow 3 1 (ag A D.length c) D.length (aZ D)])
 case atStart=>exact⟨D,_,_,aQ _,rfl,f.U,j.U,a.U⟩
 case round=>
  clear a j f
  obtain⟨q,rfl⟩:∃q,q=gk:=⟨gk,rfl⟩
  obtain⟨D,A,c,C,rfl,c7,hF,b⟩:=hrel
  have j:=Z hF
  obtain⟨u,c6,P,G,H,a4,I,b⟩:=nU b 0 rfl W
  cases G
  have a:ai (ae w wr [] [Y.row u 3 (aZ D++P)]):=Z b
  have X:=Z C
  have h32:=hF.hi
  clear b hF
  by_cases L:16<D.length
  ·have d1:decide ((16:Int)<(D.length:Int))=true:=aT W
   have HD:=Z j.U.e
   have n:∀f:aa,(f.alloc (.cells #[] 3)).ownsRow f.heap.size 3 1 (ag (some ⟨f.heap.size,0,none⟩) 0 0) 0 []:=λ f=>sj f #[] 0 (aQ _) zD rfl
   have y:=Mb (a.U.alloc [] 3|>.get (i:=1) rfl) 16 c (kR L)
   have I:D.length<=c:=H
   have c9:(16:Int)<=(c:Int):=by omega
   go_upto_region 4 with(at_builtin;refine mM rfl _ _ 193 193 rfl wr.heap.size 3 c1 _ 1 8 uB b4 b8 b9 c0 rfl _ _ _ rfl (n wr) _ 16 _ rfl y zD zD zS λ c2 a8 s p B=>?_)
   have m:BW wr a8:=(bJ wr _).grown p zS (by intro k b7;cases b7;exact aQ _)
   have d:=a.U.I8 m s
   obtain⟨z,a2,Q,r,-,-,-,d⟩:=nU d 0 rfl zD
   have r:c2=ag (some ⟨z,0,none⟩) 16 a2:=r
   subst r
   replace a:ai (ae w a8 [] [Y.row z 3 (aZ (D.take 16)++Q),Y.row u 3 (aZ D++P)]):=Z d
   clear d m s p B y n
   go_wp2
   go_loopg [4] (D.length-16) (λ p d f=>∃(i:Nat) (m:List Int),i+p=D.length/\16<=i/\d=O (i:Int)/\FM.ou D i m/\ae w f [] [Y.row z 3 (aZ m++Q),Y.row u 3 (aZ D++P)])
   case atStart=>exact⟨16,_,by omega,aQ _,rfl,FM.ou.start HD.U W,a.U⟩
   case round=>
    clear a
    obtain⟨i,m,R,b5,rfl,s,b⟩:=hrel
    have a:=Z b;have d:=Z s;have T:=Z R
    clear b s
    by_cases K:i<D.length
    ·have d2:decide (i<D.length)=true:=aT K
     have S:=d.U.len
     obtain⟨x,hx⟩:∃x,m[i-16]?=some x:=⟨_,aU W⟩
     obtain⟨y,E⟩:∃y,D[i]?=some y:=⟨_,aU K⟩
     have s:=Z (d.U.step HD.U b5 W hx E)
     have d0:=d.U.a x (cX hx)
     have d3:=HD.U.get E
     have c8:=fm (a.U.get (i:=0) rfl) hx
     have B:=fm (a.U.get (i:=1) rfl) E
     have b6:i-16<m.length:=by omega
     have c4:IntKind.i64.wrap ((i:Int)-16)=(i:Int)-16:=aO _ W
     have t1:((i:Int)-16).toNat=i-16:=by omega
     have m1:(16:Int)<=(i:Int):=by omega
     have m2:(0:Int)<=(i:Int)-16:=by omega
     have d4:(i:Int)-16<16:=by omega
     have q2:(i:Int)<(D.length:Int):=by omega
     have e1:IntKind.i64.wrap ((i:Int)+1)=((i+1:Nat):Int):=aO _ W
     clear S hx E d R
     go_wp2
     go_still_tail 15,zR
     show wpList _ _ _ _ _ wr.drew
     replace a:=Z a.U.drew
     go_wp2_with(refine kN a b6 λ a9 a=> ?_)
     rw[aO (38*y) W,aO (x+38*y) W] at a
     go_roundg (gk-1)
     case measure=>have:=T.U;omega
     case rel=>exact⟨i+1,_,by have:=T.U;omega,by omega,by go_num,s.U,a.U⟩
    ·have d2:decide (i<D.length)=false:=bm K
     obtain rfl:i=D.length:=by omega
     have a7:FM.val m<65536^32:=by
      have h1:=FM.zH (M:=39) m (λ x hx=>by have:=d.U.a x hx;omega)
      rw[d.U.len] at h1;omega
     have E:=λ f (C:(Y.row z 3 (aZ m++Q)).P f)=>BV (cap:=a2) C (λ x hx=>by have:=d.U.a x hx;omega) (by rw[d.U.len];decide) a7
     rw[d.U.len] at E
     have R:=Z E
     have s:=Z (λ D2 (o:FM.lO m D2)=>j.U.step L d.U o)
     have a5:∀D2,FM.lO m D2->16<=D2.length:=λ D2 o=>by have:=o.len;rw[d.U.len] at this;exact this
     have S:=Z a5
     have a6:1<=q:=gY λ o=>by
      have b3:3-q=3:=by omega
      have:=j.U
      rw[b3] at this
      have:=this.Ik (aQ _)
      omega
     have a0:=Z a6
     clear E a7 a5 a6 d j C
     go_wp2_with(go_at_call 254;refine(R.U _ (a.U.get (i:=0) rfl)).mono ?_;rintro e F ⟨b3,D2,rfl,B,d⟩)
     have b:=a.U.tp d
     obtain⟨E,a7,rfl,-⟩:=da (show F.ownsRow 0 3 1 b3 _ _ from b.get (i:=0) rfl)
     have C:ai (ae w F [] [Y.ow 3 1 (ag E D2.length a7) D2.length (aZ D2)]):=Z ((b.az 2 rfl).tail.az 1 rfl).tail
     have a6:=Z (s.U D2 B)
     have a5:=Z (S.U D2 B)
     clear b d B a s S R
     go_wp2
     go_roundg (q-1)
     case measure=>have:=a0.U;omega
     case rel=>exact⟨D2,_,_,by have:=X.U;omega,rfl,by have:=a5.U;omega,by have:=a6.U;rwa[show 3-q+1=3-(q-1) by have:=a0.U;have:=X.U;omega] at this,C.U⟩
  ·have d1:decide ((16:Int)<(D.length:Int))=false:=bm W
   have s:=Z (j.U.pad W)
   have y:ai (D.length<=16):=Z W
   have n:=pL a.U 0 rfl D.length c 1 H a4 I (aZ D) zS
   replace a:ai (ae w wr [] [Y.ow 3 1 (ag (some ⟨u,0,none⟩) D.length c) D.length (aZ D)]):=Z n
   clear n H a4 I j L h32
   go_wp2
   go_loopg [0] (16-D.length) (λ p dv f=>∃(n:Nat) (A:Option Addr) (c:Nat),n+p=16/\dv=ag A n c/\D.length<=n/\ae w f [] [Y.ow 3 1 (ag A n c) n (aZ (D++List.replicate (n-D.length) 0))])
   case atStart=>exact⟨D.length,_,_,by have:=y.U;omega,rfl,aQ _,by rw[qm,hq,oz];exact a.U⟩
   case round=>
    clear a
    obtain⟨n,A,c,p,rfl,d,b⟩:=hrel
    have a:=Z b;have j:=Z p;have f:=Z d
    have L:n<=16:=by omega
    clear b p d
    by_cases K:n<16
    ·have d2:decide ((n:Int)<16)=true:=aT W
     go_wp2_with(first|((with_reducible show cn);(refine Mk a.U rfl 41 rfl (some 1) 3 [O 0] (by go_simp;rfl) ?_;intro E a9 I d;replace a:=Z d;clear d;simp only[bc]))|(refine Ap a.U rfl nG rfl 1 rfl rfl 0 rfl rfl rfl rfl (by unfold maxLen;omega) W ?_;intro H B a9 d;simp only[av,ax] at d;replace a:=Z d;clear d))
     go_roundg (gk-1)
     case measure=>have:=j.U;omega
     case rel=>exact⟨n+1,_,_,by have:=j.U;omega,rfl,by have:=f.U;omega,by
      have:=f.U
      have e:aZ (D++List.replicate (n+1-D.length) 0)=aZ (D++List.replicate (n-D.length) 0)++[O 0]:=by
       rw[show n+1-D.length=n-D.length+1 by omega,AJ,<-gK,aZ,aZ,jy (l₂:=[0])];rfl
      rw[e];exact a.U.tail⟩
    ·have d2:decide ((n:Int)<16)=false:=bm W
     obtain rfl:n=16:=by omega
     obtain⟨t,a1,p,G,-,-,-,b⟩:=nU a.U 0 rfl zD
     cases G
     have C:=Z b
     clear b a
     go_wp2
     refine lP rfl rfl rfl ⟨t,_,_,p,rfl,s.U,C.U⟩
namespace WD
def FI:(#[U 0,U 0,U 0,U 0,U 0,U 0,U 0,U 0]:Array ab)=br (vl ⟨0,0,0,0,0,0,0,0⟩):=by kernel_rfl
set_option maxRecDepth 1000000 in
def Cg{w:aa}(m:jE w)(a:WM.V8)(s:af)(i:s.size=128):
 CB 100 #[aG (br (vl a)),ad s] w (aG (br (vl (WM.compress a s.data.toList)))):=by
 have b:fW w (((w.alloc (.cells (br (vl a)) 172)).alloc (.cells (br (vl ⟨0,0,0,0,0,0,0,0⟩)) 172)).alloc (.cells (cV s.data.toList 0) 251)) w.heap.size (w.heap.size+1) (w.heap.size+1+1) a (cV s.data.toList 0):=
  ⟨(((bp _ _).alloc (aQ _) _).alloc zS _).alloc (by simp;omega) _,m,aQ _,by omega,((ah.new w 172 _).alloc _).alloc _,(fD w _ 172 _).alloc _,GU w _ _ 251 _,by omega,by omega⟩
 generalize c:((w.alloc (.cells (br (vl a)) 172)).alloc (.cells (br (vl ⟨0,0,0,0,0,0,0,0⟩)) 172)).alloc (.cells (cV s.data.toList 0) 251)=l9 at*
 have g:=Z b;have h:=Z c;have l:=Z i
 clear b c i
 go_enter func100,ntmps100
 go_upto_region 2 with fail
 rw[FI,abW,<-Fu s.data.toList,h.U]
 go_wp2
 refine QP l.U 0 rfl _ _ _ _ _ _ _ _ _ _ _ _ _ _ _ _ _ _ _ _ _ _ _ _ _ _ _ _ _ _ _ _ _ _ _ _ _ _ _ _ _ _ _ _ _ _ _ _ _ _ _ _ _ _ _ _ _ _ _ _ _ _ _ _ _ _ _ _ _ _ _ _ _ _ _ _ _ _ _ _ _ _ _ _ _ _ _ _ _ _ _ _ _ _ _ _ _ _ _ _ _ _ _ _ _ _ _ _ _ _ _ _ _ _ _ _ _ _ _ _ _ _ _ _ _ _ _ _ _ _ _ _ _ _ _ _ _ _ _ _ _ _ _ _ _ _ _ _ _ _ _ _ _ _ _ _ _ _ _ _ _ _ _ g.U ?_
 intro pw p6 p7 p8 q r t u x y z A B C D E F G H I J K L M N Q R S T X a0 a1 a2 a3 a4 a5 a6 a7 a8 a9 b3 b4 b5 b6 b7 b8 b9 c0 c1 c2 c3 c4 c5 c6 c7 c
 have d:=c.e0
 have b:=CN a
 have f:ah (pw.alloc (.cells (br (vl ⟨0,0,0,0,0,0,0,0⟩)) 172)) pw.heap.size 172 (br (vl ⟨0,0,0,0,0,0,0,0⟩)):=ah.new _ _ _
 have j:=dI (P:=prog) f (br (vl a)) (vr _ _) (DU _)
 rw[<-FI] at j
 have k:(br (vl a)).size=8:=wj a
 have e:ai (dM w ((pw.alloc (.cells (br (vl ⟨0,0,0,0,0,0,0,0⟩)) 172)).setRow pw.heap.size (br (vl a))) w.heap.size (w.heap.size+1) (w.heap.size+1+1) pw.heap.size a s.data.toList (vl a)):=Z (by
  have n:=(bp pw.heap.size pw).alloc (aQ _) (.cells (br (vl ⟨0,0,0,0,0,0,0,0⟩)) 172)
  have p:=c.e2.lt
  exact⟨c.below (bL n (aQ _) _),c.aJ.size,f.setRow _,by omega,by omega,by omega⟩)
 rw[<-FI] at e
 clear c g h
 generalize c:br (vl a)=o at*
 clear c
 go_wp2_with(refine bD rfl 172 (Operand.tmp 2) rfl w.heap.size rfl 172 o (0,0) _ d xq rfl b ?_)
 clear j b d f k
 refine QQ (b0:=w.heap.size) (b1:=w.heap.size+1) 0 rfl _ _ _ _ _ _ _ _ _ _ _ _ _ _ _ _ _ _ _ _ _ _ _ _ _ _ _ _ _ _ _ _ _ _ _ _ _ _ _ _ _ _ _ _ _ _ _ _ _ _ _ _ _ _ _ _ _ _ _ _ _ _ _ _ _ _ _ _ _ _ _ _ _ _ _ _ _ _ _ _ _ _ _ _ _ _ _ _ _ _ _ _ _ _ _ _ _ _ _ _ _ _ _ _ _ _ _ _ _ _ _ _ _ _ _ _ _ _ _ _ _ _ _ _ _ _ _ _ _ _ _ _ _ _ _ _ _ _ _ _ _ _ _ _ _ _ _ _ _ _ _ _ _ _ _ _ _ _ _ _ _ _ _ e.U ?_
 intro l8 KO KU KZ K0 K2 j0 j1 j2 j3 j4 j5 j6 j7 j8 j9 k0 k1 k2 k3 k4 k5 k6 k7 k8 k9 l0 l1 l2 l3 l4 l5 l6 l7 c8 c9 d0 d1 d2 d3 d4 d5 d6 d7 d8 d9 e0 e1 e2 e3 e4 e5 e6 e7 e8 e9 f0 f1 f2 f3 f4 f5 f6 f7 f8 f9 g0 g1 g2 g3 g4 g5 g6 g7 g8 g9 i0 i1 i2 i3 i4 i5 i6 i7 i8 i9 c
 have f:=Z c
 clear c e
 go_wp2
 refine QS (b2:=w.heap.size+1+1) (b1:=w.heap.size+1) 0 rfl _ _ _ _ _ _ _ _ _ _ _ _ _ _ _ _ _ _ _ _ _ _ _ _ _ _ _ _ _ _ _ _ _ _ _ _ _ _ _ _ _ _ _ _ _ _ _ _ _ _ _ _ _ _ _ _ _ _ _ _ _ _ _ _ _ _ _ _ _ _ _ _ _ _ _ _ _ _ _ _ _ _ _ _ _ _ _ _ _ _ _ _ _ _ _ _ _ _ _ _ _ _ _ _ _ _ _ _ _ _ _ _ _ _ _ _ _ _ _ _ _ _ _ _ _ _ _ _ _ _ _ _ _ _ _ _ _ _ _ _ _ _ _ _ _ _ _ _ _ _ _ _ _ _ _ _ _ _ _ _ _ _ _ f.U ?_
 intro rw r15 ad0 ad1 ad2 ad3 ad4 ad5 ad6 ad7 ad8 ad9 hr
 rw[uI,N4] at hr
 have d:=hr.e3
 have k:=wj (WM.gu a (WM.rounds (WM.wl s.data.toList 80) a 80))
 have b:=CN (WM.gu a (WM.rounds (WM.wl s.data.toList 80) a 80))
 have j:=dI (P:=prog) hr.a.e1 (br (vl (WM.gu a (WM.rounds (WM.wl s.data.toList 80) a 80)))) (vr _ _) (DU _)
 have e:=Z (hr.a.e1.setRow (br (vl (WM.gu a (WM.rounds (WM.wl s.data.toList 80) a 80)))))
 have g:=Z (bL hr.a.aJ (show w.heap.size<=w.heap.size+1 by omega) (br (vl (WM.gu a (WM.rounds (WM.wl s.data.toList 80) a 80)))))
 have h:ai (br (vl (WM.compress a s.data.toList))=br (vl (WM.gu a (WM.rounds (WM.wl s.data.toList 80) a 80)))):=Z rfl
 generalize br (vl (WM.gu a (WM.rounds (WM.wl s.data.toList 80) a 80)))=c at*
 clear hr f
 go_wp2_with(refine bD rfl 172 (Operand.tmp 9) rfl pw.heap.size rfl 172 c (0,0) _ d xq rfl b ?_)
 exact cr (v:= .agg c) (fI results100 _ _ (w.heap.size+1) 172 c (0,0) _ rfl e.U xq rfl b) rfl ⟨by rw[h.U],g.U⟩
end WD
structure qi(w wr:aa)(gx gy gt:Nat)(x y t:List Nat):Prop where
 aJ:BW w wr
 ht:w.heap.size<=gt
 x:ah wr gx 46 (aV x)
 y:ah wr gy 46 (aV y)
 t:ah wr gt 46 (aV t)
 ex:gx≠gt
 a:gy≠gt
def qi.set{w wr:aa}{b c a:Nat}{x y t:List Nat}(h:qi w wr b c a x y t)(k v:Nat):qi w (wr.setCell ⟨a,k,none⟩ (U (v:Int))) b c a x y (t.set k v):=
 ⟨h.aJ.setCell h.ht _,h.ht,h.x.cE h.ex _,h.y.cE h.a _,by rw[<-yK];exact h.t.dx k _,h.ex,h.a⟩
def Bu(x y:Nat)(w:aa):(callFunc 116 #[U (x:Int),U (y:Int),U 0]).run prog w=
 .ok (.value (aM #[U (((x+y+0)%18446744073709551616:Nat):Int),U (((x+y+0)/18446744073709551616:Nat):Int)])) w:=Gu x y 0 W w
def SW(p q c z:Nat)(j:p<18446744073709551616)(k:q<18446744073709551616)(i:c<18446744073709551616)(n:z<18446744073709551616):
 ∃h l f d a g b e,p*q/18446744073709551616=h/\p*q%18446744073709551616=l/\(l+c+0)%18446744073709551616=a/\(l+c+0)/18446744073709551616=f/\h+f=d/\(z+a+0)%18446744073709551616=e/\(z+a+0)/18446744073709551616=g/\d+g=b/\
  e+b*18446744073709551616=z+c+p*q/\e<18446744073709551616/\b<18446744073709551616/\d<18446744073709551616/\l<18446744073709551616/\a<18446744073709551616:=by
 have a:p*q<=18446744073709551615*18446744073709551615:=uj W W
 refine⟨_,_,_,_,_,_,_,_,rfl,rfl,rfl,rfl,rfl,rfl,rfl,rfl,?_,?_,?_,?_,?_,?_⟩<;>(generalize p*q=m at*;omega)
def Y9{w:aa}(a1:la w)(a b c:af):CB 43 #[ad a,ad b,ad c] w (ad (lI a b c)):=by
 have b4:=Z a1;have b0:=a1.lt;clear a1
 go_enter func43,ntmps43
 go_wp2_with fail
 refine(zu (n:=4) zD a w).mono ?_;rintro e L ⟨x,rfl,hx,f,k,l,p⟩
 go_wp2_with fail
 refine(zu (n:=4) zD b L).mono ?_;rintro e g ⟨y,rfl,h,J,q,r,s⟩;have j:ah g w.heap.size 46 (aV x):=(J.block _ hx.lt).trans hx;have i:BW w g:=f.trans (J.mono f.size);have d4:=hx.lt;have d5:=h.lt;obtain⟨o,d⟩:∃o,List.replicate 9 0=o:=⟨_,rfl⟩;have A:(Instr.makeSlice 186 (O 9) (O 9)).run prog g= .ok (ag (some ⟨g.heap.size,0,none⟩) 9 9) (g.alloc (.cells (aV o) 46)):=by rw[<-d];exact Jt 9 W g
 have c5:(aV o).size=9:=by rw[<-d];rfl
 have c4:((aV o).toList.take 0++(aV ([]:List Nat)).toList++(aV o).toList.drop 4)=(aV (List.replicate 5 0)).toList:=by rw[<-d];rfl
 clear d;have H:=Z (And.intro k (And.intro l p));have I:=Z (And.intro q (And.intro r s));have b5:=Z j;have b6:=Z h;have F:=Z i;clear hx f J k l p q r s j h i
 go_wp2_with fail
 refine(zu (n:=4) zD c _).mono ?_;rintro e E ⟨z,rfl,i,B,d,t,u⟩;have f:(g.alloc (.cells (aV o) 46)).heap.size=g.heap.size+1:=by simp
 rw[f] at i⊢;have B:Below (g.heap.size+1) (g.alloc (.cells (aV o) 46)) E:=by rw[<-f];exact B
 have d6:((9:Nat):Int)=9:=rfl;have h:ah E g.heap.size 46 (aV o):=(B.block _ W).trans (ah.new g 46 _);have r:ah E w.heap.size 46 (aV x):=(B.block _ W).trans (b5.U.alloc _);have s:ah E L.heap.size 46 (aV y):=(B.block _ W).trans (b6.U.alloc _);have p:BW w E:=F.U.trans (((bp g.heap.size g).alloc (aQ _) (.cells (aV o) 46)).trans (B.mono (fN _))|>.mono F.U.size);have c6:=λ j=>run_copy_row (P:=prog) E 186 186 j 46 g.heap.size 0 9 9 ⟨g.heap.size+1,0,none⟩ 4 4 (aV o) 46 (aV z).toList uA V h (by simp[aV,d]) (λ j v Q=>by
  rw[gp,dz,i.cell];simpa using Q) (by rw[c5];simp[aV,d]) (vG _)
 have e1:((aV o).toList.take 0++(aV z).toList++(aV o).toList.drop (0+(aV z).toList.length)).toArray=aV (z++List.replicate 5 0):=by
  have:(aV z).toList.length=4:=by simp[aV,d]
  rw[this,oE,jA,dz];have hd:(aV o).toList.drop 4=(aV (List.replicate 5 0)).toList:=by simpa[aV] using c4
  rw[hd];simp[aV]
 have q:(aV z).toList.length=4:=by simp[aV,d]
 rw[e1,q] at c6;have k:qi w (E.setRow g.heap.size (aV (z++List.replicate 5 0))) w.heap.size L.heap.size g.heap.size x y (z++List.replicate 5 0):=
  ⟨bL p (by have:=F.U.size;omega) _,F.U.size,r.cH _ W,s.cH _ W,h.setRow _,by omega,by omega⟩
 generalize E.setRow g.heap.size (aV (z++List.replicate 5 0))=f6 at*;have M:=Z (And.intro d (And.intro t u));have l:=Z k;clear i d t u B h r s p e1 k q f A
 go_wp2
 go_loopw [30] (λ i wr=>∃(k:Nat) (t:List Nat),k<=4/\i=O (k:Int)/\qi w wr w.heap.size L.heap.size g.heap.size x y t/\SC.pW t (SC.mulN x y z k 0) k 0) (λ i _=>4-(intOf i).toNat)
 case atStart=>
  refine⟨0,_,by omega,rfl,l.U,⟨by rw[bV,M.U.1];rfl,?_,by decide,?_⟩⟩
  ·intro d hd;rcases eB.1 hd with h|h
   ·exact M.U.2.1 d h
   ·rw[(AI.1 h).2];decide
  ·rw[SC.zG,SC.Ff,SC.VO];omega
 case round=>
  clear l;obtain⟨i,t,d2,rfl,f,d⟩:=hrel;by_cases b1:i<4
  ·obtain⟨p,l⟩:∃p,x[i]?=some p:=⟨_,aU (by rw[H.U.1];exact b1)⟩;have b3:=H.U.2.1.get l;have a7:=(f.x.cell i).trans (lB l);have a6:=Z l;have r:=Z f;have G:=Z d;have d7:(0:Int)<=(i:Int):=by omega
   have d8:(i:Int)<4:=by omega
   clear l f d
   go_wp2
   clear a7
   go_loopw [37,12] (λ l a0 v=>∃(j:Nat) (t:List Nat) (c:Nat),j<=4/\l=O (j:Int)/\a0=U (c:Int)/\qi w v w.heap.size L.heap.size g.heap.size x y t/\SC.pW t (SC.mulN x y z i j) (i+j) c) (λ l _ _=>4-(intOf l).toNat)
   case atStart=>exact⟨0,t,0,by omega,rfl,rfl,r.U,G.U⟩
   case round=>
    clear r G;obtain⟨j,t,c,d3,rfl,rfl,f,d⟩:=hrel;by_cases b2:j<4
    ·obtain⟨q,R⟩:∃q,y[j]?=some q:=⟨_,aU (by rw[I.U.1];exact b2)⟩;have a3:=I.U.2.1.get R;obtain⟨s,C⟩:∃s,t[i+j]?=some s:=⟨_,aU (by rw[d.len];omega)⟩;have S:=d.ok.get C;obtain⟨h,l,c8,N,c7,c9,A,K,e1,e2,e3,e4,e5,e6,e7,e8,e9,a8,a9,c1,c2,c3⟩:=SW p q c s b3 a3 d.a S;have D:=d.mul C e9 a8 a9;rw[SC.VN a6.U R] at D;have a7:=(f.y.cell j).trans (lB R);obtain⟨u,a2⟩:∃u,i+j=u:=⟨_,rfl⟩;rw[a2] at C D;have c0:=(f.t.cell u).trans (lB C);have f1:=f.t.frozen u;have X:=λ v=>Bu l c v;have b9:=λ v=>Bu s c7 v;rw[e3,e4] at X;rw[e6,e7] at b9;have f0:(i:Int)+(j:Int)=(u:Int):=by omega
     have a5:IntKind.i64.wrap (u:Int)=(u:Int):=aO _ W;have f2:(h:Int)+(c8:Int)=(N:Int):=by omega
     have f3:IntKind.u64.wrap (N:Int)=(N:Int):=by rw[rL];omega
     have f4:(N:Int)+(c9:Int)=(A:Int):=by omega
     have f5:IntKind.u64.wrap (A:Int)=(A:Int):=by rw[rL];omega
     have d9:(0:Int)<=(j:Int):=by omega
     have e0:(j:Int)<4:=by omega
     have d0:(0:Int)<=(u:Int):=by omega
     have d1:(u:Int)<9:=by omega
     have a4:=λ v=>VI p q b3 a3 v;rw[e1,e2] at a4;have b8:=Z a4;have T:=Z D;have r:=Z f;have b7:=Z a2;clear D f d R C e1 e2 e3 e4 e5 e6 e7 e8 e9 a8 a9 c1 c2 c3 a3 S a2 a4
     go_wp2_with((go_at_call 115;refine(b8.U _).mono ?_;rintro e a8 ⟨rfl,rfl⟩))
     refine⟨⟨j+1,_,A,by omega,by go_num,rfl,r.U.set u K,?_⟩,?_⟩
     ·rw[show i+(j+1)=u+1 by have:=b7.U;omega];exact T.U
     ·simp[intOf];omega
    ·obtain rfl:j=4:=by omega
     rw[SC.VM a6.U I.U.1] at d;have r:=Z f;have G:=Z d;have a5:IntKind.i64.wrap ((i:Int)+4)=(i:Int)+4:=aO _ W;have R:=SC.VL (i:=i+1) H.U.2.1 I.U.2.1 M.U.2.1 H.U.1 I.U.1 M.U.1;have a2:=Z R;clear f d b2 R
     go_wp2
     clear a5
     go_loopw [18,12] (λ R a0 v=>∃(k:Nat) (t:List Nat) (c:Nat),k<=9/\R=O (k:Int)/\a0=U (c:Int)/\qi w v w.heap.size L.heap.size g.heap.size x y t/\SC.pW t (SC.mulN x y z (i+1) 0) k c) (λ R _ _=>9-(intOf R).toNat)
     case atStart=>exact⟨i+4,t,c,by omega,by go_num,rfl,r.U,G.U⟩
     case round=>
      clear r G;obtain⟨k,t,c,a3,rfl,rfl,f,d⟩:=hrel;by_cases R:c=0
      ·subst R;have r:=Z f;have G:ai (SC.pW t (SC.mulN x y z (i+1) 0) (i+1) 0):=Z ⟨d.len,d.ok,by decide,by have:=d.eq;omega⟩;clear f d
       go_wp2
       exact⟨⟨i+1,t,by omega,by go_num,r.U,G.U⟩,by simp[intOf];omega⟩
      ·have a4:k<9:=by
        rcases lX k 9 with h|h
        ·exact h
        ·obtain rfl:k=9:=by omega
         have N:=d.eq;have a0:=a2.U;have b0:1*18446744073709551616^9<=c*18446744073709551616^9:=lZ _ W;omega
       obtain⟨s,C⟩:∃s,t[k]?=some s:=⟨_,aU (by rw[d.len];omega)⟩;have S:=d.ok.get C;have a0:=d.a;obtain⟨K,e1⟩:∃K,(s+c+0)%18446744073709551616=K:=⟨_,rfl⟩;obtain⟨A,e2⟩:∃A,(s+c+0)/18446744073709551616=A:=⟨_,rfl⟩;have D:=d.mul (m:=0) (z':=K) (c':=A) C W W W;rw[qn,fA] at D;have c0:=(f.t.cell k).trans (lB C);have f1:=f.t.frozen k;have X:=λ v=>Bu s c v;rw[e1,e2] at X;have v:0<c:=by omega
       have d0:(0:Int)<=(k:Int):=by omega
       have d1:(k:Int)<9:=by omega
       have T:=Z D;have r:=Z f;have a5:IntKind.i64.wrap ((k:Int)+1)=(k:Int)+1:=aO _ W;clear D f d C e1 e2 S a0 R a3
       go_wp2
       refine⟨⟨k+1,_,A,by omega,by go_num,rfl,r.U.set k K,T.U⟩,?_⟩;simp[intOf];omega
  ·obtain rfl:i=4:=by omega
   rw[SC.VK H.U.1] at d;have Q:=d.eq;rw[qn,fA,H.U.2.2,I.U.2.2,M.U.2.2] at Q;have u:=Z Q;have q:=b4.U.below f.aJ b0;have h:=Z f.aJ;have hcut:=LN q _ t 9 d.len W f.t d.ok 9;have s:=Z hcut;clear Q q f d hcut b1
   go_wp2_with((go_at_call 112;refine s.U.mono ?_))
   rintro e A ⟨l,rfl,J,q,v,d⟩;have F:=Z (h.U.trans (J.mono h.U.size));have f:ai (FM.enc (SC.vW l)=lI a b c):=Z (by rw[d,u.U];rfl);clear J d
   go_wp2_with fail
   refine(Ml l q v _).mono ?_;rintro e C ⟨rfl,B⟩;have d:=Z (F.U.trans (B.mono F.U.size));rw[f.U];clear B
   go_wp2
   go_ret
   exact⟨rfl,d.U⟩
