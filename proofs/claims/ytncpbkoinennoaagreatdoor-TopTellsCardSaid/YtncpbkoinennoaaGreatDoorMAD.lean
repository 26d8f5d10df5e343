import Derived.Test.YtncpbkoinennoaaGreatDoorMAB
import Derived.Test.YtncpbkoinennoaaGreatDoorMAC
set_option linter.all false
set_option maxRecDepth 100000
set_option maxHeartbeats 0
namespace Go.Proofs.YtncpbkoinennoaaGreatDoor
open Go.RowKit Proofs.Tryz
attribute [local irreducible] wpList Calls
variable{l:List Int}{g n:Nat}{t:TypeId}
def jb(l:List Nat):Array ab:=(l.map λ x:Nat=>Value.int .u8 (x:Int)).toArray
def K3(l:List Nat)(k x:Nat):(jb l).setIfInBounds k (.int .u8 (x:Int))=jb (l.set k x):=by simp[jb,mW]
def aaZ:jb (List.replicate 32 0)=#[.int .u8 0,.int .u8 0,.int .u8 0,.int .u8 0,.int .u8 0,.int .u8 0,.int .u8 0,.int .u8 0,.int .u8 0,.int .u8 0,.int .u8 0,.int .u8 0,.int .u8 0,.int .u8 0,.int .u8 0,.int .u8 0,.int .u8 0,.int .u8 0,.int .u8 0,.int .u8 0,.int .u8 0,.int .u8 0,.int .u8 0,.int .u8 0,.int .u8 0,.int .u8 0,.int .u8 0,.int .u8 0,.int .u8 0,.int .u8 0,.int .u8 0,.int .u8 0]:=by kernel_rfl
structure OW(w wr:aa)(g:Nat)(t:TypeId)(cs:Array ab):Prop where
 aK:BW w wr
 a:ah wr g t cs
 own:w.heap.size<=g
def OW.set{w wr:aa}{a:Array ab}(h:OW w wr g t a)(k:Nat)(v:ab):OW w (wr.setCell ⟨g,k,none⟩ v) g t (a.setIfInBounds k v):=⟨h.aK.setCell h.own _,h.a.cN k v,h.own⟩
def OW.carried{w wr c:aa}{b:List Int}(h:OW w wr g 88 (av l))(a:CW wr c g b):OW w c g 88 (av b):=
 ⟨h.aK.trans ((a.only.mono h.aK.size (λ k e d=>d)).below (by simp;exact h.own)),a.a,h.own⟩
def OW.below{w wr c:aa}{a:Array ab}(h:OW w wr g t a)(b:BW wr c):OW w c g t a:=
 ⟨h.aK.trans (b.mono h.aK.size),(b.block g h.a.lt).trans h.a,h.own⟩
def OW.row{w wr:aa}{b:Array ab}(h:OW w wr g t b)(a:Array ab):OW w (wr.setRow g a) g t a:=⟨bY h.aK h.own a,h.a.setRow a,h.own⟩
def tS{v:ab}(a8:aO v n)(w:aa):CB 108 #[v] w (ae (FM.enc n)):=by
 obtain⟨x,rfl,hx,a5⟩:=a8;have R:=Z hx;have M:=Z a5
 go_enter func108,ntmps108
 go_wp2
 go_loopw [8] (λ i wr=>∃(k:Nat) (l:List Int),k<=3/\i=O k/\OW w wr w.heap.size 88 (av l)/\FM.C3 x l k) (λ i _=>3-(intOf i).toNat)
 case atStart=>exact⟨0,x,by omega,rfl,⟨(bz _ _).alloc (aW _) _,ah.new _ _ _,aW _⟩,⟨R.U,λ h=>by omega,rfl⟩⟩
 case round=>
  obtain⟨k,l,A,rfl,p,u⟩:=hrel;have a:=Z p;have c:=Z u;by_cases f:k<3
  ·go_wp2_with fail
   refine(tI a.U.a c.U.kg.len (-2) 2 (-76) 65611 (λ d hd=>c.U.kg.bound hd) zD zD zD zD zD zD zD zD).mono ?_;rintro e o ⟨rfl,b1,a2,a0⟩;have q:=Z (a.U.carried a2);have K:=Z (c.U.step a0)
   go_wp2
   go_roundw
   case rel=>exact⟨k+1,b1,by omega,by go_num,q.U,K.U⟩
   case measure=>simp[intOf];omega
  ·obtain rfl:k=3:=by omega
   have HD:=Z (FM.D2.start c.U)
   go_wp2
   rw[show((3:Nat):Int)=3 from rfl]
   go_loopw [12] (λ i wr=>∃(k:Nat) (l:List Int),k<=2/\i=O k/\OW w wr w.heap.size 88 (av l)/\FM.D2 x l k) (λ i _=>2-(intOf i).toNat)
   case atStart=>exact⟨0,l,by omega,rfl,a.U,HD.U⟩
   case round=>
    obtain⟨k,l,A,rfl,p,u⟩:=hrel;have a:=Z p;have c:=Z u;by_cases f:k<2
    ·have t:=a.U.a;have r:(av l).size=16:=by rw[cI];exact c.U.norm.len
     have y:(prog.info? 86).map (·.size)=some (av l).size:=by rw[r];exact qx
     have a1:=λ z=>Un c.U.norm z;have L:=Z a1
     go_wp2_with(refine bO rfl 86 (Operand.tmp 15) rfl w.heap.size rfl 88 (av l) (0,0) _ t oC rfl y ?_)
     refine(L.U _).mono ?_;rintro e o ⟨⟨m,b,rfl,G,T,X⟩,S⟩;have q:=Z (a.U.below S);have H:(av m).size=16:=by rw[cI];exact G
     have a4:(prog.info? 86).map (·.size)=some (av m).size:=by rw[H];exact qx
     have a7:=uH (P:=prog) o (av (List.replicate 16 0)) 86 (av m).toList (by simp[av,G]) (mo m);rw[mP,dM] at a7;have s:=Z (And.intro T X);cases b with
     |true=>
      have j:=Z (c.U.stay (s.U.1 rfl));have g:=Z (q.U.below (bJ o (.cells (av m) 86)))
      go_wp2
      go_roundw
      case rel=>exact⟨k+1,l,by omega,by go_num,g.U,j.U⟩
      case measure=>simp[intOf];omega
     |false=>
      have j:=Z (c.U.less f (s.U.2 rfl).1 (s.U.2 rfl).2);have g:=Z (q.U.below (bJ o (.cells (av m) 86)));have C:ah (o.alloc (.cells (av m) 86)) o.heap.size 86 (av m):=ah.new _ _ _;have D:=dJ (P:=prog) g.U.a (av m) (by rw[H,r]) (mo _);have B:=Z (g.U.row (av m))
      go_wp2_with(refine bO rfl 86 (Operand.tmp 3) rfl o.heap.size rfl 86 (av m) (0,0) _ C oC rfl a4 ?_)
      go_roundw
      case rel=>exact⟨k+1,m,by omega,by go_num,B.U,j.U⟩
      case measure=>simp[intOf];omega
    ·obtain rfl:k=2:=by omega
     have t:=a.U.a;have r:(av l).size=16:=by rw[cI];exact c.U.norm.len
     have y:(prog.info? 86).map (·.size)=some (av l).size:=by rw[r];exact qx
     have I:=c.U.fe;rw[M.U] at I;have Q:=Z I
     go_upto_region 12 with fail
     rw[<-aaZ];have B:OW w (wr.alloc (.cells (jb (List.replicate 32 0)) 174)) wr.heap.size 174 (jb (List.replicate 32 0)):=⟨a.U.aK.alloc a.U.aK.size _,ah.new _ _ _,a.U.aK.size⟩;have hA2:ah (wr.alloc (.cells (jb (List.replicate 32 0)) 174)) w.heap.size 88 (av l):=t.alloc _;obtain⟨g,a3⟩:∃g,wr.heap.size=g:=⟨_,rfl⟩;rw[a3] at B⊢;generalize wr.alloc (.cells (jb (List.replicate 32 0)) 174)=c3 at*;have J:=Z B
     go_wp2_with(refine bO rfl 86 (Operand.tmp 25) rfl w.heap.size rfl 88 (av l) (0,0) _ hA2 oC rfl y ?_)
     go_loopw [27] (λ i wr=>∃k:Nat,k<=16/\i=O k/\OW w wr g 174 (jb (FM.bl n k))) (λ i _=>16-(intOf i).toNat)
     case atStart=>exact⟨0,by omega,rfl,by rw[FM.Ni];exact J.U⟩
     case round=>
      obtain⟨k,A,rfl,p⟩:=hrel;have a:=Z p;by_cases f:k<16
      ·obtain⟨d,hd⟩:∃d,l[k]?=some d:=⟨_,ba (by rw[c.U.norm.len];exact f)⟩;have b6:=c.U.norm.a d (dB hd);have C:=FM.K6 l n k d c.U.norm.a Q.U hd;have b7:=λ z=>B2 (cs:=av l) (i:=k) z f (dr hd);obtain⟨e,D⟩:∃e:Nat,n/65536^k%65536=e:=⟨_,rfl⟩;rw[D] at C;subst C;have a6:=FM.Nh n k (e%256) (e/256) e f D.symm rfl rfl;have b4:(jb (FM.bl n k)).size=32:=by simp[jb,FM.Fj n k A]
       obtain⟨z0,a9⟩:∃z,(jb (FM.bl n k))[2*k]?=some z:=⟨_,lF W⟩;obtain⟨z1,b0⟩:∃z,(jb (FM.bl n k))[2*k+1]?=some z:=⟨_,lF W⟩;have b2:=(a.U.a.cell (2*k)).trans a9;have b3:=(a.U.a.cell (2*k+1)).trans b0;have f0:=a.U.a.frozen (2*k);have f1:=a.U.a.frozen (2*k+1);have b9:IntKind.i64.wrap (2*(k:Int)+1)=2*(k:Int)+1:=bd _ W;have c0:IntKind.u8.wrap (e:Int)=((e%256:Nat):Int):=by rw[Ej];omega
       have c1:IntKind.u8.wrap ((e:Int)/256)=((e/256:Nat):Int):=by rw[Ej];omega
       have t1:(2*(k:Int)).toNat=2*k:=by omega
       have t2:(2*(k:Int)+1).toNat=2*k+1:=by omega
       have p1:(0:Int)<=2*(k:Int):=by omega
       have p2:(0:Int)<=2*(k:Int)+1:=by omega
       have p3:2*(k:Int)<32:=by omega
       have p4:2*(k:Int)+1<32:=by omega
       have b8:(k:Int)<16:=by omega
       have c2:(k:Int)+(k:Int)=2*(k:Int):=by omega
       have N:=Z a6
       go_wp2
       go_roundw
       case rel=>
        have:=(a.U.set (2*k) (.int .u8 ((e%256:Nat):Int))).set (2*k+1) (.int .u8 ((e/256:Nat):Int));rw[K3,K3,N.U] at this;exact⟨k+1,by omega,by go_num,this⟩
       case measure=>simp[intOf];omega
      ·obtain rfl:k=16:=by omega
       have i:=a.U.a;rw[FM.Ng] at i;have b5:(convert 29 9 (ad (some ⟨g,0,none⟩) 32 32)).run prog wr= .ok (ae (FM.enc n)) wr:=by
        have h:=uG (P:=prog) wr 29 9 5 ⟨g,0,none⟩ 32 ((FM.dn 32 n).map UInt8.ofNat) dZ gi dO (λ j E=>by
         rw[cR,FM.kU] at E;rw[iF,eu,i.cell j];have F:j<(FM.dn 32 n).length:=by rw[FM.kU];exact E
         have f:=FM.F8 32 n _ (cY F);simp only[jb,iL,eI,ba F,vF,lJ];congr 3;simp;omega)
        rw[cR,FM.kU] at h;exact h
       have j:=Z a.U.aK
       go_wp2
       go_ret
       exact⟨rfl,j.U⟩
variable{k:Nat}
def aO.size{v:ab}{n:Nat}(h:aO v n):∃a:Array ab,v=aG a/\a.size=16:=by
 obtain⟨l,rfl,b,-⟩:=h;exact⟨_,rfl,by rw[cI];exact b.len⟩
def PJ(n:Nat)(w:aa):(Instr.index 9 (ae (FM.enc n)) (O 0)).run prog w= .ok (.int .u8 ((n%256:Nat):Int)) w:=by
 simp only[run_index_string w 9 (FM.enc n) .i64 0 dO];have a:0<(FM.enc n).size:=by rw[FM.rX];decide
 simp[a];show((UInt8.ofNat (n%256)).toNat:Int)=_;simp
def aO.zero:aO (aG (av (List.replicate 16 0))) 0:=⟨_,rfl,⟨by simp,λ z a=>by simp at a;subst a;decide,λ k c b=>by rw[List.getElem_replicate];decide⟩,by decide⟩
def PM(d:g<FM.PN)(e:n<FM.PN)(h:FM.enc g=FM.enc n):g=n:=by
 have hd:(FM.dn 32 g).map UInt8.ofNat=(FM.dn 32 n).map UInt8.ofNat:=by
  have a:(FM.enc g).data.toList=(FM.enc n).data.toList:=by rw[h]
  exact a
 have i:∀(k x y:Nat),x<256^k->y<256^k->(FM.dn k x).map UInt8.ofNat=(FM.dn k y).map UInt8.ofNat->x=y:=by
  intro k;induction k with
  |zero=>intro x y hx c _;simp at hx c;omega
  |succ k f=>
   intro x y hx c b;simp only[FM.dn,cw,zj] at b;rw[fk] at hx c;have j:=f (x/256) (y/256) W W b.2;have a:=congrArg UInt8.toNat b.1;simp at a;omega
 exact i 32 g n (zB d zD) (zB e zD) hd
def PI(a:g<FM.PN)(b:n<FM.PN):(FM.enc g).toList=(FM.enc n).toList↔g=n:=by
 constructor
 ·intro h;refine PM a b ?_;have e:(FM.enc g).data.toList=(FM.enc n).data.toList:=by rw[<-ky,<-ky,h]
  exact vh (kx e)
 ·rintro rfl;rfl
def GY{v:ab}(g:aO v n)(w:aa):CB 109 #[v] w (aF (decide (n%2=1))):=by
 obtain⟨a,rfl,r⟩:=g.size;have o:(prog.info? 88).map (·.size)=some a.size:=by rw[r];exact dS
 have j:ah (w.alloc (.cells a 88)) w.heap.size 88 a:=ah.new _ _ _;have l:=λ b=>tS g b;have k:=bJ w (.cells a 88);have p:=PJ n;have f:bits .and .u8 ((n%256:Nat):Int) 1=((n%2:Nat):Int):=by
  have:=Ds (n%256) 1 W W;rw[nat_mask1] at this;rw[show((1:Nat):Int)=1 from rfl] at this;rw[this];congr 1;omega
 have i:=Z l;have d:=Z k;obtain⟨m,q⟩:∃m,n%256=m:=⟨_,rfl⟩;obtain⟨b,c⟩:∃b,n%2=b:=⟨_,rfl⟩;rw[q] at p f;rw[c] at f⊢;have s:(((b:Nat):Int)==1)=decide (b=1):=by
  rw[bI,fB,ju];omega
 go_enter func109,ntmps109
 go_wp2_with(refine bO rfl 88 (Operand.tmp 1) rfl w.heap.size rfl 88 a (0,0) _ j aX rfl o ?_)
 refine(i.U _).mono ?_;rintro e t ⟨rfl,c⟩;have h:=Z (d.U.trans (c.mono d.U.size))
 go_wp2
 go_ret
 exact⟨rfl,h.U⟩
def BN{u v:ab}(l:aO u g)(m:aO v k)(w:aa):CB 250 #[u,v] w (aF (decide (g=k))):=by
 obtain⟨c,rfl,M⟩:=l.size;obtain⟨d,rfl,hd⟩:=m.size;have I:(prog.info? 88).map (·.size)=some c.size:=by rw[M];exact dS
 have J:(prog.info? 88).map (·.size)=some d.size:=by rw[hd];exact dS
 have A:ah ((w.alloc (.cells c 88)).alloc (.cells d 88)) w.heap.size 88 c:=(ah.new _ _ _).alloc _;have B:ah ((w.alloc (.cells c 88)).alloc (.cells d 88)) (w.heap.size+1) 88 d:=fC w _ 88 _;have E:=(bJ w (.cells c 88)).alloc zS (.cells d 88);have F:=λ b=>tS l b;have G:=λ b=>tS m b;have H:((FM.enc g).toList==(FM.enc k).toList)=decide (g=k):=by
  rw[bI,fB,ju];exact PI l.lt m.lt
 obtain⟨r,L⟩:∃r,decide (g=k)=r:=⟨_,rfl⟩;rw[L] at H⊢;generalize FM.enc g=N at*;generalize FM.enc k=P at*;have x:=Z F;have y:=Z G
 go_enter func250,ntmps250
 go_upto_region 1 with fail
 generalize(w.alloc (.cells c 88)).alloc (.cells d 88)=p at*;have q:=Z A;have s:=Z B;have t:=Z E;refine iE (n:=5) (S:=λ b=>BW p b) V V (gp (bz _ _) 1) (λ a=> ?_);refine W2 0 _ rfl rfl (cv V 88 (Operand.tmp 2) rfl w.heap.size zR 88 _ (0,0) _ (λ b h=>(dQ h _ (ah.lt q.U)).trans q.U) aX rfl I) zA ?_;refine W2 2 _ rfl rfl (cv V 88 (Operand.tmp 3) rfl (w.heap.size+1) zR 88 _ (0,0) _ (λ b h=>(dQ h _ (ah.lt s.U)).trans s.U) aX rfl J) zA ?_;refine az.one (i:=1) (o:=?or1) V zD ?RY ?acy;case RY=>(simp only[sG];exact rfl)
 intro K f
 go_simp
 refine(x.U _).mono ?_;rintro e y1 ⟨rfl,j⟩;have C:BW p y1:=eH a (cP j (dA a))
 go_simp
 refine f.out _ _ C (λ a=> ?_);refine az.one (i:=3) (o:=?VQ) V zD ?BV ?Hk;case BV=>(simp only[sG];exact rfl)
 intro K f
 go_simp
 refine(y.U _).mono ?_;rintro e y3 ⟨rfl,j⟩;have D:BW p y3:=eH a (cP j (dA a))
 go_simp
 refine f.out _ _ D (λ a=> ?_);refine VW [4] zA ?_;refine az.tail V ?_;have z:=Z (t.U.trans (cP a t.U.size));simp only[bU,bC]
 go_wp2
 go_ret
 exact⟨rfl,z.U⟩
def aO.row{v:ab}(h:aO v n):∃a:Array ab,v=aG a/\a.size=16/\(∀u∈a.toList,u.oneCell'=true):=by
 obtain⟨l,rfl,b,-⟩:=h;exact⟨_,rfl,by rw[cI];exact b.len,mo l⟩
def QT{u:ab}(d:aO u g)(w:aa):CB 190 #[u] w (aF (decide (g=0))):=by
 obtain⟨a,rfl,m⟩:=d.size;have l:(prog.info? 88).map (·.size)=some a.size:=by rw[m];exact dS
 have i:ah (w.alloc (.cells a 88)) w.heap.size 88 a:=ah.new _ _ _;have k:=bJ w (.cells a 88);have c:=λ e=>BN d aO.zero e;rw[dM] at c;have h:=Z c;have b:=Z k
 go_enter func190,ntmps190
 go_wp2_with(refine bO rfl 88 (Operand.tmp 1) rfl w.heap.size rfl 88 a (0,0) _ i aX rfl l ?_)
 refine(h.U _).mono ?_;rintro e n ⟨rfl,j⟩;have f:=Z (b.U.trans (j.mono b.U.size))
 go_wp2
 go_ret
 exact⟨rfl,f.U⟩
def wP{u:ab}(l:aO u n)(w:aa):Calls prog 191 #[u] w λ e b=>(∃r,e=ao r/\aO r ((FM.PN-n)%FM.PN))/\BW w b:=by
 obtain⟨a,rfl,C⟩:=l.size;have z:(prog.info? 88).map (·.size)=some a.size:=by rw[C];exact dS
 have t:ah ((w.alloc (.cells a 88)).alloc (.cells (av (List.replicate 16 0)) 88)) w.heap.size 88 a:=(ah.new _ _ _).alloc _;have x:ah ((w.alloc (.cells a 88)).alloc (.cells (av (List.replicate 16 0)) 88)) (w.heap.size+1) 88 (av (List.replicate 16 0)):=fC w _ 88 _;have y:=(bJ w (.cells a 88)).alloc zS (.cells (av (List.replicate 16 0)) 88);have c:=λ b=>sg aO.zero l b;rw[eu] at c;obtain⟨m,A⟩:∃m,(FM.PN-n)%FM.PN=m:=⟨_,rfl⟩;rw[A] at c⊢;rw[dM] at c;have q:=Z c
 go_enter func191,ntmps191
 go_upto_region 1 with fail
 rw[<-dM];generalize(w.alloc (.cells a 88)).alloc (.cells (av (List.replicate 16 0)) 88)=F at*;have d:=Z x;have f:=Z y
 go_wp2_with(refine bO rfl 88 (Operand.tmp 1) rfl w.heap.size rfl 88 a (0,0) _ t aX rfl z ?_)
 refine(q.U _).mono ?_;rintro e D ⟨⟨r,rfl,k⟩,i⟩;have s:=Z k;obtain⟨b,rfl,j,B⟩:=k.row;have hd:(prog.info? 88).map (·.size)=some b.size:=by rw[j];exact dS
 have h:ah D (w.heap.size+1) 88 (av (List.replicate 16 0)):=(i.block _ (ah.lt d.U)).trans d.U;have E:=dJ (P:=prog) h b (by rw[j,cI,ej]) B;have o:=Z (h.setRow b);have p:=Z (bY (f.U.trans (i.mono f.U.size)) W b (g:=w.heap.size+1))
 go_wp2
 exact cq (v:= .agg b) (fL results191 _ _ (w.heap.size+1) 88 b (0,0) _ rfl o.U aX rfl hd) rfl ⟨⟨_,rfl,s.U⟩,p.U⟩
def jB(n k:Nat):List Int:=if k=0 then List.replicate 16 0 else(n:Int)::List.replicate 15 0
def Cy(n k:Nat):(jB n k).length=16:=by unfold jB;split<;>simp
def Vw(n k:Nat)(a:k<4):(jB n k).set k (if k=0 then(n:Int) else 0)=jB n (k+1):=by
 rcases k with _|_|_|_|k;all_goals first|omega|rfl
def wQ(n:Nat)(s:n<65536)(w:aa):Calls prog 185 #[U (n:Int)] w λ e a=>(∃r,e=ao r/\aO r n)/\BW w a:=by
 have o:aO (aG (av (jB n 4))) n:=by
  refine⟨_,rfl,FM.Ip (Cy n 4) (λ d hd=> ?_),?_⟩
  ·rcases bV.1 hd with rfl|hd
   ·omega
   ·simp at hd;subst hd;decide
  ·rw[FM.GL (n:=n) (by show(n:Int)+65536*FM.val (List.replicate 15 0)=n;rw[show FM.val (List.replicate 15 0)=0 by decide];omega)];exact ik (zB s zD)
 have d1:(n:Int)/65536=0:=by omega
 have d2:(n:Int)/4294967296=0:=by omega
 have d3:(n:Int)/281474976710656=0:=by omega
 have A:bits .and .u64 (n:Int) 65535=(n:Int):=by
  have:=u64_and_nat n 65535 W W;rw[show n&&&65535=n by rw[show 65535=2^16-1 by decide,Ew];omega] at this;exact this
 have B:bits .and .u64 0 65535=0:=by decide
 have F:IntKind.i64.wrap (n:Int)=(n:Int):=bd _ W;have j:=Z o
 go_enter func185,ntmps185
 go_upto_region 2 with fail
 rw[<-dM];have p:OW w ((w.alloc (.cells (av (List.replicate 16 0)) 88)).alloc (.cells (av (List.replicate 16 0)) 88)) (w.heap.size+1) 88 (av (List.replicate 16 0)):=⟨(bJ w _).alloc zS _,fC w _ 88 _,by omega⟩;have q:ah ((w.alloc (.cells (av (List.replicate 16 0)) 88)).alloc (.cells (av (List.replicate 16 0)) 88)) w.heap.size 88 (av (List.replicate 16 0)):=(ah.new _ _ _).alloc _;generalize(w.alloc (.cells (av (List.replicate 16 0)) 88)).alloc (.cells (av (List.replicate 16 0)) 88)=G at*;have d:=Z (And.intro p q)
 go_wp2
 go_loopw [5] (λ i wr=>∃k:Nat,k<=4/\i=O k/\OW w wr (w.heap.size+1) 88 (av (jB n k))/\ah wr w.heap.size 88 (av (List.replicate 16 0))) (λ i _=>4-(intOf i).toNat)
 case atStart=>exact⟨0,by omega,rfl,d.U.1,d.U.2⟩
 case round=>
  obtain⟨k,D,rfl,x,t⟩:=hrel;have a:=Z (And.intro x t);by_cases r:k<4
  ·obtain⟨z0,y⟩:∃z,(jB n k)[k]?=some z:=⟨_,ba (by rw[Cy];omega)⟩;have C:=(a.U.1.a.cell k).trans (dr y);have f0:=a.U.1.a.frozen k;have u:=Vw n k r;have c:=Z u;have l:k=0\/k=1\/k=2\/k=3:=by omega
   rcases l with rfl|rfl|rfl|rfl
   ·go_wp2
    go_roundw
    case rel=>
     have:=a.U.1.set 0 (O (n:Int));rw[oP] at this;have b:=c.U
     (rw[ax rfl] at b)
     rw[b] at this;exact⟨1,by omega,rfl,this,a.U.2.cG zS _⟩
    case measure=>simp[intOf]
   ·go_wp2
    go_roundw
    case rel=>
     have:=a.U.1.set 1 (O 0);rw[oP] at this;have b:=c.U
     (rw[aj zD] at b)
     rw[b] at this;exact⟨2,by omega,rfl,this,a.U.2.cG zS _⟩
    case measure=>simp[intOf]
   ·go_wp2
    go_roundw
    case rel=>
     have:=a.U.1.set 2 (O 0);rw[oP] at this;have b:=c.U
     (rw[aj zD] at b)
     rw[b] at this;exact⟨3,by omega,rfl,this,a.U.2.cG zS _⟩
    case measure=>simp[intOf]
   ·go_wp2
    go_roundw
    case rel=>
     have:=a.U.1.set 3 (O 0);rw[oP] at this;have b:=c.U
     (rw[aj zD] at b)
     rw[b] at this;exact⟨4,by omega,rfl,this,a.U.2.cG zS _⟩
    case measure=>simp[intOf]
  ·obtain rfl:k=4:=by omega
   have m:=a.U.1.a;have f:(av (jB n 4)).size=16:=by rw[cI,Cy]
   have e:(prog.info? 88).map (·.size)=some (av (jB n 4)).size:=by rw[f];exact dS
   have E:=dJ (P:=prog) a.U.2 (av (jB n 4)) (by rw[f,cI,ej]) (mo _);have h:=Z (a.U.2.setRow (av (jB n 4)));have i:=Z (bY a.U.1.aK (aW _) (av (jB n 4)) (g:=w.heap.size));generalize av (jB n 4)=b at*
   go_wp2_with(refine bO rfl 88 (Operand.tmp 3) rfl (w.heap.size+1) rfl 88 b (0,0) _ m aX rfl e ?_)
   exact cq (v:= .agg b) (fL results185 _ _ w.heap.size 88 b (0,0) _ rfl h.U aX rfl e) rfl ⟨⟨_,rfl,j.U⟩,i.U⟩
def FE{w a:aa}(h:a.heap[g]?=w.heap[g]?):a.cell? ⟨g,n,none⟩=w.cell? ⟨g,n,none⟩:=by simp[World.cell?,h]
def Hp(a b:Nat)(c:a<65536)(d:b<65536):bits .or .i64 (a:Int) (b:Int)=((a|||b:Nat):Int):=by
 have hx:a|||b<2^16:=Ey W W;have e:∀x:Nat,x<65536->(BitVec.ofInt 64 (x:Int)).toNat=x:=λ x h=>by
  rw[BitVec.ofInt_natCast,BitVec.toNat_ofNat];exact ik W
 show IntKind.i64.wrap ((BitVec.ofInt 64 (a:Int)|||BitVec.ofInt 64 (b:Int)).toNat:Int)=_;rw[BitVec.toNat_or,e a c,e b d,fS];omega
def run_min_int2{P:Program}(w:aa)(b:Array TypeId)(t:TypeId)(k1 k2:IntKind)(x y:Int)(n:Int)(a:min x y=n):(Builtin.min_ b t #[.int k1 x,.int k2 y]).run P w= .ok (.int k1 n) w:=by
 subst a;simp[Builtin.min_,Builtin.min2];have e:∀p q:Int,(if q<p then q else p)=min p q:=λ p q=>by rw[Int.min_def];split<;>split<;>omega
 simp only[e]
def FV(s:ag)(c:Nat)(x:Int)(hx:x=(c:Int)):∃m:Nat,m=min s.size c/\(0:Int)<=(m:Int)/\(m:Int)<=(s.size:Int)/\m<=s.size/\m<=c/\∀a,(Builtin.min_ #[3,3] 3 #[O (s.size:Int),O x]).run prog a= .ok (O m) a:=by
 subst hx;exact⟨min s.size c,rfl,by omega,by omega,by omega,by omega,λ a=>run_min_int2 a _ _ _ _ _ _ _ W⟩
def AR(s:ag)(i j:Nat):(s.extract i j).data.toList=(s.data.toList.drop i).take (j-i):=by
 simp[ByteArray.data_extract]
def v8(s:ag)(k:Nat)(h:k<s.size):s.data.toList[k]?=some s[k]:=by
 rw[ba (by simpa using h)];rfl
def Bz(s:ag)(w:aa):Calls prog 187 #[ae s] w λ e b=>(∃r,e=ao r/\aO r (FM.qp s))/\BW w b:=by
 obtain⟨m,a,b5,y,H,b6,c1⟩:=FV s 32 32 rfl;obtain⟨t,E⟩:∃t,s.extract 0 m=t:=⟨_,rfl⟩;have Q:t.size=m:=by rw[<-E,ij];omega
 have b:t.data.toList=s.data.toList.take 32:=by
  rw[<-E,AR,jR,zF,a];have:s.data.toList.length=s.size:=by simp
  rcases Nat.le_total s.size 32 with h|h
  ·rw[jT h,cS W,cS W]
  ·rw[Nat.min_eq_right h]
 have a0:=Z b;have F:=Z Q;clear a b
 go_enter func187,ntmps187
 go_upto_region 2 with fail
 rw[<-dM];have z:ah ((w.alloc (.cells (av (List.replicate 16 0)) 88)).alloc (.cells (av (List.replicate 16 0)) 88)) (w.heap.size+1) 88 (av (List.replicate 16 0)):=fC w _ 88 _;have n:ah ((w.alloc (.cells (av (List.replicate 16 0)) 88)).alloc (.cells (av (List.replicate 16 0)) 88)) w.heap.size 88 (av (List.replicate 16 0)):=(ah.new _ _ _).alloc _;have I:BW w ((w.alloc (.cells (av (List.replicate 16 0)) 88)).alloc (.cells (av (List.replicate 16 0)) 88)):=(bJ w _).alloc zS _;generalize(w.alloc (.cells (av (List.replicate 16 0)) 88)).alloc (.cells (av (List.replicate 16 0)) 88)=S at*;obtain⟨a1,o,M,A,N,J,K⟩:=tK (P:=prog) S 9 29 5 t dO dZ gi;obtain⟨g,L⟩:∃g,S.heap.size=g:=⟨_,rfl⟩;have a4:ah o (w.heap.size+1) 88 (av (List.replicate 16 0)):=(A.block _ z.lt).trans z;have a5:ah o w.heap.size 88 (av (List.replicate 16 0)):=(A.block _ n.lt).trans n;have a3:=I.trans (A.mono I.size);have a9:w.heap.size+1<g:=by rw[<-L];exact z.lt
 rw[L] at M K N;rw[Q] at M J;have p:∀(i:Nat) (c:UInt8),t.data.toList[i]?=some c->o.cell? ⟨g,i,none⟩=some (.int .u8 (c.toNat:Int)):=λ i c a=>by
  have q:i<t.size:=by have:=(ed.1 a).1;simpa using this
  rw[v8 t i q] at a;obtain rfl:=hK a;exact K i q
 have b7:s.extract 0 m=t:=E;have r:=Z (And.intro a4 (And.intro a5 (And.intro a3 (And.intro a9 N))));have X:=Z p;have c0:m<=a1:=J
 go_wp2
 go_loopw [13] (λ i wr=>∃(k:Nat) (l:List Int),k<=m/\i=O k/\CW o wr (w.heap.size+1) l/\FM.lH t.data.toList l k) (λ i _=>m-(intOf i).toNat)
 case atStart=>exact⟨0,_,by omega,rfl,⟨aR.refl _ _ _,r.U.1⟩,FM.lH.start _⟩
 case round=>
  obtain⟨k,l,b9,rfl,b1,a7⟩:=hrel;have d:=Z b1;have e:=Z a7;by_cases q:k<m
  ·obtain⟨c,B⟩:∃c,t.data.toList[k]?=some c:=⟨_,v8 t k (by rw[F.U];exact q)⟩;have p:=c.toNat_lt;have G:wr.cell? ⟨g,k,none⟩=some (.int .u8 (c.toNat:Int)):=by
    obtain⟨-,-,-,R,b3⟩:=r.U;have a:=d.U.only.block g W (by simp;omega);exact(FE a).trans (X.U k c B)
   obtain⟨j,b8⟩:∃j,k/2=j:=⟨_,rfl⟩;have D:j<16:=by omega
   obtain⟨x,hx⟩:∃x,l[j]?=some x:=⟨_,ba (by rw[e.U.len];exact D)⟩;have b4:=(d.U.a.cell j).trans (dr hx);have f0:=d.U.a.frozen j;have e1:(k:Int).tdiv 2=(j:Int):=by rw[vn W];omega
   have c7:IntKind.i64.wrap (j:Int)=(j:Int):=bd _ W;have c8:IntKind.i64.wrap 8=8:=by decide
   have c9:IntKind.i64.wrap 0=0:=by decide
   have c3:(0:Int)<=(j:Int):=by omega
   have c4:(j:Int)<16:=by omega
   have c5:(0:Int)<=(k:Int):=by omega
   have c6:(k:Int)<(m:Int):=by omega
   rcases rC k with b0|b0
   ·have b:=e.U.even (j:=j) W D B;have T:x=0:=by
     obtain⟨y,rfl⟩:=ed.1 hx;exact e.U.rest j y W
    subst T;have e2:(k:Int).tmod 2=0:=by rw[gd W];omega
    have u:bits .or .i64 0 (c.toNat:Int)=(c.toNat:Int):=by
     have:=Hp 0 c.toNat W W;rw[Nat.zero_or] at this;exact this
    obtain⟨a,C⟩:∃a,c.toNat=a:=⟨_,rfl⟩;rw[C] at G u b p;have a6:IntKind.i64.wrap (a:Int)=(a:Int):=bd _ W;have i:=Z b
    go_wp2
    go_still_tail 14,V
    show wpList _ _ _ _ _ wr.drew
    go_wp2
    go_roundw
    case rel=>exact⟨k+1,_,by omega,by go_num,(d.U.set j (a:Int)).drew,i.U⟩
    case measure=>simp[intOf];omega
   ·have b:=e.U.bq (j:=j) W D B hx;have e2:(k:Int).tmod 2=1:=by rw[gd W];omega
    obtain⟨f,a2⟩:∃f:Nat,x=(f:Int):=⟨x.toNat,by have:=b.2;omega⟩;subst a2;have u:bits .or .i64 (f:Int) ((c.toNat:Int)*256)=((f:Nat):Int)+(c.toNat:Int)*256:=by
     have h:=Hp f (c.toNat*256) (by have:=b.2;omega) W;rw[vD,oX 8 _ _ W (by have:=b.2;omega)] at h;rw[show((c.toNat*256:Nat):Int)=(c.toNat:Int)*256 by simp] at h;rw[h];omega
    obtain⟨a,C⟩:∃a,c.toNat=a:=⟨_,rfl⟩;rw[C] at G u b p;have a6:IntKind.i64.wrap (a:Int)=(a:Int):=bd _ W;have h:IntKind.i64.wrap ((a:Int)*256)=(a:Int)*256:=bd _ W;have i:=Z b.1
    go_wp2
    go_still_tail 14,V
    show wpList _ _ _ _ _ wr.drew
    go_wp2
    go_roundw
    case rel=>exact⟨k+1,_,by omega,by go_num,(d.U.set j ((f:Int)+(a:Int)*256)).drew,i.U⟩
    case measure=>simp[intOf];omega
  ·obtain rfl:k=m:=by omega
   have a2:=d.U.a;have f:=FM.Ip e.U.len e.U.a;have i:(av l).size=16:=by rw[cI];exact f.len
   have h:(prog.info? 88).map (·.size)=some (av l).size:=by rw[i];exact dS
   have a8:=FM.GL e.U.eq;have hcut:FM.eB (t.data.toList.take k)%FM.PN=FM.qp s:=by
    unfold FM.qp;rw[cS (by have:=F.U;simp;omega),a0.U]
   have C:ai (aO (aG (av l)) (FM.qp s)):=Z ⟨l,rfl,f,by rw[a8,hcut]⟩;obtain⟨-,b2,R,b3,c2⟩:=r.U;have n:ah wr w.heap.size 88 (av (List.replicate 16 0)):=b2.only d.U.only W zS;have a6:BW w wr:=R.trans ((d.U.only.mono (show w.heap.size<=o.heap.size by omega) (λ k y H=>H)).below zS);have b:=dJ (P:=prog) n (av l) (by rw[i,cI,ej]) (mo _);have u:=Z (n.setRow (av l));have T:=Z (bY a6 (aW _) (av l) (g:=w.heap.size));generalize av l=a at*
   go_wp2_with(refine bO rfl 88 (Operand.tmp 3) rfl (w.heap.size+1) rfl 88 a (0,0) _ a2 aX rfl h ?_)
   exact cq (v:= .agg a) (fL results187 _ _ w.heap.size 88 a (0,0) _ rfl u.U aX rfl h) rfl ⟨⟨_,rfl,C.U⟩,T.U⟩
def PH(a b:ag):(a.toList==b.toList)=decide (a=b):=by
 rw[bI,fB,ju];constructor
 ·intro h;exact vh (kx (by rw[<-ky,<-ky,h]))
 ·rintro rfl;rfl
def QH(s:ag)(w:aa):Calls prog 184 #[ae s] w λ e a=>(∃r,e=ao (aJ #[r,O (FM.jD s)])/\aO r (FM.jE s))/\BW w a:=by
 have x:=bJ w (.cells (av (List.replicate 16 0)) 88);have t:ah (w.alloc (.cells (av (List.replicate 16 0)) 88)) w.heap.size 88 (av (List.replicate 16 0)):=ah.new _ _ _;have k:(prog.info? 88).map (·.size)=some (av (List.replicate 16 0)).size:=by rw[cI,ej];exact dS
 rcases jk s.size 32 with h|h
 ·have e1:FM.jD s=2:=by unfold FM.jD;rw[ax h]
  have e2:FM.jE s=0:=by unfold FM.jE;rw[e1];rfl
  rw[e1,e2];have f:(s.size:Int)<32:=by omega
  have b:=Z (And.intro t (And.intro x k))
  go_enter func184,ntmps184
  go_wp2
  rw[<-dM];exact cq (v:= .tuple #[.agg (av (List.replicate 16 0)),O 2]) (ia Ax _ _ w.heap.size 88 (av (List.replicate 16 0)) (0,0) _ rfl b.U.1 aX rfl b.U.2.2) rfl ⟨⟨_,rfl,aO.zero⟩,b.U.2.1⟩
 focus
  rcases jk 32 s.size with d|d
  ·have e1:FM.jD s=4:=by unfold FM.jD;rw[aj W,ax d]
   have e2:FM.jE s=0:=by unfold FM.jE;rw[e1];rfl
   rw[e1,e2];have f:((s.size:Int)<32)=False:=lh W;have l:(32:Int)<(s.size:Int):=by omega
   have b:=Z (And.intro t (And.intro x k))
   go_enter func184,ntmps184
   go_wp2
   rw[<-dM];exact cq (v:= .tuple #[.agg (av (List.replicate 16 0)),O 4]) (ia Ax _ _ w.heap.size 88 (av (List.replicate 16 0)) (0,0) _ rfl b.U.1 aX rfl b.U.2.2) rfl ⟨⟨_,rfl,aO.zero⟩,b.U.2.1⟩
  focus
   have y:=λ a=>Bz s a;have i:FM.qp s=FM.eB s.data.toList%FM.PN:=by
    unfold FM.qp;rw[cS (by simp;omega)]
   rw[i] at y;obtain⟨n,c⟩:∃n,FM.eB s.data.toList%FM.PN=n:=⟨_,rfl⟩;rw[c] at y;have f:((s.size:Int)<32)=False:=lh W;have l:((32:Int)<(s.size:Int))=False:=lh W;have j:=PH (FM.enc n) s;by_cases a:FM.enc n=s;focus
    have e1:FM.jD s=0:=by unfold FM.jD;rw[aj W,aj W,c,ax a]
    have e2:FM.jE s=n:=by unfold FM.jE;rw[e1,ax rfl,c]
    rw[e1,e2];rw[aS a] at j;have H:((FM.enc n).toList !=s.toList)=false:=by rw[bne,j];rfl
   rotate_left;focus
    have e1:FM.jD s=3:=by unfold FM.jD;rw[aj W,aj W,c,aj a]
    have e2:FM.jE s=0:=by unfold FM.jE;rw[e1];rfl
    rw[e1,e2];rw[bu a] at j;have H:((FM.enc n).toList !=s.toList)=true:=by rw[bne,j];rfl
   rotate_left
  rotate_left 2
 rotate_left 2;all_goals
  obtain⟨L,J⟩:∃L,FM.enc n=L:=⟨_,rfl⟩;have N:=Z J;rw[J] at j H;have S:=Z y;have b:=Z t;have B:=Z x
  go_enter func184,ntmps184
  go_upto_region 1 with fail
  rw[<-dM];generalize w.alloc (.cells (av (List.replicate 16 0)) 88)=a3 at*
  go_wp2_with fail
  refine(S.U _).mono ?_;rintro e d ⟨⟨r,rfl,A⟩,c⟩;have a0:=tS A;have X:=Z A;obtain⟨a,rfl,z,I⟩:=A.row;have hd:(prog.info? 88).map (·.size)=some a.size:=by rw[z];exact dS
  have K:=uH (P:=prog) d (av (List.replicate 16 0)) 88 a.toList (by rw[hz,z,cI,ej]) I;rw[mP,dM] at K;have o:ah (d.alloc (.cells a 88)) d.heap.size 88 a:=ah.new _ _ _;have G:=c.alloc c.size (.cells a 88);have Q:=Z ((G.block _ (ah.lt b.U)).trans b.U);have q:ai (ah (d.alloc (.cells a 88)) w.heap.size 88 (av (List.replicate 16 0))):=Q;have f:=Z (B.U.trans (G.mono B.U.size));have C:=Z a0;have T:=Z I
  go_wp2_with(refine bO rfl 88 (Operand.tmp 4) rfl d.heap.size rfl 88 a (0,0) _ o aX rfl hd ?_)
  rw[N.U] at C;refine(C.U _).mono ?_;rintro e M ⟨rfl,c⟩;first
   |have hA3:ah M d.heap.size 88 a:=(c.block _ o.lt).trans o
   |skip
  have i:ah M w.heap.size 88 (av (List.replicate 16 0)):=(c.block _ (ah.lt q.U)).trans q.U
 ·have a2:=dJ (P:=prog) i a (by rw[z,cI,ej]) T.U;have l:=Z (i.setRow a);have m:=Z (bY (f.U.trans (c.mono f.U.size)) (aW _) a (g:=w.heap.size))
  go_wp2_with(refine bO rfl 88 (Operand.tmp 4) rfl d.heap.size rfl 88 a (0,0) _ hA3 aX rfl hd ?_)
  exact cq (v:= .tuple #[.agg a,O 0]) (ia Ax _ _ w.heap.size 88 a (0,0) _ rfl l.U aX rfl hd) rfl ⟨⟨_,rfl,X.U⟩,m.U⟩
 ·have l:=Z (i.setRow (av (List.replicate 16 0)));have m:=Z (bY (f.U.trans (c.mono f.U.size)) (aW _) (av (List.replicate 16 0)) (g:=w.heap.size));have D:ai (aO (aG (av (List.replicate 16 0))) 0):=Z aO.zero;have F:(av (List.replicate 16 0)).all (·.oneCell')=true:=by kernel_rfl
  have a1:(av (List.replicate 16 0)).size=16:=by rw[cI,ej]
  obtain⟨p,E⟩:∃p,av (List.replicate 16 0)=p:=⟨_,rfl⟩;have u:=dM;rw[E] at l m D F i k a1 u;have R:=Z u;clear c o q f K E u
  go_wp2_with(rw[<-R.U];refine cn rfl 88 (Operand.tmp 2) (Operand.tmp 21) rfl w.heap.size p zR zR 88 _ i k rfl F ?_)
  exact cq (v:= .tuple #[.agg p,O 3]) (ia Ax _ _ w.heap.size 88 _ (0,0) _ rfl l.U aX rfl k) rfl ⟨⟨_,rfl,D.U⟩,m.U⟩
def Yc(i:Nat)(f:i<300)(w:aa):Calls prog 193 #[O (i:Int)] w λ e b=>e=ao (aF (decide (i=2)||decide (i=4)))/\w=b:=by
 have a:((i:Int)==2)=decide (i=2):=by rw[bI,fB,ju];omega
 have b:((i:Int)==4)=decide (i=4):=by rw[bI,fB,ju];omega
 cases c:decide (i=2)<;>cases d:decide (i=4)
 all_goals
  rw[c] at a;rw[d] at b
  go_enter func193,ntmps193
  go_wp2
  go_ret
  exact⟨rfl,rfl⟩
def Yd(i:Nat)(c:i<300)(w:aa):Calls prog 249 #[O (i:Int)] w λ e b=>e=ao (aF (decide (i=1)))/\w=b:=by
 have a:((i:Int)==1)=decide (i=1):=by rw[bI,fB,ju];omega
 cases b:decide (i=1)
 all_goals
  rw[b] at a
  go_enter func249,ntmps249
  go_wp2
  go_ret
  exact⟨rfl,rfl⟩
def Ye(i:Nat)(c:i<300)(w:aa):Calls prog 251 #[O (i:Int)] w λ e b=>e=ao (aF (decide (i=2)))/\w=b:=by
 have a:((i:Int)==2)=decide (i=2):=by rw[bI,fB,ju];omega
 cases b:decide (i=2)
 all_goals
  rw[b] at a
  go_enter func251,ntmps251
  go_wp2
  go_ret
  exact⟨rfl,rfl⟩
structure PW(w wr:aa)(pc xa ds:Array ab):Prop where
 aK:BW w wr
 p:ah wr w.heap.size 262 pc
 a:ah wr (w.heap.size+1) 88 xa
 r:ah wr (w.heap.size+1+1) 88 (av (List.replicate 16 0))
 c:ah wr (w.heap.size+1+1+1) 88 ds
def PW.below{w wr d:aa}{c e b:Array ab}(h:PW w wr c e b)(a:BW wr d):PW w d c e b:=
 ⟨h.aK.trans (a.mono h.aK.size),(a.block _ h.p.lt).trans h.p,(a.block _ h.a.lt).trans h.a,(a.block _ h.r.lt).trans h.r,(a.block _ h.c.lt).trans h.c⟩
def PW.row{w wr:aa}{b c d:Array ab}(h:PW w wr b c d)(a:Array ab):PW w (wr.setRow (w.heap.size+1+1+1) a) b c a:=
 ⟨bY h.aK W a,h.p.cJ a W,h.a.cJ a W,h.r.cJ a W,h.c.setRow a⟩
def N0{a:Array ab}(h:∀u∈a.toList,u.oneCell'=true):a.all (·.oneCell')=true:=by
 rw[Array.all_eq_true];intro i b;exact h _ (by rw[Array.mem_toList_iff];exact Array.getElem_mem b)
def aO.cells{a:Array ab}(h:aO (aG a) n):a.size=16/\∀u∈a.toList,u.oneCell'=true:=by
 obtain⟨e,b,c,d⟩:=h.row;injection b with b;subst b;exact⟨c,d⟩
def BL(f:FuncId)(skip:Nat->Bool)(b1:∀i:Nat,i<300->∀w,Calls prog f #[O (i:Int)] w λ e b=>e=ao (aF (skip i))/\w=b)(b8:∀c w,(callFunc f c).run prog w= .ok (.enter f c) w)(a:Nat)(c1:a<300){u:ab}(R:aO u n)(w:aa):
 Calls prog 194 #[aG #[O (a:Int),.func (.func f) #[] #[]],u] w λ e b=>(∃r,e=ao r/\aO r (FM.iA skip n a n))/\BW w b:=by
 obtain⟨b,rfl,L,t⟩:=R.row
 have H:=Z R
 have K:(prog.info? 88).map (·.size)=some b.size:=by rw[L];exact dS
 have s:ah (((w.alloc (.cells #[O (a:Int),.func (.func f) #[] #[]] 262)).alloc (.cells b 88)).alloc (.cells (av (List.replicate 16 0)) 88)) (w.heap.size+1) 88 b:=(fC w _ 88 _).alloc _
 have a6:ah (((w.alloc (.cells #[O (a:Int),.func (.func f) #[] #[]] 262)).alloc (.cells b 88)).alloc (.cells (av (List.replicate 16 0)) 88)) w.heap.size 262 #[O (a:Int),.func (.func f) #[] #[]]:=((ah.new _ _ _).alloc _).alloc _
 have a7:ah (((w.alloc (.cells #[O (a:Int),.func (.func f) #[] #[]] 262)).alloc (.cells b 88)).alloc (.cells (av (List.replicate 16 0)) 88)) (w.heap.size+1+1) 88 (av (List.replicate 16 0)):=by
  have h:=fC (w.alloc (.cells #[O (a:Int),.func (.func f) #[] #[]] 262)) (.cells b 88) 88 (av (List.replicate 16 0))
  rw[rJ] at h
  exact h
 have a8:=((bJ w (.cells #[O (a:Int),.func (.func f) #[] #[]] 262)).alloc zS (.cells b 88)).alloc (by simp;omega) (.cells (av (List.replicate 16 0)) 88)
 have Q:(((w.alloc (.cells #[O (a:Int),.func (.func f) #[] #[]] 262)).alloc (.cells b 88)).alloc (.cells (av (List.replicate 16 0)) 88)).heap.size=w.heap.size+1+1+1:=by simp
 have a2:=Z b1
 go_enter func194,ntmps194
 go_upto_region 1 with fail
 rw[<-dM]
 generalize((w.alloc (.cells #[O (a:Int),.func (.func f) #[] #[]] 262)).alloc (.cells b 88)).alloc (.cells (av (List.replicate 16 0)) 88)=x at*
 have b4:=uH (P:=prog) x (av (List.replicate 16 0)) 88 b.toList (by rw[hz,L,cI,ej]) t
 rw[mP,dM,Q] at b4
 have l:ah (x.alloc (.cells b 88)) (w.heap.size+1+1+1) 88 b:=by rw[<-Q];exact ah.new _ _ _
 have h:=Z (show PW w (x.alloc (.cells b 88)) #[O (a:Int),.func (.func f) #[] #[]] b b from⟨a8.alloc W _,a6.alloc _,s.alloc _,a7.alloc _,l⟩)
 go_upto_region 2 with(refine bO rfl 88 (Operand.tmp 3) rfl (w.heap.size+1) rfl 88 b (0,0) _ s aX rfl K ?_)
 generalize x.alloc (.cells b 88)=b6 at*
 have b7:b6.cell? ⟨w.heap.size,0,none⟩=some (O (a:Int)):=h.U.p.cell 0
 have c3:IntKind.i64.wrap ((a:Int)-1)=(a:Int)-1:=bd _ W
 go_wp2
 go_loopw [6] (λ i wr=>∃(j c:Nat) (d:Array ab),j<=a/\i=O ((j:Int)-1)/\PW w wr #[O (a:Int),.func (.func f) #[] #[]] b d/\aO (aG d) c/\FM.iA skip n j c=FM.iA skip n a n) (λ i _=>(intOf i+1).toNat)
 case atStart=>exact⟨a,n,b,aW _,rfl,h.U,H.U,rfl⟩
 case round=>
  obtain⟨j,c,d,c0,rfl,b5,a9,b3⟩:=hrel
  have h:=Z b5;have m:=Z a9;have A:=Z b3
  by_cases a5:j=0
  ·subst a5
   have S:((0:Nat):Int)-1= -1:=by omega
   obtain⟨p,t⟩:=m.U.cells
   have hd:(prog.info? 88).map (·.size)=some d.size:=by rw[p];exact dS
   have l:=h.U.c
   have N:=dJ (P:=prog) h.U.r d (by rw[p,cI,ej]) t
   have X:=Z (h.U.r.setRow d)
   have a1:=Z (bY h.U.aK W d (g:=w.heap.size+1+1))
   have a0:ai (aO (aG d) (FM.iA skip n a n)):=Z (by rw[<-A.U];exact m.U)
   go_wp2_with(refine bO rfl 88 (Operand.tmp 5) rfl (w.heap.size+1+1+1) rfl 88 d (0,0) _ l aX rfl hd ?_)
   exact cq (v:= .agg d) (fL results194 _ _ (w.heap.size+1+1) 88 d (0,0) _ rfl X.U aX rfl hd) rfl ⟨⟨_,rfl,a0.U⟩,a1.U⟩
  ·obtain⟨i,rfl⟩:∃i,j=i+1:=⟨j-1,by omega⟩
   have S:((i+1:Nat):Int)-1=(i:Int):=by omega
   rw[S]
   have c2:(0:Int)<=(i:Int):=by omega
   have c4:IntKind.i64.wrap ((i:Int)-1)=(i:Int)-1:=bd _ W
   obtain⟨p,t⟩:=m.U.cells
   have hd:(prog.info? 88).map (·.size)=some d.size:=by rw[p];exact dS
   have l:=h.U.c
   have D:=λ B=>ff m.U m.U B
   have z:=Z D
   go_wp2_with((refine bO rfl 88 (Operand.tmp 5) rfl (w.heap.size+1+1+1) rfl 88 d (0,0) _ l aX rfl hd ?_))
   refine(z.U _).mono ?_
   rintro e T ⟨⟨r,rfl,q⟩,C⟩
   obtain⟨k,rfl,E,F⟩:=q.row
   have b0:(prog.info? 88).map (·.size)=some k.size:=by rw[E];exact dS
   have I:=Z (h.U.below C)
   have N:=dJ (P:=prog) I.U.c k (by rw[E,p]) F
   have o:=Z (I.U.row k)
   have G:=Z q
   have b9:(T.setRow (w.heap.size+1+1+1) k).cell? ⟨w.heap.size,1,none⟩=some (.func (.func f) #[] #[]):=o.U.p.cell 1
   go_wp2_with fail
   refine(a2.U i W _).mono ?_
   rintro e _ ⟨rfl,rfl⟩
   generalize T.setRow (w.heap.size+1+1+1) k=c5 at*
   cases M:skip i with
   |true=>
    have y:ai (FM.iA skip n i (c*c%FM.PN)=FM.iA skip n a n):=Z (by rw[<-A.U,FM.I5,ax M])
    go_wp2
    go_roundw
    case rel=>exact⟨i,_,k,by omega,rfl,o.U,G.U,y.U⟩
    case measure=>simp[intOf]<;>omega
   |false=>
    have y:ai (FM.iA skip n i (c*c%FM.PN*n%FM.PN)=FM.iA skip n a n):=Z (by rw[<-A.U,FM.I5,aj (by rw[M];decide)])
    have l:=o.U.c
    have s:=o.U.a
    have D:=λ B=>ff G.U H.U B
    have z:=Z D
    go_wp2_with(first|refine bO rfl 88 (Operand.tmp 5) rfl (w.heap.size+1+1+1) rfl 88 k (0,0) _ l aX rfl b0 ?_|refine bO rfl 88 (Operand.tmp 3) rfl (w.heap.size+1) rfl 88 b (0,0) _ s aX rfl K ?_)
    refine(z.U _).mono ?_
    rintro e c6 ⟨⟨r,rfl,q⟩,C⟩
    obtain⟨B,rfl,b2,F⟩:=q.row
    have J:=Z (o.U.below C)
    have N:=dJ (P:=prog) J.U.c B (by rw[b2,E]) F
    have a4:=Z (J.U.row B)
    have a3:=Z q
    go_wp2
    go_roundw
    case rel=>exact⟨i,_,B,by omega,rfl,a4.U,a3.U,y.U⟩
    case measure=>simp[intOf]<;>omega
def hO{f:FuncId}{a:Func}(g:prog.funcs[f]?=some a)(i:(a.name== "runtime.NumGoroutine")=false)(c:a.body.isNone=false)(b:Array ab)(w:aa):(callFunc f b).run prog w= .ok (.enter f b) w:=by
 have d:a.name≠ "runtime.NumGoroutine":=by simpa using i
 have e:¬a.body=none:=by intro h;rw[h] at c;cases c
 simp[callFunc,go_sem,g,d,e]
def GQ{u:ab}(m:aO u n)(w:aa):Calls prog 106 #[u] w λ e a=>(∃r,e=ao r/\aO r (FM.fg n))/\BW w a:=by
 have j:=λ b=>BL 193 _ Yc (en 193) 254 zD m b;obtain⟨a,rfl,C⟩:=m.size;have A:(prog.info? 88).map (·.size)=some a.size:=by rw[C];exact dS
 have x:ah ((w.alloc (.cells a 88)).alloc (.cells (av (List.replicate 16 0)) 88)) w.heap.size 88 a:=(ah.new _ _ _).alloc _;have y:ah ((w.alloc (.cells a 88)).alloc (.cells (av (List.replicate 16 0)) 88)) (w.heap.size+1) 88 (av (List.replicate 16 0)):=fC w _ 88 _;have z:=(bJ w (.cells a 88)).alloc zS (.cells (av (List.replicate 16 0)) 88);obtain⟨o,c⟩:∃o,FM.fg n=o:=⟨_,rfl⟩;unfold FM.fg at c;rw[c] at j;unfold FM.fg;rw[c];have s:=Z j
 go_enter func106,ntmps106
 go_upto_region 1 with fail
 rw[<-dM];generalize(w.alloc (.cells a 88)).alloc (.cells (av (List.replicate 16 0)) 88)=F at*;have d:=Z y;have f:=Z z
 go_wp2_with(refine bO rfl 88 (Operand.tmp 1) rfl w.heap.size rfl 88 a (0,0) _ x aX rfl A ?_)
 refine(s.U _).mono ?_;rintro e D ⟨⟨r,rfl,l⟩,i⟩;have t:=Z l;obtain⟨b,rfl,k,B⟩:=l.row;have hd:(prog.info? 88).map (·.size)=some b.size:=by rw[k];exact dS
 have h:ah D (w.heap.size+1) 88 (av (List.replicate 16 0)):=(i.block _ (ah.lt d.U)).trans d.U;have E:=dJ (P:=prog) h b (by rw[k,cI,ej]) B;have p:=Z (h.setRow b);have q:=Z (bY (f.U.trans (i.mono f.U.size)) W b (g:=w.heap.size+1))
 go_wp2
 exact cq (v:= .agg b) (fL results106 _ _ (w.heap.size+1) 88 b (0,0) _ rfl p.U aX rfl hd) rfl ⟨⟨_,rfl,t.U⟩,q.U⟩
