import Derived.Shelf.Strings.OnBuilder
import Derived.Shelf.Strings.Prefix
import Derived.Test.YtncpbkoinennoaaGreatDoorMAB
import Derived.Test.YtncpbkoinennoaaGreatDoorMAC
set_option linter.all false
set_option maxRecDepth 100000
set_option maxHeartbeats 0
namespace Go.Proofs.YtncpbkoinennoaaGreatDoor
open Go.RowKit Proofs.Tryz
attribute [local irreducible] wpList Calls
variable{a:Act}{t:TypeId}
section
section
variable{l:List Oper}{Q:Exit->Act->aa->Prop}{w0:aa}{Pv:Nat->ab->Prop}{al:List (Nat×TypeId×Array ab×Option Nat)}{sn todo:List Nat}{a0:Act}{i:Nat}{o0:Oper}{c:Call}{f:FuncId}{vs:List ab}
def xU(a:Act):Operand->Option ab
 | .tmp k=>a.tmps.toList[k]?
 | .const v=>some v
 |_=>none
def SU(l:List Oper)(todo:List Nat)(c:Call):Bool:=c.args.toList.all λ x=>match x with
 | .tmp k=>todo.all λ j=> !decide (bQ l j=some k)
 | .const _=>true
 |_=>false
def MS{a:Act}:∀(b:List Operand) (vs:List ab),b.mapM (xU a0)=some vs->(b.all λ x=>match x with| .tmp k=>todo.all λ j=> !decide (bQ l j=some k)| .const _=>true|_=>false)=true->
 (∀k v,todo.all (λ j=> !decide (bQ l j=some k))=true->a0.tmps[k]?=some v->a.eval (.tmp k)=v)->b.map a.eval=vs
 |[],vs,h,_,_=>by simp at h;simp[h]
 |x::b,vs,h,d,j=>by
  rw[AG] at h
  rw[List.all_cons,dL] at d
  cases hx:xU a0 x with
  |none=>rw[hx] at h;cases h
  |some u=>
   rw[hx] at h
   cases e:b.mapM (xU a0) with
   |none=>rw[e] at h;cases h
   |some m=>
    rw[e] at h
    have n:u::m=vs:=by simpa using h
    rw[<-n,bZ,MS b m e d.2 j]
    congr 1
    cases x with
    |tmp k=>
     refine j k u d.1 ?_
     have o:a0.tmps.toList[k]?=some u:=hx
     simpa using o
    |const v=>exact hD hx
    |global g=>cases hx
    |func f=>cases hx
def OC(g:∀a,Calls prog f vs.toArray a λ e b=>(∃v,e=ao v/\Pv i v)/\BW a b)(m:l.toArray[i]?=some o0:=by exact rfl)(k:o0.guard=none:=by exact rfl)(p:o0.op= .call c:=by exact rfl)(e:c.callee= .value (.func f):=by exact rfl)
 (j:xQ f=true:=by kernel_rfl) (q:i∉sn:=by decide) (n:al.lookup i=none:=by exact rfl) (r:c.args.toList.mapM (xU a0)=some vs:=by exact rfl) (d:SU l todo c=true:=by kernel_rfl):
 ∀o,l.toArray[i]?=some o->dA prog l Q (BT w0) BE (RA w0.heap.size Pv al) sn todo a0 i o:=λ o h=>by
 rw[m] at h
 injection h with h
 subst h
 refine dA.call f k p e (en f j) q n (λ a w o _ _=> ?_)
 have b:c.args.map a.eval=vs.toArray:=by
  apply ju
  rw[FL]
  exact MS _ _ r d o
 rw[b]
 exact g w
def OA{a:Array ab}(n:∀w,(Instr.alloc t true (aM #[])).run prog w= .ok (pV w.heap.size) (w.alloc (.cells a t)))(e:l.toArray[i]?=some o0:=by exact rfl)(b:o0.guard=none:=by exact rfl)(m:o0.op= .alloc t:=by exact rfl)(k:al.lookup i=some (t,a,none):=by exact rfl)
 (p:∀j∈sn,(al.lookup j).isSome=true:=by decide) (d:∀g,w0.heap.size<=g->Pv i (pV g):=by exact λ g b=>trivial):
 ∀o,l.toArray[i]?=some o->dA prog l Q (BT w0) BE (RA w0.heap.size Pv al) sn todo a0 i o:=λ o h=>by
 rw[e] at h
 injection h with h
 subst h
 exact dA.alloc b m k p n d
def Ga(j1 j2:Nat){k1 k2:Nat}{t1 t2:TypeId}(d:∀u v a,Pv j1 u->Pv j2 v->Calls prog f #[u,v] a λ e b=>(∃v,e=ao v/\Pv i v)/\BW a b)(j:l.toArray[i]?=some o0:=by exact rfl)(g:o0.guard=none:=by exact rfl)(m:o0.op= .call {callee:= .value (.func f),args:=#[.tmp k1,.tmp k2],argTypes:=#[t1,t2]}:=by exact rfl)
 (e:xQ f=true:=by kernel_rfl) (n:i∉sn:=by decide) (k:al.lookup i=none:=by exact rfl) (h1:(todo.contains j1&&waits o0 j1&&decide (bQ l j1=some k1)&&decide (k1<a0.tmps.size))=true:=by kernel_rfl) (h2:(todo.contains j2&&waits o0 j2&&decide (bQ l j2=some k2)&&decide (k2<a0.tmps.size))=true:=by kernel_rfl):
 ∀o,l.toArray[i]?=some o->dA prog l Q (BT w0) BE (RA w0.heap.size Pv al) sn todo a0 i o:=λ o h=>by
 rw[j] at h
 injection h with h
 subst h
 refine dA.call f g m rfl (en f e) n k (λ a w _ b _=> ?_)
 obtain⟨u,e1,o⟩:=b j1 k1 h1
 obtain⟨v,e2,p⟩:=b j2 k2 h2
 simp only[ke,bZ,eg,e1,e2]
 exact d u v w o.1 p.1
def kW{id:Nat}{w:aa}(n:Nat)(h:BW w w.drew->ay prog l Q (λ e=>BW w e) n n (Array.replicate l.length false) a w.drew)
 (d:prog.follows .mixedOrders=true:=by kernel_rfl) (b:(Region.noSelect l.toArray&&decide (n<l.length)&&Region.sinkB .any l.toArray n&&Region.chainB .any l.toArray n)=true:=by kernel_rfl):(Code.region id l.toArray true).wp prog Q a w:=
 mN n _ d b (gv (bp _ _) 1) h
end
end
variable{l:List Int}{g n:Nat}
def jo(l:List Nat):Array ab:=(l.map λ x:Nat=>Value.int .u8 (x:Int)).toArray
def MO(l:List Nat)(k x:Nat):(jo l).setIfInBounds k (.int .u8 (x:Int))=jo (l.set k x):=by simp[jo,lU]
def acn:jo (List.replicate 32 0)=#[.int .u8 0,.int .u8 0,.int .u8 0,.int .u8 0,.int .u8 0,.int .u8 0,.int .u8 0,.int .u8 0,.int .u8 0,.int .u8 0,.int .u8 0,.int .u8 0,.int .u8 0,.int .u8 0,.int .u8 0,.int .u8 0,.int .u8 0,.int .u8 0,.int .u8 0,.int .u8 0,.int .u8 0,.int .u8 0,.int .u8 0,.int .u8 0,.int .u8 0,.int .u8 0,.int .u8 0,.int .u8 0,.int .u8 0,.int .u8 0,.int .u8 0,.int .u8 0]:=by kernel_rfl
structure OW(w wr:aa)(g:Nat)(t:TypeId)(cs:Array ab):Prop where
 aJ:BW w wr
 a:ah wr g t cs
 own:w.heap.size<=g
def OW.set{w wr:aa}{a:Array ab}(h:OW w wr g t a)(k:Nat)(v:ab):OW w (wr.setCell ⟨g,k,none⟩ v) g t (a.setIfInBounds k v):=⟨h.aJ.setCell h.own _,h.a.dx k v,h.own⟩
def OW.carried{w wr c:aa}{b:List Int}(h:OW w wr g 88 (ak l))(a:CW wr c g b):OW w c g 88 (ak b):=
 ⟨h.aJ.trans ((a.only.mono h.aJ.size (λ k e d=>d)).below (by simp;exact h.own)),a.a,h.own⟩
def OW.below{w wr c:aa}{a:Array ab}(h:OW w wr g t a)(b:BW wr c):OW w c g t a:=
 ⟨h.aJ.trans (b.mono h.aJ.size),(b.block g h.a.lt).trans h.a,h.own⟩
def OW.row{w wr:aa}{b:Array ab}(h:OW w wr g t b)(a:Array ab):OW w (wr.setRow g a) g t a:=⟨bL h.aJ h.own a,h.a.setRow a,h.own⟩
def vj{v:ab}(a8:aN v n)(w:aa):CB 108 #[v] w (ad (FM.enc n)):=by
 obtain⟨x,rfl,hx,a5⟩:=a8;have R:=Z hx;have M:=Z a5
 go_enter func108,ntmps108
 go_wp2
 go_loopw [8] (λ i wr=>∃(k:Nat) (l:List Int),k<=3/\i=O k/\OW w wr w.heap.size 88 (ak l)/\FM.C3 x l k) (λ i _=>3-(intOf i).toNat)
 case atStart=>exact⟨0,x,by omega,rfl,⟨(bp _ _).alloc (aQ _) _,ah.new _ _ _,aQ _⟩,⟨R.U,λ h=>by omega,rfl⟩⟩
 case round=>
  obtain⟨k,l,A,rfl,p,u⟩:=hrel;have a:=Z p;have c:=Z u;by_cases f:k<3
  ·go_wp2_with fail
   refine(uR a.U.a c.U.lu.len (-2) 2 (-76) 65611 (λ d hd=>c.U.lu.bound hd) zD zD zD zD zD zD zD zD).mono ?_;rintro e o ⟨rfl,b1,a2,a0⟩;have q:=Z (a.U.carried a2);have K:=Z (c.U.step a0)
   go_wp2
   go_roundw
   case rel=>exact⟨k+1,b1,by omega,by go_num,q.U,K.U⟩
   case measure=>simp[intOf];omega
  ·obtain rfl:k=3:=by omega
   have HD:=Z (FM.D2.start c.U)
   go_wp2
   rw[show((3:Nat):Int)=3 from rfl]
   go_loopw [12] (λ i wr=>∃(k:Nat) (l:List Int),k<=2/\i=O k/\OW w wr w.heap.size 88 (ak l)/\FM.D2 x l k) (λ i _=>2-(intOf i).toNat)
   case atStart=>exact⟨0,l,by omega,rfl,a.U,HD.U⟩
   case round=>
    obtain⟨k,l,A,rfl,p,u⟩:=hrel;have a:=Z p;have c:=Z u;by_cases f:k<2
    ·have t:=a.U.a;have r:(ak l).size=16:=by rw[cF];exact c.U.norm.len
     have y:(prog.info? 86).map (·.size)=some (ak l).size:=by rw[r];exact qW
     have a1:=λ z=>UT c.U.norm z;have L:=Z a1
     go_wp2_with(refine bD rfl 86 (Operand.tmp 15) rfl w.heap.size rfl 88 (ak l) (0,0) _ t oO rfl y ?_)
     refine(L.U _).mono ?_;rintro e o ⟨⟨m,b,rfl,G,T,X⟩,S⟩;have q:=Z (a.U.below S);have H:(ak m).size=16:=by rw[cF];exact G
     have a4:(prog.info? 86).map (·.size)=some (ak m).size:=by rw[H];exact qW
     have a7:=wg (P:=prog) o (ak (List.replicate 16 0)) 86 (ak m).toList (by simp[ak,G]) (mz m);rw[mU,dK] at a7;have s:=Z (And.intro T X);cases b with
     |true=>
      have j:=Z (c.U.stay (s.U.1 rfl));have g:=Z (q.U.below (bJ o (.cells (ak m) 86)))
      go_wp2
      go_roundw
      case rel=>exact⟨k+1,l,by omega,by go_num,g.U,j.U⟩
      case measure=>simp[intOf];omega
     |false=>
      have j:=Z (c.U.less f (s.U.2 rfl).1 (s.U.2 rfl).2);have g:=Z (q.U.below (bJ o (.cells (ak m) 86)));have C:ah (o.alloc (.cells (ak m) 86)) o.heap.size 86 (ak m):=ah.new _ _ _;have D:=dI (P:=prog) g.U.a (ak m) (by rw[H,r]) (mz _);have B:=Z (g.U.row (ak m))
      go_wp2_with(refine bD rfl 86 (Operand.tmp 3) rfl o.heap.size rfl 86 (ak m) (0,0) _ C oO rfl a4 ?_)
      go_roundw
      case rel=>exact⟨k+1,m,by omega,by go_num,B.U,j.U⟩
      case measure=>simp[intOf];omega
    ·obtain rfl:k=2:=by omega
     have t:=a.U.a;have r:(ak l).size=16:=by rw[cF];exact c.U.norm.len
     have y:(prog.info? 86).map (·.size)=some (ak l).size:=by rw[r];exact qW
     have I:=c.U.fe;rw[M.U] at I;have Q:=Z I
     go_upto_region 12 with fail
     rw[<-acn];have B:OW w (wr.alloc (.cells (jo (List.replicate 32 0)) 174)) wr.heap.size 174 (jo (List.replicate 32 0)):=⟨a.U.aJ.alloc a.U.aJ.size _,ah.new _ _ _,a.U.aJ.size⟩;have hA2:ah (wr.alloc (.cells (jo (List.replicate 32 0)) 174)) w.heap.size 88 (ak l):=t.alloc _;obtain⟨g,a3⟩:∃g,wr.heap.size=g:=⟨_,rfl⟩;rw[a3] at B⊢;generalize wr.alloc (.cells (jo (List.replicate 32 0)) 174)=c3 at*;have J:=Z B
     go_wp2_with(refine bD rfl 86 (Operand.tmp 25) rfl w.heap.size rfl 88 (ak l) (0,0) _ hA2 oO rfl y ?_)
     go_loopw [27] (λ i wr=>∃k:Nat,k<=16/\i=O k/\OW w wr g 174 (jo (FM.bl n k))) (λ i _=>16-(intOf i).toNat)
     case atStart=>exact⟨0,by omega,rfl,by rw[FM.OS];exact J.U⟩
     case round=>
      obtain⟨k,A,rfl,p⟩:=hrel;have a:=Z p;by_cases f:k<16
      ·obtain⟨d,hd⟩:∃d,l[k]?=some d:=⟨_,aU (by rw[c.U.norm.len];exact f)⟩;have b6:=c.U.norm.e d (cX hd);have C:=FM.Fg l n k d c.U.norm.e Q.U hd;have b7:=λ z=>CM (cs:=ak l) (i:=k) z f (dp hd);obtain⟨e,D⟩:∃e:Nat,n/65536^k%65536=e:=⟨_,rfl⟩;rw[D] at C;subst C;have a6:=FM.OR n k (e%256) (e/256) e f D.symm rfl rfl;have b4:(jo (FM.bl n k)).size=32:=by simp[jo,FM.GS n k A]
       obtain⟨z0,a9⟩:∃z,(jo (FM.bl n k))[2*k]?=some z:=⟨_,lN W⟩;obtain⟨z1,b0⟩:∃z,(jo (FM.bl n k))[2*k+1]?=some z:=⟨_,lN W⟩;have b2:=(a.U.a.cell (2*k)).trans a9;have b3:=(a.U.a.cell (2*k+1)).trans b0;have f0:=a.U.a.frozen (2*k);have f1:=a.U.a.frozen (2*k+1);have b9:IntKind.i64.wrap (2*(k:Int)+1)=2*(k:Int)+1:=aO _ W;have c0:IntKind.u8.wrap (e:Int)=((e%256:Nat):Int):=by rw[FQ];omega
       have c1:IntKind.u8.wrap ((e:Int)/256)=((e/256:Nat):Int):=by rw[FQ];omega
       have t1:(2*(k:Int)).toNat=2*k:=by omega
       have t2:(2*(k:Int)+1).toNat=2*k+1:=by omega
       have p1:(0:Int)<=2*(k:Int):=by omega
       have p2:(0:Int)<=2*(k:Int)+1:=by omega
       have p3:2*(k:Int)<32:=by omega
       have p4:2*(k:Int)+1<32:=by omega
       have b8:(k:Int)<16:=by omega
       have c2:(k:Int)+(k:Int)=2*(k:Int):=by omega
       have N:=Z a6
       go_wp2
       go_roundw
       case rel=>
        have:=(a.U.set (2*k) (.int .u8 ((e%256:Nat):Int))).set (2*k+1) (.int .u8 ((e/256:Nat):Int));rw[MO,MO,N.U] at this;exact⟨k+1,by omega,by go_num,this⟩
       case measure=>simp[intOf];omega
      ·obtain rfl:k=16:=by omega
       have i:=a.U.a;rw[FM.OQ] at i;have b5:(convert 29 9 (ag (some ⟨g,0,none⟩) 32 32)).run prog wr= .ok (ad (FM.enc n)) wr:=by
        have h:=tz (P:=prog) wr 29 9 5 ⟨g,0,none⟩ 32 ((FM.bE 32 n).map UInt8.ofNat) cP eJ df (λ j E=>by
         rw[cC,FM.iw] at E;rw[gp,dz,i.cell j];have F:j<(FM.bE 32 n).length:=by rw[FM.iw];exact E
         have f:=FM.Hp 32 n _ (eR F);simp only[jo,iS,ef,aU F,A1,ua];congr 3;simp;omega)
        rw[cC,FM.iw] at h;exact h
       have j:=Z a.U.aJ
       go_wp2
       go_ret
       exact⟨rfl,j.U⟩
variable{k:Nat}
def aN.size{v:ab}{n:Nat}(h:aN v n):∃a:Array ab,v=aG a/\a.size=16:=by
 obtain⟨l,rfl,b,-⟩:=h;exact⟨_,rfl,by rw[cF];exact b.len⟩
def HS(n:Nat)(w:aa):(Instr.index 9 (ad (FM.enc n)) (O 0)).run prog w= .ok (.int .u8 ((n%256:Nat):Int)) w:=by
 simp only[run_index_string w 9 (FM.enc n) .i64 0 df];have a:0<(FM.enc n).size:=by rw[FM.gf];decide
 simp[a];show((UInt8.ofNat (n%256)).toNat:Int)=_;simp
def aN.zero:aN (aG (ak (List.replicate 16 0))) 0:=⟨_,rfl,⟨by simp,λ z a=>by simp at a;subst a;decide,λ k c b=>by rw[List.getElem_replicate];decide⟩,by decide⟩
def Rf(d:g<FM.PN)(e:n<FM.PN)(h:FM.enc g=FM.enc n):g=n:=by
 have hd:(FM.bE 32 g).map UInt8.ofNat=(FM.bE 32 n).map UInt8.ofNat:=by
  have a:(FM.enc g).data.toList=(FM.enc n).data.toList:=by rw[h]
  exact a
 have i:∀(k x y:Nat),x<256^k->y<256^k->(FM.bE k x).map UInt8.ofNat=(FM.bE k y).map UInt8.ofNat->x=y:=by
  intro k;induction k with
  |zero=>intro x y hx c _;simp at hx c;omega
  |succ k f=>
   intro x y hx c b;simp only[FM.bE,bZ,List.cons.injEq] at b;rw[ca] at hx c;have j:=f (x/256) (y/256) W W b.2;have a:=congrArg UInt8.toNat b.1;simp at a;omega
 exact i 32 g n (lY d zD) (lY e zD) hd
def Rc(a:g<FM.PN)(b:n<FM.PN):(FM.enc g).toList=(FM.enc n).toList↔g=n:=by
 constructor
 ·intro h;refine Rf a b ?_;have e:(FM.enc g).data.toList=(FM.enc n).data.toList:=by rw[<-kI,<-kI,h]
  exact pZ (ju e)
 ·rintro rfl;rfl
def Ix{v:ab}(g:aN v n)(w:aa):CB 109 #[v] w (aK (decide (n%2=1))):=by
 obtain⟨a,rfl,r⟩:=g.size;have o:(prog.info? 88).map (·.size)=some a.size:=by rw[r];exact dX
 have j:ah (w.alloc (.cells a 88)) w.heap.size 88 a:=ah.new _ _ _;have l:=λ b=>vj g b;have k:=bJ w (.cells a 88);have p:=HS n;have f:bits .and .u8 ((n%256:Nat):Int) 1=((n%2:Nat):Int):=by
  have:=zE (n%256) 1 W W;rw[yF] at this;rw[show((1:Nat):Int)=1 from rfl] at this;rw[this];congr 1;omega
 have i:=Z l;have d:=Z k;obtain⟨m,q⟩:∃m,n%256=m:=⟨_,rfl⟩;obtain⟨b,c⟩:∃b,n%2=b:=⟨_,rfl⟩;rw[q] at p f;rw[c] at f⊢;have s:(((b:Nat):Int)==1)=decide (b=1):=by
  rw[bw,gb,jL];omega
 go_enter func109,ntmps109
 go_wp2_with(refine bD rfl 88 (Operand.tmp 1) rfl w.heap.size rfl 88 a (0,0) _ j aY rfl o ?_)
 refine(i.U _).mono ?_;rintro e t ⟨rfl,c⟩;have h:=Z (d.U.trans (c.mono d.U.size))
 go_wp2
 go_ret
 exact⟨rfl,h.U⟩
def Cw{u v:ab}(l:aN u g)(m:aN v k)(w:aa):CB 250 #[u,v] w (aK (decide (g=k))):=by
 obtain⟨c,rfl,M⟩:=l.size;obtain⟨d,rfl,hd⟩:=m.size;have I:(prog.info? 88).map (·.size)=some c.size:=by rw[M];exact dX
 have J:(prog.info? 88).map (·.size)=some d.size:=by rw[hd];exact dX
 have A:ah ((w.alloc (.cells c 88)).alloc (.cells d 88)) w.heap.size 88 c:=(ah.new _ _ _).alloc _;have B:ah ((w.alloc (.cells c 88)).alloc (.cells d 88)) (w.heap.size+1) 88 d:=fD w _ 88 _;have E:=(bJ w (.cells c 88)).alloc zS (.cells d 88);have F:=λ b=>vj l b;have G:=λ b=>vj m b;have H:((FM.enc g).toList==(FM.enc k).toList)=decide (g=k):=by
  rw[bw,gb,jL];exact Rc l.lt m.lt
 obtain⟨r,L⟩:∃r,decide (g=k)=r:=⟨_,rfl⟩;rw[L] at H⊢;generalize FM.enc g=N at*;generalize FM.enc k=P at*;have x:=Z F;have y:=Z G
 go_enter func250,ntmps250
 go_upto_region 1 with fail
 generalize(w.alloc (.cells c 88)).alloc (.cells d 88)=p at*;have q:=Z A;have s:=Z B;have t:=Z E;refine mN (n:=5) (S:=λ b=>BW p b) V V (gv (bp _ _) 1) (λ a=> ?_);refine W2 0 _ rfl rfl (cu V 88 (Operand.tmp 2) rfl w.heap.size zR 88 _ (0,0) _ (λ b h=>(dR h _ (ah.lt q.U)).trans q.U) aY rfl I) zA ?_;refine W2 2 _ rfl rfl (cu V 88 (Operand.tmp 3) rfl (w.heap.size+1) zR 88 _ (0,0) _ (λ b h=>(dR h _ (ah.lt s.U)).trans s.U) aY rfl J) zA ?_;refine ay.one (i:=1) (o:=?or1) V zD ?S9 ?adC;case S9=>(simp only[sG];exact rfl)
 intro K f
 go_simp
 refine(x.U _).mono ?_;rintro e y1 ⟨rfl,j⟩;have C:BW p y1:=fL a (dy j (ee a))
 go_simp
 refine f.out _ _ C (λ a=> ?_);refine ay.one (i:=3) (o:=?Wp) V zD ?CG ?IS;case CG=>(simp only[sG];exact rfl)
 intro K f
 go_simp
 refine(y.U _).mono ?_;rintro e y3 ⟨rfl,j⟩;have D:BW p y3:=fL a (dy j (ee a))
 go_simp
 refine f.out _ _ D (λ a=> ?_);refine VW [4] zA ?_;refine ay.tail V ?_;have z:=Z (t.U.trans (dy a t.U.size));simp only[ck,bH]
 go_wp2
 go_ret
 exact⟨rfl,z.U⟩
def aN.row{v:ab}(h:aN v n):∃a:Array ab,v=aG a/\a.size=16/\(∀u∈a.toList,u.oneCell'=true):=by
 obtain⟨l,rfl,b,-⟩:=h;exact⟨_,rfl,by rw[cF];exact b.len,mz l⟩
def Sv{u:ab}(d:aN u g)(w:aa):CB 190 #[u] w (aK (decide (g=0))):=by
 obtain⟨a,rfl,m⟩:=d.size;have l:(prog.info? 88).map (·.size)=some a.size:=by rw[m];exact dX
 have i:ah (w.alloc (.cells a 88)) w.heap.size 88 a:=ah.new _ _ _;have k:=bJ w (.cells a 88);have c:=λ e=>Cw d aN.zero e;rw[dK] at c;have h:=Z c;have b:=Z k
 go_enter func190,ntmps190
 go_wp2_with(refine bD rfl 88 (Operand.tmp 1) rfl w.heap.size rfl 88 a (0,0) _ i aY rfl l ?_)
 refine(h.U _).mono ?_;rintro e n ⟨rfl,j⟩;have f:=Z (b.U.trans (j.mono b.U.size))
 go_wp2
 go_ret
 exact⟨rfl,f.U⟩
def ya{u:ab}(l:aN u n)(w:aa):Calls prog 191 #[u] w λ e b=>(∃r,e=ao r/\aN r ((FM.PN-n)%FM.PN))/\BW w b:=by
 obtain⟨a,rfl,C⟩:=l.size;have z:(prog.info? 88).map (·.size)=some a.size:=by rw[C];exact dX
 have t:ah ((w.alloc (.cells a 88)).alloc (.cells (ak (List.replicate 16 0)) 88)) w.heap.size 88 a:=(ah.new _ _ _).alloc _;have x:ah ((w.alloc (.cells a 88)).alloc (.cells (ak (List.replicate 16 0)) 88)) (w.heap.size+1) 88 (ak (List.replicate 16 0)):=fD w _ 88 _;have y:=(bJ w (.cells a 88)).alloc zS (.cells (ak (List.replicate 16 0)) 88);have c:=λ b=>sM aN.zero l b;rw[dz] at c;obtain⟨m,A⟩:∃m,(FM.PN-n)%FM.PN=m:=⟨_,rfl⟩;rw[A] at c⊢;rw[dK] at c;have q:=Z c
 go_enter func191,ntmps191
 go_upto_region 1 with fail
 rw[<-dK];generalize(w.alloc (.cells a 88)).alloc (.cells (ak (List.replicate 16 0)) 88)=F at*;have d:=Z x;have f:=Z y
 go_wp2_with(refine bD rfl 88 (Operand.tmp 1) rfl w.heap.size rfl 88 a (0,0) _ t aY rfl z ?_)
 refine(q.U _).mono ?_;rintro e D ⟨⟨r,rfl,k⟩,i⟩;have s:=Z k;obtain⟨b,rfl,j,B⟩:=k.row;have hd:(prog.info? 88).map (·.size)=some b.size:=by rw[j];exact dX
 have h:ah D (w.heap.size+1) 88 (ak (List.replicate 16 0)):=(i.block _ (ah.lt d.U)).trans d.U;have E:=dI (P:=prog) h b (by rw[j,cF,ez]) B;have o:=Z (h.setRow b);have p:=Z (bL (f.U.trans (i.mono f.U.size)) W b (g:=w.heap.size+1))
 go_wp2
 exact cr (v:= .agg b) (fI results191 _ _ (w.heap.size+1) 88 b (0,0) _ rfl o.U aY rfl hd) rfl ⟨⟨_,rfl,s.U⟩,p.U⟩
def jR(n k:Nat):List Int:=if k=0 then List.replicate 16 0 else(n:Int)::List.replicate 15 0
def Dp(n k:Nat):(jR n k).length=16:=by unfold jR;split<;>simp
def Wa(n k:Nat)(a:k<4):(jR n k).set k (if k=0 then(n:Int) else 0)=jR n (k+1):=by
 rcases k with _|_|_|_|k;all_goals first|omega|rfl
def yb(n:Nat)(s:n<65536)(w:aa):Calls prog 185 #[U (n:Int)] w λ e a=>(∃r,e=ao r/\aN r n)/\BW w a:=by
 have o:aN (aG (ak (jR n 4))) n:=by
  refine⟨_,rfl,FM.JV (Dp n 4) (λ d hd=> ?_),?_⟩
  ·rcases bO.1 hd with rfl|hd
   ·omega
   ·simp at hd;subst hd;decide
  ·rw[FM.sJ (n:=n) (by show(n:Int)+65536*FM.val (List.replicate 15 0)=n;rw[show FM.val (List.replicate 15 0)=0 by decide];omega)];exact bY (lY s zD)
 have d1:(n:Int)/65536=0:=by omega
 have d2:(n:Int)/4294967296=0:=by omega
 have d3:(n:Int)/281474976710656=0:=by omega
 have A:bits .and .u64 (n:Int) 65535=(n:Int):=by
  have:=u64_and_nat n 65535 W W;rw[show n&&&65535=n by rw[show 65535=2^16-1 by decide,F3];omega] at this;exact this
 have B:bits .and .u64 0 65535=0:=by decide
 have F:IntKind.i64.wrap (n:Int)=(n:Int):=aO _ W;have j:=Z o
 go_enter func185,ntmps185
 go_upto_region 2 with fail
 rw[<-dK];have p:OW w ((w.alloc (.cells (ak (List.replicate 16 0)) 88)).alloc (.cells (ak (List.replicate 16 0)) 88)) (w.heap.size+1) 88 (ak (List.replicate 16 0)):=⟨(bJ w _).alloc zS _,fD w _ 88 _,by omega⟩;have q:ah ((w.alloc (.cells (ak (List.replicate 16 0)) 88)).alloc (.cells (ak (List.replicate 16 0)) 88)) w.heap.size 88 (ak (List.replicate 16 0)):=(ah.new _ _ _).alloc _;generalize(w.alloc (.cells (ak (List.replicate 16 0)) 88)).alloc (.cells (ak (List.replicate 16 0)) 88)=G at*;have d:=Z (And.intro p q)
 go_wp2
 go_loopw [5] (λ i wr=>∃k:Nat,k<=4/\i=O k/\OW w wr (w.heap.size+1) 88 (ak (jR n k))/\ah wr w.heap.size 88 (ak (List.replicate 16 0))) (λ i _=>4-(intOf i).toNat)
 case atStart=>exact⟨0,by omega,rfl,d.U.1,d.U.2⟩
 case round=>
  obtain⟨k,D,rfl,x,t⟩:=hrel;have a:=Z (And.intro x t);by_cases r:k<4
  ·obtain⟨z0,y⟩:∃z,(jR n k)[k]?=some z:=⟨_,aU (by rw[Dp];omega)⟩;have C:=(a.U.1.a.cell k).trans (dp y);have f0:=a.U.1.a.frozen k;have u:=Wa n k r;have c:=Z u;have l:k=0\/k=1\/k=2\/k=3:=by omega
   rcases l with rfl|rfl|rfl|rfl
   ·go_wp2
    go_roundw
    case rel=>
     have:=a.U.1.set 0 (O (n:Int));rw[ph] at this;have b:=c.U
     (rw[au rfl] at b)
     rw[b] at this;exact⟨1,by omega,rfl,this,a.U.2.cE zS _⟩
    case measure=>simp[intOf]
   ·go_wp2
    go_roundw
    case rel=>
     have:=a.U.1.set 1 (O 0);rw[ph] at this;have b:=c.U
     (rw[ar zD] at b)
     rw[b] at this;exact⟨2,by omega,rfl,this,a.U.2.cE zS _⟩
    case measure=>simp[intOf]
   ·go_wp2
    go_roundw
    case rel=>
     have:=a.U.1.set 2 (O 0);rw[ph] at this;have b:=c.U
     (rw[ar zD] at b)
     rw[b] at this;exact⟨3,by omega,rfl,this,a.U.2.cE zS _⟩
    case measure=>simp[intOf]
   ·go_wp2
    go_roundw
    case rel=>
     have:=a.U.1.set 3 (O 0);rw[ph] at this;have b:=c.U
     (rw[ar zD] at b)
     rw[b] at this;exact⟨4,by omega,rfl,this,a.U.2.cE zS _⟩
    case measure=>simp[intOf]
  ·obtain rfl:k=4:=by omega
   have m:=a.U.1.a;have f:(ak (jR n 4)).size=16:=by rw[cF,Dp]
   have e:(prog.info? 88).map (·.size)=some (ak (jR n 4)).size:=by rw[f];exact dX
   have E:=dI (P:=prog) a.U.2 (ak (jR n 4)) (by rw[f,cF,ez]) (mz _);have h:=Z (a.U.2.setRow (ak (jR n 4)));have i:=Z (bL a.U.1.aJ (aQ _) (ak (jR n 4)) (g:=w.heap.size));generalize ak (jR n 4)=b at*
   go_wp2_with(refine bD rfl 88 (Operand.tmp 3) rfl (w.heap.size+1) rfl 88 b (0,0) _ m aY rfl e ?_)
   exact cr (v:= .agg b) (fI results185 _ _ w.heap.size 88 b (0,0) _ rfl h.U aY rfl e) rfl ⟨⟨_,rfl,j.U⟩,i.U⟩
def G5{w a:aa}(h:a.heap[g]?=w.heap[g]?):a.cell? ⟨g,n,none⟩=w.cell? ⟨g,n,none⟩:=by simp[World.cell?,h]
def IX(a b:Nat)(c:a<65536)(d:b<65536):bits .or .i64 (a:Int) (b:Int)=((a|||b:Nat):Int):=by
 have hx:a|||b<2^16:=F7 W W;have e:∀x:Nat,x<65536->(BitVec.ofInt 64 (x:Int)).toNat=x:=λ x h=>by
  rw[BitVec.ofInt_natCast,BitVec.toNat_ofNat];exact bY W
 show IntKind.i64.wrap ((BitVec.ofInt 64 (a:Int)|||BitVec.ofInt 64 (b:Int)).toNat:Int)=_;rw[BitVec.toNat_or,e a c,e b d,hh];omega
def run_min_int2{P:Program}(w:aa)(b:Array TypeId)(t:TypeId)(k1 k2:IntKind)(x y:Int)(n:Int)(a:min x y=n):(Builtin.min_ b t #[.int k1 x,.int k2 y]).run P w= .ok (.int k1 n) w:=by
 subst a;simp[Builtin.min_,Builtin.min2];have e:∀p q:Int,(if q<p then q else p)=min p q:=λ p q=>by rw[Int.min_def];split<;>split<;>omega
 simp only[e]
def Hf(s:af)(c:Nat)(x:Int)(hx:x=(c:Int)):∃m:Nat,m=min s.size c/\(0:Int)<=(m:Int)/\(m:Int)<=(s.size:Int)/\m<=s.size/\m<=c/\∀a,(Builtin.min_ #[3,3] 3 #[O (s.size:Int),O x]).run prog a= .ok (O m) a:=by
 subst hx;exact⟨min s.size c,rfl,by omega,by omega,by omega,by omega,λ a=>run_min_int2 a _ _ _ _ _ _ _ W⟩
def uL(s:af)(i j:Nat):(s.extract i j).data.toList=(s.data.toList.drop i).take (j-i):=by
 simp[Aq]
def xB(s:af)(k:Nat)(h:k<s.size):s.data.toList[k]?=some s[k]:=by
 rw[aU (by simpa using h)];rfl
def Cr(s:af)(w:aa):Calls prog 187 #[ad s] w λ e b=>(∃r,e=ao r/\aN r (FM.iv s))/\BW w b:=by
 obtain⟨m,a,b4,y,H,b5,c0⟩:=Hf s 32 32 rfl;obtain⟨t,E⟩:∃t,s.extract 0 m=t:=⟨_,rfl⟩;have Q:t.size=m:=by rw[<-E,ib];omega
 have b:t.data.toList=s.data.toList.take 32:=by
  rw[<-E,uL,kd,AX,a];have:s.data.toList.length=s.size:=by simp
  rcases Nat.le_total s.size 32 with h|h
  ·rw[hz h,bK W,bK W]
  ·rw[AR h]
 have a0:=Z b;have F:=Z Q;clear a b
 go_enter func187,ntmps187
 go_upto_region 2 with fail
 rw[<-dK];have z:ah ((w.alloc (.cells (ak (List.replicate 16 0)) 88)).alloc (.cells (ak (List.replicate 16 0)) 88)) (w.heap.size+1) 88 (ak (List.replicate 16 0)):=fD w _ 88 _;have n:ah ((w.alloc (.cells (ak (List.replicate 16 0)) 88)).alloc (.cells (ak (List.replicate 16 0)) 88)) w.heap.size 88 (ak (List.replicate 16 0)):=(ah.new _ _ _).alloc _;have I:BW w ((w.alloc (.cells (ak (List.replicate 16 0)) 88)).alloc (.cells (ak (List.replicate 16 0)) 88)):=(bJ w _).alloc zS _;generalize(w.alloc (.cells (ak (List.replicate 16 0)) 88)).alloc (.cells (ak (List.replicate 16 0)) 88)=S at*;obtain⟨a1,o,M,A,N,J,K⟩:=uS (P:=prog) S 9 29 5 t df cP eJ;obtain⟨g,L⟩:∃g,S.heap.size=g:=⟨_,rfl⟩;have a4:ah o (w.heap.size+1) 88 (ak (List.replicate 16 0)):=(A.block _ z.lt).trans z;have a5:ah o w.heap.size 88 (ak (List.replicate 16 0)):=(A.block _ n.lt).trans n;have a3:=I.trans (A.mono I.size);have a9:w.heap.size+1<g:=by rw[<-L];exact z.lt
 rw[L] at M K N;rw[Q] at M J;have p:∀(i:Nat) (c:UInt8),t.data.toList[i]?=some c->o.cell? ⟨g,i,none⟩=some (.int .u8 (c.toNat:Int)):=λ i c a=>by
  have q:i<t.size:=by have:=(cw.1 a).1;simpa using this
  rw[xB t i q] at a;obtain rfl:=hD a;exact K i q
 have b6:s.extract 0 m=t:=E;have r:=Z (And.intro a4 (And.intro a5 (And.intro a3 (And.intro a9 N))));have X:=Z p;have b9:m<=a1:=J
 go_wp2
 go_loopw [13] (λ i wr=>∃(k:Nat) (l:List Int),k<=m/\i=O k/\CW o wr (w.heap.size+1) l/\FM.ic t.data.toList l k) (λ i _=>m-(intOf i).toNat)
 case atStart=>exact⟨0,_,by omega,rfl,⟨aW.refl _ _ _,r.U.1⟩,FM.ic.start _⟩
 case round=>
  obtain⟨k,l,b8,rfl,b1,a7⟩:=hrel;have d:=Z b1;have e:=Z a7;by_cases q:k<m
  ·obtain⟨c,B⟩:∃c,t.data.toList[k]?=some c:=⟨_,xB t k (by rw[F.U];exact q)⟩;have p:=c.toNat_lt;have G:wr.cell? ⟨g,k,none⟩=some (.int .u8 (c.toNat:Int)):=by
    obtain⟨-,-,-,R,q2⟩:=r.U;have a:=d.U.only.block g W (by simp;omega);exact(G5 a).trans (X.U k c B)
   obtain⟨j,b7⟩:∃j,k/2=j:=⟨_,rfl⟩;have D:j<16:=by omega
   obtain⟨x,hx⟩:∃x,l[j]?=some x:=⟨_,aU (by rw[e.U.len];exact D)⟩;have b3:=(d.U.a.cell j).trans (dp hx);have f0:=d.U.a.frozen j;have e1:(k:Int).tdiv 2=(j:Int):=by rw[ov W];omega
   have c5:IntKind.i64.wrap (j:Int)=(j:Int):=aO _ W;have c6:IntKind.i64.wrap 8=8:=by decide
   have c7:IntKind.i64.wrap 0=0:=by decide
   have c1:(0:Int)<=(j:Int):=by omega
   have c2:(j:Int)<16:=by omega
   have c3:(0:Int)<=(k:Int):=by omega
   have c4:(k:Int)<(m:Int):=by omega
   rcases rY k with b0|b0
   ·have b:=e.U.even (j:=j) W D B;have T:x=0:=by
     obtain⟨y,rfl⟩:=cw.1 hx;exact e.U.rest j y W
    subst T;have e2:(k:Int).tmod 2=0:=by rw[fz W];omega
    have u:bits .or .i64 0 (c.toNat:Int)=(c.toNat:Int):=by
     have:=IX 0 c.toNat W W;rw[Nat.zero_or] at this;exact this
    obtain⟨a,C⟩:∃a,c.toNat=a:=⟨_,rfl⟩;rw[C] at G u b p;have a6:IntKind.i64.wrap (a:Int)=(a:Int):=aO _ W;have i:=Z b
    go_wp2
    go_still_tail 14,V
    show wpList _ _ _ _ _ wr.drew
    go_wp2
    go_roundw
    case rel=>exact⟨k+1,_,by omega,by go_num,(d.U.set j (a:Int)).drew,i.U⟩
    case measure=>simp[intOf];omega
   ·have b:=e.U.bX (j:=j) W D B hx;have e2:(k:Int).tmod 2=1:=by rw[fz W];omega
    obtain⟨f,a2⟩:∃f:Nat,x=(f:Int):=⟨x.toNat,by have:=b.2;omega⟩;subst a2;have u:bits .or .i64 (f:Int) ((c.toNat:Int)*256)=((f:Nat):Int)+(c.toNat:Int)*256:=by
     have h:=IX f (c.toNat*256) (by have:=b.2;omega) W;rw[uk,pt 8 _ _ W (by have:=b.2;omega)] at h;rw[show((c.toNat*256:Nat):Int)=(c.toNat:Int)*256 by simp] at h;rw[h];omega
    obtain⟨a,C⟩:∃a,c.toNat=a:=⟨_,rfl⟩;rw[C] at G u b p;have a6:IntKind.i64.wrap (a:Int)=(a:Int):=aO _ W;have h:IntKind.i64.wrap ((a:Int)*256)=(a:Int)*256:=aO _ W;have i:=Z b.1
    go_wp2
    go_still_tail 14,V
    show wpList _ _ _ _ _ wr.drew
    go_wp2
    go_roundw
    case rel=>exact⟨k+1,_,by omega,by go_num,(d.U.set j ((f:Int)+(a:Int)*256)).drew,i.U⟩
    case measure=>simp[intOf];omega
  ·obtain rfl:k=m:=by omega
   have a2:=d.U.a;have f:=FM.JV e.U.len e.U.e;have i:(ak l).size=16:=by rw[cF];exact f.len
   have h:(prog.info? 88).map (·.size)=some (ak l).size:=by rw[i];exact dX
   have a8:=FM.sJ e.U.eq;have hcut:FM.aH (t.data.toList.take k)%FM.PN=FM.iv s:=by
    unfold FM.iv;rw[bK (by have:=F.U;simp;omega),a0.U]
   have C:ai (aN (aG (ak l)) (FM.iv s)):=Z ⟨l,rfl,f,by rw[a8,hcut]⟩;obtain⟨-,b2,R,q2,q3⟩:=r.U;have n:ah wr w.heap.size 88 (ak (List.replicate 16 0)):=b2.only d.U.only W zS;have a6:BW w wr:=R.trans ((d.U.only.mono (show w.heap.size<=o.heap.size by omega) (λ k y H=>H)).below zS);have b:=dI (P:=prog) n (ak l) (by rw[i,cF,ez]) (mz _);have u:=Z (n.setRow (ak l));have T:=Z (bL a6 (aQ _) (ak l) (g:=w.heap.size));generalize ak l=a at*
   go_wp2_with(refine bD rfl 88 (Operand.tmp 3) rfl (w.heap.size+1) rfl 88 a (0,0) _ a2 aY rfl h ?_)
   exact cr (v:= .agg a) (fI results187 _ _ w.heap.size 88 a (0,0) _ rfl u.U aY rfl h) rfl ⟨⟨_,rfl,C.U⟩,T.U⟩
def Q9(a b:af):(a.toList==b.toList)=decide (a=b):=by
 rw[bw,gb,jL];constructor
 ·intro h;exact pZ (ju (by rw[<-kI,<-kI,h]))
 ·rintro rfl;rfl
def Si(s:af)(w:aa):Calls prog 184 #[ad s] w λ e a=>(∃r,e=ao (aM #[r,O (FM.dq s)])/\aN r (FM.dE s))/\BW w a:=by
 have x:=bJ w (.cells (ak (List.replicate 16 0)) 88);have t:ah (w.alloc (.cells (ak (List.replicate 16 0)) 88)) w.heap.size 88 (ak (List.replicate 16 0)):=ah.new _ _ _;have k:(prog.info? 88).map (·.size)=some (ak (List.replicate 16 0)).size:=by rw[cF,ez];exact dX
 rcases lX s.size 32 with h|h
 ·have e1:FM.dq s=2:=by unfold FM.dq;rw[au h]
  have e2:FM.dE s=0:=by unfold FM.dE;rw[e1];rfl
  rw[e1,e2];have f:(s.size:Int)<32:=by omega
  have b:=Z (And.intro t (And.intro x k))
  go_enter func184,ntmps184
  go_wp2
  rw[<-dK];exact cr (v:= .tuple #[.agg (ak (List.replicate 16 0)),O 2]) (hR Bn _ _ w.heap.size 88 (ak (List.replicate 16 0)) (0,0) _ rfl b.U.1 aY rfl b.U.2.2) rfl ⟨⟨_,rfl,aN.zero⟩,b.U.2.1⟩
 focus
  rcases lX 32 s.size with d|d
  ·have e1:FM.dq s=4:=by unfold FM.dq;rw[ar W,au d]
   have e2:FM.dE s=0:=by unfold FM.dE;rw[e1];rfl
   rw[e1,e2];have f:((s.size:Int)<32)=False:=eq_false W;have l:(32:Int)<(s.size:Int):=by omega
   have b:=Z (And.intro t (And.intro x k))
   go_enter func184,ntmps184
   go_wp2
   rw[<-dK];exact cr (v:= .tuple #[.agg (ak (List.replicate 16 0)),O 4]) (hR Bn _ _ w.heap.size 88 (ak (List.replicate 16 0)) (0,0) _ rfl b.U.1 aY rfl b.U.2.2) rfl ⟨⟨_,rfl,aN.zero⟩,b.U.2.1⟩
  focus
   have y:=λ a=>Cr s a;have i:FM.iv s=FM.aH s.data.toList%FM.PN:=by
    unfold FM.iv;rw[bK (by simp;omega)]
   rw[i] at y;obtain⟨n,c⟩:∃n,FM.aH s.data.toList%FM.PN=n:=⟨_,rfl⟩;rw[c] at y;have f:((s.size:Int)<32)=False:=eq_false W;have l:((32:Int)<(s.size:Int))=False:=eq_false W;have j:=Q9 (FM.enc n) s;by_cases a:FM.enc n=s;focus
    have e1:FM.dq s=0:=by unfold FM.dq;rw[ar W,ar W,c,au a]
    have e2:FM.dE s=n:=by unfold FM.dE;rw[e1,au rfl,c]
    rw[e1,e2];rw[aT a] at j;have H:((FM.enc n).toList !=s.toList)=false:=by rw[bne,j];rfl
   rotate_left;focus
    have e1:FM.dq s=3:=by unfold FM.dq;rw[ar W,ar W,c,ar a]
    have e2:FM.dE s=0:=by unfold FM.dE;rw[e1];rfl
    rw[e1,e2];rw[bm a] at j;have H:((FM.enc n).toList !=s.toList)=true:=by rw[bne,j];rfl
   rotate_left
  rotate_left 2
 rotate_left 2;all_goals
  obtain⟨L,J⟩:∃L,FM.enc n=L:=⟨_,rfl⟩;have N:=Z J;rw[J] at j H;have S:=Z y;have b:=Z t;have B:=Z x
  go_enter func184,ntmps184
  go_upto_region 1 with fail
  rw[<-dK];generalize w.alloc (.cells (ak (List.replicate 16 0)) 88)=a3 at*
  go_wp2_with fail
  refine(S.U _).mono ?_;rintro e d ⟨⟨r,rfl,A⟩,c⟩;have a0:=vj A;have X:=Z A;obtain⟨a,rfl,z,I⟩:=A.row;have hd:(prog.info? 88).map (·.size)=some a.size:=by rw[z];exact dX
  have K:=wg (P:=prog) d (ak (List.replicate 16 0)) 88 a.toList (by rw[iO,z,cF,ez]) I;rw[mU,dK] at K;have o:ah (d.alloc (.cells a 88)) d.heap.size 88 a:=ah.new _ _ _;have G:=c.alloc c.size (.cells a 88);have Q:=Z ((G.block _ (ah.lt b.U)).trans b.U);have q:ai (ah (d.alloc (.cells a 88)) w.heap.size 88 (ak (List.replicate 16 0))):=Q;have f:=Z (B.U.trans (G.mono B.U.size));have C:=Z a0;have T:=Z I
  go_wp2_with(refine bD rfl 88 (Operand.tmp 4) rfl d.heap.size rfl 88 a (0,0) _ o aY rfl hd ?_)
  rw[N.U] at C;refine(C.U _).mono ?_;rintro e M ⟨rfl,c⟩;first
   |have hA3:ah M d.heap.size 88 a:=(c.block _ o.lt).trans o
   |skip
  have i:ah M w.heap.size 88 (ak (List.replicate 16 0)):=(c.block _ (ah.lt q.U)).trans q.U
 ·have a2:=dI (P:=prog) i a (by rw[z,cF,ez]) T.U;have l:=Z (i.setRow a);have m:=Z (bL (f.U.trans (c.mono f.U.size)) (aQ _) a (g:=w.heap.size))
  go_wp2_with(refine bD rfl 88 (Operand.tmp 4) rfl d.heap.size rfl 88 a (0,0) _ hA3 aY rfl hd ?_)
  exact cr (v:= .tuple #[.agg a,O 0]) (hR Bn _ _ w.heap.size 88 a (0,0) _ rfl l.U aY rfl hd) rfl ⟨⟨_,rfl,X.U⟩,m.U⟩
 ·have l:=Z (i.setRow (ak (List.replicate 16 0)));have m:=Z (bL (f.U.trans (c.mono f.U.size)) (aQ _) (ak (List.replicate 16 0)) (g:=w.heap.size));have D:ai (aN (aG (ak (List.replicate 16 0))) 0):=Z aN.zero;have F:(ak (List.replicate 16 0)).all (·.oneCell')=true:=by kernel_rfl
  have a1:(ak (List.replicate 16 0)).size=16:=by rw[cF,ez]
  obtain⟨p,E⟩:∃p,ak (List.replicate 16 0)=p:=⟨_,rfl⟩;have u:=dK;rw[E] at l m D F i k a1 u;have R:=Z u;clear c o q f K E u
  go_wp2_with(rw[<-R.U];refine cm rfl 88 (Operand.tmp 2) (Operand.tmp 21) rfl w.heap.size p zR zR 88 _ i k rfl F ?_)
  exact cr (v:= .tuple #[.agg p,O 3]) (hR Bn _ _ w.heap.size 88 _ (0,0) _ rfl l.U aY rfl k) rfl ⟨⟨_,rfl,D.U⟩,m.U⟩
def ZB(i:Nat)(f:i<300)(w:aa):Calls prog 193 #[O (i:Int)] w λ e b=>e=ao (aK (decide (i=2)||decide (i=4)))/\w=b:=by
 have a:((i:Int)==2)=decide (i=2):=by rw[bw,gb,jL];omega
 have b:((i:Int)==4)=decide (i=4):=by rw[bw,gb,jL];omega
 cases c:decide (i=2)<;>cases d:decide (i=4)
 all_goals
  rw[c] at a;rw[d] at b
  go_enter func193,ntmps193
  go_wp2
  go_ret
  exact⟨rfl,rfl⟩
def ZC(i:Nat)(c:i<300)(w:aa):Calls prog 249 #[O (i:Int)] w λ e b=>e=ao (aK (decide (i=1)))/\w=b:=by
 have a:((i:Int)==1)=decide (i=1):=by rw[bw,gb,jL];omega
 cases b:decide (i=1)
 all_goals
  rw[b] at a
  go_enter func249,ntmps249
  go_wp2
  go_ret
  exact⟨rfl,rfl⟩
def ZD(i:Nat)(c:i<300)(w:aa):Calls prog 251 #[O (i:Int)] w λ e b=>e=ao (aK (decide (i=2)))/\w=b:=by
 have a:((i:Int)==2)=decide (i=2):=by rw[bw,gb,jL];omega
 cases b:decide (i=2)
 all_goals
  rw[b] at a
  go_enter func251,ntmps251
  go_wp2
  go_ret
  exact⟨rfl,rfl⟩
structure PW(w wr:aa)(pc xa ds:Array ab):Prop where
 aJ:BW w wr
 p:ah wr w.heap.size 262 pc
 a:ah wr (w.heap.size+1) 88 xa
 r:ah wr (w.heap.size+1+1) 88 (ak (List.replicate 16 0))
 c:ah wr (w.heap.size+1+1+1) 88 ds
def PW.below{w wr d:aa}{c e b:Array ab}(h:PW w wr c e b)(a:BW wr d):PW w d c e b:=
 ⟨h.aJ.trans (a.mono h.aJ.size),(a.block _ h.p.lt).trans h.p,(a.block _ h.a.lt).trans h.a,(a.block _ h.r.lt).trans h.r,(a.block _ h.c.lt).trans h.c⟩
def PW.row{w wr:aa}{b c d:Array ab}(h:PW w wr b c d)(a:Array ab):PW w (wr.setRow (w.heap.size+1+1+1) a) b c a:=
 ⟨bL h.aJ W a,h.p.cH a W,h.a.cH a W,h.r.cH a W,h.c.setRow a⟩
def Py{a:Array ab}(h:∀u∈a.toList,u.oneCell'=true):a.all (·.oneCell')=true:=by
 rw[Array.all_eq_true];intro i b;exact h _ (by rw[Array.mem_toList_iff];exact Array.getElem_mem b)
def aN.cells{a:Array ab}(h:aN (aG a) n):a.size=16/\∀u∈a.toList,u.oneCell'=true:=by
 obtain⟨e,b,c,d⟩:=h.row;injection b with b;subst b;exact⟨c,d⟩
def Cu(f:FuncId)(skip:Nat->Bool)(b1:∀i:Nat,i<300->∀w,Calls prog f #[O (i:Int)] w λ e b=>e=ao (aK (skip i))/\w=b)(b8:∀d w,(callFunc f d).run prog w= .ok (.enter f d) w)(a:Nat)(c1:a<300){u:ab}(R:aN u n)(w:aa):
 Calls prog 194 #[aG #[O (a:Int),.func (.func f) #[] #[]],u] w λ e b=>(∃r,e=ao r/\aN r (FM.eW skip n a n))/\BW w b:=by
 obtain⟨b,rfl,L,t⟩:=R.row
 have H:=Z R
 have K:(prog.info? 88).map (·.size)=some b.size:=by rw[L];exact dX
 have s:ah (((w.alloc (.cells #[O (a:Int),.func (.func f) #[] #[]] 262)).alloc (.cells b 88)).alloc (.cells (ak (List.replicate 16 0)) 88)) (w.heap.size+1) 88 b:=(fD w _ 88 _).alloc _
 have a6:ah (((w.alloc (.cells #[O (a:Int),.func (.func f) #[] #[]] 262)).alloc (.cells b 88)).alloc (.cells (ak (List.replicate 16 0)) 88)) w.heap.size 262 #[O (a:Int),.func (.func f) #[] #[]]:=((ah.new _ _ _).alloc _).alloc _
 have a7:ah (((w.alloc (.cells #[O (a:Int),.func (.func f) #[] #[]] 262)).alloc (.cells b 88)).alloc (.cells (ak (List.replicate 16 0)) 88)) (w.heap.size+1+1) 88 (ak (List.replicate 16 0)):=by
  have h:=fD (w.alloc (.cells #[O (a:Int),.func (.func f) #[] #[]] 262)) (.cells b 88) 88 (ak (List.replicate 16 0))
  rw[xx] at h
  exact h
 have a8:=((bJ w (.cells #[O (a:Int),.func (.func f) #[] #[]] 262)).alloc zS (.cells b 88)).alloc (by simp;omega) (.cells (ak (List.replicate 16 0)) 88)
 have Q:(((w.alloc (.cells #[O (a:Int),.func (.func f) #[] #[]] 262)).alloc (.cells b 88)).alloc (.cells (ak (List.replicate 16 0)) 88)).heap.size=w.heap.size+1+1+1:=by simp
 have a2:=Z b1
 go_enter func194,ntmps194
 go_upto_region 1 with fail
 rw[<-dK]
 generalize((w.alloc (.cells #[O (a:Int),.func (.func f) #[] #[]] 262)).alloc (.cells b 88)).alloc (.cells (ak (List.replicate 16 0)) 88)=x at*
 have b4:=wg (P:=prog) x (ak (List.replicate 16 0)) 88 b.toList (by rw[iO,L,cF,ez]) t
 rw[mU,dK,Q] at b4
 have l:ah (x.alloc (.cells b 88)) (w.heap.size+1+1+1) 88 b:=by rw[<-Q];exact ah.new _ _ _
 have h:=Z (show PW w (x.alloc (.cells b 88)) #[O (a:Int),.func (.func f) #[] #[]] b b from⟨a8.alloc W _,a6.alloc _,s.alloc _,a7.alloc _,l⟩)
 go_upto_region 2 with(refine bD rfl 88 (Operand.tmp 3) rfl (w.heap.size+1) rfl 88 b (0,0) _ s aY rfl K ?_)
 generalize x.alloc (.cells b 88)=b6 at*
 have b7:b6.cell? ⟨w.heap.size,0,none⟩=some (O (a:Int)):=h.U.p.cell 0
 have c3:IntKind.i64.wrap ((a:Int)-1)=(a:Int)-1:=aO _ W
 go_wp2
 go_loopw [6] (λ i wr=>∃(j c:Nat) (d:Array ab),j<=a/\i=O ((j:Int)-1)/\PW w wr #[O (a:Int),.func (.func f) #[] #[]] b d/\aN (aG d) c/\FM.eW skip n j c=FM.eW skip n a n) (λ i _=>(intOf i+1).toNat)
 case atStart=>exact⟨a,n,b,aQ _,rfl,h.U,H.U,rfl⟩
 case round=>
  obtain⟨j,c,d,c0,rfl,b5,a9,b3⟩:=hrel
  have h:=Z b5;have m:=Z a9;have A:=Z b3
  by_cases a5:j=0
  ·subst a5
   have S:((0:Nat):Int)-1= -1:=by omega
   obtain⟨p,t⟩:=m.U.cells
   have hd:(prog.info? 88).map (·.size)=some d.size:=by rw[p];exact dX
   have l:=h.U.c
   have N:=dI (P:=prog) h.U.r d (by rw[p,cF,ez]) t
   have X:=Z (h.U.r.setRow d)
   have a1:=Z (bL h.U.aJ W d (g:=w.heap.size+1+1))
   have a0:ai (aN (aG d) (FM.eW skip n a n)):=Z (by rw[<-A.U];exact m.U)
   go_wp2_with(refine bD rfl 88 (Operand.tmp 5) rfl (w.heap.size+1+1+1) rfl 88 d (0,0) _ l aY rfl hd ?_)
   exact cr (v:= .agg d) (fI results194 _ _ (w.heap.size+1+1) 88 d (0,0) _ rfl X.U aY rfl hd) rfl ⟨⟨_,rfl,a0.U⟩,a1.U⟩
  ·obtain⟨i,rfl⟩:∃i,j=i+1:=⟨j-1,by omega⟩
   have S:((i+1:Nat):Int)-1=(i:Int):=by omega
   rw[S]
   have c2:(0:Int)<=(i:Int):=by omega
   have c4:IntKind.i64.wrap ((i:Int)-1)=(i:Int)-1:=aO _ W
   obtain⟨p,t⟩:=m.U.cells
   have hd:(prog.info? 88).map (·.size)=some d.size:=by rw[p];exact dX
   have l:=h.U.c
   have D:=λ B=>eV m.U m.U B
   have z:=Z D
   go_wp2_with((refine bD rfl 88 (Operand.tmp 5) rfl (w.heap.size+1+1+1) rfl 88 d (0,0) _ l aY rfl hd ?_))
   refine(z.U _).mono ?_
   rintro e T ⟨⟨r,rfl,q⟩,C⟩
   obtain⟨k,rfl,E,F⟩:=q.row
   have b0:(prog.info? 88).map (·.size)=some k.size:=by rw[E];exact dX
   have I:=Z (h.U.below C)
   have N:=dI (P:=prog) I.U.c k (by rw[E,p]) F
   have o:=Z (I.U.row k)
   have G:=Z q
   have b9:(T.setRow (w.heap.size+1+1+1) k).cell? ⟨w.heap.size,1,none⟩=some (.func (.func f) #[] #[]):=o.U.p.cell 1
   go_wp2_with fail
   refine(a2.U i W _).mono ?_
   rintro e _ ⟨rfl,rfl⟩
   generalize T.setRow (w.heap.size+1+1+1) k=c5 at*
   cases M:skip i with
   |true=>
    have y:ai (FM.eW skip n i (c*c%FM.PN)=FM.eW skip n a n):=Z (by rw[<-A.U,FM.vP,au M])
    go_wp2
    go_roundw
    case rel=>exact⟨i,_,k,by omega,rfl,o.U,G.U,y.U⟩
    case measure=>simp[intOf]<;>omega
   |false=>
    have y:ai (FM.eW skip n i (c*c%FM.PN*n%FM.PN)=FM.eW skip n a n):=Z (by rw[<-A.U,FM.vP,ar (by rw[M];decide)])
    have l:=o.U.c
    have s:=o.U.a
    have D:=λ B=>eV G.U H.U B
    have z:=Z D
    go_wp2_with(first|refine bD rfl 88 (Operand.tmp 5) rfl (w.heap.size+1+1+1) rfl 88 k (0,0) _ l aY rfl b0 ?_|refine bD rfl 88 (Operand.tmp 3) rfl (w.heap.size+1) rfl 88 b (0,0) _ s aY rfl K ?_)
    refine(z.U _).mono ?_
    rintro e c6 ⟨⟨r,rfl,q⟩,C⟩
    obtain⟨B,rfl,b2,F⟩:=q.row
    have J:=Z (o.U.below C)
    have N:=dI (P:=prog) J.U.c B (by rw[b2,E]) F
    have a4:=Z (J.U.row B)
    have a3:=Z q
    go_wp2
    go_roundw
    case rel=>exact⟨i,_,B,by omega,rfl,a4.U,a3.U,y.U⟩
    case measure=>simp[intOf]<;>omega
def ln{f:FuncId}{a:Func}(g:prog.funcs[f]?=some a)(i:(a.name== "runtime.NumGoroutine")=false)(c:a.body.isNone=false)(b:Array ab)(w:aa):(callFunc f b).run prog w= .ok (.enter f b) w:=by
 have d:a.name≠ "runtime.NumGoroutine":=by simpa using i
 have e:¬a.body=none:=by intro h;rw[h] at c;cases c
 simp[callFunc,go_sem,g,d,e]
def Ip{u:ab}(m:aN u n)(w:aa):Calls prog 106 #[u] w λ e a=>(∃r,e=ao r/\aN r (FM.cZ n))/\BW w a:=by
 have j:=λ b=>Cu 193 _ ZB (en 193) 254 zD m b;obtain⟨a,rfl,C⟩:=m.size;have A:(prog.info? 88).map (·.size)=some a.size:=by rw[C];exact dX
 have x:ah ((w.alloc (.cells a 88)).alloc (.cells (ak (List.replicate 16 0)) 88)) w.heap.size 88 a:=(ah.new _ _ _).alloc _;have y:ah ((w.alloc (.cells a 88)).alloc (.cells (ak (List.replicate 16 0)) 88)) (w.heap.size+1) 88 (ak (List.replicate 16 0)):=fD w _ 88 _;have z:=(bJ w (.cells a 88)).alloc zS (.cells (ak (List.replicate 16 0)) 88);obtain⟨o,c⟩:∃o,FM.cZ n=o:=⟨_,rfl⟩;unfold FM.cZ at c;rw[c] at j;unfold FM.cZ;rw[c];have s:=Z j
 go_enter func106,ntmps106
 go_upto_region 1 with fail
 rw[<-dK];generalize(w.alloc (.cells a 88)).alloc (.cells (ak (List.replicate 16 0)) 88)=F at*;have d:=Z y;have f:=Z z
 go_wp2_with(refine bD rfl 88 (Operand.tmp 1) rfl w.heap.size rfl 88 a (0,0) _ x aY rfl A ?_)
 refine(s.U _).mono ?_;rintro e D ⟨⟨r,rfl,l⟩,i⟩;have t:=Z l;obtain⟨b,rfl,k,B⟩:=l.row;have hd:(prog.info? 88).map (·.size)=some b.size:=by rw[k];exact dX
 have h:ah D (w.heap.size+1) 88 (ak (List.replicate 16 0)):=(i.block _ (ah.lt d.U)).trans d.U;have E:=dI (P:=prog) h b (by rw[k,cF,ez]) B;have p:=Z (h.setRow b);have q:=Z (bL (f.U.trans (i.mono f.U.size)) W b (g:=w.heap.size+1))
 go_wp2
 exact cr (v:= .agg b) (fI results106 _ _ (w.heap.size+1) 88 b (0,0) _ rfl p.U aY rfl hd) rfl ⟨⟨_,rfl,t.U⟩,q.U⟩
section
open Go.Shelf
def Tryz.yu:Go.Shelf.Ren:=⟨λ|156=>97|165=>176|166=>177|169=>178|240=>244|241=>245|276=>284|277=>285|n=>n,λ|31=>64|9=>9|3=>3|4=>4|0=>0|20=>20|72=>243|76=>246|70=>241|37=>29|75=>245|127=>308|164=>347|5=>5|80=>36|n=>n,λ|n=>n⟩
def Tryz.UC:Go.Proofs.Lays.n156 prog Tryz.yu:=⟨by kernel_rfl,dW func97,dW func176,dW func177,dW func178,dW func244,dW func245,dW func284,dW func285,underlying0,Tryz.isAgg0,Tryz.sizeOf0,Tryz.zeroValue0,Gk,Tryz.isAgg3,Tryz.sizeOf3,Gn,underlying4,Tryz.isAgg4,Tryz.sizeOf4,Tryz.zeroValue4,df,Tryz.isAgg9,Tryz.sizeOf9,Gp,underlying20,Tryz.isAgg20,Tryz.sizeOf20,Tryz.zeroValue20,qy,Tryz.isAgg64,Tryz.sizeOf64,Tryz.zeroValue64,cP,Tryz.isAgg29,Tryz.sizeOf29,Tryz.zeroValue29,underlying241,Tryz.isAgg241,Tryz.sizeOf241,Tryz.zeroValue241,underlying243,Tryz.isAgg243,Tryz.sizeOf243,Tryz.zeroValue243,underlying245,Tryz.isAgg245,Tryz.sizeOf245,Tryz.zeroValue245,underlying246,Tryz.isAgg246,Tryz.sizeOf246,Tryz.zeroValue246,underlying308,Tryz.isAgg308,Tryz.sizeOf308,Tryz.zeroValue308,underlying347,Tryz.isAgg347,Tryz.sizeOf347,Tryz.zeroValue347⟩
def yp:Tryz.yu.t 5=Tryz.yv.t 5:=by kernel_rfl
def T9:Builder.Extra prog Tryz.yu where
 sizeBuilder:=by kernel_rfl
 liesBuilder:=by kernel_rfl
 t5:=by rw[yp];exact Tryz.nM.t5
 a5:=by rw[yp];exact Tryz.nM.a5
 z5:=by rw[yp];exact Tryz.nM.z5
 v5:=by rw[yp];exact Tryz.nM.v5
 infoByte:=by kernel_rfl
 cellsByte:=by kernel_rfl
 sizeByte:=by kernel_rfl
 neB5:=by decide
def Ua:Tryz.yu.f 156=97:=by kernel_rfl
def T8(b o c:Nat)(a:List af)(d:af)(w:aa)
 (i:∀(j:Nat) x,a[j]?=some x->w.cell? ⟨b,o+j,none⟩=some (ad x))
 (f:b<w.heap.size) (e:a.length<=140737488355328) (g:a.length<=c)
 (j:(Lib.join (a.map (·.data.toList)) d.data.toList).length<=140737488355328):
 CB 97 #[ag (some ⟨b,o,none⟩) a.length c,ad d] w (ad ⟨(Lib.join (a.map (·.data.toList)) d.data.toList).toArray⟩):=by
 have h:=Any.strings_Join Tryz.UC T9 b o c a d w i f e g j
 rw[Ua] at h
 exact h
end
