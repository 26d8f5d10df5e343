import Derived.Test.YtncpbkoinennoaaGreatDoorMAZ
import Derived.Test.YtncpbkoinennoaaGreatDoorMBA
set_option linter.all false
set_option maxRecDepth 100000
set_option maxHeartbeats 0
namespace Go.Proofs.YtncpbkoinennoaaGreatDoor
open Go.RowKit Proofs.Tryz
attribute [local irreducible] wpList Calls
variable{b:List UInt8}{g i n:Nat}
section
open FM PT GL
def py:af:=⟨#[237,211,245,92,26,99,18,88,214,156,247,162,222,249,222,20,0,0,0,0,0,0,0,0,0,0,0,0,0,0,0,16]⟩
def Dt:py.size=32:=rfl
def Lz(w:aa):CB 198 #[] w (ad py):=by
 go_enter func198,ntmps198
 go_wp2
 go_ret
 exact⟨rfl,bp _ _⟩
abbrev dv(L:List UInt8):List Int:=L.map λ b=>(b.toNat:Int)
def uX{x:UInt8}(h:b[i]?=some x):(dv b)[i]?=some (x.toNat:Int):=by simp[h]
def J9{j:Nat}(a:j<n)(b:32<=n):∃o:UInt8,(lC n)[j]?=some o/\(32<=j->o=0)/\∀h:j<py.size,py[j]=o:=by
 refine⟨_,Wt a b,λ h=>by rw[ar W],λ h=> ?_⟩;rw[Dt] at h;rw[au h];have e:nT.getD j 0=nT[j]'(by exact h):=by rw[dc,aU (by exact h)];rfl
 rw[e];rfl
def La{w:aa}{cap:Nat}{z:List ab}(h:(Y.row g 3 (aZ (dv b)++z)).P w)(h32:32<=b.length)(y:b.length<=1000):
 CB 120 #[ag (some ⟨g,0,none⟩) b.length cap] w (aK (decide (aH b<SC.LQ))):=by
 have p:=Z (aX h bg)
 have a:=Z (ae.start w [])
 obtain⟨n,d⟩:∃n,b.length=n:=⟨_,rfl⟩
 rw[d] at h32 y⊢
 have q:=Z d
 obtain⟨R,c⟩:∃R,decide (aH b<SC.LQ)=R:=⟨_,rfl⟩
 rw[c]
 have s:=Z c
 have A:IntKind.i64.wrap ((n:Int)-1)=(n:Int)-1:=aO _ W
 clear d c h
 go_enter func120,ntmps120
 go_upto_region 2 with fail
 go_loopw [3] (λ c wr=>∃k:Nat,k<=n/\c=O ((k:Int)-1)/\b.drop k=(lC n).drop k/\ae w wr [] []) (λ c _=>(intOf c+1).toNat)
 case atStart=>exact⟨n,aQ _,rfl,by rw[tX (by have:=q.U;omega),tX (by rw[J8 h32];exact aQ _)],a.U⟩
 case round=>
  clear a
  obtain⟨k,B,rfl,hd,c⟩:=hrel
  have a:=Z c;have HD:=Z hd
  clear c hd
  cases k with
  |zero=>
   have d1:decide ((0:Int)<=((0:Nat):Int)-1)=false:=by decide
   have e:R=false:=by
    have d:=HD.U
    rw[kd,kd] at d
    rw[<-s.U,d,Du];exact bm (Nat.lt_irrefl _)
   subst e
   go_wp2
   go_ret
   exact⟨rfl,a.U.aq⟩
  |succ j=>
   rw[show(((j+1:Nat):Int)-1)=(j:Int) by omega]
   obtain⟨x,hx⟩:∃x,b[j]?=some x:=⟨_,aU (by have:=q.U;omega)⟩
   obtain⟨o,e,l,m⟩:=J9 (n:=n) (j:=j) W h32
   have v:=fm ((a.U.bT p.U) _ mZ) (uX hx)
   have f:=Z hx;have r:=Z e
   have d1:decide ((0:Int)<=(j:Int))=true:=aT W
   have e1:IntKind.i64.wrap ((j:Int)-1)=(j:Int)-1:=aO _ W
   have F:(j:Int)<(n:Int):=by omega
   have E:=x.toNat_lt;have D:=o.toNat_lt
   clear hx e
   obtain⟨t,i⟩:∃e,decide ((j:Int)<32)=e:=⟨_,rfl⟩
   go_upto_if 13 with fail
   go_cut [4] from 14 to 17 (λ s4 u=>s4=O (o.toNat:Int)/\ae w u [] [])
   case first=>
    cases t with
    |true=>
     have e:(j:Int)<32:=iH i
     have u:j<py.size:=by rw[Dt];omega
     have C:=m u
     have G:(j:Int)<(py.size:Int):=by omega
     clear m l i e
     go_wp2_with(go_at_call 198;refine KC a (Lz _) λ H a=> ?_)
     go_meet
     exact⟨rfl,a.U⟩
    |false=>
     have e:¬(j:Int)<32:=tc i
     have:=l W
     subst this
     go_wp2
     go_meet
     exact⟨rfl,a.U⟩
   case rest=>
    obtain⟨rfl,c⟩:=hcut
    replace a:=Z c
    have v:=fm ((a.U.bT p.U) _ mZ) (uX f.U)
    clear c m l
    by_cases c:x=o
    ·subst c
     have l:ai (b.drop j=(lC n).drop j):=Z (by
      obtain⟨d,m⟩:=cw.1 f.U
      obtain⟨e,u⟩:=cw.1 r.U
      rw[iQ d,iQ e,m,u,HD.U])
     go_wp2
     go_roundw
     case rel=>exact⟨j,by omega,by go_num,l.U,a.U⟩
     case measure=>simp[intOf]
    ·have d:R=decide (x.toNat<o.toNat):=by
      rw[<-s.U,<-Du n]
      exact OJ f.U r.U HD.U c
     have f1:((x.toNat:Int) !=(o.toNat:Int))=true:=by
      rw[ml];intro e;exact c (xu.1 W)
     have f2:decide (x.toNat<o.toNat)=R:=d.symm
     clear d c
     go_wp2
     go_ret
     exact⟨rfl,a.U.aq⟩
end
variable{F:List HD}
def N6(x:HD)(u1 u2:ab)(n:Nat)(s:af){w:aa}(d:(Y.row g 240 [u1,U (n:Int),ad s,u2]).P w):CB 282 #[x.val,pV g] w (aK (decide (x.size=n)&&decide (x.aE=s))):=by
 have a:=Z (ae.start w []);have e:=Z (aX d bg);have i:(x.aE.toList==s.toList)=decide (x.aE=s):=by
  rw[bw,gb,ej];exact⟨ML,λ h=>by rw[h]⟩
 have f:((x.size:Int)==(n:Int))=decide (x.size=n):=by rw[bw];simp;omega
 clear d;cases c:decide (x.size=n)
 all_goals
  rw[c] at f;generalize decide (x.aE=s)=b at*;clear c
  go_enter func282,ntmps282
  go_wp2_with(first|refine Kl a ?_|refine KH (a.U.bT e.U) ?_|refine KB a 59 2 (x.cells) λ h k j a=>?_)
  go_ret
  exact⟨by simp,a.U.aq⟩
def PR{w:aa}{v:ab}(h:jw w v F)(u1 u2:ab)(n:Nat)(s:af)(o:(Y.row g 240 [u1,U (n:Int),ad s,u2]).P w):
 CB 231 #[v,.func (.func 282) #[] #[pV g]] w (O (jT (cv (λ x=>decide (x.size=n)&&decide (x.aE=s)) F))):=by
 have:=TK h (pV g) (pH λ x=>decide (x.size=n)&&decide (x.aE=s)) (λ q a b c d k m=>by
  obtain⟨x,hx,rfl,rfl,rfl,rfl⟩:=Vv m
  have p:=λ(e:Y) (j:e.P w)=>e.st w q (λ i l=>k.block i (e.lt w j i l)) j
  have f:=N6 x u1 u2 n s (p _ o)
  rw[<-Kf (λ x=>decide (x.size=n)&&decide (x.aE=s)) x] at f
  exact f)
 rw[R6] at this
 exact this
def PQ{w:aa}{v:ab}(h:jw w v F)(u1 u2:ab)(n:Nat)(s:af)(b:(Y.row g 240 [u1,U (n:Int),ad s,u2]).P w):
 CB 283 #[v,.func (.func 282) #[] #[pV g]] w (aK (F.any λ x=>decide (x.size=n)&&decide (x.aE=s))):=by
 have a:=PR h u1 u2 n s b
 rw[<-Iq]
 generalize jT (cv (λ x=>decide (x.size=n)&&decide (x.aE=s)) F)=I at*
 have d:=Z a
 obtain⟨A,c,rfl⟩:=h.form
 clear a h b
 go_enter func283,ntmps283
 go_wp2_with(go_at_call 231;(refine d.U.mono ?_);rintro e f ⟨rfl,a⟩)
 go_ret
 exact⟨rfl,a⟩
variable{I:List Y}{m:List Nat}
def ss(L:List (Nat×Nat)):List ab:=(L.map λ p=>[Value.int .u64 (p.1:Int),Value.int .i64 (p.2:Int)]).flatten
def Y.th(g:Nat)(a:ab)(b:Nat)(L:List (Nat×Nat)):Y:=Y.star (Y.row g 290 [a,O (b:Int)]) (Y.ow 368 2 a L.length (ss L))
def aae{c w:aa}(h:ae c w m I)(a:Nat)(h1:1<=a)(h2:a<=10000):Calls prog 156 #[O (a:Int)] w λ r b=>
 ∃g,r=ao (aM #[pV g,O 0])/\c.heap.size<=g/\ae c b m (Y.th g (ag none 0 0) a []::I):=by
 have b:=Z h
 have d1:decide (a<1)=false:=by simp;omega
 have d2:decide ((a:Int)<1)=false:=by simp;omega
 have d3:decide (10000<a)=false:=by simp;omega
 have d4:decide ((10000:Int)<(a:Int))=false:=by simp;omega
 clear h h1 h2
 go_enter func156,ntmps156
 go_wp2_with(refine KB b 290 12 _ λ e f d b=>?_)
 refine jv rfl rfl rfl rfl ?_
 exact⟨_,rfl,d,(((b.U.eM (Y.ow 368 2 (ag none 0 0) 0 (ss [])) (di _ _ _ _) rfl).ft [1]).eX)⟩
def By(p:Nat×Nat):List ab:=[U (p.1:Int),O (p.2:Int)]
def aaB{a:ab}{L:List (Nat×Nat)}{w:aa}(h:(Y.th g a n L).P w)(b:L.length<=1000000):(Y.row g 290 [a,O (n:Int)]).P w/\bN 2 w a (L.map By):=by
 refine⟨h.1,tf (e:=368) (λ x hx=> ?_) ?_ (by rw[cC];unfold maxLen;omega)⟩
 ·obtain⟨p,-,rfl⟩:=eH.1 hx;rfl
 ·rw[cC];exact h.2.1
def pA(q:Nat×Nat->Bool)(x:List ab):Bool:=match x with
 |[.int _ a,.int _ b]=>q (a.toNat,b.toNat)
 |_=>false
def WK(q:Nat×Nat->Bool)(p:Nat×Nat):pA q (By p)=q p:=by
 show q (((p.1:Nat):Int).toNat,((p.2:Nat):Int).toNat)=q p;rw[mW,mW]
def R5(q:Nat×Nat->Bool)(L:List (Nat×Nat)):cv (pA q) (L.map By)=cv q L:=by
 rw[xY];congr 1
def R2(p:Nat×Nat)(id:Nat){w:aa}(c:(Y.row g 3 [O (id:Int)]).P w):CB 318 #[aG #[U (p.1:Int),O (p.2:Int)],pV g] w (aK (decide (p.2=id))):=by
 have a:=Z (ae.start w []);have d:=Z (aX c bg);have e:((p.2:Int)==(id:Int))=decide (p.2=id):=by rw[bw];simp;omega
 generalize decide (p.2=id)=b at*;clear c
 go_enter func318,ntmps318
 go_wp2_with(first|refine Kl a ?_|refine KH (a.U.bT d.U) ?_|refine KB a 368 2 _ λ f i h a=>?_)
 go_ret
 exact⟨by simp[e],a.U.aq⟩
def Ms{w:aa}{y:ab}{L:List (Nat×Nat)}(h:(Y.th g y n L).P w)(u:L.length<=1000000)(id:Nat):CB 302 #[pV g,O (id:Int)] w (O (jT (cv (λ p=>decide (p.2=id)) L))):=by
 have d:=Z (ae.start w []);obtain⟨l,k⟩:=aaB h u;have q:=Z (aX l bg);have r:=Z (λ j (f:BW w j) e (o:(Y.row e 3 [O (id:Int)]).P j)=>by
  have:=TJ (bN.below k f) (pV e) (pA λ p=>decide (p.2=id)) (λ wr a b s v=>by
   obtain⟨p,-,x⟩:=eH.1 v;injection x with e1 e2;injection e2 with e2;subst e1 e2;have m:=R2 p id ((Y.row e 3 [O (id:Int)]).st j wr (λ i t=>s.block i ((Y.row e 3 [O (id:Int)]).lt j o i t)) o);rw[<-WK (λ p=>decide (p.2=id)) p] at m;exact m)
  rw[R5] at this;exact this)
 obtain⟨A,c,a,-⟩:=bN.form k;rw[cC] at a;subst a;clear h l k
 go_enter func302,ntmps302
 go_wp2_with(first|refine Kl d ?_|refine KH (d.U.bT q.U) ?_|refine KB d 3 3 _ λ b l j d=>?_|go_at_call 317;(refine(r.U _ d.U.aq _ (d.U.get (i:=0) rfl)).mono ?_);rintro e k ⟨rfl,f⟩;replace d:=Z (d.U.below f);clear f)
 go_ret
 exact⟨rfl,d.U.aq⟩
def abB(v:ab)(w:aa):CB 307 #[v,O 0] w (aM #[]):=by
 have a:=Z (ae.start w [])
 go_enter func307,ntmps307
 go_wp2
 go_loopw [1] (λ b wr=>b=O 0/\ai (ae w wr [] [])) (λ _ _=>0)
 case atStart=>exact⟨rfl,a⟩
 case round=>
  clear a;obtain⟨rfl,a⟩:=hrel
  go_wp2
  go_end0
  exact⟨rfl,a.U.aq⟩
def Rl:ie 287:=ln func287 V V
def Q0:cW 288 368 2 16:=cW.mk' underlying288 (z:= .agg #[U 0,O 0]) V rfl zD
def aaz{w wr:aa}{rest:List Y}{a:ab}(L:List (Nat×Nat))(h:ae w wr m (Y.row g 290 [a,O (n:Int)]::Y.ow 368 2 a L.length (ss L)::rest)):(Y.th g a n L).P wr:=h.eX.get (i:=0) rfl
def aah{w:aa}{f:ab}(h:(Y.th g f n []).P w)(s:1<=n)(id j:Nat):Calls prog 287 #[pV g,O (id:Int),U (j:Int)] w λ r b=>
 r=ao (O 0)/\∃a,bk (Y.th g f n []) w b (Y.th g a n [(j,id)]):=by
 have b:=(ae.self h).kE
 generalize d:(Y.th g f n []).bs=m at*
 have a:=Z b
 obtain⟨u,v,t,-⟩:=da (show w.ownsRow 0 368 2 f 0 [] from b.get (i:=1) rfl)
 subst t
 have o:ai (∀c,(Y.th g (ag u 0 v) n []).P c->CB 302 #[pV g,O (id:Int)] c (O (-1))):=Z (λ c h=>Ms h zS id)
 have d1:decide ((n:Int)<=0)=false:=by simp;omega
 have d2:decide (n=0)=false:=bm W
 have p:=Z d
 clear h b s d
 go_enter func287,ntmps287
 go_upto_region 3 with((go_at_call 302;(refine(o.U _ (aaz [] a.U)).mono ?_);rintro e x ⟨rfl,d⟩;replace a:=Z (a.U.below d);clear d))
 refine RG a 10 [0] λ y a c=>?_
 refine VV [0,1,2,2003,4,5,6,7,2008,9] c ?_
 clear c
 refine WT ?_
 go_upto_region 6 with(first|refine Kl a ?_|refine KS a λ l a=>?_|(with_reducible show cn);(refine Mk a.U rfl 31 rfl (some 1) 368 [_,_] (by go_simp;(exact⟨rfl,rfl⟩)) ?_;intro z l A b;replace a:=Z b;clear b;simp only[bc])|refine Ap a.U rfl Q0 rfl 2 rfl rfl 0 rfl rfl rfl rfl zD zD λ r q l b=>?_;simp only[av,ax] at b;have k:=b.tail;clear b;have b:=k;clear k;replace a:=Z b;clear b)
 refine RG a 11 [0] λ y a c=>?_
 refine VV [0,1,2,2003,4,5,6,7,2008,9,10] c ?_
 clear c
 refine WT ?_
 go_wp2_with((go_at_call 307;(refine(abB _ _).mono ?_);rintro e x ⟨rfl,d⟩;replace a:=Z (a.U.below d);clear d))
 go_ret
 have b:=a.U
 rw[<-p.U] at b
 exact⟨rfl,ag (some ⟨r,0,none⟩) 1 q,b.oe⟩
variable{k:Nat}
def aac{w:aa}{c id:Nat}{e:List ab}(h:(Y.row g 368 (Value.int .u64 (n:Int)::Value.int .i64 (id:Int)::e)).P w):Calls prog 319 #[ag (some ⟨g,0,none⟩) 1 c,O 0,O 0] w λ r a=>
 r=ao (aM #[])/\bk (Y.row g 368 (Value.int .u64 (n:Int)::Value.int .i64 (id:Int)::e)) w a (Y.row g 368 (Value.int .u64 (n:Int)::Value.int .i64 (id:Int)::e)):=by
 have a:=Z (ae.self h)
 clear h
 go_enter func319,ntmps319
 go_upto_region 0 with fail
 refine RG a 15 [0] λ j a b=>?_
 refine VV [0,1,2,3,4,5,6] b ?_
 refine WR 7 2 b ?_
 refine VV [8,9,10] b ?_
 refine WR 11 2 b ?_
 refine VV [12] b ?_
 clear b
 refine ay.mE (i:=13) V zD rfl ?_
 (refine One.str a.U V rfl 0 rfl 368 2 rfl rfl _ rfl rfl V rfl rfl λ f d=>?_;simp only[fo,av,ax,bH,ck,dJ,dr] at d)
 replace a:=Z d;clear d
 refine⟨bI a [0],?_⟩
 try simp only[aS,av,ax]
 have b:=bI a [0]
 refine VV [14] b ?_
 clear b
 refine WT ?_
 go_wp2_with(refine KS a λ f a=>?_)
 go_end0
 exact⟨rfl,a.U.iL⟩
def OB(a b:Nat):ss [(a,b)]=[U (a:Int),O (b:Int)]:=rfl
def aaA{w wr:aa}{rest:List Y}{id:Nat}{d:ab}(h:ae w wr m (Y.th g d i [(k,id)]::rest)):
 ∃b c a,d=ag (some ⟨b,0,none⟩) 1 c/\1<=c/\c<=maxLen/\a.length+2=c*2/\ae w wr m (Y.row g 290 [ag (some ⟨b,0,none⟩) 1 c,O (i:Int)]::Y.row b 368 (Value.int .u64 (k:Int)::Value.int .i64 (id:Int)::a)::rest):=by
 have f:=ae.kE h
 obtain⟨b,c,a,e1,e2,e3,e4,e⟩:=vN f 1 (v:=d) (n:=1) (xs:=ss [(k,id)]) rfl zD
 subst e1
 exact⟨b,c,a,rfl,e2,e3,by rw[OB] at e4;simpa using e4,e⟩
def aaC{w wr:aa}{rest:List Y}{c:Nat}{a:List ab}(h:ae w wr m (Y.row g 290 [ag (some ⟨n,0,none⟩) 0 c,O (k:Int)]::Y.row n 368 a::rest))(h1:c<=maxLen)(h2:a.length=c*2):
 ae w wr m (Y.th g (ag (some ⟨n,0,none⟩) 0 c) k []::rest):=by
 have b:=v8 h 1 rfl 0 c 2 (bf _) h1 h2 [] rfl
 exact ae.eX b
def aag{w:aa}{id:Nat}{l:ab}(h:(Y.th g l k [(n,id)]).P w):Calls prog 303 #[pV g,O 0] w λ r b=>
 r=ao (aM #[])/\∃a,bk (Y.th g l k [(n,id)]) w b (Y.th g a k []):=by
 obtain⟨b,c,u,rfl,r,e,f,a⟩:=aaA (ae.self h)
 generalize j:(Y.th g (ag (some ⟨b,0,none⟩) 1 c) k [(n,id)]).bs=m at*
 have d:=Z a
 have q:=Z j;have o:=Z e;have p:=Z f
 have s:decide ((0:Int)<=(c:Int))=true:=by simp
 clear h a j e f
 go_enter func303,ntmps303
 go_wp2_with(first|refine Kl d ?_|refine KS d λ t d=>?_|go_at_call 319;(refine(aac (d.U.get (i:=1) rfl)).mono ?_);rintro e j ⟨rfl,f⟩;have a:=d.U.at 1 rfl f;simp only[av,ax] at a;replace d:=Z a;clear a;clear f)
 go_end0
 have a:=aaC d.U o.U (by simpa using p.U)
 rw[<-q.U] at a
 exact⟨rfl,ag (some ⟨b,0,none⟩) 0 c,a.iL⟩
def aad{w:aa}{id:Nat}{c:ab}(h:(Y.th g c k [(n,id)]).P w):Calls prog 275 #[pV g,O (id:Int)] w λ r a=>
 r=ao (O 0)/\∃l,bk (Y.th g c k [(n,id)]) w a (Y.th g l k []):=by
 have b:=Ms h zS id
 have e:jT (cv (λ p:Nat×Nat=>decide (p.2=id)) [(n,id)])=0:=by simp[cv,jT]
 rw[e] at b
 have d:=Z b
 have m:=Z (λ f (h:(Y.th g c k [(n,id)]).P f)=>aag h)
 have a:=Z (ae.self h)
 clear h b e
 go_enter func275,ntmps275
 go_wp2_with(first|go_at_call 302;(refine d.U.mono ?_);rintro e o ⟨rfl,f⟩;replace a:=Z (a.U.below f);clear f;clear d|go_at_call 303;(refine(m.U _ (a.U.get (i:=0) rfl)).mono ?_);rintro e o ⟨rfl,l,j⟩;have b:=a.U.at 0 rfl j;simp only[av,ax] at b;replace a:=Z b;clear b;clear j)
 go_ret
 exact⟨rfl,_,a.U.iL⟩
def aaf{w:aa}{c:ab}(h:(Y.th g c n []).P w)(l:Nat):Calls prog 286 #[pV g,U (l:Int)] w λ r a=>
 r=ao (ag none 0 0)/\bk (Y.th g c n []) w a (Y.th g c n []):=by
 have b:=(ae.self h).kE
 generalize d:(Y.th g c n []).bs=m at*
 obtain⟨e,f,k,-⟩:=da (show w.ownsRow 0 368 2 c 0 [] from b.get (i:=1) rfl)
 subst k
 have a:=Z b
 have j:=Z d
 clear h b d
 go_enter func286,ntmps286
 go_wp2
 go_loopw [5] (λ d wr=>d=ag none 0 0/\ai (ae w wr m [Y.row g 290 [ag e 0 f,O (n:Int)],Y.ow 368 2 (ag e 0 f) 0 (ss [])])) (λ _ _=>0)
 case atStart=>exact⟨rfl,a⟩
 case round=>
  clear a
  obtain⟨rfl,a⟩:=hrel
  go_wp2_with(first|(first|(refine KL a 0 288 ?_)|(refine KL a 1 288 ?_)|(refine KL a 0 46 ?_)|(refine KL a 1 46 ?_)))
  go_ret
  have b:=a.U
  rw[<-j.U] at b
  exact⟨rfl,b.oe⟩
structure RC.bR(c:RC):Prop where
 b1:1<=c.base
 b2:c.base<=c.j
 m:c.j<=1099511627776
 s:c.span<=1099511627776
 t1:1<=c.i
 t2:c.i<=1000
 r1:1<=c.room
 r2:c.room<=10000
def RC.bR.ok{c:RC}(h:c.bR):c.Ok:=by
 obtain⟨a,b,j,d,e,f,g,i⟩:=h;exact⟨by omega,by omega,by omega,by omega,by omega⟩
def XQ(c:RC)(g:c.bR)(w:aa):CB 155 #[c.val] w (aK true):=by
 obtain⟨b,d,m,s,t1,t2,e,f⟩:=g;obtain⟨B,M,S,T,R⟩:=c;simp only at b d m s t1 t2 e f;have a:=Z (ae.start w []);have f0:decide ((1:Nat)<=(B:Nat))=true:=aT W;have h:decide ((1:Int)<=(B:Int))=true:=aT W;have e0:decide (0<B)=true:=aT W;have f3:decide ((B:Nat)<=(M:Nat))=true:=aT W;have l:decide ((B:Int)<=(M:Int))=true:=aT W;have f5:decide ((M:Nat)<=(1099511627776:Nat))=true:=aT W;have n:decide ((M:Int)<=(1099511627776:Int))=true:=aT W;have f7:decide ((S:Nat)<=(1099511627776:Nat))=true:=aT W;have o:decide ((S:Int)<=(1099511627776:Int))=true:=aT W;have f9:decide ((1:Nat)<=(T:Nat))=true:=aT W;have p:decide ((1:Int)<=(T:Int))=true:=aT W;have e9:decide (0<T)=true:=aT W;have f12:decide ((T:Nat)<=(1000:Nat))=true:=aT W;have i:decide ((T:Int)<=(1000:Int))=true:=aT W;have f14:decide ((1:Nat)<=(R:Nat))=true:=aT W;have j:decide ((1:Int)<=(R:Int))=true:=aT W;have ix:decide (0<R)=true:=aT W;have f17:decide ((R:Nat)<=(10000:Nat))=true:=aT W;have k:decide ((R:Int)<=(10000:Int))=true:=aT W;clear b d m s t1 t2 e f
 go_enter func155,ntmps155
 go_wp2_with(first|refine Kl a ?_|refine KB a 48 1 _ λ b e d a=>?_)
 go_ret
 exact⟨by first|rfl|simp_all,a.U.aq⟩
def zi(o:Option (Nat×Nat×Nat)):List (Int×ab):=match o with|none=>[]|some p=>[((p.1:Int),O (p.2.1:Int))]
def Ee(o:Option (Nat×Nat×Nat)):List (Nat×Nat):=match o with|none=>[]|some p=>[(p.2.2,p.1)]
abbrev RC.rG(c:RC)(b a:Nat):List ab:=[U (c.base:Int),U (c.j:Int),U (c.span:Int),O (c.i:Int),O (c.room:Int),.map (some b),pV a]
def Y.rt(e b a:Nat)(d:ab)(c:RC)(o:Option (Nat×Nat×Nat)):Y:=Y.all [Y.row e 224 (c.rG b a),Y.mp b (zi o),Y.th a d c.room (Ee o)]
def Ef{w wr:aa}{rest:List Y}{a:ab}{c:RC}{o:Option (Nat×Nat×Nat)}(h:ae w wr m (Y.rt g n k a c o::rest)):ae w wr m (Y.row g 224 (c.rG n k)::Y.mp n (zi o)::Y.th k a c.room (Ee o)::rest):=ae.MP h
def zj{w wr:aa}{rest:List Y}{a:ab}{c:RC}(o:Option (Nat×Nat×Nat))(h:ae w wr m (Y.row g 224 (c.rG n k)::Y.mp n (zi o)::Y.th k a c.room (Ee o)::rest)):ae w wr m (Y.rt g n k a c o::rest):=ae.JJ [_,_,_] h
def XP{f w:aa}(h:ae f w m I)(c:RC)(d:c.bR):Calls prog 78 #[c.val] w λ r b=>
 ∃a i g,r=ao (aM #[pV a,O 0])/\f.heap.size<=a/\ae f b m (Y.rt a i g (ag none 0 0) c none::I):=by
 have a:=Z h
 have n:=Z (λ b=>XQ c d b)
 have l:=Z (λ(b:aa) (q:List Y) (p:ae f b m q)=>aae p c.room d.r1 d.r2)
 clear h d
 go_enter func78,ntmps78
 go_wp2_with(first|refine KT a 5 ?_|refine Kl a ?_|refine KB a 48 1 (c.cells) λ s k u a=>?_|refine KB a 224 22 (c.rG i g) λ t k o a=>?_|((with_reducible show yf);first|(refine w9 a.U rfl 19 rfl 222 rfl λ i k x b=>?_;replace a:=Z b;clear b))|go_at_call 155;(refine(n.U _).mono ?_);rintro e r ⟨rfl,j⟩;replace a:=Z (a.U.below j);clear j|go_at_call 156;(refine(l.U _ _ a.U).mono ?_);rintro e r ⟨g,rfl,v,b⟩;replace a:=Z b;clear b)
 refine jv rfl rfl rfl rfl ?_
 exact⟨_,_,_,rfl,o,((zj none a.U).ft [1,1000])⟩
def Rn:ie 288:=ln func288 V V
def XM{w:aa}{j:Nat}{o:ab}{c:RC}(h:(Y.rt g k j o c none).P w)(p:c.bR)(id l f:Nat)(t:l<18446744073709551616)(s:f<18446744073709551616):
 Calls prog 257 #[pV g,O (id:Int),U (l:Int),U (f:Int)] w λ r a=>
  r=ao (O 0)/\∃q,bk (Y.rt g k j o c none) w a (Y.rt g k j q c (some (id,1,bo l (lL c 0 f)))):=by
 have a:=Ef (ae.self h)
 generalize e:(Y.rt g k j o c none).bs=m at*
 have b:=Z a
 have v:=Z e
 have y:=Z (λ d=>abT c p.ok 0 zD f s d)
 have u:=Z (λ d=>tC l (lL c 0 f) t (kz _ _) d)
 have x:=Z (λ d (h:(Y.th j o c.room []).P d)=>aah h p.r1 id (bo l (lL c 0 f)))
 generalize bo l (lL c 0 f)=dZ at*
 generalize lL c 0 f=wt at*
 clear h a e p t s
 go_enter func257,ntmps257
 go_upto_region 1 with fail
 try simp only[yW]
 refine ae.region b.U (n:=14) (S:=ba [Y.row g 224 (c.rG k j)]) V V (λ A z=>(aX (z.in mZ) bg)) (λ A a d=> ?_)
 replace b:=Z a;clear a
 refine V2 0 10 d ?_
 refine V2 1 11 d ?_
 refine V2 2 12 d ?_
 refine L2 3 13 0 219 d ?_
 refine V2 4 14 d ?_
 refine V2 5 15 d ?_
 refine V2 6 16 d ?_
 refine V2 7 17 d ?_
 refine V2 8 18 d ?_
 refine W2 9 19 rfl rfl (Yr V 0 rfl 48 5 rfl rfl V _ rfl rfl) d ?_
 refine V2 10 20 d ?_
 clear d
 refine ay.eL (i:=11) V zD rfl rfl 21 rfl rfl 288 rfl Rn _ rfl ?_
 refine(y.U _).mono ?_
 rintro e r ⟨rfl,d⟩
 have a:=b.U.below d
 replace b:=Z a;clear a;clear d
 refine⟨_,rfl,(aX (b.U.in mZ) bg),?_⟩
 simp only[aS,av,ax]
 refine ay.eL (i:=12) V zD rfl rfl 22 rfl rfl 139 rfl (en 139) _ rfl ?_
 refine(u.U _).mono ?_
 rintro e r ⟨rfl,rfl⟩
 refine⟨_,rfl,(aX (b.U.in mZ) bg),?_⟩
 simp only[aS,av,ax]
 refine ay.eL (i:=13) V zD rfl rfl 23 rfl rfl 287 rfl Rl _ rfl ?_
 refine(x.U _ (b.U.get (i:=2) rfl)).mono ?_
 rintro e r ⟨rfl,q,d⟩
 have a:=b.U.at 2 rfl d
 simp only[av,ax] at a
 replace b:=Z a;clear a;clear d
 refine⟨_,rfl,(aX (b.U.in mZ) bg),?_⟩
 simp only[aS,av,ax]
 refine ay.tail V ?_
 simp only[ck,bH]
 go_wp2_with(first|(refine KL b 0 222 ?_)|((with_reducible show wpList _ _ _ (⟨_,.mapUpdate _ _ _ _,_,_,_,_⟩::_) _ _);(refine Mu b.U 1 rfl rfl Jx rfl rfl rfl rfl λ d a=>?_;simp only[av,ax] at a;replace b:=Z a;clear a)))
 go_ret
 have a:=zj (some (id,1,dZ)) b.U
 rw[<-v.U] at a
 exact⟨rfl,q,a.iL⟩
def XN{w:aa}{d:Nat}{f:ab}{c:RC}{id dZ:Nat}(h:(Y.rt g n d f c (some (id,k,dZ))).P w):Calls prog 218 #[pV g,O (id:Int)] w λ r a=>
 r=ao (O 0)/\∃j,bk (Y.rt g n d f c (some (id,k,dZ))) w a (Y.rt g n d j c none):=by
 have a:=Ef (ae.self h)
 generalize e:(Y.rt g n d f c (some (id,k,dZ))).bs=m at*
 have b:ai (ae w w m [Y.row g 224 (c.rG n d),Y.mp n [((id:Int),O (k:Int))],Y.th d f c.room [(dZ,id)]]):=Z a
 have o:=Z e
 have p:=Z (λ q (h:(Y.th d f c.room [(dZ,id)]).P q)=>aad h)
 clear h a e
 go_enter func218,ntmps218
 go_wp2_with(first|(first|(refine KL b 0 219 ?_)|(refine KL b 0 222 ?_))|(refine Md b.U 1 rfl rfl (t:=222) (k:=3) (e:=3) V V rfl rfl rfl λ s a=>?_;simp only[av,ax] at a;rw[JG] at a;replace b:=Z a;clear a)|(go_at_call 275;(refine(p.U _ (b.U.get (i:=2) rfl)).mono ?_);rintro e r ⟨rfl,j,l⟩;have a:=b.U.at 2 rfl l;simp only[av,ax] at a;replace b:=Z a;clear a;clear l))
 go_ret
 have a:=zj none b.U
 rw[<-o.U] at a
 exact⟨rfl,j,a.iL⟩
def XO{w:aa}{d:ab}{c:RC}(h:(Y.rt g n k d c none).P w)(j s:Nat):Calls prog 255 #[pV g,U (j:Int),U (s:Int)] w λ r a=>
 r=ao (aM #[ag none 0 0,ag none 0 0])/\bk (Y.rt g n k d c none) w a (Y.rt g n k d c none):=by
 have a:=Ef (ae.self h)
 generalize e:(Y.rt g n k d c none).bs=m at*
 have b:=Z a
 have l:=Z e
 have o:=Z (λ p (h:(Y.th k d c.room []).P p)=>aaf h j)
 clear h a e
 go_enter func255,ntmps255
 go_wp2_with(first|refine Kl b ?_|go_at_call 286;(refine(o.U _ (b.U.get (i:=2) rfl)).mono ?_);rintro e t ⟨rfl,f⟩;have a:=b.U.at 2 rfl f;simp only[av,ax] at a;replace b:=Z a;clear a;clear f)
 go_loopw [6,7,18] (λ p q r wr=>p=ag none 0 0/\q=ag none 0 0/\r=O 0/\ai (ae w wr m [Y.row g 224 (c.rG n k),Y.mp n (zi none),Y.th k d c.room []])) (λ _ _ _ _=>0)
 case atStart=>exact⟨rfl,rfl,rfl,b⟩
 case round=>
  clear b
  obtain⟨rfl,rfl,rfl,b⟩:=hrel
  go_wp2
  refine jv rfl rfl rfl rfl ?_
  have a:=zj none b.U
  rw[<-l.U] at a
  exact⟨rfl,a.iL⟩
def I7(w:aa)(s:af)(l:s.size<=1000000):CB 160 #[ad s] w (ad (bF s)):=by
 have a:=Z (ae.start w []);have n:=Z (λ b=>Wm s W b);have o:=Z (λ b=>Xr (CrcM.on 0 s.data.toList) (ui (Nat.sub_le _ _) zD) b);have c:=xF s W;have j:ai ((⟨[],0⟩:WS).b.length+(eT s).size<=16777216):=Z (by simp;omega);have k:=ir s;have g:=Z (show bF s=if s.size=0\/4096<s.size then⟨#[]⟩ else eT s++xK s from rfl);clear c;by_cases c:s=⟨#[]⟩;focus
  have d:s.size=0:=by rw[c];rfl
  rw[aT c] at k;have i:=Z (g.U.trans (au (Or.inl d)));clear c d
 rotate_left;focus
  rw[bm c] at k;have d:¬s.size=0:=λ h=>c (xA h);by_cases b:s.size<=4096;focus
   have i:=Z (g.U.trans (ar W));have f:(⟨[],0⟩:WS).put (decide (s.size<=4096)) 4 (eT s)=⟨(eT s).data.toList,0⟩:=by
    rw[aT b];rfl
   have m:(⟨(eT s).data.toList,0⟩:WS).text=eT s:=by unfold WS.text;rw[au rfl]
   have h:=Z f;have p:=Z m;have q:(eT s).size+(strOfNums (rA (CrcM.on 0 s.data.toList))).size<=9223372036854775807:=by
    have e:(strOfNums (rA (CrcM.on 0 s.data.toList))).size=4:=rfl;have:=xF s W;omega
   clear c d b f m
  rotate_left;focus
   have i:=Z (g.U.trans (au (Or.inr W)));have f:(⟨[],0⟩:WS).put (decide (s.size<=4096)) 4 (eT s)=⟨[],4⟩:=by
    rw[bm b];rfl
   have h:=Z f;clear c d b f
 all_goals
  go_enter func160,ntmps160
  go_upto_region 2 with(refine KA a _ 3 zX λ m t q a=>?_)
  replace a:=Z (a.U.yH)
  go_wp2_with(first|refine KA a _ 3 zX λ m t q a=>?_|(go_at_call 8;(refine(Fj (a.U.in (by first|exact mZ)) s l j.U).mono ?_);rintro e c ⟨rfl,r,d⟩;have f:=a.U.rep (by first|exact .head _) d;rw[h.U] at f;replace a:=Z f;clear f)|(go_at_call 8;(refine(Fj (a.U.in (by first|exact mZ)) s l j.U).mono ?_);rintro e c ⟨rfl,r,d⟩;replace a:=Z (a.U.rep (by first|exact .head _) d))|(go_at_call 222;(refine(abS (a.U.in (by first|exact mZ))).mono ?_);rintro e c ⟨rfl,rfl⟩)|(go_at_call 11;(refine(zN (a.U.in (by first|exact mZ))).mono ?_);rintro e c ⟨rfl,rfl⟩;rw[p.U])|go_at_call 224;(refine(n.U _).mono ?_);rintro e c ⟨rfl,b⟩;replace a:=Z (a.U.below b);clear b|go_at_call 223;(refine(o.U _).mono ?_);rintro e c ⟨rfl,b⟩;replace a:=Z (a.U.below b);clear b)
  go_ret
  exact⟨by rw[i.U];rfl,a.U.aq⟩
variable{d:DK}{E:JN}
abbrev JN.cells(j:JN)(a:Nat)(b:ab):List ab:=[pV a,b,O (j.sure:Int),aK j.cut]
def Y.jr(g b:Nat)(a:ab)(j:JN):Y:=Y.star (Y.row g 227 (j.cells b a)) (Y.ow 9 1 a j.l.length (bh j.l))
def gR(j:JN)(d:DK)(s:af):JN:=if du j d s=0 then⟨j.l++[s],j.sure,j.cut⟩ else j
def iC(j:JN)(d:DK)(s:af):DK:=if du j d s=0 then d.put 0 (bF s) else d
def T5{s:af}(h:E.cut=true):du E d s=7/\gR E d s=E/\iC E d s=d:=by
 have e:du E d s=7:=by unfold du;rw[au h]
 unfold gR iC;rw[e];exact⟨rfl,rfl,rfl⟩
def T7{s:af}(h:E.cut=false)(h1:(bF s).size=0):du E d s=1/\gR E d s=E/\iC E d s=d:=by
 have e:du E d s=1:=by unfold du;rw[ar (by rw[h];decide),au h1]
 unfold gR iC;rw[e];exact⟨rfl,rfl,rfl⟩
def T4{s:af}(h:E.cut=false)(h1:¬(bF s).size=0)(h2:¬d.dH (bF s)=0):du E d s=d.dH (bF s)/\gR E d s=E/\iC E d s=d.put 0 (bF s):=by
 have e:du E d s=d.dH (bF s):=by unfold du;rw[ar (by rw[h];decide),ar h1]
 have e2:d.put 0 (bF s)=d:=by
  unfold DK.dH at h2;unfold DK.put;split at h2
  ·rename_i a;rw[au a]
  ·exact absurd rfl h2
 unfold gR iC;rw[e,ar h2,ar h2,e2];exact⟨rfl,rfl,rfl⟩
def T6{s:af}(h:E.cut=false)(h1:¬(bF s).size=0)(h2:d.dH (bF s)=0):du E d s=0/\gR E d s=⟨E.l++[s],E.sure,E.cut⟩/\iC E d s=d.put 0 (bF s):=by
 have e:du E d s=0:=by unfold du;rw[ar (by rw[h];decide),ar h1,h2]
 unfold gR iC;rw[e];exact⟨rfl,rfl,rfl⟩
def TX{x w:aa}{rest:List Y}{v k:ab}(h:ae x w m (Y.jr g n v E::Y.dk n k d::rest))(hd:d.Ok)(u:d.a.length<=1000000)(z:E.l.length<=1000000)(s:af)(B:s.size<=1000000):
 Calls prog 304 #[pV g,ad s] w λ r e=>r=ao (O (du E d s:Int))/\∃a o,ae x e m (Y.jr g n a (gR E d s)::Y.dk n o (iC E d s)::rest):=by
 have a:=ae.kE h
 have b:=Z a
 have f:=Z (λ c=>I7 c s B)
 have j:ai (∀c k,(Y.dk n k d).P c->Calls prog 300 #[pV n,O 0,ad (bF s)] c λ r e=>r=ao (O (d.dH (bF s):Int))/\∃o,bk (Y.dk n k d) c e (Y.dk n o (d.put 0 (bF s)))):=Z (λ c k h=>Qf h hd 0 zD (bF s) u)
 obtain⟨pA,J,A,-⟩:=da (show w.ownsRow 0 9 1 v E.l.length (bh E.l) from a.get (i:=1) rfl)
 subst A
 clear h a hd u
 have r:=Z z
 obtain⟨F,hF⟩:∃F,bF s=F:=⟨_,rfl⟩
 have q:=ir F
 cases l:E.cut
 focus
  by_cases c:F.size=0
  focus
   obtain⟨e1,e2,e3⟩:=T7 (d:=d) (s:=s) l (by rw[hF];exact c)
   rw[e1,e2,e3]
   rw[aT (xA c)] at q
   rw[hF] at f
   clear e1 e2 e3 hF c
  rotate_left
  focus
   rw[bm (λ h=>c (by rw[h];rfl))] at q
   by_cases e:d.dH F=0
   focus
    obtain⟨e1,e2,e3⟩:=T6 (d:=d) (s:=s) l (by rw[hF];exact c) (by rw[hF];exact e)
    rw[e1,e2,e3]
    rw[hF] at f j⊢
    rw[e] at j
    have p:bh E.l++[ad s]=bh (E.l++[s]):=by rw[zz];rfl
    have y:=Z p
    clear e1 e2 e3 hF c e p
   rotate_left
   focus
    obtain⟨e1,e2,e3⟩:=T4 (d:=d) (s:=s) l (by rw[hF];exact c) (by rw[hF];exact e)
    rw[e1,e2,e3]
    rw[hF] at f j⊢
    obtain⟨p,t⟩:∃p,d.dH F=p:=⟨_,rfl⟩
    rw[t] at j e⊢
    have C:((p:Int)==0)=false:=by rw[dP];omega
    clear e1 e2 e3 hF c t
 rotate_left 3
 focus
  obtain⟨e1,e2,e3⟩:=T5 (d:=d) (s:=s) l
  rw[e1,e2,e3]
  rw[hF] at f
  clear e1 e2 e3 hF q
 all_goals
  go_enter func304,ntmps304
  go_wp2_with(first|refine Kl b ?_|refine KS b λ t b=>?_|(with_reducible show cn);(refine Mk b.U rfl 31 rfl (some 1) 9 [_] (by go_simp;(exact⟨rfl,rfl⟩)) ?_;intro G t I a;replace b:=Z a;clear a;simp only[bc])|refine Ap b.U rfl vc rfl 2 rfl rfl 0 rfl rfl rfl rfl (by unfold maxLen;have:=r.U;omega) (by have:=r.U;omega) ?_;intro H D t a;simp only[av,ax] at a;replace b:=Z a;clear a|go_at_call 160;(refine(f.U _).mono ?_);rintro e C ⟨rfl,c⟩;replace b:=Z (b.U.below c);clear c|go_at_call 300;(refine(j.U _ _ (b.U.get (i:=2) rfl)).mono ?_);rintro e C ⟨rfl,o,p⟩;have a:=b.U.at 2 rfl p;simp only[av,ax] at a;replace b:=Z a;clear a;clear p)
  go_ret
  first
   |have a:=b.U.tail
    rw[y.U,show E.l.length+1=(E.l++[s]).length by simp] at a
    exact⟨rfl,_,_,a.eX⟩
   |exact⟨rfl,_,_,b.U.eX⟩
def T0{s:af}(h:¬du E d s=0):km E d s=gR E d s/\kn E d s=iC E d s:=by
 unfold km kn gR iC;rw[ar h,ar h,ar h,ar h];exact⟨rfl,rfl⟩
def T3{s:af}(h:du E d s=0):km E d s=⟨(gR E d s).l,(gR E d s).l.length,(gR E d s).cut⟩/\kn E d s={iC E d s with a:=[]}:=by
 unfold km kn gR iC;rw[au h,au h,au h,au h];exact⟨by simp,rfl⟩
def TW{q w:aa}{rest:List Y}{A z:ab}(h:ae q w m (Y.jr g n A E::Y.dk n z d::rest))(hd:d.Ok)(v:d.a.length<=1000000)(u:E.l.length<=1000000)(s:af)(x:s.size<=1000000):
 Calls prog 276 #[pV g,ad s] w λ r b=>r=ao (O (du E d s:Int))/\∃f l,ae q b m (Y.jr g n f (km E d s)::Y.dk n l (kn E d s)::rest):=by
 have a:=Z h
 have t:ai (∀c,ae q c m (Y.jr g n A E::Y.dk n z d::rest)->Calls prog 304 #[pV g,ad s] c λ r b=>r=ao (O (du E d s:Int))/\∃f l,ae q b m (Y.jr g n f (gR E d s)::Y.dk n l (iC E d s)::rest)):=Z (λ c h=>TX h hd v u s x)
 clear h hd v u x
 obtain⟨o,c⟩:∃o,du E d s=o:=⟨_,rfl⟩
 obtain⟨J,k⟩:∃J,gR E d s=J:=⟨_,rfl⟩
 obtain⟨D,j⟩:∃D,iC E d s=D:=⟨_,rfl⟩
 rw[c,k,j] at t
 by_cases p:o=0
 ·obtain⟨e1,e2⟩:=T3 (c.trans p)
  rw[e1,e2,k,j,c]
  subst p
  clear e1 e2 c k j
  go_enter func276,ntmps276
  go_wp2_with(first|refine Kl a ?_|refine KS a λ H a=>?_|go_at_call 304;(refine(t.U _ a.U).mono ?_);rintro e B ⟨rfl,f,l,r⟩;have b:=r.kE;clear r;replace a:=Z b;clear b;obtain⟨pA,G,C,-⟩:=da (show World.ownsRow _ 0 9 1 f J.l.length (bh J.l) from a.U.get (i:=1) rfl);subst C|go_at_call 96;(refine(Hh (a.U.get (i:=2) rfl)).mono ?_);rintro e B ⟨rfl,y⟩;have b:=a.U.at 2 rfl y;simp only[av,ax] at b;replace a:=Z b;clear b;clear y)
  go_ret
  exact⟨rfl,_,_,a.U.eX⟩
 ·obtain⟨e1,e2⟩:=T0 (by rw[c];exact p)
  rw[e1,e2,k,j,c]
  have F:((o:Int)==0)=false:=by rw[dP];omega
  clear e1 e2 c k j p
  go_enter func276,ntmps276
  go_wp2_with((go_at_call 304;(refine(t.U _ a.U).mono ?_);rintro e B ⟨rfl,f,l,b⟩;replace a:=Z b;clear b))
  go_ret
  exact⟨rfl,_,_,a.U⟩
def Uc{a:ab}{w:aa}(h:(Y.jr g n a E).P w)(b:E.l.length<=1000000):(Y.row g 227 (E.cells n a)).P w/\bq w a E.l:=⟨h.1,pz h.2.1 (by unfold maxLen;omega)⟩
def TZ{w:aa}{j:ab}(h:(Y.jr g n j E).P w)(i:E.l.length<=1000000):Calls prog 82 #[pV g] w λ r a=>∃A c,r=ao (ag A E.l.length c)/\il w.heap.size a (ag A E.l.length c) E.l/\BW w a:=by
 obtain⟨b,a⟩:=Uc h i;have d:=Z (aX b bg);have f:=Z (B1 a W);obtain⟨pA,l,rfl⟩:=a.form;have k:=Z (ae.start w []);clear h b a
 go_enter func82,ntmps82
 go_wp2_with(first|refine oI (d.U) 0 rfl rfl 64 rfl rfl V rfl ?_|go_at_call 80;(refine f.U.mono ?_);rintro e o ⟨⟨m,rfl,a⟩,b⟩)
 obtain⟨A,c,rfl⟩:=il.form a
 go_ret
 exact⟨_,_,rfl,a,b⟩
def zy(k:Nat)(d:DK)(b:af):DK:=if k=0 then d.put 1 b else if k=1 then{d with a:=[]} else if k=2 then d.cd else d.trim 1 0
structure DK.Still(d:DK):Prop where
 fit:d.f0.size+d.f1.size<=d.room
 room:d.room<=16777216
 none:d.a=[]
def DK.Still.eb(h:d.Still):d.bR:=by
 obtain⟨f0,f1,l,r⟩:=d;obtain⟨a,b,c⟩:=h;simp only at a b c;subst c;exact⟨a,b,by simp[DK.ds],by simp[DK.ds],by simp[DK.ds,DA.jb],by simp[DK.ds,DA.jb]⟩
def DK.Still.ok{d:DK}(h:d.Still):d.Ok:=h.eb.ok
def DK.Still.put{d:DK}(h:d.Still)(f:Nat)(i:f<2)(s:af):(d.put f s).bR/\(d.put f s).a.length<=1/\DK.Still {d.put f s with a:=[]}:=by
 obtain⟨f0,f1,l,r⟩:=d;obtain⟨b,a,e⟩:=h;simp only at b a e;subst e;unfold DK.put;by_cases c:(⟨f0,f1,[],r⟩:DK).free<s.size
 ·rw[au c];exact⟨(DK.Still.eb ⟨b,a,rfl⟩),bf _,⟨b,a,rfl⟩⟩
 focus
  rw[ar c];have g:(⟨f0,f1,[],r⟩:DK).free=r-f0.size-f1.size:=rfl;rw[g] at c;rcases f with _|_|f;rotate_left;rotate_left
  ·omega
 all_goals
  refine⟨⟨?_,a,by simp[DK.ds],by simp[DK.ds],?_,?_⟩,aQ _,⟨?_,a,rfl⟩⟩
  ·simp[DK.ds,DK.jk,DK.file,gX];omega
  ·simp[DK.ds,DK.jk,DK.file,DA.jb,gX]
  ·simp[DK.ds,DK.jk,DK.file,DA.jb,gX]
  ·simp[DK.jk,DK.file,gX];omega
def DK.Still.cd{d:DK}(h:d.Still):d.cd.Still/\d.MN=0:=by
 have a:¬0<jQ d.a:=by rw[h.none];simp[jQ]
 unfold DK.cd DK.MN;rw[ar a,ar a];exact⟨⟨by have:=h.fit;grind,h.room,h.none⟩,rfl⟩
def DK.Still.trim{d:DK}(h:d.Still):(d.trim 1 0).Still/\d.tG 1 0=0:=by
 have a:¬0<jQ d.a:=by rw[h.none];simp[jQ]
 unfold DK.trim DK.tG;rw[ar (ij _),ar (ij _),ar a,ar a];refine⟨⟨?_,h.room,h.none⟩,rfl⟩;have:=h.fit;simp[DK.jk,DK.file,ib];omega
def jM(d:DK)(b:af):Nat->DK
 |0=>d
 |k+1=>zy k (jM d b k) b
def Yi{l:List af}(h:E.cut=true\/E.sure<E.l.length):lv E d l n=7/\ko E d l n=E/\kp E d l n=d:=by
 unfold lv ko kp;grind
def Yg{l:List af}(h:¬(E.cut=true\/E.sure<E.l.length))(h1:¬eb l):lv E d l n=1/\ko E d l n=E/\kp E d l n=d:=by
 unfold lv ko kp;grind
def Yf{l:List af}(h:¬(E.cut=true\/E.sure<E.l.length))(h1:eb l)(h2:¬n=0)(h3:¬d.dH (ep l)=0):lv E d l n=d.dH (ep l)/\ko E d l n=E/\kp E d l n=zy 0 d (ep l):=by
 have e2:d.put 1 (ep l)=d:=by
  unfold DK.dH at h3;unfold DK.put;split at h3
  ·grind
  ·omega
 have e3:zy 0 d (ep l)=d:=e2;rw[e3];unfold lv ko kp;grind
def Yh{l:List af}(h:¬(E.cut=true\/E.sure<E.l.length))(h1:eb l)(h2:n=0\/d.dH (ep l)=0)(h3:n<4):lv E d l n=7/\ko E d l n=⟨E.l,E.sure,true⟩/\kp E d l n=jM d (ep l) n:=by
 by_cases a:n=0
 ·subst a;refine⟨?_,?_,?_⟩
  ·unfold lv;grind
  ·unfold ko;grind
  ·unfold kp;rw[ar h,ar (yI h1)];rfl
 ·have b:d.dH (ep l)=0:=by
   rcases h2 with h2|h2
   ·omega
   ·exact h2
  refine⟨?_,?_,?_⟩
  ·unfold lv;grind
  ·unfold ko;grind
  ·unfold kp;rw[ar h,ar (yI h1),ar a,ar (yI b)];rcases n with _|_|_|_|n
   ·omega
   ·rfl
   ·rfl
   ·rfl
   ·omega
def Yj{l:List af}(h:¬(E.cut=true\/E.sure<E.l.length))(h1:eb l)(h2:d.dH (ep l)=0)(h3:¬n<4):lv E d l n=0/\ko E d l n=⟨l,l.length,E.cut⟩/\kp E d l n=jM d (ep l) 4:=by
 have a:¬n=0:=by omega
 refine⟨?_,?_,?_⟩
 ·unfold lv;grind
 ·unfold ko;grind
 ·unfold kp;rw[ar h,ar (yI h1),ar a,ar (yI h2),ar W,ar W,ar W];rfl
def OU(t:af):(gP t).size<=4096:=by
 unfold gP RD.oU;split
 ·rename_i h;obtain⟨-,a,-⟩:=h;unfold RD.cA;split
  ·rw[ib];omega
  ·exact bf _
 ·exact bf _
def DK.Still.aaI(h:d.Still)(n:Nat):(d.trim 0 n).Still:=by
 have a:¬0<jQ d.a:=by rw[h.none];simp[jQ]
 unfold DK.trim;rw[ar a];split
 ·exact h
 ·refine⟨?_,h.room,h.none⟩;have:=h.fit;simp[DK.jk,DK.file,ib];omega
def DK.Ok.still(h:d.Ok):DK.Still {d with a:=[]}:=⟨h.fit,h.room,rfl⟩
def Ud{s:af}{l:List af}(h:¬kA (s.extract g s.size)):pG s l g=(l,g):=Yb (R9.2 h)
def TY{y w:aa}{rest:List Y}{k:ab}(h:ae y w m (Y.dk g k d::rest))(hd:d.Ok)(C:d.f0.size=0):
 Calls prog 81 #[pV g] w λ r q=>∃o u a,r=ao (pV o)/\y.heap.size<=o/\ae y q m (Y.jr o g u (gg d)::Y.dk g a (iD d)::rest):=by
 have b:=Z h
 have c:=hd.still
 have J:=Z (λ f (h:(Y.dk g k d).P f)=>Hh h)
 obtain⟨D,e⟩:∃D:DK,{d with a:=[]}=D:=⟨_,rfl⟩
 have l:D.f0=d.f0:=by rw[<-e]
 have p:iD d=(D.trim 0 (nL d).2).trim 1 0:=by unfold iD DK.sync;rw[e]
 rw[e] at c J
 obtain⟨s,a⟩:∃s,d.f0=s:=⟨_,rfl⟩
 have j:nL d=pG s [] 0:=by unfold nL;rw[a]
 have t:gg d=⟨(nL d).1,(nL d).1.length,false⟩:=by unfold gg;with_reducible rfl
 rw[p,t]
 rw[a] at C
 have T:=Z C
 clear C
 have a4:s.size<=16777216:=by have:=hd.fit;have:=hd.room;rw[<-a];omega
 obtain⟨R,i⟩:∃R,pG s [] 0=R:=⟨_,rfl⟩
 rw[i] at j
 rw[j]
 have S:ai (∀(f:aa) (k:ab),(Y.dk g k D).P f->CB 159 #[pV g,O 0] f (ad s)):=Z (λ f k h=>by
  have:=Qg h.1 0 zD
  rw[au rfl,l,a] at this
  exact this)
 have K:ai (∀(f:aa) (k:ab) (n:Nat),(Y.dk g k D).P f->Calls prog 161 #[pV g,O 0,O (n:Int)] f λ r q=>r=ao (O (D.tG 0 n:Int))/\bk (Y.dk g k D) f q (Y.dk g k (D.trim 0 n))):=Z (λ f k n h=>Hi h c.eb 0 zD n)
 have L:ai (∀(f:aa) (k:ab) (n:Nat),(Y.dk g k (D.trim 0 n)).P f->Calls prog 161 #[pV g,O 1,O 0] f λ r q=>r=ao (O ((D.trim 0 n).tG 1 0:Int))/\bk (Y.dk g k (D.trim 0 n)) f q (Y.dk g k ((D.trim 0 n).trim 1 0))):=Z (λ f k n h=>Hi h (c.aaI n).eb 1 zD 0)
 have v:=Z i
 clear h hd c e l p a j t i
 go_enter func81,ntmps81
 go_upto_region 3 with(first|refine KB b 227 12 _ λ X Q N b=>?_|go_at_call 96;(refine(J.U _ (b.U.get (i:=0) rfl)).mono ?_);rintro e n ⟨rfl,c⟩;have j:=b.U.at 0 rfl c;simp only[av,ax] at j;replace b:=Z j;clear j;clear c)
 replace b:=Z (b.U.eM (Y.ow 9 1 (ag none 0 0) 0 (bh [])) (di _ _ _ _) rfl)
 go_upto_region 4 with((go_at_call 159;(refine(S.U _ _ (b.U.get (i:=2) rfl)).mono ?_);rintro e n ⟨rfl,p⟩;replace b:=Z (b.U.below p);clear p))
 go_loopw [5] (λ t wr=>∃(a:Nat) (l:List af) (u:ab),a<=s.size/\l.length<=a/\t=O (a:Int)/\ai (pG s l a=R)/\ai (ae y wr m (Y.ow 9 1 u l.length (bh l)::Y.row X 227 [pV g,u,O 0,aK false]::Y.dk g (ag none 0 0) D::rest))) (λ t _=>s.size-(intOf t).toNat)
 case atStart=>exact⟨0,[],ag none 0 0,bf _,bf _,rfl,v,b⟩
 case round=>
  clear b v
  obtain⟨a,l,u,a1,a3,rfl,I,b⟩:=hrel
  obtain⟨a6,a7,a0,-⟩:=da (show World.ownsRow _ 0 9 1 u l.length (bh l) from b.U.get (i:=0) rfl)
  subst a0
  obtain⟨t,x⟩:∃t,s.extract a s.size=t:=⟨_,rfl⟩
  obtain⟨B,v⟩:∃B,gP t=B:=⟨_,rfl⟩
  obtain⟨F,hF⟩:∃F,bF B=F:=⟨_,rfl⟩
  have A:=λ f=>I7 f B (by rw[<-v];have:=OU t;omega)
  rw[hF] at A
  have G:=Z A
  have E:ai (∀(f:aa) (o:Nat),(Y.rd o ⟨t,0⟩).P f->Calls prog 12 #[pV o,O 4096] f λ r q=>r=ao (ad B)/\bk (Y.rd o ⟨t,0⟩) f q (Y.rd o ((⟨t,0⟩:RD).oV 4096))):=Z (λ f o h=>by rw[<-v];exact Gf h 4096)
  have M:=ir F
  have P:t.size=s.size-a:=by rw[<-x,ib,Nat.min_self]
  have c:kA t↔(¬F.size=0/\F.size<=t.size/\t.extract 0 F.size=F):=by
   have e:kA t=(¬(bF (gP t)).size=0/\(bF (gP t)).size<=t.size/\t.extract 0 (bF (gP t)).size=bF (gP t)):=by unfold kA;with_reducible rfl
   rw[e,v,hF]
  have q:=Z x
  have z:¬kA t->pG s l a=(l,a):=λ h=>Ud (by rw[q.U];exact h)
  rw[P] at c
  rw[I.U] at z
  have H:=Z z
  clear A v hF P z I
  by_cases f:F.size=0
  ·have o:=Z (H.U (λ h=>(c.1 h).1 f))
   rw[aT (xA f)] at M
   clear f c x
   go_wp2_with(first|refine Kl b ?_|refine KS b λ Q b=>?_|go_at_call 10;rw[q.U];(refine(ux t b.U).mono ?_);rintro e n ⟨v,rfl,A,j⟩;replace b:=Z j;clear j|go_at_call 12;(refine(E.U _ _ (b.U.get (i:=0) rfl)).mono ?_);rintro e n ⟨rfl,c⟩;replace b:=Z ((b.U.at 0 rfl c).tail);clear c|go_at_call 160;(refine(G.U _).mono ?_);rintro e n ⟨rfl,p⟩;replace b:=Z (b.U.below p);clear p|(go_at_call 161;(first|(refine(K.U _ _ _ (b.U.get (i:=2) rfl)).mono ?_)|(refine(L.U _ _ _ (b.U.get (i:=2) rfl)).mono ?_));rintro e n ⟨rfl,c⟩;have j:=b.U.at 2 rfl c;simp only[av,ax] at j;replace b:=Z j;clear j;clear c))
   go_ret
   rw[o.U]
   exact⟨_,_,_,rfl,N,(b.U.ft [1]).eX⟩
  ·rw[bm (λ h=>f (by rw[h];rfl))] at M
   by_cases r:F.size<=s.size-a
   ·exact absurd r (by have:=T.U;omega)
   ·have a2:decide ((s.size:Int)-(a:Int)<(F.size:Int))=true:=by simp;omega
    have o:=Z (H.U (λ h=>r (c.1 h).2.1))
    clear f r c x
    go_wp2_with(first|refine Kl b ?_|refine KS b λ Q b=>?_|go_at_call 10;rw[q.U];(refine(ux t b.U).mono ?_);rintro e n ⟨v,rfl,A,j⟩;replace b:=Z j;clear j|go_at_call 12;(refine(E.U _ _ (b.U.get (i:=0) rfl)).mono ?_);rintro e n ⟨rfl,c⟩;replace b:=Z ((b.U.at 0 rfl c).tail);clear c|go_at_call 160;(refine(G.U _).mono ?_);rintro e n ⟨rfl,p⟩;replace b:=Z (b.U.below p);clear p|(go_at_call 161;(first|(refine(K.U _ _ _ (b.U.get (i:=2) rfl)).mono ?_)|(refine(L.U _ _ _ (b.U.get (i:=2) rfl)).mono ?_));rintro e n ⟨rfl,c⟩;have j:=b.U.at 2 rfl c;simp only[av,ax] at j;replace b:=Z j;clear j;clear c))
    go_ret
    rw[o.U]
    exact⟨_,_,_,rfl,N,(b.U.ft [1]).eX⟩
variable{N:ND}
def cq.only{w a:aa}(h:cq w)(q:aW w.heap.size m w a)(s:∀k∈m,7<=k):cq a:=by
 have r:=h.a.lt;have g:∀k,k<7->a.heap[k]?=w.heap[k]?:=λ k e=>q.block k W (λ f=>by grind);obtain⟨⟨⟨t,j,b⟩,t2,k,c⟩,⟨⟨t3,l,d⟩,t4,n,e⟩,⟨t5,o,f⟩,⟨t6,p,i⟩⟩:=h;exact⟨⟨⟨t,j,(g 5 zD).trans b⟩,t2,k,(g 6 zD).trans c⟩,⟨⟨t3,l,(g 1 zD).trans d⟩,t4,n,(g 2 zD).trans e⟩,⟨t5,o,(g 3 zD).trans f⟩,⟨t6,p,(g 0 zD).trans i⟩⟩
structure TM(m:List Nat)(w:aa):Prop where
 a:cq w
 cE:∀k∈m,7<=k
def TM.at{a w:aa}(h:TM m a)(b:ae a w m I):cq w:=h.a.only b.only h.cE
structure NA where
 g:Nat
 b:Nat
 lc:Nat
 f:Nat
 c:Nat
 d:Nat
 e:Nat
 rg:Nat
 a:Nat
 h:ab
variable{T:NA}
structure NV where
 pv:ab
 a:ab
 hv:ab
 ys:List ab
abbrev ND.cells(n:ND)(a:NA):List ab:=[a.h,O (n.c.cj:Int),O (n.c.room:Int),U (n.c.every:Int),U (n.c.a:Int),U (n.c.rc.base:Int),U (n.c.rc.j:Int),U (n.c.rc.span:Int),O (n.c.rc.i:Int),O (n.c.rc.room:Int),
 ag (some ⟨a.b,0,none⟩) 1 a.lc,pV a.f,pV a.c,.map (some a.rg),O (n.id:Int),U (n.bX:Int),U (n.tell:Int),O (n.cd:Int)]
def YU(o:Option RQ):Nat:=match o with|none=>0|some r=>r.id
def mI(o:Option RQ):Option (Nat×Nat×Nat):=match o with|none=>none|some r=>some (r.id,r.k,r.dZ)
def pN(o:Option RQ):List (Int×ab):=match o with|none=>[]|some r=>[((r.id:Int),r.m.val (ag none 0 0) (ag none 0 0) (ag none 0 0))]
abbrev ND.mL(n:ND)(x:NV):List ab:=ad n.c.key::Value.bool n.st.bz::Value.int .u64 (n.st.az.size:Int)::Value.int .u64 (n.st.az.time:Int)::ad n.st.az.aE::ad n.st.az.a::x.pv::ad n.st.aR::Value.int .u64 (n.l:Int)::Value.int .u64 (n.next:Int)::Value.int .i64 (YU n.g:Int)::x.ys
abbrev JS(a:NA)(x:NV)(n:ND):List Y:=[Y.row a.g 139 (n.cells a),Y.row a.b 133 (n.mL x),Y.ho x.pv n.st.f,Y.jr a.f a.a x.a n.j,Y.rt a.c a.d a.e x.hv n.c.rc (mI n.g),Y.mp a.rg (pN n.g)]
def Y.bd(a:NA)(x:NV)(n:ND):Y:=Y.all (JS a x n)
def ta{w wr:aa}{rest:List Y}{x:NV}(h:ae w wr m (Y.bd T x N::rest)):ae w wr m (Y.row T.g 139 (N.cells T)::Y.row T.b 133 (N.mL x)::Y.ho x.pv N.st.f::Y.jr T.f T.a x.a N.j::Y.rt T.c T.d T.e x.hv N.c.rc (mI N.g)::Y.mp T.rg (pN N.g)::rest):=ae.MP h
def nP{w wr:aa}{rest:List Y}(a:NA)(x:NV)(n:ND)(h:ae w wr m (Y.row a.g 139 (n.cells a)::Y.row a.b 133 (n.mL x)::Y.ho x.pv n.st.f::Y.jr a.f a.a x.a n.j::Y.rt a.c a.d a.e x.hv n.c.rc (mI n.g)::Y.mp a.rg (pN n.g)::rest)):ae w wr m (Y.bd a x n::rest):=ae.JJ (JS a x n) h
def lA{w:aa}{x:NV}(h:(Y.bd T x N).P w):(Y.row T.g 139 (N.cells T)).P w:=h.1 _ (.head _)
def rm{w:aa}{x:NV}(h:(Y.bd T x N).P w):(Y.row T.b 133 (N.mL x)).P w:=h.1 _ (.tail _ (.head _))
def yG{w:aa}{x:NV}(h:(Y.bd T x N).P w):(Y.ho x.pv N.st.f).P w:=h.1 _ (.tail _ (.tail _ (.head _)))
structure RQ.Ok(r:RQ):Prop where
 t:1<=r.id
 s:r.id<=1000000000
 k:r.k<=1000
 dZ:r.dZ<18446744073709551616
 m:(r.m=ki r.id)\/∃a b,a<18446744073709551616/\b<18446744073709551616/\r.m=uO r.id a b
structure CF.bR(c:CF):Prop where
 key:c.key.size=32
 cj:c.cj<=63
 e:1<=c.room
 a:c.room<=16
 i:1<=c.every
 d:c.every<=1099511627776
 g:1<=c.a
 b:c.a<=1099511627776
 rc:c.rc.bR
structure ND.Ok(n:ND):Prop where
 c:n.c.bR
 az:n.st.az.Ok
 o:n.st.f.length<=1000
 f:∀h∈n.st.f,h.Ok
 l:n.l<18446744073709551616
 next:n.next<18446744073709551616
 bX:n.bX<18446744073709551616
 tell:n.tell<18446744073709551616
 cd:n.cd<=1000
 t:1<=n.id
 s:n.id<=1000000
 g:∀r,n.g=some r->r.Ok
 q:n.j.l.length<=100000
 d:n.d.Ok
 dl:n.d.a.length<=1000
def PU(k:Nat)(w:aa):Calls prog 85 #[O (k:Int)] w λ r a=>r=ao (aK (counts k))/\w=a:=by
 have f:((k:Int)==1)=decide (k=1):=by rw[bw];simp;omega
 have g:((k:Int)==3)=decide (k=3):=by rw[bw];simp;omega
 have h:((k:Int)==4)=decide (k=4):=by rw[bw];simp;omega
 have i:((k:Int)==5)=decide (k=5):=by rw[bw];simp;omega
 have e:counts k=(decide (k=1)||(decide (k=3)||(decide (k=4)||decide (k=5)))):=rfl;rw[e];generalize decide (k=1)=a at*;generalize decide (k=3)=b at*;generalize decide (k=4)=c at*;generalize decide (k=5)=d at*;cases a<;>cases b<;>cases c<;>cases d
 all_goals
  go_enter func85,ntmps85
  go_wp2
  go_ret
  exact⟨rfl,rfl⟩
def tD{w:aa}(d:cq w)(h:Int)(y:MG)(k:y.Ok){pB f pM:ab}(c:y.Rd w pB f pM)(j:y.b.a.size=y.b.b.size):CB 209 #[O h,y.val pB f pM] w (aG #[O h,ad y.enc]):=by
 have a:=Z (ae.start w []);have g:=Z (λ e (b:BW w e)=>De y k pB f pM e (d.below b).a (d.below b).bz (c.below b) j);obtain⟨m,p,rfl⟩:=c.b.form;obtain⟨o,r,rfl⟩:=c.p.form;obtain⟨n,q,rfl⟩:=c.m.jN;obtain⟨E,i⟩:∃E,y.enc=E:=⟨_,rfl⟩;rw[i] at g⊢;clear d k c i j
 go_enter func209,ntmps209
 go_wp2_with(first|refine KT a 20 ?_|refine KS a λ l a=>?_|refine KA a _ 4 Nf λ t l v a=>?_|refine KB a 81 3 (y.cells _ _ _) λ s l u a=>?_|go_at_call 30;(refine(g.U _ a.U.aq).mono ?_);rintro e x ⟨rfl,b⟩;replace a:=Z (a.U.below b);clear b)
 refine ha a.U 0 rfl 272 2 rfl rfl zR rfl rfl ?_;exact⟨rfl,a.U.aq⟩
def VR{w:aa}(h:(Y.row T.g 139 (N.cells T)).P w):CB 73 #[pV T.g,O 0] w (aK true):=by
 have a:=Z (ae.start w []);have b:=Z (aX h bg);clear h
 go_enter func73,ntmps73
 go_wp2_with(refine KH (a.U.bT b.U) ?_)
 go_ret
 exact⟨rfl,a.U.aq⟩
def JR{w:aa}{x:NV}(h:(Y.bd T x N).P w)(s:N.st.f.length<=1000):Calls prog 24 #[pV T.g,O 0] w λ r b=>∃A c,r=ao (N.st.val (ag A N.st.f.length c))/\BW w b:=by
 have a:=Z (ae.start w []);have f:=Z (aX (lA h) (aX (rm h) bg));have e:=sS (yG h) W;have l:=Z (λ d (b:BW w d)=>VR ((Y.row T.g 139 (N.cells T)).st w d (λ k g=>b.block k ((Y.row T.g 139 (N.cells T)).lt w (lA h) k g)) (lA h)));have j:=Z (λ d (b:BW w d)=>G7 (e.below b) W);obtain⟨pA,C,g⟩:=e.form;obtain⟨v,A,z,u,I,B,p,G,m,y⟩:=T;obtain⟨D,H,t,J⟩:=x;simp only at g;subst g;clear h e
 go_enter func24,ntmps24
 go_wp2_with(first|refine KH (a.U.bT f.U) ?_|refine KT a 7 ?_|refine KI (a.U.bT f.U) 7 ?_|refine Kl a ?_|refine KS a λ i a=>?_|refine KA a _ 4 mR λ n i q a=>?_|refine KA a _ 5 mR λ o i r a=>?_|go_at_call 73;(refine(l.U _ a.U.aq).mono ?_);rintro e k ⟨rfl,b⟩;replace a:=Z (a.U.below b);clear b|go_at_call 74;(refine(j.U _ a.U.aq).mono ?_);rintro e k ⟨E,F,rfl,d,b⟩;replace a:=Z (a.U.gT b d);clear b d)
 refine ha a.U 2 rfl 62 7 rfl rfl zR rfl rfl ?_;exact⟨_,_,rfl,a.U.aq⟩
