import Derived.Test.YtncpbkoinennoaaGreatDoorMBC
set_option linter.all false
set_option maxRecDepth 100000
set_option maxHeartbeats 0
namespace Go.Proofs.YtncpbkoinennoaaGreatDoor
open Go.RowKit Proofs.Tryz
attribute [local irreducible] wpList Calls
variable{J K:Y}{m:List Nat}{g k n:Nat}
def WI{w:aa}{d:ab}{c:RC}(h:(Y.rt g n k d c none).P w)(j s:Nat):Calls prog 255 #[pV g,U (j:Int),U (s:Int)] w λ r a=>
 r=ao (aJ #[ad none 0 0,ad none 0 0])/\bj (Y.rt g n k d c none) w a (Y.rt g n k d c none):=by
 have a:=sJ (af.self h)
 generalize e:(Y.rt g n k d c none).bs=m at*
 have b:=Z a
 have l:=Z e
 have o:=Z (λ p (h:(Y.th k d c.room []).P p)=>YX h j)
 clear h a e
 go_enter zW,Ar
 go_wp2_with(first|refine Kl b ?_|go_at_call 286;(refine(o.U _ (b.U.get (i:=2) rfl)).mono ?_);rintro e t ⟨rfl,f⟩;have a:=b.U.at 2 rfl f;simp only[au,ay] at a;replace b:=Z a;clear a;clear f)
 go_loopw [6,7,18] (λ p q r wr=>p=ad none 0 0/\q=ad none 0 0/\r=O 0/\ai (af w wr m [Y.row g 224 (c.iD n k),Y.mp n (xX none),Y.th k d c.room []])) (λ _ _ _ _=>0)
 case atStart=>exact⟨rfl,rfl,rfl,b⟩
 case round=>
  clear b
  obtain⟨rfl,rfl,rfl,b⟩:=hrel
  go_wp2
  refine iI rfl rfl rfl rfl ?_
  have a:=qV none b.U
  rw[<-l.U] at a
  exact⟨rfl,a.gQ⟩
def WL{w:aa}{a:Nat}{f:ab}{c:RC}{id bt:Nat}(h:(Y.rt g n a f c (some (id,k,bt))).P w)(l u:Nat)(o:l<bt):Calls prog 255 #[pV g,U (l:Int),U (u:Int)] w λ r b=>
 r=ao (aJ #[ad none 0 0,ad none 0 0])/\∃j,bj (Y.rt g n a f c (some (id,k,bt))) w b (Y.rt g n a j c (some (id,k,bt))):=by
 have b:=sJ (af.self h)
 generalize e:(Y.rt g n a f c (some (id,k,bt))).bs=m at*
 have d:ai (af w w m [Y.row g 224 (c.iD n a),Y.mp n [((id:Int),O (k:Int))],Y.th a f c.room [(bt,id)]]):=Z b
 have q:=Z e
 have r:=Z (λ s (h:(Y.th a f c.room [(bt,id)]).P s)=>YY h l o)
 clear h b e o
 go_enter zW,Ar
 go_wp2_with(first|refine Kl d ?_|go_at_call 286;(refine(r.U _ (d.U.get (i:=2) rfl)).mono ?_);rintro e x ⟨rfl,j,p⟩;have b:=d.U.at 2 rfl p;simp only[au,ay] at b;replace d:=Z b;clear b;clear p)
 go_loopw [6,7,18] (λ s t v wr=>s=ad none 0 0/\t=ad none 0 0/\v=O 0/\ai (af w wr m [Y.row g 224 (c.iD n a),Y.mp n [((id:Int),O (k:Int))],Y.th a j c.room [(bt,id)]])) (λ _ _ _ _=>0)
 case atStart=>exact⟨rfl,rfl,rfl,d⟩
 case round=>
  clear d
  obtain⟨rfl,rfl,rfl,d⟩:=hrel
  go_wp2
  refine iI rfl rfl rfl rfl ?_
  have b:=qV (some (id,k,bt)) d.U
  rw[<-q.U] at b
  exact⟨rfl,_,b.gQ⟩
def JK{w wr c:aa}{B b:Y}{id:Nat}(i:af w wr m [J,B,K])(j:bj K wr c (Y.star b (Y.ow 3 1 (ad (some ⟨g,0,none⟩) 1 n) 1 [O (id:Int)]))):
 ∃a,af w c m [Y.row g 3 (O (id:Int)::a),b,J,B]:=by
 have f:=((i.ft [2]).bN j).fZ
 obtain⟨e,k,a,e1,-,-,-,h⟩:=nL f 1 rfl zD
 have d:g=e:=by injection e1 with e1;injection e1 with e1;injection e1
 subst d
 exact⟨a,h.ft [1]⟩
def WK{w:aa}{d:Nat}{f:ab}{c:RC}{id bt:Nat}(h:(Y.rt g n d f c (some (id,k,bt))).P w)(o A:Nat)(v:bt<=o)(u:c.i<=k):Calls prog 255 #[pV g,U (o:Int),U (A:Int)] w λ r a=>
 ∃p q j,r=ao (aJ #[ad none 0 0,ad (some ⟨p,0,none⟩) 1 q])/\bj (Y.rt g n d f c (some (id,k,bt))) w a (Y.star (Y.rt g n d j c none) (Y.ow 3 1 (ad (some ⟨p,0,none⟩) 1 q) 1 [O (id:Int)])):=by
 have b:=sJ (af.self h)
 generalize e:(Y.rt g n d f c (some (id,k,bt))).bs=m at*
 have a:ai (af w w m [Y.row g 224 (c.iD n d),Y.mp n [((id:Int),O (k:Int))],Y.th d f c.room [(bt,id)]]):=Z b
 have y:=Z e
 have z:=Z (λ l (h:(Y.th d f c.room [(bt,id)]).P l)=>KD h o v)
 have d1:decide ((c.i:Int)<=(k:Int))=true:=aS W
 have d2:decide (c.i<=k)=true:=aS u
 clear h b e v u
 go_enter zW,Ar
 go_wp2_with(first|refine Kl a ?_|go_at_call 286;(refine(z.U _ (a.U.get (i:=2) rfl)).mono ?_);rintro e F ⟨p,q,j,rfl,x⟩;obtain⟨C,b⟩:=JK a.U x;replace a:=Z b;clear b;clear x)
 replace a:=Z (a.U.dj (Y.ow 3 1 (ad none 0 0) 0 []) (ct _ _ _ _) rfl)
 go_loopw [6,7,18] (λ r s l wr=>r=ad none 0 0/\((s=ad none 0 0/\l=O 0/\ai (af w wr m [Y.ow 3 1 (ad none 0 0) 0 [],Y.row p 3 (O (id:Int)::C),Y.th d j c.room [],Y.row g 224 (c.iD n d),Y.mp n [((id:Int),O (k:Int))]]))
  \/∃p1 r:Nat,s=ad (some ⟨p1,0,none⟩) 1 r/\l=O 1/\ai (af w wr m [Y.ow 3 1 (ad (some ⟨p1,0,none⟩) 1 r) 1 [O (id:Int)],Y.th d j c.room [],Y.row g 224 (c.iD n d),Y.mp n []]))) (λ _ _ l _=>1-(intOf l).toNat)
 case atStart=>exact⟨rfl,.inl ⟨rfl,rfl,a⟩⟩
 case round=>
  clear a
  obtain⟨rfl,⟨rfl,rfl,a⟩|⟨p1,r,rfl,rfl,a⟩⟩:=hrel
  ·go_wp2_with(first|refine Kl a ?_|(with_reducible show iq);(refine Lk a.U 4 rfl rfl uf rfl rfl rfl (qD _ _ _) ?_)|refine Md a.U 4 rfl rfl (t:=222) (k:=3) (e:=3) V V rfl rfl rfl λ l b=>?_;simp only[au,ay] at b;rw[xn] at b;replace a:=Z b;clear b|(with_reducible show cH);(refine Mk a.U rfl 42 rfl (some 1) 3 [_] (by go_simp;(exact⟨rfl,rfl⟩)) ?_;intro D l E b;replace a:=Z b;clear b;simp only[bk])|refine Ap a.U rfl Bm rfl 1 rfl rfl 0 rfl rfl rfl rfl zD zD λ B s l b=>?_;simp only[au,ay] at b;replace a:=Z b;clear b)
   exact⟨⟨rfl,.inr ⟨B,s,rfl,rfl,Z (a.U.tail.fs [1,1000])⟩⟩,by decide⟩
  ·go_wp2
   refine iI rfl rfl rfl rfl ?_
   have b:=(qV none (a.U.ft [1,3]|>.ar 3 rfl))
   rw[<-y.U] at b
   exact⟨_,_,_,rfl,b.kt⟩
def WJ{w:aa}{d:Nat}{l:ab}{c:RC}{id bt:Nat}(h:(Y.rt g n d l c (some (id,k,bt))).P w)(s:c.bL)(j f:Nat)(C:j<18446744073709551616)(B:f<18446744073709551616)(D:bt<=j)(M:k<c.i):Calls prog 255 #[pV g,U (j:Int),U (f:Int)] w λ r a=>
 ∃p q t,r=ao (aJ #[ad (some ⟨p,0,none⟩) 1 q,ad none 0 0])/\bj (Y.rt g n d l c (some (id,k,bt))) w a (Y.star (Y.rt g n d t c (some (id,k+1,bw j (gR c k f)))) (Y.ow 3 1 (ad (some ⟨p,0,none⟩) 1 q) 1 [O (id:Int)])):=by
 have b:=sJ (af.self h)
 generalize r:(Y.rt g n d l c (some (id,k,bt))).bs=m at*
 have a:ai (af w w m [Y.row g 224 (c.iD n d),Y.mp n [((id:Int),O (k:Int))],Y.th d l c.room [(bt,id)]]):=Z b
 have G:=Z r
 have H:=Z (λ e (h:(Y.th d l c.room [(bt,id)]).P e)=>KD h j D)
 have o:k<=1000:=by have:=s.t2;omega
 have J:=Z (λ e=>Lc c s.ok k W f B e)
 have E:=Z (λ e=>nR j (gR c k f) C (iX _ _) e)
 have I:=Z (λ e l (h:(Y.th d l c.room []).P e)=>KF h s.r1 id (bw j (gR c k f)))
 generalize bw j (gR c k f)=A at*
 generalize gR c k f=wt at*
 have d1:decide ((c.i:Int)<=(k:Int))=false:=bu W
 have d2:decide (c.i<=k)=false:=bu W
 have F:=Z o
 clear h b r D M C B s o
 go_enter zW,Ar
 go_wp2_with(first|refine Kl a ?_|go_at_call 286;(refine(H.U _ (a.U.get (i:=2) rfl)).mono ?_);rintro e y ⟨p,q,t,rfl,r⟩;obtain⟨N,b⟩:=JK a.U r;replace a:=Z b;clear b;clear r)
 replace a:=Z (a.U.dj (Y.ow 3 1 (ad none 0 0) 0 []) (ct _ _ _ _) rfl)
 go_loopw [6,7,18] (λ z u o wr=>u=ad none 0 0/\((z=ad none 0 0/\o=O 0/\ai (af w wr m [Y.ow 3 1 (ad none 0 0) 0 [],Y.row p 3 (O (id:Int)::N),Y.th d t c.room [],Y.row g 224 (c.iD n d),Y.mp n [((id:Int),O (k:Int))]]))
  \/∃(p1 x:Nat) (u:ab),z=ad (some ⟨p1,0,none⟩) 1 x/\o=O 1/\ai (af w wr m [Y.ow 3 1 (ad (some ⟨p1,0,none⟩) 1 x) 1 [O (id:Int)],Y.th d u c.room [(A,id)],Y.row g 224 (c.iD n d),Y.mp n [((id:Int),O ((k+1:Nat):Int))]]))) (λ _ _ o _=>1-(intOf o).toNat)
 case atStart=>exact⟨rfl,.inl ⟨rfl,rfl,a⟩⟩
 case round=>
  clear a
  obtain⟨rfl,⟨rfl,rfl,a⟩|⟨p1,x,u,rfl,rfl,a⟩⟩:=hrel
  ·have R:IntKind.wrap .i64 ((k:Int)+1)=((k+1:Nat):Int):=by have:=F.U;rw[fS]<;>omega
   go_upto_region 9 with(first|refine Kl a ?_|(with_reducible show iq);(refine Lk a.U 4 rfl rfl uf rfl rfl rfl (qD _ _ _) ?_)|(with_reducible show wpList _ _ _ (⟨_,.mapUpdate _ _ _ _,_,_,_,_⟩::_) _ _);(refine Mu a.U 4 rfl rfl uf rfl rfl rfl (v:=O ((k+1:Nat):Int)) (by show Value.int .i64 _=_;congr 1) ?_;intro z b;simp only[au,ay] at b;rw[Vb] at b;replace a:=Z b;clear b))
   refine RG a 14 [3] λ S a o=>?_
   refine VV [0,1,2,2003,4,5,6,7,8] o ?_
   refine WR 9 5 o ?_
   refine VV [10,11] o ?_
   refine KW a o 12 (en 288) (J.U _) ?_;clear a o;intro y a o
   refine KV 13 (en 139) 64 ?_
   refine(E.U _).mono ?_
   rintro e y ⟨rfl,rfl⟩
   refine⟨_,rfl,bo a [3],?_⟩
   simp only[aH,au,ay]
   refine WT ?_
   go_wp2_with(first|(with_reducible show cH);(refine Mk a.U rfl 68 rfl (some 1) 3 [_] (by go_simp;(exact⟨rfl,rfl⟩)) ?_;intro P z Q b;replace a:=Z b;clear b;simp only[bk])|refine Ap a.U rfl Bm rfl 1 rfl rfl 0 rfl rfl rfl rfl zD zD λ L K z b=>?_;simp only[au,ay] at b;replace a:=Z b;clear b|go_at_call 287;(refine(I.U _ _ (a.U.get (i:=2) rfl)).mono ?_);rintro e y ⟨rfl,u,r⟩;have b:=a.U.at 2 rfl r;simp only[au,ay] at b;replace a:=Z b;clear b;clear r)
   exact⟨⟨rfl,.inr ⟨L,K,_,rfl,rfl,Z (a.U.tail.fs [1,1000])⟩⟩,by decide⟩
  ·go_wp2
   refine iI rfl rfl rfl rfl ?_
   have b:=(qV (some (id,k+1,A)) (a.U.ft [1,3]|>.ar 3 rfl))
   rw[<-G.U] at b
   exact⟨_,_,_,rfl,b.kt⟩
variable{d:DK}{E:JN}
def Qs{L:List ag}(h:g<L.length)(b:cd (L.take g))(h1:¬(aY L[g]).size=0):cd (L.take (g+1)):=by
 intro s a;rw[dC h,eJ,ot] at a;rcases a with a|rfl
 ·exact b s a
 ·exact h1
def QQ{L:List ag}(h:g<L.length):bm (L.take (g+1))=bm (L.take g)++aY L[g]:=by
 rw[dC h,BM]
def G4:∀L:List ag,(bm L).size<=4110*L.length
 |[]=>aW _
 |s::l=>by
  rw[bm,gU,fU]
  have:=(se s).1
  have:=G4 l
  omega
def To{w:aa}{v:ab}{L:List ag}(h:bg w v L)(k:∀s∈L,s.size<=1000000)(E:L.length<=1000000):
 CB 273 #[v] w (aJ #[ae (if cd L then bm L else⟨#[]⟩),aF (decide (cd L))]):=by
 have a:=Z (af.start w [])
 obtain⟨A,C,rfl,b,c⟩:=h
 have r:=Z c
 have t:=Z k
 clear c k b
 go_enter func273,ntmps273
 go_wp2
 go_loopw [4,10] (λ d b wr=>∃j:Nat,j<=L.length/\b=O (j:Int)/\d=ae (bm (L.take j))/\ai (cd (L.take j))/\ai (af w wr [] [])) (λ _ b _=>L.length-(intOf b).toNat)
 case atStart=>exact⟨0,bh _,rfl,rfl,Z (λ s k=>by simp at k),a⟩
 case round=>
  clear a
  obtain⟨j,D,rfl,rfl,i,a⟩:=hrel
  by_cases g:j<L.length
  ·obtain⟨b,o,u,d,hx⟩:=r.U j g
   subst u
   have y:(j:Int)<(L.length:Int):=by omega
   have c:=Z g
   obtain⟨x,e⟩:∃x,L[j]=x:=⟨_,rfl⟩
   have f:∀l,CB 160 #[ae x] l (ae (aY x)):=λ l=>B6 l x (t.U x (by rw[<-e];exact cY g))
   have l:w.cell? ⟨b,o+j,none⟩=some (ae x):=by rw[<-e];exact hx
   have n:=Z l
   clear l
   have p:=Z e
   obtain⟨F,hF⟩:∃F,aY x=F:=⟨_,rfl⟩
   rw[hF] at f
   have l:=Z f
   have q:=gn F
   clear hx d g e f
   by_cases f:F.size=0
   ·have B:ai (¬cd L):=Z (λ h=>by
     have:=h x (by rw[<-p.U];exact cY c.U)
     rw[hF] at this;exact this f)
    rw[aS (tB f)] at q
    clear f hF
    go_wp2_with(first|refine tc rfl 9 rfl rfl a.U.ak n.U V ?_|go_at_call 160;(refine(l.U _).mono ?_);rintro e z ⟨rfl,d⟩;replace a:=Z (a.U.below d);clear d)
    refine iI rfl rfl rfl rfl ?_
    exact⟨rfl,a.U.ak⟩
   ·rw[bu (λ h=>f (by rw[h];rfl))] at q
    have e0:aY (L[j]'c.U)=F:=(congrArg aY p.U).trans hF
    have s:=Z (Qs c.U i.U (by rw[e0];exact f))
    have m:=Z (show bm (L.take (j+1))=bm (L.take j)++F by rw[QQ c.U,e0])
    clear e0
    have G:(bm (L.take j)).size+F.size<=9223372036854775807:=by
     have e:=G4 (L.take (j+1))
     rw[m.U,gU,ee] at e
     have:=c.U
     omega
    clear f hF i
    go_wp2_with(first|refine tc rfl 9 rfl rfl a.U.ak n.U V ?_|go_at_call 160;(refine(l.U _).mono ?_);rintro e z ⟨rfl,d⟩;replace a:=Z (a.U.below d);clear d)
    exact⟨⟨j+1,by have:=c.U;omega,by go_num,by rw[m.U],s,a⟩,by have:=c.U;simp[intOf];omega⟩
  ·have y:decide (j<L.length)=false:=by simp;omega
   have e:j=L.length:=by omega
   have f:cd L:=by have:=i.U;rwa[e,lO] at this
   have s:=Z f
   have m:ai (bm (L.take j)=bm L):=Z (by rw[e,lO])
   clear g e f i
   go_wp2
   refine iI rfl rfl rfl rfl ?_
   exact⟨by rw[m.U],a.U.ak⟩
def TG{a:ab}{w:aa}(h:(Y.jr g n a E).P w)(b:E.l.length<=1000000):(Y.row g 227 (E.cells n a)).P w/\bg w a E.l:=⟨h.1,hn h.2.1 (by unfold maxLen;omega)⟩
def Ts{w:aa}{j:ab}(h:(Y.jr g n j E).P w)(i:E.l.length<=1000000):Calls prog 82 #[pV g] w λ r a=>∃A c,r=ao (ad A E.l.length c)/\bP w.heap.size a (ad A E.l.length c) E.l/\BW w a:=by
 obtain⟨b,a⟩:=TG h i;have d:=Z (aP b bf);have f:=Z (wu a W);obtain⟨pA,l,rfl⟩:=a.form;have k:=Z (af.start w []);clear h b a
 go_enter func82,ntmps82
 go_wp2_with(first|refine il (d.U) 0 rfl rfl 64 rfl rfl V rfl ?_|go_at_call 80;(refine f.U.mono ?_);rintro e o ⟨⟨m,rfl,a⟩,b⟩)
 obtain⟨A,c,rfl⟩:=bP.form a
 go_ret
 exact⟨_,_,rfl,a,b⟩
def ym(k:Nat)(d:DK)(b:ag):Nat:=if k=0 then d.cC b else if k=1 then 0 else if k=2 then d.sQ else d.py 1 0
def sM(k:Nat)(d:DK)(b:ag):DK:=if k=0 then d.put 1 b else if k=1 then{d with a:=[]} else if k=2 then d.bN else d.trim 1 0
def Tu{s w:aa}{rest:List Y}{q f:ab}(h:af s w m (Y.jr g n q E::Y.dk n f d::rest))(hd:d.bL)(p:d.a.length<=1000000)(k:Nat)(x:k<4)(b:ag):
 Calls prog 274 #[pV g,O (k:Int),ae b] w λ r j=>r=ao (O (ym k d b:Int))/\∃l,af s j m (Y.jr g n q E::Y.dk n l (sM k d b)::rest):=by
 have c:=af.fZ h
 have a:=Z c
 have t:ai (∀e f,(Y.dk n f d).P e->Calls prog 300 #[pV n,O 1,ae b] e λ r j=>r=ao (O (d.cC b:Int))/\∃l,bj (Y.dk n f d) e j (Y.dk n l (d.put 1 b))):=Z (λ e f h=>F1 h hd.ok 1 zD b p)
 have v:=Z (λ e f (h:(Y.dk n f d).P e)=>ON h hd)
 have u:ai (∀e f,(Y.dk n f d).P e->Calls prog 161 #[pV n,O 1,O 0] e λ r j=>r=ao (O (d.py 1 0:Int))/\bj (Y.dk n f d) e j (Y.dk n f (d.trim 1 0))):=Z (λ e f h=>Bd h hd 1 zD 0)
 clear h c hd p
 rcases k with _|_|_|_|k
 ·show Calls prog 274 #[_,O 0,_] w _
  go_enter Aa,Au
  go_wp2_with(first|refine Kl a ?_|go_at_call 300;(refine(t.U _ _ (a.U.get (i:=2) rfl)).mono ?_);rintro e o ⟨rfl,l,j⟩;have c:=a.U.at 2 rfl j;simp only[au,ay] at c;replace a:=Z c;clear c;clear j)
  go_ret
  exact⟨rfl,_,a.U.cr⟩
 ·show Calls prog 274 #[_,O 1,_] w _
  go_enter Aa,Au
  go_wp2_with(first|refine Kl a ?_|go_at_call 96;(refine(Bc (a.U.get (i:=2) rfl)).mono ?_);rintro e o ⟨rfl,j⟩;have c:=a.U.at 2 rfl j;simp only[au,ay] at c;replace a:=Z c;clear c;clear j)
  go_ret
  exact⟨rfl,_,a.U.cr⟩
 ·show Calls prog 274 #[_,O 2,_] w _
  go_enter Aa,Au
  go_wp2_with(first|refine Kl a ?_|go_at_call 301;(refine(v.U _ _ (a.U.get (i:=2) rfl)).mono ?_);rintro e o ⟨rfl,j⟩;have c:=a.U.at 2 rfl j;simp only[au,ay] at c;replace a:=Z c;clear c;clear j)
  go_ret
  exact⟨rfl,_,a.U.cr⟩
 ·show Calls prog 274 #[_,O 3,_] w _
  go_enter Aa,Au
  go_wp2_with(first|refine Kl a ?_|go_at_call 161;(refine(u.U _ _ (a.U.get (i:=2) rfl)).mono ?_);rintro e o ⟨rfl,j⟩;have c:=a.U.at 2 rfl j;simp only[au,ay] at c;replace a:=Z c;clear c;clear j)
  go_ret
  exact⟨rfl,_,a.U.cr⟩
 ·omega
structure DK.Still(d:DK):Prop where
 fit:d.f0.size+d.f1.size<=d.room
 room:d.room<=16777216
 none:d.a=[]
def DK.Still.cd(h:d.Still):d.bL:=by
 obtain⟨f0,f1,l,r⟩:=d;obtain⟨a,b,c⟩:=h;simp only at a b c;subst c;exact⟨a,b,by simp[DK.ds],by simp[DK.ds],by simp[DK.ds,DA.eD],by simp[DK.ds,DA.eD]⟩
def DK.Still.ok{d:DK}(h:d.Still):d.Ok:=h.cd.ok
def DK.Still.put{d:DK}(h:d.Still)(f:Nat)(i:f<2)(s:ag):(d.put f s).bL/\(d.put f s).a.length<=1/\DK.Still {d.put f s with a:=[]}:=by
 obtain⟨f0,f1,l,r⟩:=d;obtain⟨b,a,e⟩:=h;simp only at b a e;subst e;unfold DK.put;by_cases c:(⟨f0,f1,[],r⟩:DK).free<s.size
 ·rw[ax c];exact⟨(DK.Still.cd ⟨b,a,rfl⟩),bh _,⟨b,a,rfl⟩⟩
 focus
  rw[aj c];have g:(⟨f0,f1,[],r⟩:DK).free=r-f0.size-f1.size:=rfl;rw[g] at c;rcases f with _|_|f;rotate_left;rotate_left
  ·omega
 all_goals
  refine⟨⟨?_,a,by simp[DK.ds],by simp[DK.ds],?_,?_⟩,aW _,⟨?_,a,rfl⟩⟩
  ·simp[DK.ds,DK.iY,DK.file,gU];omega
  ·simp[DK.ds,DK.iY,DK.file,DA.eD,gU]
  ·simp[DK.ds,DK.iY,DK.file,DA.eD,gU]
  ·simp[DK.iY,DK.file,gU];omega
def DK.Still.bN{d:DK}(h:d.Still):d.bN.Still/\d.sQ=0:=by
 have a:¬0<iR d.a:=by rw[h.none];simp[iR]
 unfold DK.bN DK.sQ;rw[aj a,aj a];exact⟨⟨by have:=h.fit;grind,h.room,h.none⟩,rfl⟩
def DK.Still.trim{d:DK}(h:d.Still):(d.trim 1 0).Still/\d.py 1 0=0:=by
 have a:¬0<iR d.a:=by rw[h.none];simp[iR]
 unfold DK.trim DK.py;rw[aj (jm _),aj (jm _),aj a,aj a];refine⟨⟨?_,h.room,h.none⟩,rfl⟩;have:=h.fit;simp[DK.iY,DK.file,ij];omega
def ez(d:DK)(b:ag):Nat->DK
 |0=>d
 |k+1=>sM k (ez d b k) b
def O0(h:d.Still)(b:ag)(k:Nat)(a:k<4):(ez d b k).bL/\(ez d b k).a.length<=1000000/\(1<=k->ym k (ez d b k) b=0):=by
 have p:=h.put 1 zD b;have t:=p.2.2.bN;have m:=t.1.trim;rcases k with _|_|_|_|k
 ·exact⟨h.cd,by show d.a.length<=1000000;rw[h.none];simp,λ h=>absurd h zD⟩
 ·exact⟨p.1,by have:=p.2.1;show(d.put 1 b).a.length<=_;omega,λ _=>rfl⟩
 ·exact⟨p.2.2.cd,bh _,λ _=>t.2⟩
 ·exact⟨t.1.cd,by
   have e:(ez d b 3).a=[]:=t.1.none;grind,λ _=>m.2⟩
 ·omega
def JE{l:List ag}(h:E.cut=true\/E.sure<E.l.length):iy E d l n=7/\iw E d l n=E/\ix E d l n=d:=by
 unfold iy iw ix;grind
def JC{l:List ag}(h:¬(E.cut=true\/E.sure<E.l.length))(h1:¬cd l):iy E d l n=1/\iw E d l n=E/\ix E d l n=d:=by
 unfold iy iw ix;grind
def JA{l:List ag}(h:¬(E.cut=true\/E.sure<E.l.length))(h1:cd l)(h2:¬n=0)(h3:¬d.cC (bm l)=0):iy E d l n=d.cC (bm l)/\iw E d l n=E/\ix E d l n=sM 0 d (bm l):=by
 have e2:d.put 1 (bm l)=d:=by
  unfold DK.cC at h3;unfold DK.put;split at h3
  ·grind
  ·omega
 have e3:sM 0 d (bm l)=d:=e2;rw[e3];unfold iy iw ix;grind
def JD{j:JN}{l:List ag}(h:¬(j.cut=true\/j.sure<j.l.length))(h1:cd l)(h2:n=0\/d.cC (bm l)=0)(h3:n<4):iy j d l n=7/\iw j d l n=⟨j.l,j.sure,true⟩/\ix j d l n=ez d (bm l) n:=by
 by_cases a:n=0
 ·subst a;refine⟨?_,?_,?_⟩
  ·unfold iy;grind
  ·unfold iw;grind
  ·unfold ix;rw[aj h,aj (xv h1)];rfl
 ·have b:d.cC (bm l)=0:=by
   rcases h2 with h2|h2
   ·omega
   ·exact h2
  refine⟨?_,?_,?_⟩
  ·unfold iy;grind
  ·unfold iw;grind
  ·unfold ix;rw[aj h,aj (xv h1),aj a,aj (xv b)];rcases n with _|_|_|_|n
   ·omega
   ·rfl
   ·rfl
   ·rfl
   ·omega
def JF{j:JN}{l:List ag}(h:¬(j.cut=true\/j.sure<j.l.length))(h1:cd l)(h2:d.cC (bm l)=0)(h3:¬n<4):iy j d l n=0/\iw j d l n=⟨l,l.length,j.cut⟩/\ix j d l n=ez d (bm l) 4:=by
 have a:¬n=0:=by omega
 refine⟨?_,?_,?_⟩
 ·unfold iy;grind
 ·unfold iw;grind
 ·unfold ix;rw[aj h,aj (xv h1),aj a,aj (xv h2),aj W,aj W,aj W];rfl
def No(t:ag):(eh t).size<=4096:=by
 unfold eh RD.oH;split
 ·rename_i h;obtain⟨-,a,-⟩:=h;unfold RD.cK;split
  ·rw[ij];omega
  ·exact bh _
 ·exact bh _
def DK.Still.Zv(h:d.Still)(n:Nat):(d.trim 0 n).Still:=by
 have a:¬0<iR d.a:=by rw[h.none];simp[iR]
 unfold DK.trim;rw[aj a];split
 ·exact h
 ·refine⟨?_,h.room,h.none⟩;have:=h.fit;simp[DK.iY,DK.file,ij];omega
def DK.Ok.still(h:d.Ok):DK.Still {d with a:=[]}:=⟨h.fit,h.room,rfl⟩
def TI{s:ag}{l:List ag}(h:¬iZ (s.extract g s.size)):eT s l g=(l,g):=Jt (BF.2 h)
def TH{s:ag}{l:List ag}{a:Nat}(h:iZ (s.extract a s.size)):eT s l a=eT s (l++[eh (s.extract a s.size)]) (a+(aY (eh (s.extract a s.size))).size):=by
 rw[Ju (λ b=>BF.1 b h),wN h]
def Tq{C w:aa}{rest:List Y}{o:ab}(h:af C w m (Y.dk g o d::rest))(hd:d.Ok):
 Calls prog 81 #[pV g] w λ r q=>∃p v a,r=ao (pV p)/\C.heap.size<=p/\af C q m (Y.jr p g v (eA d)::Y.dk g a (fG d)::rest):=by
 have b:=Z h
 have c:=hd.still
 have X:=Z (λ j (h:(Y.dk g o d).P j)=>Bc h)
 obtain⟨D,a⟩:∃D:DK,{d with a:=[]}=D:=⟨_,rfl⟩
 have k:D.f0=d.f0:=by rw[<-a]
 have l:fG d=(D.trim 0 (nD d).2).trim 1 0:=by unfold fG DK.sync;rw[a]
 rw[a] at c X
 obtain⟨s,e⟩:∃s,d.f0=s:=⟨_,rfl⟩
 have i:nD d=eT s [] 0:=by unfold nD;rw[e]
 have t:eA d=⟨(nD d).1,(nD d).1.length,false⟩:=by unfold eA;with_reducible rfl
 rw[l,t]
 have b5:s.size<=16777216:=by have:=hd.fit;have:=hd.room;rw[<-e];omega
 obtain⟨R,f⟩:∃R,eT s [] 0=R:=⟨_,rfl⟩
 rw[f] at i
 rw[i]
 have a5:ai (∀(j:aa) (o:ab),(Y.dk g o D).P j->CB 159 #[pV g,O 0] j (ae s)):=Z (λ j o h=>by
  have:=OK h.1 0 zD
  rw[ax rfl,k,e] at this
  exact this)
 have H:ai (∀(j:aa) (o:ab) (n:Nat),(Y.dk g o D).P j->Calls prog 161 #[pV g,O 0,O (n:Int)] j λ r q=>r=ao (O (D.py 0 n:Int))/\bj (Y.dk g o D) j q (Y.dk g o (D.trim 0 n))):=Z (λ j o n h=>Bd h c.cd 0 zD n)
 have I:ai (∀(j:aa) (o:ab) (n:Nat),(Y.dk g o (D.trim 0 n)).P j->Calls prog 161 #[pV g,O 1,O 0] j λ r q=>r=ao (O ((D.trim 0 n).py 1 0:Int))/\bj (Y.dk g o (D.trim 0 n)) j q (Y.dk g o ((D.trim 0 n).trim 1 0))):=Z (λ j o n h=>Bd h (c.Zv n).cd 1 zD 0)
 have u:=Z f
 clear h hd c a k l e i t f
 go_enter func81,ntmps81
 go_upto_region 3 with(first|refine KB b 227 12 _ λ a6 x L b=>?_|go_at_call 96;(refine(X.U _ (b.U.get (i:=0) rfl)).mono ?_);rintro e k ⟨rfl,c⟩;have f:=b.U.at 0 rfl c;simp only[au,ay] at f;replace b:=Z f;clear f;clear c)
 replace b:=Z (b.U.dj (Y.ow 9 1 (ad none 0 0) 0 (aV [])) (ct _ _ _ _) rfl)
 go_upto_region 4 with((go_at_call 159;(refine(a5.U _ _ (b.U.get (i:=2) rfl)).mono ?_);rintro e k ⟨rfl,n⟩;replace b:=Z (b.U.below n);clear n))
 go_loopw [5] (λ t wr=>∃(a:Nat) (l:List ag) (v:ab),a<=s.size/\l.length<=a/\t=O (a:Int)/\ai (eT s l a=R)/\ai (af C wr m (Y.ow 9 1 v l.length (aV l)::Y.row a6 227 [pV g,v,O 0,aF false]::Y.dk g (ad none 0 0) D::rest))) (λ t _=>s.size-(intOf t).toNat)
 case atStart=>exact⟨0,[],ad none 0 0,bh _,bh _,rfl,u,b⟩
 case round=>
  clear b u
  obtain⟨a,l,v,b3,a8,rfl,T,b⟩:=hrel
  obtain⟨b7,b8,b0,-⟩:=cF (show World.ownsRow _ 0 9 1 v l.length (aV l) from b.U.get (i:=0) rfl)
  subst b0
  obtain⟨t,u⟩:∃t,s.extract a s.size=t:=⟨_,rfl⟩
  obtain⟨B,y⟩:∃B,eh t=B:=⟨_,rfl⟩
  obtain⟨F,hF⟩:∃F,aY B=F:=⟨_,rfl⟩
  have E:=λ j=>B6 j B (by rw[<-y];have:=No t;omega)
  rw[hF] at E
  have A:=Z E
  have z:ai (∀(j:aa) (p:Nat),(Y.rd p ⟨t,0⟩).P j->Calls prog 12 #[pV p,O 4096] j λ r q=>r=ao (ae B)/\bj (Y.rd p ⟨t,0⟩) j q (Y.rd p ((⟨t,0⟩:RD).tD 4096))):=Z (λ j p h=>by rw[<-y];exact LS h 4096)
  have a1:=gn F
  have a2:t.size=s.size-a:=by rw[<-u,ij,Nat.min_self]
  have c:iZ t↔(¬F.size=0/\F.size<=t.size/\t.extract 0 F.size=F):=by
   have e:iZ t=(¬(aY (eh t)).size=0/\(aY (eh t)).size<=t.size/\t.extract 0 (aY (eh t)).size=aY (eh t)):=by unfold iZ;with_reducible rfl
   rw[e,y,hF]
  have hex:a+F.size<=s.size->t.extract 0 F.size=s.extract a (a+F.size):=λ h=>by
   rw[<-u,ByteArray.extract_extract,hJ,jT h]
  have q:=Z u
  have K:¬iZ t->eT s l a=(l,a):=λ h=>TI (by rw[q.U];exact h)
  have N:iZ t->eT s l a=eT s (l++[B]) (a+F.size):=λ h=>by
   have:=TH (s:=s) (l:=l) (a:=a) (by rw[q.U];exact h)
   rw[q.U,y,hF] at this;exact this
  rw[a2] at c
  rw[T.U] at K N
  have G:=Z K;have a3:=Z N
  clear E y hF a2 K N T
  by_cases j:F.size=0
  ·have p:=Z (G.U (λ h=>(c.1 h).1 j))
   rw[aS (tB j)] at a1
   clear j c hex u
   go_wp2_with(first|refine Kl b ?_|refine KS b λ x b=>?_|go_at_call 10;rw[q.U];(refine(ov t b.U).mono ?_);rintro e k ⟨J,rfl,M,f⟩;replace b:=Z f;clear f|go_at_call 12;(refine(z.U _ _ (b.U.get (i:=0) rfl)).mono ?_);rintro e k ⟨rfl,c⟩;replace b:=Z ((b.U.at 0 rfl c).tail);clear c|go_at_call 160;(refine(A.U _).mono ?_);rintro e k ⟨rfl,n⟩;replace b:=Z (b.U.below n);clear n|(go_at_call 161;(first|(refine(H.U _ _ _ (b.U.get (i:=2) rfl)).mono ?_)|(refine(I.U _ _ _ (b.U.get (i:=2) rfl)).mono ?_));rintro e k ⟨rfl,c⟩;have f:=b.U.at 2 rfl c;simp only[au,ay] at f;replace b:=Z f;clear f;clear c))
   go_ret
   rw[p.U]
   exact⟨_,_,_,rfl,L,(b.U.ft [1]).cr⟩
  ·rw[bu (λ h=>j (by rw[h];rfl))] at a1
   by_cases y:F.size<=s.size-a
   ·have a7:decide ((s.size:Int)-(a:Int)<(F.size:Int))=false:=by simp;omega
    have P:a+F.size<=s.size:=by omega
    by_cases r:s.extract a (a+F.size)=F
    ·have a9:((s.extract a (a+F.size)).toList==F.toList)=true:=by rw[r];simp
     have p:=Z (a3.U (c.2 ⟨j,y,by rw[hex P];exact r⟩))
     have a0:1<=F.size:=by omega
     have S:=Z P
     have Q:=Z a0
     have a4:=Z a8
     have E:ai (aV l++[ae B]=aV (l++[B])/\l.length+1=(l++[B]).length):=Z ⟨by rw[pw];rfl,by simp⟩
     clear j y r c hex u a0
     go_wp2_with(first|refine Kl b ?_|refine KS b λ x b=>?_|(with_reducible show cH);(refine Mk b.U rfl 50 rfl (some 1) 9 [_] (by go_simp;(exact⟨rfl,rfl⟩)) ?_;intro b1 x b4 f;replace b:=Z f;clear f;simp only[bk])|refine Ap b.U rfl la rfl 1 rfl rfl 0 rfl rfl rfl rfl (by unfold maxLen;omega) W ?_;intro b2 a0 x f;simp only[au,ay] at f;replace b:=Z f;clear f|go_at_call 10;rw[q.U];(refine(ov t b.U).mono ?_);rintro e k ⟨J,rfl,M,f⟩;replace b:=Z f;clear f|go_at_call 12;(refine(z.U _ _ (b.U.get (i:=0) rfl)).mono ?_);rintro e k ⟨rfl,c⟩;replace b:=Z ((b.U.at 0 rfl c).tail);clear c|go_at_call 160;(refine(A.U _).mono ?_);rintro e k ⟨rfl,n⟩;replace b:=Z (b.U.below n);clear n)
     have f:=b.U.tail
     rw[E.U.1,E.U.2] at f
     exact⟨⟨a+F.size,l++[B],_,S.U,by rw[<-E.U.2];have:=Q.U;have:=a4.U;omega,by go_num,Z p.U.symm,Z f⟩,by have:=Q.U;have:=S.U;simp[intOf];omega⟩
    ·have a9:((s.extract a (a+F.size)).toList==F.toList)=false:=by rw[cc];intro h;exact r (uT h)
     have p:=Z (G.U (λ h=>r (by rw[<-hex P];exact(c.1 h).2.2)))
     clear j y r c hex u
     go_wp2_with(first|refine Kl b ?_|refine KS b λ x b=>?_|go_at_call 10;rw[q.U];(refine(ov t b.U).mono ?_);rintro e k ⟨J,rfl,M,f⟩;replace b:=Z f;clear f|go_at_call 12;(refine(z.U _ _ (b.U.get (i:=0) rfl)).mono ?_);rintro e k ⟨rfl,c⟩;replace b:=Z ((b.U.at 0 rfl c).tail);clear c|go_at_call 160;(refine(A.U _).mono ?_);rintro e k ⟨rfl,n⟩;replace b:=Z (b.U.below n);clear n|(go_at_call 161;(first|(refine(H.U _ _ _ (b.U.get (i:=2) rfl)).mono ?_)|(refine(I.U _ _ _ (b.U.get (i:=2) rfl)).mono ?_));rintro e k ⟨rfl,c⟩;have f:=b.U.at 2 rfl c;simp only[au,ay] at f;replace b:=Z f;clear f;clear c))
     go_ret
     rw[p.U]
     exact⟨_,_,_,rfl,L,(b.U.ft [1]).cr⟩
   ·have a7:decide ((s.size:Int)-(a:Int)<(F.size:Int))=true:=by simp;omega
    have p:=Z (G.U (λ h=>y (c.1 h).2.1))
    clear j y c hex u
    go_wp2_with(first|refine Kl b ?_|refine KS b λ x b=>?_|go_at_call 10;rw[q.U];(refine(ov t b.U).mono ?_);rintro e k ⟨J,rfl,M,f⟩;replace b:=Z f;clear f|go_at_call 12;(refine(z.U _ _ (b.U.get (i:=0) rfl)).mono ?_);rintro e k ⟨rfl,c⟩;replace b:=Z ((b.U.at 0 rfl c).tail);clear c|go_at_call 160;(refine(A.U _).mono ?_);rintro e k ⟨rfl,n⟩;replace b:=Z (b.U.below n);clear n|(go_at_call 161;(first|(refine(H.U _ _ _ (b.U.get (i:=2) rfl)).mono ?_)|(refine(I.U _ _ _ (b.U.get (i:=2) rfl)).mono ?_));rintro e k ⟨rfl,c⟩;have f:=b.U.at 2 rfl c;simp only[au,ay] at f;replace b:=Z f;clear f;clear c))
    go_ret
    rw[p.U]
    exact⟨_,_,_,rfl,L,(b.U.ft [1]).cr⟩
variable{I:List Y}{N:ND}
def bQ.only{w a:aa}(h:bQ w)(q:aR w.heap.size m w a)(s:∀k∈m,7<=k):bQ a:=by
 have r:=h.a.lt;have g:∀k,k<7->a.heap[k]?=w.heap[k]?:=λ k e=>q.block k W (λ f=>by grind);obtain⟨⟨⟨t,j,b⟩,t2,k,c⟩,⟨⟨t3,l,d⟩,t4,n,e⟩,⟨t5,o,f⟩,⟨t6,p,i⟩⟩:=h;exact⟨⟨⟨t,j,(g 5 zD).trans b⟩,t2,k,(g 6 zD).trans c⟩,⟨⟨t3,l,(g 1 zD).trans d⟩,t4,n,(g 2 zD).trans e⟩,⟨t5,o,(g 3 zD).trans f⟩,⟨t6,p,(g 0 zD).trans i⟩⟩
structure TM(m:List Nat)(w:aa):Prop where
 a:bQ w
 cG:∀k∈m,7<=k
def TM.at{a w:aa}(h:TM m a)(b:af a w m I):bQ w:=h.a.only b.only h.cG
structure NA where
 g:Nat
 b:Nat
 lc:Nat
 f:Nat
 c:Nat
 d:Nat
 e:Nat
 rg:Nat
 a:Nat
 h:ab
variable{T:NA}
structure NV where
 pv:ab
 a:ab
 b:ab
 c:List ab
abbrev ND.cells(n:ND)(a:NA):List ab:=[a.h,O (n.c.bG:Int),O (n.c.room:Int),U (n.c.every:Int),U (n.c.a:Int),U (n.c.rc.base:Int),U (n.c.rc.j:Int),U (n.c.rc.span:Int),O (n.c.rc.i:Int),O (n.c.rc.room:Int),
 ad (some ⟨a.b,0,none⟩) 1 a.lc,pV a.f,pV a.c,.map (some a.rg),O (n.id:Int),U (n.bq:Int),U (n.tell:Int),O (n.bN:Int)]
def uF(o:Option RQ):Nat:=match o with|none=>0|some r=>r.id
def lA(o:Option RQ):Option (Nat×Nat×Nat):=match o with|none=>none|some r=>some (r.id,r.k,r.bt)
def nQ(o:Option RQ):List (Int×ab):=match o with|none=>[]|some r=>[((r.id:Int),r.m.val (ad none 0 0) (ad none 0 0) (ad none 0 0))]
abbrev ND.hq(n:ND)(x:NV):List ab:=ae n.c.key::Value.bool n.st.aT::Value.int .u64 (n.st.ar.size:Int)::Value.int .u64 (n.st.ar.time:Int)::ae n.st.ar.aE::ae n.st.ar.a::x.pv::ae n.st.aM::Value.int .u64 (n.l:Int)::Value.int .u64 (n.next:Int)::Value.int .i64 (uF n.g:Int)::x.c
abbrev Ie(a:NA)(x:NV)(n:ND):List Y:=[Y.row a.g 139 (n.cells a),Y.row a.b 133 (n.hq x),Y.ho x.pv n.st.f,Y.jr a.f a.a x.a n.j,Y.rt a.c a.d a.e x.b n.c.rc (lA n.g),Y.mp a.rg (nQ n.g)]
def Y.aQ(a:NA)(x:NV)(n:ND):Y:=Y.all (Ie a x n)
def fo{w wr:aa}{rest:List Y}{x:NV}(h:af w wr m (Y.aQ T x N::rest)):af w wr m (Y.row T.g 139 (N.cells T)::Y.row T.b 133 (N.hq x)::Y.ho x.pv N.st.f::Y.jr T.f T.a x.a N.j::Y.rt T.c T.d T.e x.b N.c.rc (lA N.g)::Y.mp T.rg (nQ N.g)::rest):=af.K4 h
def eR{w wr:aa}{rest:List Y}(a:NA)(x:NV)(n:ND)(h:af w wr m (Y.row a.g 139 (n.cells a)::Y.row a.b 133 (n.hq x)::Y.ho x.pv n.st.f::Y.jr a.f a.a x.a n.j::Y.rt a.c a.d a.e x.b n.c.rc (lA n.g)::Y.mp a.rg (nQ n.g)::rest)):af w wr m (Y.aQ a x n::rest):=af.H6 (Ie a x n) h
def jz{w:aa}{x:NV}(h:(Y.aQ T x N).P w):(Y.row T.g 139 (N.cells T)).P w:=h.1 _ (.head _)
def oY{w:aa}{x:NV}(h:(Y.aQ T x N).P w):(Y.row T.b 133 (N.hq x)).P w:=h.1 _ (.tail _ (.head _))
def sx{w:aa}{x:NV}(h:(Y.aQ T x N).P w):(Y.ho x.pv N.st.f).P w:=h.1 _ (.tail _ (.tail _ (.head _)))
structure RQ.Ok(r:RQ):Prop where
 s:1<=r.id
 t:r.id<=1000000000
 k:r.k<=1000
 bt:r.bt<18446744073709551616
 m:(r.m=jW r.id)\/∃a b,a<18446744073709551616/\b<18446744073709551616/\r.m=jX r.id a b
structure CF.bL(c:CF):Prop where
 key:c.key.size=32
 bG:c.bG<=63
 e:1<=c.room
 a:c.room<=16
 i:1<=c.every
 d:c.every<=1099511627776
 g:1<=c.a
 b:c.a<=1099511627776
 rc:c.rc.bL
structure ND.Ok(n:ND):Prop where
 c:n.c.bL
 ar:n.st.ar.Ok
 o:n.st.f.length<=1000
 f:∀h∈n.st.f,h.Ok
 l:n.l<18446744073709551616
 next:n.next<18446744073709551616
 bq:n.bq<18446744073709551616
 tell:n.tell<18446744073709551616
 bN:n.bN<=1000
 s:1<=n.id
 t:n.id<=1000000
 g:∀r,n.g=some r->r.Ok
 q:n.j.l.length<=100000
 d:n.d.Ok
 dl:n.d.a.length<=1000
def FP(k:Nat)(w:aa):Calls prog 85 #[O (k:Int)] w λ r a=>r=ao (aF (counts k))/\w=a:=by
 have f:((k:Int)==1)=decide (k=1):=by rw[bI];simp;omega
 have g:((k:Int)==3)=decide (k=3):=by rw[bI];simp;omega
 have h:((k:Int)==4)=decide (k=4):=by rw[bI];simp;omega
 have i:((k:Int)==5)=decide (k=5):=by rw[bI];simp;omega
 have e:counts k=(decide (k=1)||(decide (k=3)||(decide (k=4)||decide (k=5)))):=rfl;rw[e];generalize decide (k=1)=a at*;generalize decide (k=3)=b at*;generalize decide (k=4)=c at*;generalize decide (k=5)=d at*;cases a<;>cases b<;>cases c<;>cases d
 all_goals
  go_enter func85,ntmps85
  go_wp2
  go_ret
  exact⟨rfl,rfl⟩
def mG{w:aa}(d:bQ w)(i:Int)(y:MG)(k:y.Ok){f g pM:ab}(c:y.Rd w f g pM):CB 209 #[O i,y.val f g pM] w (aG #[O i,ae y.enc]):=by
 have a:=Z (af.start w []);have h:=Z (λ e (b:BW w e)=>qG y k f g pM e (d.below b).a (d.below b).aT (c.below b));obtain⟨m,p,rfl⟩:=c.b.form;obtain⟨o,r,rfl⟩:=c.p.form;obtain⟨n,q,rfl⟩:=c.m.iQ;obtain⟨E,j⟩:∃E,y.enc=E:=⟨_,rfl⟩;rw[j] at h⊢;clear d k c j
 go_enter func209,ntmps209
 go_wp2_with(first|refine KT a 20 ?_|refine KS a λ l a=>?_|refine KA a _ 4 Lz λ t l v a=>?_|refine KB a 81 3 (y.cells _ _ _) λ s l u a=>?_|go_at_call 30;(refine(h.U _ a.U.ak).mono ?_);rintro e x ⟨rfl,b⟩;replace a:=Z (a.U.below b);clear b)
 refine iH a.U 0 rfl 272 2 rfl rfl zR rfl rfl ?_;exact⟨rfl,a.U.ak⟩
def uQ{w:aa}(h:(Y.row T.g 139 (N.cells T)).P w)(b:N.bq<18446744073709551616):Calls prog 87 #[pV T.g] w λ r a=>r=ao (aJ #[])/\bj (Y.row T.g 139 (N.cells T)) w a (Y.row T.g 139 (N.dV.cells T)):=by
 have c:=Z (λ d=>nR N.bq 1 b zD d);have a:=Z (af.self h);clear h b
 go_enter func87,ntmps87
 go_wp2_with(first|refine Kl a ?_|refine KS a λ g a=>?_|go_at_call 139;(refine(c.U _).mono ?_);rintro e f ⟨rfl,rfl⟩)
 go_end0
 exact⟨rfl,a.U.gQ⟩
def Vk{w:aa}(h:(Y.row T.g 139 (N.cells T)).P w):CB 73 #[pV T.g,O 0] w (aF true):=by
 have a:=Z (af.start w []);have b:=Z (aP h bf);clear h
 go_enter func73,ntmps73
 go_wp2_with(refine KH (a.U.bH b.U) ?_)
 go_ret
 exact⟨rfl,a.U.ak⟩
def Vl{w:aa}(h:(Y.row T.g 139 (N.cells T)).P w):CB 32 #[pV T.g] w (U (N.bq:Int)):=by
 have a:=Z (af.start w []);have b:=Z (aP h bf);clear h
 go_enter func32,ntmps32
 go_wp2_with(refine KH (a.U.bH b.U) ?_)
 go_ret
 exact⟨rfl,a.U.ak⟩
def uj{w:aa}{x:NV}(h:(Y.aQ T x N).P w)(s:N.st.f.length<=1000):Calls prog 24 #[pV T.g,O 0] w λ r b=>∃A c,r=ao (N.st.val (ad A N.st.f.length c))/\BW w b:=by
 have a:=Z (af.start w []);have f:=Z (aP (jz h) (aP (oY h) bf));have d:=oO (sx h) W;have j:=Z (λ c (b:BW w c)=>Vk ((Y.row T.g 139 (N.cells T)).st w c (λ k e=>b.block k ((Y.row T.g 139 (N.cells T)).lt w (jz h) k e)) (jz h)));have i:=Z (λ c (b:BW w c)=>FJ (d.below b) W);obtain⟨pA,B,g⟩:=d.form;obtain⟨u,z,y,t,H,A,o,F,l,v⟩:=T;obtain⟨C,G,r,I⟩:=x;simp only at g;subst g;clear h d
 go_enter func24,ntmps24
 go_wp2_with(first|refine KH (a.U.bH f.U) ?_|refine KT a 7 ?_|refine KI (a.U.bH f.U) 7 ?_|refine Kl a ?_|refine KS a λ d a=>?_|refine KA a _ 4 gT λ m d p a=>?_|refine KA a _ 5 gT λ n d q a=>?_|go_at_call 73;(refine(j.U _ a.U.ak).mono ?_);rintro e k ⟨rfl,b⟩;replace a:=Z (a.U.below b);clear b|go_at_call 74;(refine(i.U _ a.U.ak).mono ?_);rintro e k ⟨D,E,rfl,c,b⟩;replace a:=Z (a.U.db b c);clear b c)
 refine iH a.U 2 rfl 62 7 rfl rfl zR rfl rfl ?_;exact⟨_,_,rfl,a.U.ak⟩
abbrev MK.val(k:MK):ab:=aG #[O (k.log:Int),U (k.size:Int),ae k.aE,aF k.aM]
def UX(k:MK){w:aa}(d:(Y.row g 3 [O 0]).P w):CB 281 #[k.val,pV g] w (aF (decide (k.log=0))):=by
 have a:=Z (af.start w []);have e:=Z (aP d bf);have f:((k.log:Int)==0)=decide (k.log=0):=by rw[bI];simp
 generalize decide (k.log=0)=b at*;clear d
 go_enter func281,ntmps281
 go_wp2_with(first|(first|(refine KL a 0 3 ?_)|(refine il (a.U.bH e.U) 0 rfl rfl 3 rfl rfl V rfl ?_))|(refine Bx a.U rfl 240 2 rfl rfl (k.cells) rfl λ h j i c=>?_;replace a:=Z c;clear c))
 go_ret
 exact⟨by simp[f],a.U.ak⟩
def pM(q:MK->Bool)(x:List ab):Bool:=match x with
 |[.int _ a,.int _ b,.string c,.bool d]=>q ⟨a.toNat,b.toNat,c,d⟩
 |_=>false
def Wc(q:MK->Bool)(k:MK):pM q k.cells=q k:=by
 show q ⟨((k.log:Nat):Int).toNat,((k.size:Nat):Int).toNat,k.aE,k.aM⟩=q k;rw[mS,mS]
def Qw(q:MK->Bool)(L:List MK):bK (pM q) (L.map MK.cells)=bK q L:=by
 rw[wM];congr 1
def HW:∀{L:List MK},bK (λ k=>decide (k.log=0)) L=none->fJ L=⟨0,0,⟨#[]⟩,false⟩
 |[],_=>rfl
 |k::l,h=>by
  rw[bK] at h
  split at h
  ·cases h
  ·rename_i a
   rw[fJ,aj (by simpa using a)]
   refine HW ?_
   cases b:bK (λ k=>decide (k.log=0)) l with
   |none=>rfl
   |some j=>rw[b] at h;cases h
def HX:∀{L:List MK} {j:Nat},bK (λ k=>decide (k.log=0)) L=some j->L[j]?=some (fJ L)
 |[],j,h=>by cases h
 |k::l,j,h=>by
  rw[bK] at h
  split at h
  ·rename_i a
   cases h
   rw[fJ,ax (by simpa using a)];rfl
  ·rename_i a
   cases b:bK (λ k=>decide (k.log=0)) l with
   |none=>rw[b] at h;cases h
   |some i=>
    rw[b] at h
    cases h
    rw[fJ,aj (by simpa using a)]
    simpa using HX b
def UY{w:aa}{v:ab}{L:List MK}(h:bD 4 w v (L.map MK.cells)):Calls prog 236 #[v,O 0] w λ r a=>r=ao (fJ L).val/\BW w a:=by
 have f:=Z (af.start w []);have s:=Z h;have p:ai (∀l,BW w l->∀g,(Y.row g 3 [O 0]).P l->CB 280 #[v,.func (.func 281) #[] #[pV g]] l (O (fY (bK (λ k=>decide (k.log=0)) L)))):=Z (λ l m g e=>by
  have:=Tc (h.below m) (pV g) (pM λ k=>decide (k.log=0)) (λ r a b c d j q=>by
   obtain⟨k,-,n⟩:=ep.1 q;injection n with e1 n;injection n with e2 n;injection n with e3 n;injection n with e4 n;subst e1 e2 e3 e4;have x:=UX k ((Y.row g 3 [O 0]).st l r (λ i o=>j.block i ((Y.row g 3 [O 0]).lt l e i o)) e);rw[<-Wc (λ k=>decide (k.log=0)) k] at x;exact x)
  rw[Qw] at this;exact this)
 obtain⟨A,u,rfl,-⟩:=bD.form h;rw[cR] at s p⊢;cases a:bK (λ k:MK=>decide (k.log=0)) L with
 |none=>
  have d:=Z (HW a);rw[a] at p;have r:ai (∀l,BW w l->∀g,(Y.row g 3 [O 0]).P l->CB 280 #[ad A L.length u,.func (.func 281) #[] #[pV g]] l (O (-1))):=p;clear h a p s
  go_enter func236,ntmps236
  go_wp2_with(first|(refine KL f 1 3 ?_)|(refine K7 f 0 240 4 λ c f=>?_)|(refine KA f 240 4 jc λ E c J f=>?_)|(refine KB f 3 3 ([O 0]) λ D c I f=>?_)|(go_at_call 280;(refine(r.U _ f.U.ak _ (f.U.get (i:=1) rfl)).mono ?_);rintro e K ⟨rfl,m⟩;have b:=f.U.below m;replace f:=Z b;clear b;clear m))
  rw[d.U];refine iH f.U 0 rfl 240 4 rfl rfl V rfl rfl ?_;exact⟨rfl,f.U.ak⟩
 |some j=>
  have q:=HX a;generalize fJ L=M at*;obtain⟨z,C,B,t⟩:=M;have d:j<L.length:=(ed.1 q).1;have y:(L.map MK.cells)[j]'(by rw[cR];exact d)=[O (z:Int),U (C:Int),ae B,aF t]:=by
   rw[lJ,(ed.1 q).2]
  rw[a] at p;have r:ai (∀l,BW w l->∀g,(Y.row g 3 [O 0]).P l->CB 280 #[ad A L.length u,.func (.func 281) #[] #[pV g]] l (O (j:Int))):=p;obtain⟨bb,o,H,-⟩:=h.at (j:=j) (by rw[cR];exact d);subst H;have g:ai (∀l,BW w l->l.rangeAt bb (o+j*4) [O (z:Int),U (C:Int),ae B,aF t]):=Z (λ l m=>by
   obtain⟨N,P,hA2,hx⟩:=(s.U.below m).at (j:=j) (by rw[cR];exact d);injection hA2 with hA2;injection hA2 with F G;subst F G;rw[y] at hx;exact hx)
  have d1:decide ((j:Int)<0)=false:=bu W;have d2:(0:Int)<=(j:Int):=by omega
  have d3:(j:Int)<(L.length:Int):=by omega
  clear h a q y p s d
  go_enter func236,ntmps236
  go_wp2_with(first|((with_reducible show wpList _ _ _ (⟨_,.load 240 _,_,_,_,_⟩::_) _ _);refine dX rfl 240 4 rfl rfl (g.U _ f.U.ak) rfl V ?_)|(refine K7 f 0 240 4 λ c f=>?_)|(refine KA f 240 4 jc λ E c J f=>?_)|(refine KB f 3 3 ([O 0]) λ D c I f=>?_)|(go_at_call 280;(refine(r.U _ f.U.ak _ (f.U.get (i:=1) rfl)).mono ?_);rintro e K ⟨rfl,m⟩;have b:=f.U.below m;replace f:=Z b;clear b;clear m))
  refine iH f.U 0 rfl 240 4 rfl rfl V rfl rfl ?_;exact⟨rfl,f.U.ak⟩
def M8(s:ST){pv:ab}(H:∃A n c,pv=ad A n c)(k:MK)(w:aa):CB 237 #[s.val pv,k.val] w (aF (behind s k)):=by
 obtain⟨pA,p,o,rfl⟩:=H;have f0:=ks s.aM;have C:=gn s.aM;have f2:decide (s.ar.size<k.size)=decide ((s.ar.size:Int)<(k.size:Int)):=by rw[bI];simp
 have f3:decide (0<k.size)=decide ((0:Int)<(k.size:Int)):=by rw[bI];simp
 have f4:=js k.size s.ar.size;have f5:=qZ k.aE s.ar.aE;have v:=yo k.aE s.ar.aE;have b:behind s k=if s.aM=⟨#[]⟩ then k.aM||(decide (s.ar.size<k.size)||(decide (0<k.size)&&(decide (k.size=s.ar.size)&& !decide (k.aE=s.ar.aE)))) else false:=rfl
 obtain⟨R,a⟩:∃R,behind s k=R:=⟨_,rfl⟩;rw[a] at b⊢;clear a;have a:R=(decide (s.aM=⟨#[]⟩)&&(k.aM||(decide (s.ar.size<k.size)||(decide (0<k.size)&&(decide (k.size=s.ar.size)&& !decide (k.aE=s.ar.aE)))))):=by
  rw[b];split<;>simp_all
 clear b;have e:decide (s.ar.size<k.size)=decide (s.ar.size<k.size):=rfl;have f:decide (0<k.size)=decide (0<k.size):=rfl;generalize decide (s.aM=⟨#[]⟩)=x at*;generalize F:decide (s.ar.size<k.size)=y at*;generalize G:decide (0<k.size)=z at*;generalize decide (k.size=s.ar.size)=A at*;generalize decide (k.aE=s.ar.aE)=B at*;have D:=f2.symm;have E:=f3.symm;clear f2 f3 e f;have c:=Z a;clear a;have a:=Z (af.start w []);obtain⟨r,⟨g,h,i,j⟩,J,q⟩:=s;obtain⟨l,n,m,I⟩:=k;simp only at f0 C f4 f5 v D E F G c;cases x with
 |true=>
  cases I with
  |true=>
   have b:=c.U;simp only[sB,↓reduceIte,reduceCtorEq,fy] at b;subst b;clear c
   go_enter rG,rH
   go_wp2_with(first|(first|(refine KL a 1 9 ?_)|(refine KL a 0 4 ?_))|(first|(refine KB a 62 2 ([.bool r,U (g:Int),U (h:Int),.string i,.string j,.slice pA p o,.string q]) λ e d t a=>?_)|(refine KB a 240 3 ([O (l:Int),U (n:Int),.string m,_]) λ f d u a=>?_)))
   go_ret
   exact⟨by simp,a.U.ak⟩
  |false=>
   cases y with
   |true=>
    have b:=c.U;simp only[sB,↓reduceIte,reduceCtorEq,fy] at b;subst b;clear c
    go_enter rG,rH
    go_wp2_with(first|(first|(refine KL a 1 9 ?_)|(refine KL a 0 4 ?_)|(refine KL a 0 46 ?_)|(refine KL a 1 46 ?_))|(first|(refine KB a 62 2 ([.bool r,U (g:Int),U (h:Int),.string i,.string j,.slice pA p o,.string q]) λ e d t a=>?_)|(refine KB a 240 3 ([O (l:Int),U (n:Int),.string m,_]) λ f d u a=>?_)))
    go_ret
    exact⟨by simp,a.U.ak⟩
   |false=>
    cases z with
    |true=>
     cases A with
     |true=>
      cases B with
      |true=>
       simp only[Bu] at v;have b:=c.U;simp only[sB,↓reduceIte,reduceCtorEq,fy] at b;subst b;clear c
       go_enter rG,rH
       go_wp2_with(first|(first|(refine KL a 0 9 ?_)|(refine KL a 1 9 ?_)|(refine KL a 0 4 ?_)|(refine KL a 0 46 ?_)|(refine KL a 1 46 ?_))|(first|(refine KB a 62 2 ([.bool r,U (g:Int),U (h:Int),.string i,.string j,.slice pA p o,.string q]) λ e d t a=>?_)|(refine KB a 240 3 ([O (l:Int),U (n:Int),.string m,_]) λ f d u a=>?_)))
       go_ret
       exact⟨by simp,a.U.ak⟩
      |false=>
       simp only[fy] at v;have b:=c.U;simp only[sB,↓reduceIte,reduceCtorEq,fy] at b;subst b;clear c
       go_enter rG,rH
       go_wp2_with(first|(first|(refine KL a 0 9 ?_)|(refine KL a 1 9 ?_)|(refine KL a 0 4 ?_)|(refine KL a 0 46 ?_)|(refine KL a 1 46 ?_))|(first|(refine KB a 62 2 ([.bool r,U (g:Int),U (h:Int),.string i,.string j,.slice pA p o,.string q]) λ e d t a=>?_)|(refine KB a 240 3 ([O (l:Int),U (n:Int),.string m,_]) λ f d u a=>?_)))
       go_ret
       exact⟨by simp,a.U.ak⟩
     |false=>
      have b:=c.U;simp only[sB,↓reduceIte,reduceCtorEq,fy] at b;subst b;clear c
      go_enter rG,rH
      go_wp2_with(first|(first|(refine KL a 1 9 ?_)|(refine KL a 0 4 ?_)|(refine KL a 0 46 ?_)|(refine KL a 1 46 ?_))|(first|(refine KB a 62 2 ([.bool r,U (g:Int),U (h:Int),.string i,.string j,.slice pA p o,.string q]) λ e d t a=>?_)|(refine KB a 240 3 ([O (l:Int),U (n:Int),.string m,_]) λ f d u a=>?_)))
      go_ret
      exact⟨by simp,a.U.ak⟩
    |false=>
     have b:=c.U;simp only[sB,↓reduceIte,reduceCtorEq,fy] at b;subst b;clear c
     go_enter rG,rH
     go_wp2_with(first|(first|(refine KL a 1 9 ?_)|(refine KL a 0 4 ?_)|(refine KL a 0 46 ?_)|(refine KL a 1 46 ?_))|(first|(refine KB a 62 2 ([.bool r,U (g:Int),U (h:Int),.string i,.string j,.slice pA p o,.string q]) λ e d t a=>?_)|(refine KB a 240 3 ([O (l:Int),U (n:Int),.string m,_]) λ f d u a=>?_)))
     go_ret
     exact⟨by simp,a.U.ak⟩
 |false=>
  have b:=c.U;simp only[sB,↓reduceIte,reduceCtorEq,fy] at b;subst b;clear c
  go_enter rG,rH
  go_wp2_with(first|(refine KL a 1 9 ?_)|(first|(refine KB a 62 2 ([.bool r,U (g:Int),U (h:Int),.string i,.string j,.slice pA p o,.string q]) λ e d t a=>?_)|(refine KB a 240 3 ([O (l:Int),U (n:Int),.string m,_]) λ f d u a=>?_)))
  go_ret
  exact⟨by simp,a.U.ak⟩
