import Derived.Test.YtncpbkoinennoaaGreatDoorMAX
set_option linter.all false
set_option maxRecDepth 100000
set_option maxHeartbeats 0
namespace Go.Proofs.YtncpbkoinennoaaGreatDoor
open Go.RowKit Proofs.Tryz
attribute [local irreducible] wpList Calls
variable{D:BD}{C:CF}{d:DK}{H h:HD}{f r:Int}{E:JN}{M:ME}{G:MG}{N:ND}{g n:Nat}{S:ST}
namespace BQ
def xS:List UInt8->List UInt8->Bool
 |[],[]=>true
 |x::l,y::r=>if Nat.beq x.toNat y.toNat then xS l r else false
 |_,_=>false
def Ie:∀{l r:List UInt8},xS l r=true->l=r
 |[],[],_=>rfl
 |x::l,y::r,h=>by
  unfold xS at h
  split at h
  ·rename_i b
   have a:=Nat.eq_of_beq_eq_true b
   rw[xu.1 a,Ie h]
  ·cases h
 |[],y::r,h=>by cases h
 |x::l,[],h=>by cases h
def hM(a b:af):Bool:=xS a.data.toList b.data.toList
def iz{a b:af}(h:hM a b=true):a=b:=by
 apply qE;exact Ie h
def cI(a b:Nat):Bool:=Nat.beq a b
def dn(h:cI g n=true):g=n:=Nat.eq_of_beq_eq_true h
def Cn(a b:Int):Bool:=decide (a=b)
def H2(h:Cn r f=true):r=f:=iH h
def xR:Bool->Bool->Bool
 |true,true=>true
 |false,false=>true
 |_,_=>false
def Cp{a b:Bool}(h:xR a b=true):a=b:=by cases a<;>cases b<;>first|rfl|cases h
def kk{α:Type}(f:α->α->Bool):List α->List α->Bool
 |[],[]=>true
 |x::l,y::r=>if f x y then kk f l r else false
 |_,_=>false
def mw{α:Type}{f:α->α->Bool}(a:∀{x y},f x y=true->x=y):∀{l r:List α},kk f l r=true->l=r
 |[],[],_=>rfl
 |x::l,y::r,h=>by
  unfold kk at h
  split at h
  ·rename_i b
   rw[a b,mw a h]
  ·cases h
 |[],y::r,h=>by cases h
 |x::l,[],h=>by cases h
def an(a b:Bool):Bool:=if a then b else false
def bA{a b:Bool}(h:an a b=true):a=true/\b=true:=by
 cases a
 ·cases h
 ·exact⟨rfl,h⟩
def sH(a b:HD):Bool:=an (cI a.size b.size) (an (cI a.time b.time) (an (hM a.aE b.aE) (hM a.a b.a)))
def vh(a:sH h H=true):h=H:=by
 obtain⟨b,a⟩:=bA a;obtain⟨c,a⟩:=bA a;obtain⟨d,a⟩:=bA a;cases h;cases H
 simp only at b c d a;rw[dn b,dn c,iz d,iz a]
def Cl(a b:BD):Bool:=an (sH a.a b.a) (an (sH a.b b.b) (kk hM a.e b.e))
def HY{b:BD}(h:Cl D b=true):D=b:=by
 obtain⟨a,h⟩:=bA h;obtain⟨c,h⟩:=bA h;cases D;cases b
 simp only at a c h;rw[vh a,vh c,mw iz h]
def H5(a b:MK):Bool:=an (cI a.log b.log) (an (cI a.size b.size) (an (hM a.aE b.aE) (xR a.aR b.aR)))
def RI{a b:MK}(h:H5 a b=true):a=b:=by
 obtain⟨c,h⟩:=bA h;obtain⟨d,h⟩:=bA h;obtain⟨e,h⟩:=bA h;cases a;cases b
 simp only at c d e h;rw[dn c,dn d,iz e,Cp h]
def Co(a b:MG):Bool:=an (cI a.c b.c) (an (cI a.log b.log) (an (cI a.id b.id) (an (cI a.m b.m) (an (cI a.n b.n) (an (sH a.h b.h) (an (Cl a.b b.b) (an (kk hM a.e b.e) (kk H5 a.aP b.aP))))))))
def RH{b:MG}(h:Co G b=true):G=b:=by
 obtain⟨a,h⟩:=bA h;obtain⟨c,h⟩:=bA h;obtain⟨d,h⟩:=bA h;obtain⟨e,h⟩:=bA h;obtain⟨f,h⟩:=bA h;obtain⟨g,h⟩:=bA h;obtain⟨i,h⟩:=bA h;obtain⟨j,h⟩:=bA h;cases G;cases b
 simp only at a c d e f g i j h;rw[dn a,dn c,dn d,dn e,dn f,vh g,HY i,mw iz j,mw RI h]
def Ic(a b:ST):Bool:=an (xR a.bz b.bz) (an (sH a.az b.az) (an (kk sH a.f b.f) (hM a.aR b.aR)))
def RR{b:ST}(h:Ic S b=true):S=b:=by
 obtain⟨a,h⟩:=bA h;obtain⟨c,h⟩:=bA h;obtain⟨d,h⟩:=bA h;cases S;cases b
 simp only at a c d h;rw[Cp a,vh c,mw vh d,iz h]
def Ib:Option RQ->Option RQ->Bool
 |none,none=>true
 |some a,some b=>an (cI a.id b.id) (an (Co a.m b.m) (an (cI a.k b.k) (cI a.dZ b.dZ)))
 |_,_=>false
def RP:∀{a b:Option RQ},Ib a b=true->a=b
 |none,none,_=>rfl
 |some a,some b,h=>by
  have h:an (cI a.id b.id) (an (Co a.m b.m) (an (cI a.k b.k) (cI a.dZ b.dZ)))=true:=h
  obtain⟨c,h⟩:=bA h;obtain⟨d,h⟩:=bA h;obtain⟨e,h⟩:=bA h
  cases a;cases b
  simp only at c d e h
  rw[dn c,RH d,dn e,dn h]
 |none,some b,h=>by cases h
 |some a,none,h=>by cases h
def H3(a b:JN):Bool:=an (kk hM a.l b.l) (an (cI a.sure b.sure) (xR a.cut b.cut))
def Rz{b:JN}(h:H3 E b=true):E=b:=by
 obtain⟨a,h⟩:=bA h;obtain⟨c,h⟩:=bA h;cases E;cases b
 simp only at a c h;rw[mw iz a,dn c,Cp h]
def H7(a b:Nat×Nat):Bool:=an (cI a.1 b.1) (cI a.2 b.2)
def RN{a b:Nat×Nat}(h:H7 a b=true):a=b:=by
 obtain⟨c,h⟩:=bA h;cases a;cases b
 simp only at c h;rw[dn c,dn h]
def H0(a b:DK):Bool:=an (hM a.f0 b.f0) (an (hM a.f1 b.f1) (an (kk H7 a.a b.a) (cI a.room b.room)))
def Ry{b:DK}(h:H0 d b=true):d=b:=by
 obtain⟨a,h⟩:=bA h;obtain⟨c,h⟩:=bA h;obtain⟨e,h⟩:=bA h;cases d;cases b
 simp only at a c e h;rw[iz a,iz c,mw RN e,dn h]
def Ia(a b:RC):Bool:=an (cI a.base b.base) (an (cI a.j b.j) (an (cI a.span b.span) (an (cI a.i b.i) (cI a.room b.room))))
def RO{a b:RC}(h:Ia a b=true):a=b:=by
 obtain⟨c,h⟩:=bA h;obtain⟨d,h⟩:=bA h;obtain⟨e,h⟩:=bA h;obtain⟨f,h⟩:=bA h;cases a;cases b
 simp only at c d e f h;rw[dn c,dn d,dn e,dn f,dn h]
def Cm(a b:CF):Bool:=an (hM a.key b.key) (an (cI a.cj b.cj) (an (cI a.room b.room) (an (cI a.every b.every) (an (cI a.a b.a) (Ia a.rc b.rc)))))
def HZ{b:CF}(h:Cm C b=true):C=b:=by
 obtain⟨a,h⟩:=bA h;obtain⟨c,h⟩:=bA h;obtain⟨d,h⟩:=bA h;obtain⟨e,h⟩:=bA h;obtain⟨f,h⟩:=bA h;cases C;cases b
 simp only at a c d e f h;rw[iz a,dn c,dn d,dn e,dn f,RO h]
def H6(a b:ND):Bool:=an (Cm a.c b.c) (an (Ic a.st b.st) (an (cI a.l b.l) (an (cI a.next b.next) (an (Ib a.g b.g) (an (H3 a.j b.j) (an (H0 a.d b.d) (an (cI a.id b.id) (an (cI a.bX b.bX) (an (cI a.tell b.tell) (cI a.cd b.cd))))))))))
def RJ{b:ND}(h:H6 N b=true):N=b:=by
 obtain⟨a,h⟩:=bA h;obtain⟨c,h⟩:=bA h;obtain⟨d,h⟩:=bA h;obtain⟨e,h⟩:=bA h;obtain⟨f,h⟩:=bA h;obtain⟨g,h⟩:=bA h;obtain⟨i,h⟩:=bA h;obtain⟨j,h⟩:=bA h;obtain⟨k,h⟩:=bA h;obtain⟨h10,h⟩:=bA h;cases N;cases b
 simp only at a c d e f g i j k h10 h;rw[HZ a,RR c,dn d,dn e,RP f,Rz g,Ry i,dn j,dn k,dn h10,dn h]
def H9(a b:PL):Bool:=an (H6 a.n b.n) (kk hM a.a b.a)
def RM{a b:PL}(h:H9 a b=true):a=b:=by
 obtain⟨c,h⟩:=bA h;cases a;cases b
 simp only at c h;rw[RJ c,mw iz h]
def H8(a b:PK):Bool:=an (Cn a.src b.src) (an (Cn a.dst b.dst) (hM a.s b.s))
def RL{a b:PK}(h:H8 a b=true):a=b:=by
 obtain⟨c,h⟩:=bA h;obtain⟨d,h⟩:=bA h;cases a;cases b
 simp only at c d h;rw[H2 c,H2 d,iz h]
def H4(a b:KY):Bool:=an (hM a.a b.a) (an (hM a.pre b.pre) (hM a.pub b.pub))
def RE{a b:KY}(h:H4 a b=true):a=b:=by
 obtain⟨c,h⟩:=bA h;obtain⟨d,h⟩:=bA h;cases a;cases b
 simp only at c d h;rw[iz c,iz d,iz h]
def RF(a b:ME):Bool:=an (H4 a.k b.k) (an (Cm a.c b.c) (an (kk H9 a.l b.l) (an (kk H8 a.b b.b) (cI a.now b.now))))
def cY{b:ME}(h:RF M b=true):M=b:=by
 obtain⟨a,h⟩:=bA h;obtain⟨c,h⟩:=bA h;obtain⟨d,h⟩:=bA h;obtain⟨e,h⟩:=bA h;cases M;cases b
 simp only at a c d e h;rw[RE a,HZ c,mw RM d,mw RL e,dn h]
end BQ
