import Derived.Test.YtncpbkoinennoaaGreatDoorMAY
set_option linter.all false
set_option maxRecDepth 100000
set_option maxHeartbeats 0
namespace Go.Proofs.YtncpbkoinennoaaGreatDoor
open Go.RowKit Proofs.Tryz
attribute [local irreducible] wpList Calls
variable{D:BD}{C:CF}{d:DK}{H h:HD}{f r:Int}{E:JN}{M:ME}{G:MG}{N:ND}{g n:Nat}{S:ST}
namespace BQ
def wH:List UInt8->List UInt8->Bool
 |[],[]=>true
 |x::l,y::r=>if Nat.beq x.toNat y.toNat then wH l r else false
 |_,_=>false
def GG:∀{l r:List UInt8},wH l r=true->l=r
 |[],[],_=>rfl
 |x::l,y::r,h=>by
  unfold wH at h
  split at h
  ·rename_i b
   have a:=Nat.eq_of_beq_eq_true b
   rw[AG.1 a,GG h]
  ·cases h
 |[],y::r,h=>by cases h
 |x::l,[],h=>by cases h
def hP(a b:ag):Bool:=wH a.data.toList b.data.toList
def im{a b:ag}(h:hP a b=true):a=b:=by
 apply kP;exact GG h
def cM(a b:Nat):Bool:=Nat.beq a b
def dp(h:cM g n=true):g=n:=Nat.eq_of_beq_eq_true h
def Br(a b:Int):Bool:=decide (a=b)
def Gu(h:Br r f=true):r=f:=my h
def wG:Bool->Bool->Bool
 |true,true=>true
 |false,false=>true
 |_,_=>false
def Bt{a b:Bool}(h:wG a b=true):a=b:=by cases a<;>cases b<;>first|rfl|cases h
def kd{α:Type}(f:α->α->Bool):List α->List α->Bool
 |[],[]=>true
 |x::l,y::r=>if f x y then kd f l r else false
 |_,_=>false
def mi{α:Type}{f:α->α->Bool}(a:∀{x y},f x y=true->x=y):∀{l r:List α},kd f l r=true->l=r
 |[],[],_=>rfl
 |x::l,y::r,h=>by
  unfold kd at h
  split at h
  ·rename_i b
   rw[a b,mi a h]
  ·cases h
 |[],y::r,h=>by cases h
 |x::l,[],h=>by cases h
def an(a b:Bool):Bool:=if a then b else false
def bM{a b:Bool}(h:an a b=true):a=true/\b=true:=by
 cases a
 ·cases h
 ·exact⟨rfl,h⟩
def rY(a b:HD):Bool:=an (cM a.size b.size) (an (cM a.time b.time) (an (hP a.aE b.aE) (hP a.a b.a)))
def tQ(a:rY h H=true):h=H:=by
 obtain⟨b,a⟩:=bM a;obtain⟨c,a⟩:=bM a;obtain⟨d,a⟩:=bM a;cases h;cases H
 simp only at b c d a;rw[dp b,dp c,im d,im a]
def wF(a b:BD):Bool:=an (rY a.a b.a) (an (rY a.b b.b) (kd hP a.e b.e))
def Bp{b:BD}(h:wF D b=true):D=b:=by
 obtain⟨a,h⟩:=bM h;obtain⟨c,h⟩:=bM h;cases D;cases b
 simp only at a c h;rw[tQ a,tQ c,mi im h]
def Gx(a b:MK):Bool:=an (cM a.log b.log) (an (cM a.size b.size) (an (hP a.aE b.aE) (wG a.aM b.aM)))
def Qa{a b:MK}(h:Gx a b=true):a=b:=by
 obtain⟨c,h⟩:=bM h;obtain⟨d,h⟩:=bM h;obtain⟨e,h⟩:=bM h;cases a;cases b
 simp only at c d e h;rw[dp c,dp d,im e,Bt h]
def Bs(a b:MG):Bool:=an (cM a.c b.c) (an (cM a.log b.log) (an (cM a.id b.id) (an (cM a.m b.m) (an (cM a.n b.n) (an (rY a.h b.h) (an (wF a.b b.b) (an (kd hP a.e b.e) (kd Gx a.aL b.aL))))))))
def P9{b:MG}(h:Bs G b=true):G=b:=by
 obtain⟨a,h⟩:=bM h;obtain⟨c,h⟩:=bM h;obtain⟨d,h⟩:=bM h;obtain⟨e,h⟩:=bM h;obtain⟨f,h⟩:=bM h;obtain⟨g,h⟩:=bM h;obtain⟨i,h⟩:=bM h;obtain⟨j,h⟩:=bM h;cases G;cases b
 simp only at a c d e f g i j h;rw[dp a,dp c,dp d,dp e,dp f,tQ g,Bp i,mi im j,mi Qa h]
def GF(a b:ST):Bool:=an (wG a.aT b.aT) (an (rY a.ar b.ar) (an (kd rY a.f b.f) (hP a.aM b.aM)))
def Qh{b:ST}(h:GF S b=true):S=b:=by
 obtain⟨a,h⟩:=bM h;obtain⟨c,h⟩:=bM h;obtain⟨d,h⟩:=bM h;cases S;cases b
 simp only at a c d h;rw[Bt a,tQ c,mi tQ d,im h]
def GD:Option RQ->Option RQ->Bool
 |none,none=>true
 |some a,some b=>an (cM a.id b.id) (an (Bs a.m b.m) (an (cM a.k b.k) (cM a.bt b.bt)))
 |_,_=>false
def Qg:∀{a b:Option RQ},GD a b=true->a=b
 |none,none,_=>rfl
 |some a,some b,h=>by
  have h:an (cM a.id b.id) (an (Bs a.m b.m) (an (cM a.k b.k) (cM a.bt b.bt)))=true:=h
  obtain⟨c,h⟩:=bM h;obtain⟨d,h⟩:=bM h;obtain⟨e,h⟩:=bM h
  cases a;cases b
  simp only at c d e h
  rw[dp c,P9 d,dp e,dp h]
 |none,some b,h=>by cases h
 |some a,none,h=>by cases h
def Gv(a b:JN):Bool:=an (kd hP a.l b.l) (an (cM a.sure b.sure) (wG a.cut b.cut))
def P6{b:JN}(h:Gv E b=true):E=b:=by
 obtain⟨a,h⟩:=bM h;obtain⟨c,h⟩:=bM h;cases E;cases b
 simp only at a c h;rw[mi im a,dp c,Bt h]
def Gz(a b:Nat×Nat):Bool:=an (cM a.1 b.1) (cM a.2 b.2)
def Qe{a b:Nat×Nat}(h:Gz a b=true):a=b:=by
 obtain⟨c,h⟩:=bM h;cases a;cases b
 simp only at c h;rw[dp c,dp h]
def Gt(a b:DK):Bool:=an (hP a.f0 b.f0) (an (hP a.f1 b.f1) (an (kd Gz a.a b.a) (cM a.room b.room)))
def P5{b:DK}(h:Gt d b=true):d=b:=by
 obtain⟨a,h⟩:=bM h;obtain⟨c,h⟩:=bM h;obtain⟨e,h⟩:=bM h;cases d;cases b
 simp only at a c e h;rw[im a,im c,mi Qe e,dp h]
def GC(a b:RC):Bool:=an (cM a.base b.base) (an (cM a.j b.j) (an (cM a.span b.span) (an (cM a.i b.i) (cM a.room b.room))))
def Qf{a b:RC}(h:GC a b=true):a=b:=by
 obtain⟨c,h⟩:=bM h;obtain⟨d,h⟩:=bM h;obtain⟨e,h⟩:=bM h;obtain⟨f,h⟩:=bM h;cases a;cases b
 simp only at c d e f h;rw[dp c,dp d,dp e,dp f,dp h]
def Bq(a b:CF):Bool:=an (hP a.key b.key) (an (cM a.bG b.bG) (an (cM a.room b.room) (an (cM a.every b.every) (an (cM a.a b.a) (GC a.rc b.rc)))))
def Gs{b:CF}(h:Bq C b=true):C=b:=by
 obtain⟨a,h⟩:=bM h;obtain⟨c,h⟩:=bM h;obtain⟨d,h⟩:=bM h;obtain⟨e,h⟩:=bM h;obtain⟨f,h⟩:=bM h;cases C;cases b
 simp only at a c d e f h;rw[im a,dp c,dp d,dp e,dp f,Qf h]
def Gy(a b:ND):Bool:=an (Bq a.c b.c) (an (GF a.st b.st) (an (cM a.l b.l) (an (cM a.next b.next) (an (GD a.g b.g) (an (Gv a.j b.j) (an (Gt a.d b.d) (an (cM a.id b.id) (an (cM a.bq b.bq) (an (cM a.tell b.tell) (cM a.bN b.bN))))))))))
def Qb{b:ND}(h:Gy N b=true):N=b:=by
 obtain⟨a,h⟩:=bM h;obtain⟨c,h⟩:=bM h;obtain⟨d,h⟩:=bM h;obtain⟨e,h⟩:=bM h;obtain⟨f,h⟩:=bM h;obtain⟨g,h⟩:=bM h;obtain⟨i,h⟩:=bM h;obtain⟨j,h⟩:=bM h;obtain⟨k,h⟩:=bM h;obtain⟨h10,h⟩:=bM h;cases N;cases b
 simp only at a c d e f g i j k h10 h;rw[Gs a,Qh c,dp d,dp e,Qg f,P6 g,P5 i,dp j,dp k,dp h10,dp h]
def GB(a b:PL):Bool:=an (Gy a.n b.n) (kd hP a.a b.a)
def Qd{a b:PL}(h:GB a b=true):a=b:=by
 obtain⟨c,h⟩:=bM h;cases a;cases b
 simp only at c h;rw[Qb c,mi im h]
def GA(a b:PK):Bool:=an (Br a.src b.src) (an (Br a.dst b.dst) (hP a.s b.s))
def Qc{a b:PK}(h:GA a b=true):a=b:=by
 obtain⟨c,h⟩:=bM h;obtain⟨d,h⟩:=bM h;cases a;cases b
 simp only at c d h;rw[Gu c,Gu d,im h]
def Gw(a b:KY):Bool:=an (hP a.a b.a) (an (hP a.pre b.pre) (hP a.pub b.pub))
def P7{a b:KY}(h:Gw a b=true):a=b:=by
 obtain⟨c,h⟩:=bM h;obtain⟨d,h⟩:=bM h;cases a;cases b
 simp only at c d h;rw[im c,im d,im h]
def P8(a b:ME):Bool:=an (Gw a.k b.k) (an (Bq a.c b.c) (an (kd GB a.l b.l) (an (kd GA a.b b.b) (cM a.now b.now))))
def de{b:ME}(h:P8 M b=true):M=b:=by
 obtain⟨a,h⟩:=bM h;obtain⟨c,h⟩:=bM h;obtain⟨d,h⟩:=bM h;obtain⟨e,h⟩:=bM h;cases M;cases b
 simp only at a c d e h;rw[P7 a,Gs c,mi Qd d,mi Qc e,dp h]
end BQ
