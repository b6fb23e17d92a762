/- Lemmas. -/
import Derived.Test.YtommnllbflbdmaaGreatDoorCatap
import Derived.Lib.Mul64
set_option linter.all false
namespace Go.Proofs.YtommnllbflbdmaaGreatDoor
section
open Go.V
attribute [local irreducible] G GO GP GPW GPK Ev Ef EfR Ent CB GB V.Enters
structure DivI (A B D k:Nat) (a q r bit:Int):Prop where
 a:a=((A % 2 ^ k:Nat):Int)
 q:q=((A / 2 ^ k*B / D:Nat):Int)
 r:r=((A / 2 ^ k*B % D:Nat):Int)
 bit:bit=((2 ^ k / 2:Nat):Int)
end
end Go.Proofs.YtommnllbflbdmaaGreatDoor
namespace Go.V
def G.atB{P:Program}{N:Nat}{env:Env}{L:LH}{K:Post}(id:Nat){c y:Code}(h:G P N (.seq (.block id c) y) env L K):G P N (.seq (.block id c) y) env L K:=h
section
variable {P:Program}{env:Env}{L:LH}{ty:TypeId}{t yt:TypeId}{x y:Operand}{a b:Nat}
def Ev.x7(hx:evE env x=some (.int .u64 (a:Int)))(hy:evE env y=some (.int .u64 (b:Int))):Ev P L env (.binOp .add t x y yt) ty (.int .u64 (((a+b) % 18446744073709551616:Nat):Int)):=by
 have h:=Ev.B9 (P:=P) (L:=L) (ty:=ty) (t:=t) (yt:=yt) hx hy;rw[IntKind.wrap_u64,show((a:Int)+(b:Int)) % 18446744073709551616=(((a+b) % 18446744073709551616:Nat):Int) by omega] at h;exact h
def Ev.j0(hs:a+b<18446744073709551616)(hx:evE env x=some (.int .u64 (a:Int)))(hy:evE env y=some (.int .u64 (b:Int))):Ev P L env (.binOp .add t x y yt) ty (.int .u64 ((a+b:Nat):Int)):=by
 have h:=Ev.x7 (P:=P) (L:=L) (ty:=ty) (t:=t) (yt:=yt) hx hy;rw[Nat.mod_eq_of_lt hs] at h;exact h
def Ev.v2(hx:evE env x=some (.int .u64 (a:Int)))(hy:evE env y=some (.int .u64 (b:Int)))(hb:b≤18446744073709551616):Ev P L env (.binOp .sub t x y yt) ty (.int .u64 (((a+18446744073709551616 - b) % 18446744073709551616:Nat):Int)):=by
 have h:=Ev.B2 (P:=P) (L:=L) (ty:=ty) (t:=t) (yt:=yt) hx hy;rw[IntKind.wrap_u64,show((a:Int) - (b:Int)) % 18446744073709551616=(((a+18446744073709551616 - b) % 18446744073709551616:Nat):Int) by omega] at h;exact h
def Ev.l9(hs:b≤a)(ha:a<18446744073709551616)(hx:evE env x=some (.int .u64 (a:Int)))(hy:evE env y=some (.int .u64 (b:Int))):Ev P L env (.binOp .sub t x y yt) ty (.int .u64 ((a - b:Nat):Int)):=by
 have h:=Ev.v2 (P:=P) (L:=L) (ty:=ty) (t:=t) (yt:=yt) hx hy ab;rw[show(a+18446744073709551616 - b) % 18446744073709551616=a - b by omega] at h;exact h
def Ev.o0(hx:evE env x=some (.int .u64 (a:Int)))(hy:evE env y=some (.int .u64 (b:Int))):Ev P L env (.binOp .mul t x y yt) ty (.int .u64 ((a*b % 18446744073709551616:Nat):Int)):=by
 have h:=Ev.C5 (P:=P) (L:=L) (ty:=ty) (t:=t) (yt:=yt) hx hy;have e:((a:Int)*(b:Int)) % 18446744073709551616=((a*b % 18446744073709551616:Nat):Int):=by simp
 rw[IntKind.wrap_u64,e] at h;exact h
def Ev.g9(hs:a*b<18446744073709551616)(hx:evE env x=some (.int .u64 (a:Int)))(hy:evE env y=some (.int .u64 (b:Int))):Ev P L env (.binOp .mul t x y yt) ty (.int .u64 ((a*b:Nat):Int)):=by
 have h:=Ev.o0 (P:=P) (L:=L) (ty:=ty) (t:=t) (yt:=yt) hx hy;rw[Nat.mod_eq_of_lt hs] at h;exact h
def Ev.v7(hx:evE env x=some (.int .u64 (a:Int)))(hy:evE env y=some (.int .u64 (b:Int)))(ha:a<18446744073709551616)(hb:0<b):Ev P L env (.binOp .quo t x y yt) ty (.int .u64 ((a / b:Nat):Int)):=by
 have h:=Ev.C2 (P:=P) (L:=L) (ty:=ty) (t:=t) (yt:=yt) hx hy ab ab ab;rw[show((a:Int) / (b:Int))=((a / b:Nat):Int) from(Int.natCast_ediv a b).symm] at h;exact h
def Ev.p8(hx:evE env x=some (.int .u64 (a:Int)))(hy:evE env y=some (.int .u64 4294967295))(ha:a<18446744073709551616):Ev P L env (.binOp .and t x y yt) ty (.int .u64 ((a % 4294967296:Nat):Int)):=by
 have h:=Ev.C3 (P:=P) (L:=L) (ty:=ty) (t:=t) (yt:=yt) hx hy ab ab ab ab
 have e:((a:Int).toNat &&& (4294967295:Int).toNat)=a % 4294967296:=by
  rw[aD,show(4294967295:Int).toNat=2 ^ 32 - 1 by decide,Nat.and_two_pow_sub_one_eq_mod]
 rw[e] at h;exact h
def Ev.p7{k:IntKind}{c:Int}(n:Nat)(hn:c=n)(a0:n≤64)(hx:evE env x=some (.int .u64 (a:Int)))(hy:evE env y=some (.int k c)):Ev P L env (.binOp .shr t x y yt) ty (.int .u64 ((a / 2 ^ n:Nat):Int)):=by
 have h:=Ev.shr (P:=P) (L:=L) (ty:=ty) (t:=t) (yt:=yt) hx hy ab
 have e:((a:Nat):Int).fdiv (2 ^ min c.toNat IntKind.u64.bits)=((a / 2 ^ n:Nat):Int):=by
  have e2:min c.toNat IntKind.u64.bits=n:=by simp[IntKind.bits];omega
  rw[e2,Int.fdiv_eq_ediv_of_nonneg _ (Int.le_of_lt (Int.pow_pos ag))];simp
 rw[e] at h;exact h
def Ev.m5(hx:evE env x=some (.int .u64 (a:Int)))(hy:evE env y=some (.int .u64 32)):Ev P L env (.binOp .shr t x y yt) ty (.int .u64 ((a / 4294967296:Nat):Int)):=by
 have h:=Ev.p7 (P:=P) (L:=L) (ty:=ty) (t:=t) (yt:=yt) 32 rfl ag hx hy;rw[show(2:Nat) ^ 32=4294967296 by decide] at h;exact h
def Ev.v6{k:IntKind}{c:Int}(n:Nat)(hn:c=n)(a0:n≤64)(hx:evE env x=some (.int .u64 (a:Int)))(hy:evE env y=some (.int k c)):Ev P L env (.binOp .shl t x y yt) ty (.int .u64 ((a*2 ^ n % 18446744073709551616:Nat):Int)):=by
 have h:=Ev.shl (P:=P) (L:=L) (ty:=ty) (t:=t) (yt:=yt) hx hy ab
 have e:IntKind.u64.wrap ((a:Int)*2 ^ min c.toNat IntKind.u64.bits)=((a*2 ^ n % 18446744073709551616:Nat):Int):=by
  have e2:min c.toNat IntKind.u64.bits=n:=by simp[IntKind.bits];omega
  rw[e2,IntKind.wrap_u64];simp
 rw[e] at h;exact h
def Ev.orN(hx:evE env x=some (.int .u64 (a:Int)))(hy:evE env y=some (.int .u64 (b:Int)))(ha:a<18446744073709551616)(hb:b<18446744073709551616):Ev P L env (.binOp .or t x y yt) ty (.int .u64 ((a ||| b:Nat):Int)):=by
 have h:=Ev.C4 (P:=P) (L:=L) (ty:=ty) (t:=t) (yt:=yt) hx hy ab ab ab ab;rw[aD,aD] at h;exact h
end
end Go.V
namespace Go.Proofs.YtommnllbflbdmaaGreatDoor
open Go.V
attribute [local irreducible] G GO GP GPW GPK Ev Ef EfR Ent CB GB Enters
def sD{L:LH}(x y:Nat)(hx:x<18446744073709551616)(hy:y<18446744073709551616) :
  Tri ai 241 #[.int .u64 (x:Int),.int .u64 (y:Int)] L (rtQ (.tuple #[.int .u64 ((x*y / 18446744073709551616:Nat):Int),.int .u64 ((x*y % 18446744073709551616:Nat):Int)]) L):=by
 obtain⟨m1,m2,m3,m4⟩:=Go.Lib.mul64_hi x y hx hy;refine Tri.bd ?_;refine IF ?_;intros;refine GO.ev (Ev.p8 rfl rfl hx) ag ?_;refine IF ?_;intros;refine GO.ev (Ev.m5 rfl rfl) ag ?_;refine IF ?_;intros;refine GO.ev (Ev.p8 rfl rfl hy) ag ?_;refine IF ?_;intros;refine GO.ev (Ev.m5 rfl rfl) ag ?_;have a0:=Go.Lib.half_mul_le (a:=x / 4294967296) (b:=y / 4294967296) ab ab;have a1:=Go.Lib.half_mul_le (a:=x / 4294967296) (b:=y % 4294967296) ab ab;have a2:=Go.Lib.half_mul_le (a:=x % 4294967296) (b:=y / 4294967296) ab ab;refine IF ?_;intros;refine GO.ev (Ev.g9 m1 rfl rfl) ag ?_;refine IF ?_;intros;refine GO.ev (Ev.g9 ab rfl rfl) ag ?_;refine IF ?_;intros;refine GO.ev (Ev.m5 rfl rfl) ag ?_;refine GO.ev (Ev.j0 m2 rfl rfl) ag ?_;refine IF ?_;intros;refine GO.ev (Ev.p8 rfl rfl m2) ag ?_;refine IF ?_;intros;refine GO.ev (Ev.m5 rfl rfl) ag ?_;refine IF ?_;intros;refine GO.ev (Ev.g9 ab rfl rfl) ag ?_;refine GO.ev (Ev.j0 m3 rfl rfl) ag ?_;refine IF ?_;intros;refine GO.ev (Ev.g9 ab rfl rfl) ag ?_;refine IF ?_;intros;refine GO.ev (Ev.j0 ab rfl rfl) ag ?_;refine IF ?_;intros;refine GO.ev (Ev.m5 rfl rfl) ag ?_;refine GO.ev (Ev.j0 ab rfl rfl) ag ?_;rw[m4];refine IF ?_;intros;refine GO.ev (Ev.o0 rfl rfl) ag ?_;refine IF ?_;intros;exact KX.en ⟨rfl,rfl⟩
