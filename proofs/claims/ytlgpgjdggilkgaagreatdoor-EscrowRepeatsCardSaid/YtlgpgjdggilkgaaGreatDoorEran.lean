/- Lemmas. -/
import Derived.Test.YtlgpgjdggilkgaaGreatDoorEram
import Derived.Lib.Mul64
set_option linter.all false
set_option maxHeartbeats 1000000
namespace Go.V
def Δ.RV{P:Program}{N:Nat}{env:Env}{L:LH}{Ν:E1}(F:Nat){c y:Code}(h:Δ P N (.seq (.block F c) y) env L Ν):Δ P N (.seq (.block F c) y) env L Ν:=h
section
variable {P:Program}{env:Env}{L:LH}{ty:TypeId}{t yt:TypeId}{x y:Operand}{a b:Nat}
theorem O.t6(K:χ env x=some (.int .u64 (a:Int)))(Z:χ env y=some (.int .u64 (b:Int))):O P L env (.binOp .add t x y yt) ty (.int .u64 (((a+b) % 18446744073709551616:Nat):Int)):=by
 have h:=O.z6 (P:=P) (L:=L) (ty:=ty) (t:=t) (yt:=yt) K Z;grind [IntKind.wrap_u64]
theorem O.g9(hs:a+b<18446744073709551616)(K:χ env x=some (.int .u64 (a:Int)))(Z:χ env y=some (.int .u64 (b:Int))):O P L env (.binOp .add t x y yt) ty (.int .u64 ((a+b:Nat):Int)):=by
 have h:=O.t6 (P:=P) (L:=L) (ty:=ty) (t:=t) (yt:=yt) K Z;grind
theorem O.r7(K:χ env x=some (.int .u64 (a:Int)))(Z:χ env y=some (.int .u64 (b:Int)))(hb:b<=18446744073709551616):O P L env (.binOp .sub t x y yt) ty (.int .u64 (((a+18446744073709551616 - b) % 18446744073709551616:Nat):Int)):=by
 have h:=O.A4 (P:=P) (L:=L) (ty:=ty) (t:=t) (yt:=yt) K Z;grind [IntKind.wrap_u64]
theorem O.j8(hs:b<=a)(ha:a<18446744073709551616)(K:χ env x=some (.int .u64 (a:Int)))(Z:χ env y=some (.int .u64 (b:Int))):O P L env (.binOp .sub t x y yt) ty (.int .u64 ((a - b:Nat):Int)):=by
 have h:=O.r7 (P:=P) (L:=L) (ty:=ty) (t:=t) (yt:=yt) K Z B;grind
theorem O.l5(K:χ env x=some (.int .u64 (a:Int)))(Z:χ env y=some (.int .u64 (b:Int))):O P L env (.binOp .mul t x y yt) ty (.int .u64 ((a*b % 18446744073709551616:Nat):Int)):=by
 have h:=O.A5 (P:=P) (L:=L) (ty:=ty) (t:=t) (yt:=yt) K Z;grind [IntKind.wrap_u64]
theorem O.g8(hs:a*b<18446744073709551616)(K:χ env x=some (.int .u64 (a:Int)))(Z:χ env y=some (.int .u64 (b:Int))):O P L env (.binOp .mul t x y yt) ty (.int .u64 ((a*b:Nat):Int)):=by
 have h:=O.l5 (P:=P) (L:=L) (ty:=ty) (t:=t) (yt:=yt) K Z;grind
theorem O.r9(K:χ env x=some (.int .u64 (a:Int)))(Z:χ env y=some (.int .u64 (b:Int)))(ha:a<18446744073709551616)(hb:0<b):O P L env (.binOp .quo t x y yt) ty (.int .u64 ((a / b:Nat):Int)):=by
 have h:=O.A3 (P:=P) (L:=L) (ty:=ty) (t:=t) (yt:=yt) K Z B B B;grind
theorem O.m7(K:χ env x=some (.int .u64 (a:Int)))(Z:χ env y=some (.int .u64 4294967295))(ha:a<18446744073709551616):O P L env (.binOp .and t x y yt) ty (.int .u64 ((a % 4294967296:Nat):Int)):=by
 have h:=O.x6 (P:=P) (L:=L) (ty:=ty) (t:=t) (yt:=yt) K Z B B B B
 have e:((a:Int).toNat &&& (4294967295:Int).toNat)=a % 4294967296:=by
  rw[aZ,show(4294967295:Int).toNat=2 ^ 32 - 1 by decide,Nat.and_two_pow_sub_one_eq_mod]
 grind
theorem O.m6{k:IntKind}{c:Int}(n:Nat)(hn:c=n)(r:n<=64)(K:χ env x=some (.int .u64 (a:Int)))(Z:χ env y=some (.int k c)):O P L env (.binOp .shr t x y yt) ty (.int .u64 ((a / 2 ^ n:Nat):Int)):=by
 have h:=O.shr (P:=P) (L:=L) (ty:=ty) (t:=t) (yt:=yt) K Z B;grind [IntKind.bits]
def O.j9(K:χ env x=some (.int .u64 (a:Int)))(Z:χ env y=some (.int .u64 32)):O P L env (.binOp .shr t x y yt) ty (.int .u64 ((a / 4294967296:Nat):Int)):=by
 have h:=O.m6 (P:=P) (L:=L) (ty:=ty) (t:=t) (yt:=yt) 32 rfl ac K Z;omega
theorem O.r8{k:IntKind}{c:Int}(n:Nat)(hn:c=n)(r:n<=64)(K:χ env x=some (.int .u64 (a:Int)))(Z:χ env y=some (.int k c)):O P L env (.binOp .shl t x y yt) ty (.int .u64 ((a*2 ^ n % 18446744073709551616:Nat):Int)):=by
 have h:=O.shl (P:=P) (L:=L) (ty:=ty) (t:=t) (yt:=yt) K Z B;grind [IntKind.bits,IntKind.wrap_u64]
theorem O.TI(K:χ env x=some (.int .u64 (a:Int)))(Z:χ env y=some (.int .u64 (b:Int)))(ha:a<18446744073709551616)(hb:b<18446744073709551616):O P L env (.binOp .or t x y yt) ty (.int .u64 ((a ||| b:Nat):Int)):=by
 have h:=O.x9 (P:=P) (L:=L) (ty:=ty) (t:=t) (yt:=yt) K Z B B B B;grind
end
end Go.V
namespace Go.Proofs.YtlgpgjdggilkgaaGreatDoor
section
open Go.V
attribute [local irreducible] Δ R GP Ο h2 O Ef A8 A CB GB Enters
def BA{L:LH}(x y:Nat)(K:x<18446744073709551616)(Z:y<18446744073709551616) :
  Λ Ε 328 #[.int .u64 (x:Int),.int .u64 (y:Int)] L (C9 (.tuple #[.int .u64 ((x*y / 18446744073709551616:Nat):Int),.int .u64 ((x*y % 18446744073709551616:Nat):Int)]) L):=by
 obtain⟨m1,m2,m3,m4⟩:=Go.Lib.mul64_hi x y K Z;refine Λ.bd ?_;refine Ih ?_;intros;refine R.ev (O.m7 rfl rfl K) ac ?_;refine Ih ?_;intros;refine R.ev (O.j9 rfl rfl) ac ?_;refine Ih ?_;intros;refine R.ev (O.m7 rfl rfl Z) ac ?_;refine Ih ?_;intros;refine R.ev (O.j9 rfl rfl) ac ?_;have r:=Go.Lib.half_mul_le (a:=x / 4294967296) (b:=y / 4294967296) B B;have I:=Go.Lib.half_mul_le (a:=x / 4294967296) (b:=y % 4294967296) B B;have a2:=Go.Lib.half_mul_le (a:=x % 4294967296) (b:=y / 4294967296) B B;refine Ih ?_;intros;refine R.ev (O.g8 m1 rfl rfl) ac ?_;refine Ih ?_;intros;refine R.ev (O.g8 B rfl rfl) ac ?_;refine Ih ?_;intros;refine R.ev (O.j9 rfl rfl) ac ?_;refine R.ev (O.g9 m2 rfl rfl) ac ?_;refine Ih ?_;intros;refine R.ev (O.m7 rfl rfl m2) ac ?_;refine Ih ?_;intros;refine R.ev (O.j9 rfl rfl) ac ?_;refine Ih ?_;intros;refine R.ev (O.g8 B rfl rfl) ac ?_;refine R.ev (O.g9 m3 rfl rfl) ac ?_;refine Ih ?_;intros;refine R.ev (O.g8 B rfl rfl) ac ?_;refine Ih ?_;intros;refine R.ev (O.g9 B rfl rfl) ac ?_;refine Ih ?_;intros;refine R.ev (O.j9 rfl rfl) ac ?_;refine R.ev (O.g9 B rfl rfl) ac ?_;rw[m4];refine Ih ?_;intros;refine R.ev (O.l5 rfl rfl) ac ?_;refine Ih ?_;intros;exact KX.en ⟨rfl,rfl⟩
def EZ{u y1 y0 cq:Nat}(hu:u<y1*cq+y0)(h0:y0<cq)(J:cq<=2*y1)(hp:0<y1):u / y1<=cq+1:=by
 have h:u / y1<cq+2:=by
  rw[ez hp,dl,Nat.mul_comm cq y1];omega
 omega
def Hw(n v0 y cq:Nat)(Z:0<y):(n*cq+v0) / y=n / y*cq+(n % y*cq+v0) / y/\(n*cq+v0) % y=(n % y*cq+v0) % y:=by
 have h:=eW n y
 have e:n*cq+v0=y*(n / y*cq)+(n % y*cq+v0):=by
  conv=>lhs;rw[<-h]
  rw[dl,Nat.mul_assoc,df]
 rw[e];rw[Nat.mul_add_div Z,Nat.mul_add_mod];omega
def CL{s:Nat}(hs:s<=64):2 ^ (64 - s)*2 ^ s=18446744073709551616:=by
 rw[<-Nat.pow_add,Nat.sub_add_cancel hs]
theorem GA{hi lo y s:Nat}(hs:s<=64)(Z:hi<y)(hl:lo<18446744073709551616)(U:y*2 ^ s<18446744073709551616) :
  hi*2 ^ s<18446744073709551616/\lo / 2 ^ (64 - s)<2 ^ s/\(hi*2 ^ s+lo / 2 ^ (64 - s))*18446744073709551616+lo*2 ^ s % 18446744073709551616=(hi*18446744073709551616+lo)*2 ^ s/\hi*2 ^ s+lo / 2 ^ (64 - s)<y*2 ^ s:=by
 have hp:=CL hs;have I:0<2 ^ s:=ay;have r:0<2 ^ (64 - s):=ay;have h3:hi*2 ^ s<=y*2 ^ s:=bK _ B
 have h4:lo / 2 ^ (64 - s)<2 ^ s:=by
  rw[ez r,Nat.mul_comm,hp];exact hl
 have h5:lo*2 ^ s / 18446744073709551616=lo / 2 ^ (64 - s):=by
  rw[<-hp,Nat.mul_div_mul_right _ _ I]
 have h6:=eW (lo*2 ^ s) 18446744073709551616;rw[h5] at h6;refine⟨B,h4,?_,?_⟩
 .grind
 .have h7:(hi+1)*2 ^ s<=y*2 ^ s:=bK _ Z;grind
def EO{a b s:Nat}(hb:b<2 ^ s):a*2 ^ s ||| b=a*2 ^ s+b:=by
 rw[<-Nat.shiftLeft_eq,Nat.shiftLeft_add_eq_or_of_lt hb]
theorem Hx{N y s:Nat}:N*2 ^ s / (y*2 ^ s)=N / y/\N*2 ^ s % (y*2 ^ s) / 2 ^ s=N % y:=by
 have r:0<2 ^ s:=ay;refine⟨Nat.mul_div_mul_right _ _ r,?_⟩;rw[Nat.mul_mod_mul_right,Nat.mul_div_cancel _ r]
abbrev len8:ByteArray:={ data:=(([0,1,2,2,3,3,3,3,4,4,4,4,4,4,4,4,5,5,5,5,5,5,5,5,5,5,5,5,5,5,5,5,6,6,6,6,6,6,6,6,6,6,6,6,6,6,6,6,6,6,6,6,6,6,6,6,6,6,6,6,6,6,6,6].append [7,7,7,7,7,7,7,7,7,7,7,7,7,7,7,7,7,7,7,7,7,7,7,7,7,7,7,7,7,7,7,7,7,7,7,7,7,7,7,7,7,7,7,7,7,7,7,7,7,7,7,7,7,7,7,7,7,7,7,7,7,7,7,7]).append ([8,8,8,8,8,8,8,8,8,8,8,8,8,8,8,8,8,8,8,8,8,8,8,8,8,8,8,8,8,8,8,8,8,8,8,8,8,8,8,8,8,8,8,8,8,8,8,8,8,8,8,8,8,8,8,8,8,8,8,8,8,8,8,8].append [8,8,8,8,8,8,8,8,8,8,8,8,8,8,8,8,8,8,8,8,8,8,8,8,8,8,8,8,8,8,8,8,8,8,8,8,8,8,8,8,8,8,8,8,8,8,8,8,8,8,8,8,8,8,8,8,8,8,8,8,8,8,8,8])).toArray }
def EW:∀c:Nat,c<256->1<=c->1<=((fx len8)[c]!).toNat/\2 ^ (((fx len8)[c]!).toNat - 1)<=c/\c<2 ^ ((fx len8)[c]!).toNat/\0<=(fx len8)[c]!/\(fx len8)[c]!<=8:=by decide +kernel
def De:len8.size=256:=by decide +kernel
theorem Ht{x l k:Nat}(J:2 ^ (l - 1)<=x / 2 ^ k)(U:x / 2 ^ k<2 ^ l)(hl:1<=l):2 ^ (l+k - 1)<=x/\x<2 ^ (l+k):=by
 have hp:0<2 ^ k:=ay;constructor
 .rw[show l+k - 1=l - 1+k by omega,Nat.pow_add];exact(Nat.le_div_iff_mul_le hp).1 J
 .rw[Nat.pow_add];exact(ez hp).1 U
theorem BH{L:LH}(x:Nat)(K:x<18446744073709551616)(h0:1<=x) :
  Λ Ε 182 #[.int .u64 (x:Int)] L (λv Y=>∃l:Nat,v=E (l:Int)/\(1<=l/\l<=64/\2 ^ (l - 1)<=x/\x<2 ^ l)/\Y = L):=by
 have a3:=De;refine Λ.bd ?_;repeat first|refine Δ.sm 1 ?_|refine cR ?_|intro
 refine Δ.c7 (α:=Nat×Nat) (λg=>(g.2=0\/g.2=32)/\g.1=x / 2 ^ g.2/\g.1<4294967296/\1<=g.1) (λg=>[(0,.int .u64 (g.1:Int)),(2,E (g.2:Int))]) (λ_=>L) ?_ ?_
 .by_cases h:4294967296<=x
  .refine Ih ?_;intros;refine R.ev (O.j9 rfl rfl) ac ?_;refine Ih ?_;intros;refine⟨(x / 4294967296,32),⟨.inr rfl,by simp,B,B⟩,aA,A.refl _⟩
  .refine Ih ?_;intros;refine⟨(x,0),⟨.inl rfl,by simp,B,h0⟩,aA,A.refl _⟩
 rintro⟨a,k⟩ ⟨hk,ha,I,r⟩;dsimp only at hk ha I r ⊢;refine Δ.c7 (α:=Nat×Nat) (λg=>(g.2<=48)/\g.1=x / 2 ^ g.2/\g.1<65536/\1<=g.1) (λg=>[(0,.int .u64 (g.1:Int)),(2,E (g.2:Int))]) (λ_=>L) ?_ ?_
 .by_cases h:65536<=a
  .refine Ih ?_;intros;refine R.ev (O.m6 16 rfl ac rfl rfl) ac ?_;refine Ih ?_;intros;refine⟨(a / 2 ^ 16,k+16),⟨B,ay,B,B⟩,?_,A.refl _⟩;dsimp only;rw[show((k+16:Nat):Int)=(k:Int)+16 by omega];exact aA
  .refine Ih ?_;intros;refine⟨(a,k),⟨by dsimp only;omega,ha,by dsimp only;omega,r⟩,aA,A.refl _⟩
 clear hk ha I r;rintro⟨a,k⟩ ⟨hk,ha,I,r⟩;dsimp only at hk ha I r ⊢;refine Δ.c7 (α:=Nat×Nat) (λg=>(g.2<=56)/\g.1=x / 2 ^ g.2/\g.1<256/\1<=g.1) (λg=>[(0,.int .u64 (g.1:Int)),(2,E (g.2:Int))]) (λ_=>L) ?_ ?_
 .by_cases h:256<=a
  .refine Ih ?_;intros;refine R.ev (O.m6 8 rfl ac rfl rfl) ac ?_;refine Ih ?_;intros;refine⟨(a / 2 ^ 8,k+8),⟨B,by dsimp only;rw[ha,Nat.div_div_eq_div_mul,<-Nat.pow_add],B,B⟩,?_,A.refl _⟩;dsimp only;rw[show((k+8:Nat):Int)=(k:Int)+8 by omega];exact aA
  .refine Ih ?_;intros;refine⟨(a,k),⟨by dsimp only;omega,ha,by dsimp only;omega,r⟩,aA,A.refl _⟩
 clear hk ha I r;rintro⟨a,k⟩ ⟨hk,ha,I,r⟩;dsimp only at hk ha I r ⊢;obtain⟨t1,t2,t3,t4,t5⟩:=EW a I r;have a2:(a:Int).toNat=a:=B;refine Ih ?_;intros;refine R.ev (O.n9 (s:=len8) rfl rfl B B) ac ?_;rw[a2];generalize (fx len8)[a]! = c at t1 t2 t3 t4 t5;refine Ih ?_;intros;refine KX.a8 aw (A.refl _) ⟨c.toNat+k,?_,⟨B,B,?_⟩,rfl⟩
 .grind [KD]
 .rw[ha] at t2 t3;exact Ht t2 t3 t1
theorem Db{L:LH}(x:Nat)(K:x<18446744073709551616)(h0:1<=x) :
  Λ Ε 334 #[.int .u64 (x:Int)] L (λv Y=>∃s:Nat,v=E (s:Int)/\(s<=63/\9223372036854775808<=x*2 ^ s/\x*2 ^ s<18446744073709551616)/\Y = L):=by
 refine Λ.bd ?_;refine Ih ?_;intros;refine R.ca (BH x K h0) ?_;rintro _ _⟨l,rfl,⟨l1,l2,l3,l4⟩,rfl⟩;refine Ih ?_;intros;refine KX.a8 aw (A.refl _) ⟨64 - l,?_,⟨B,?_,?_⟩,rfl⟩
 .grind [KD]
 .have J:2 ^ (l - 1)*2 ^ (64 - l)<=x*2 ^ (64 - l):=bK _ l3;rw[<-Nat.pow_add,show l - 1+(64 - l)=63 by omega] at J;omega
 .have J:x*2 ^ (64 - l)<2 ^ l*2 ^ (64 - l):=Nat.mul_lt_mul_of_pos_right l4 ay;rw[<-Nat.pow_add,show l+(64 - l)=64 by omega] at J;omega
structure Oc (u v y1 y0 q Θ:Nat):Prop where
 e:u=q*y1+Θ
 lo:(u*4294967296+v) / (y1*4294967296+y0)<=q
 q:q<=4294967297
 Θ:Θ<4294967296
theorem nJ{u v y1 y0 q Θ:Nat}(hu:u<y1*4294967296+y0)(hv:v<4294967296)(I:y0<4294967296)(a2:2147483648<=y1)(h:Oc u v y1 y0 q Θ)(hc:4294967296<=q\/4294967296*Θ+v<q*y0) :
  1<=q/\u=(q - 1)*y1+(Θ+y1)/\(u*4294967296+v) / (y1*4294967296+y0)<=q - 1/\q - 1<=4294967296:=by
 have r:(u*4294967296+v) / (y1*4294967296+y0)<q:=by
  rcases hc with hc|hc
  .have:=qw hu hv B
   omega
  .exact GC h.e hc B
 clear hc;generalize (u*4294967296+v) / (y1*4294967296+y0)=F8 at r;have J:1<=q:=B;refine⟨J,?_,B,by have:=h.q;omega⟩;have he:=h.e;obtain⟨p,rfl⟩:∃p,q=p+1:=⟨q - 1,B⟩;grind
def tn{u v y1 y0 q Θ:Nat}(r:2147483648<=y1)(h:Oc u v y1 y0 q Θ)(hc:¬(4294967296<=q\/4294967296*Θ+v<q*y0)):q=(u*4294967296+v) / (y1*4294967296+y0) :=
 FL B h.lo (zJ h.e B)
theorem pZ{u v y1 y0:Nat}(hu:u<y1*4294967296+y0)(hv:v<4294967296)(r:y0<4294967296)(I:2147483648<=y1)(a2:y1<4294967296):Oc u v y1 y0 (u / y1) (u - u / y1*y1):=by
 have J:=eW u y1;rw[Nat.mul_comm] at J;have U:=dA u (B:0<y1);exact⟨B,Fa hv B ac,EZ hu r B B,B⟩
def tq{u v y1 y0 q Θ:Nat}(r:y0<4294967296)(h:Oc u v y1 y0 q Θ):q*y0<18446744073709551616:=by
 have:=Nat.mul_le_mul h.q (B:y0<=4294967295)
 omega
def Ai(u z:Nat):(u*4294967296+z / 4294967296)*4294967296+z % 4294967296=u*18446744073709551616+z:=B
theorem sM{u v η:Nat}(h0:0<η)(J:η<18446744073709551616):((u*4294967296 % 18446744073709551616+v) % 18446744073709551616+18446744073709551616 - (u*4294967296+v) / η*η % 18446744073709551616) % 18446744073709551616=(u*4294967296+v) % η:=by
 rw[Nat.mod_add_mod];generalize u*4294967296+v=Μ;have U:=eW Μ η;have h3:=dA Μ h0;grind
def kA{u v y1 y0 q Θ:Nat}(r:y0<4294967296)(I:2147483648<=y1)(e:u=q*y1+Θ)(lo:(u*4294967296+v) / (y1*4294967296+y0)<=q)(hq:q<=4294967296)(hr:4294967296<=Θ):q=(u*4294967296+v) / (y1*4294967296+y0) :=
 FL B lo (Fb e hr hq r)
abbrev xG:=Uw []
def aM{φ ψ:Prop}(k:ψ)(h:Hid ψ->φ:=by intro k;(with_reducible apply Δ.a8);first|refine Δ.dr 135 6 xG (Hid.out k)):φ:=h ⟨k⟩
def Iy{φ ψ:Prop}(k:ψ)(h:Hid ψ->φ:=by intro k;(repeat (first|refine aa ?_|intro sh|refine aM ?_));(repeat revert sh);exact Hid.out k):φ:=h ⟨k⟩
theorem Cb{L:LH}(hi lo y:Nat)(c3:hi<y)(b7:lo<18446744073709551616)(Z:y<18446744073709551616) :
  Λ Ε 329 #[.int .u64 (hi:Int),.int .u64 (lo:Int),.int .u64 (y:Int)] L (C9 (.tuple #[.int .u64 (((hi*18446744073709551616+lo) / y:Nat):Int),.int .u64 (((hi*18446744073709551616+lo) % y:Nat):Int)]) L):=by
 refine Λ.bd ?_;by_cases h0:hi=0
 .subst h0;refine Iy ?_;intros;refine Ο.H6 (O.r9 rfl rfl b7 B) ac ?_;refine Iy ?_;intros;refine KX.a8 aw (A.refl _) ⟨?_,rfl⟩;grind [KD]
 refine Iy ?_;intros;refine R.ca (Db y Z B) ?_;rintro _ L ⟨s,rfl,⟨s1,s2,s3⟩,rfl⟩;obtain⟨n1,n2,n3,n4⟩:=GA B c3 b7 s3;have b1:((64:Nat) - s)<=64:=B;refine Iy ?_;intros;refine R.ev (O.r8 s rfl B rfl rfl) ac ?_;rw[Nat.mod_eq_of_lt s3];have b6:=Hx (N:=hi*18446744073709551616+lo) (y:=y) (s:=s);obtain⟨η,hY⟩:∃η,η=y*2 ^ s:=⟨_,rfl⟩;rw[<-hY] at s2 s3 n4 b6 ⊢;refine Iy ?_;intros;refine R.ev (O.j9 rfl rfl) ac ?_;refine Iy ?_;intros;refine R.ev (O.m7 rfl rfl s3) ac ?_;obtain⟨y1,c6⟩:∃y1,y1=η / 4294967296:=⟨_,rfl⟩;obtain⟨y0,c5⟩:∃y0,y0=η % 4294967296:=⟨_,rfl⟩;have a5:η=y1*4294967296+y0:=B;rw[<-c6,<-c5];refine Iy ?_;intros;refine R.ev (O.r8 s rfl B rfl rfl) ac ?_;rw[Nat.mod_eq_of_lt n1];refine Iy ?_;intros;refine R.ev (O.j8 (a:=64) (b:=s) B B rfl rfl) ac ?_;refine R.ev (O.m6 (64 - s) rfl b1 rfl rfl) ac ?_;refine R.ev (O.TI rfl rfl n1 B) ac ?_;rw[EO n2];refine Iy ?_;intros;refine R.ev (O.r8 s rfl B rfl rfl) ac ?_;obtain⟨u,hu⟩:∃u,u=hi*2 ^ s+lo / 2 ^ (64 - s):=⟨_,rfl⟩;obtain⟨z,hz⟩:∃z,z=lo*2 ^ s % 18446744073709551616:=⟨_,rfl⟩;have d0:z<18446744073709551616:=by rw[hz];exact B
 rw[<-hu] at n3 n4;rw[<-hz] at n3;rw[<-hu,<-hz];refine Iy ?_;intros;refine R.ev (O.j9 rfl rfl) ac ?_;refine Iy ?_;intros;refine R.ev (O.m7 rfl rfl d0) ac ?_;obtain⟨z1,b9⟩:∃z1,z1=z / 4294967296:=⟨_,rfl⟩;obtain⟨z0,b8⟩:∃z0,z0=z % 4294967296:=⟨_,rfl⟩;rw[<-b9,<-b8];refine Iy ?_;intros;refine R.ev (O.r9 rfl rfl B B) ac ?_;have I:Oc u z1 y1 y0 (u / y1) (u - u / y1*y1):=by grind [pZ]
 have a2:=Nat.div_mul_le_self u y1;refine Iy ?_;intros;refine R.ev (O.g8 B rfl rfl) ac ?_;refine R.ev (O.j8 a2 B rfl rfl) ac ?_;have r:=I.e;generalize u / y1=q at I r a2;generalize u - q*y1=Θ at I r;obtain⟨Q1,a4⟩:∃Q1,Q1=(u*4294967296+z1) / η:=⟨_,rfl⟩;obtain⟨u2,b2⟩:∃u2,u2=(u*4294967296+z1) % η:=⟨_,rfl⟩;repeat first|((fail_if_success (with_reducible refine Δ.RV 0 ?_));(with_reducible apply Δ.seq))|refine cR ?_|intro _|refine aM ?_
 refine Δ.c7 (α:=Unit) (λ_=>True) (λ_=>[(2,.int .u64 (η:Int)),(8,.int .u64 (s:Int)),(9,.int .u64 (y1:Int)),(10,.int .u64 (y0:Int)),(11,.int .u64 (u:Int)),(13,.int .u64 (z1:Int)),(14,.int .u64 (z0:Int)),(15,.int .u64 (Q1:Int))]) (λ_=>L) ?_ ?_
 .refine Iy ?_;intros;refine Δ.loop (α:=Nat×Nat) (λg=>Oc u z1 y1 y0 g.1 g.2) (λg=>[(2,.int .u64 (η:Int)),(8,.int .u64 (s:Int)),(9,.int .u64 (y1:Int)),(10,.int .u64 (y0:Int)),(11,.int .u64 (u:Int)),(13,.int .u64 (z1:Int)),(14,.int .u64 (z0:Int)),(15,.int .u64 (g.1:Int)),(16,.int .u64 (g.2:Int))]) (λ_=>L) (λg=>g.1) (q,Θ) I aA (A.refl _) ?_;clear I r a2;rintro⟨q,Θ⟩ hg;dsimp only at hg ⊢;have b0:=tq B hg;have c2:=hg.Θ;have c1:=hg.q;by_cases a7:4294967296<=q
  .obtain⟨g1,g2,g3,g4⟩:=nJ B B B B hg (.inl a7);refine Iy ?_;intros;refine R.ev (O.j8 (a:=q) (b:=1) g1 B rfl rfl) ac ?_;refine Iy ?_;intros;refine R.ev (O.g9 (a:=Θ) (b:=y1) B rfl rfl) ac ?_;by_cases a3:4294967296<=Θ+y1
   .have hq:=kA B B g2 g3 g4 a3;rw[<-a5,<-a4] at hq;rw[hq];refine Iy ?_;intros;exact⟨(),trivial,aA,A.refl _⟩
   .refine Iy ?_;intros;exact⟨(q - 1,Θ+y1),⟨g2,g3,B,B⟩,by dsimp only;omega,aA,A.refl _⟩
  .refine Iy ?_;intros;refine R.ev (O.g8 b0 rfl rfl) ac ?_;refine Iy ?_;intros;refine R.ev (O.g8 (a:=4294967296) (b:=Θ) B rfl rfl) ac ?_;refine Iy ?_;intros;refine R.ev (O.g9 B rfl rfl) ac ?_;by_cases a9:4294967296*Θ+z1<q*y0
   .obtain⟨g1,g2,g3,g4⟩:=nJ B B B B hg (.inr a9);refine Iy ?_;intros;refine R.ev (O.j8 (a:=q) (b:=1) g1 B rfl rfl) ac ?_;refine Iy ?_;intros;refine R.ev (O.g9 (a:=Θ) (b:=y1) B rfl rfl) ac ?_;by_cases a3:4294967296<=Θ+y1
    .have hq:=kA B B g2 g3 g4 a3;rw[<-a5,<-a4] at hq;rw[hq];refine Iy ?_;intros;exact⟨(),trivial,aA,A.refl _⟩
    .refine Iy ?_;intros;exact⟨(q - 1,Θ+y1),⟨g2,g3,B,B⟩,by dsimp only;omega,aA,A.refl _⟩
   .have hq:=tn B hg B;rw[<-a5,<-a4] at hq;refine Iy ?_;intros;rw[hq];exact⟨(),trivial,aA,A.refl _⟩
 clear I r a2 q Θ;rintro _ _;have a6:0<η:=B;have d2:Q1<4294967296:=by rw[a4];exact qw n4 B a6
 have b3:=sM (u:=u) (v:=z1) a6 s3;have b5:=Hw (u*4294967296+z1) z0 η 4294967296 a6;have c4:u2<η:=by rw[b2];exact dA _ a6
 rw[<-a4,<-b2] at b3 b5;have c0:(u*4294967296+z1)*4294967296+z0=(hi*18446744073709551616+lo)*2 ^ s:=by rw[b9,b8,Ai,n3]
 rw[c0,b6.1] at b5;refine Iy ?_;intros;refine R.ev (O.l5 (a:=u) (b:=4294967296) rfl rfl) ac ?_;refine Iy ?_;intros;refine R.ev (O.t6 rfl rfl) ac ?_;refine Iy ?_;intros;refine R.ev (O.l5 rfl rfl) ac ?_;refine R.ev (O.r7 rfl rfl (Nat.le_of_lt (dA _ ac))) ac ?_;rw[b3];clear b3 a4 b2;refine Iy ?_;intros;refine R.ev (O.r9 rfl rfl B B) ac ?_;have I:Oc u2 z0 y1 y0 (u2 / y1) (u2 - u2 / y1*y1):=by grind [pZ]
 have a2:=Nat.div_mul_le_self u2 y1;refine Iy ?_;intros;refine R.ev (O.g8 B rfl rfl) ac ?_;refine R.ev (O.j8 a2 B rfl rfl) ac ?_;have r:=I.e;generalize u2 / y1=q at I r a2;generalize u2 - q*y1=Θ at I r;repeat first|((fail_if_success (with_reducible refine Δ.RV 2 ?_));(with_reducible apply Δ.seq))|refine cR ?_|intro _|refine aM ?_
 refine Δ.c7 (α:=Unit) (λ_=>True) (λ_=>[(2,.int .u64 (η:Int)),(8,.int .u64 (s:Int)),(14,.int .u64 (z0:Int)),(15,.int .u64 (Q1:Int)),(17,.int .u64 (u2:Int)),(18,.int .u64 (((u2*4294967296+z0) / η:Nat):Int))]) (λ_=>L) ?_ ?_
 .refine Iy ?_;intros;refine Δ.loop (α:=Nat×Nat) (λg=>Oc u2 z0 y1 y0 g.1 g.2) (λg=>[(2,.int .u64 (η:Int)),(8,.int .u64 (s:Int)),(9,.int .u64 (y1:Int)),(10,.int .u64 (y0:Int)),(14,.int .u64 (z0:Int)),(15,.int .u64 (Q1:Int)),(17,.int .u64 (u2:Int)),(18,.int .u64 (g.1:Int)),(16,.int .u64 (g.2:Int))]) (λ_=>L) (λg=>g.1) (q,Θ) I aA (A.refl _) ?_;clear I r a2;rintro⟨q,Θ⟩ hg;dsimp only at hg ⊢;have b0:=tq B hg;have c2:=hg.Θ;have c1:=hg.q;by_cases a7:4294967296<=q
  .obtain⟨g1,g2,g3,g4⟩:=nJ B B B B hg (.inl a7);refine Iy ?_;intros;refine R.ev (O.j8 (a:=q) (b:=1) g1 B rfl rfl) ac ?_;refine Iy ?_;intros;refine R.ev (O.g9 (a:=Θ) (b:=y1) B rfl rfl) ac ?_;by_cases a3:4294967296<=Θ+y1
   .have hq:=kA B B g2 g3 g4 a3;rw[<-a5] at hq;rw[hq];refine Iy ?_;intros;exact⟨(),trivial,aA,A.refl _⟩
   .refine Iy ?_;intros;exact⟨(q - 1,Θ+y1),⟨g2,g3,B,B⟩,by dsimp only;omega,aA,A.refl _⟩
  .refine Iy ?_;intros;refine R.ev (O.g8 b0 rfl rfl) ac ?_;refine Iy ?_;intros;refine R.ev (O.g8 (a:=4294967296) (b:=Θ) B rfl rfl) ac ?_;refine Iy ?_;intros;refine R.ev (O.g9 B rfl rfl) ac ?_;by_cases a9:4294967296*Θ+z0<q*y0
   .obtain⟨g1,g2,g3,g4⟩:=nJ B B B B hg (.inr a9);refine Iy ?_;intros;refine R.ev (O.j8 (a:=q) (b:=1) g1 B rfl rfl) ac ?_;refine Iy ?_;intros;refine R.ev (O.g9 (a:=Θ) (b:=y1) B rfl rfl) ac ?_;by_cases a3:4294967296<=Θ+y1
    .have hq:=kA B B g2 g3 g4 a3;rw[<-a5] at hq;rw[hq];refine Iy ?_;intros;exact⟨(),trivial,aA,A.refl _⟩
    .refine Iy ?_;intros;exact⟨(q - 1,Θ+y1),⟨g2,g3,B,B⟩,by dsimp only;omega,aA,A.refl _⟩
   .have hq:=tn B hg B;rw[<-a5] at hq;refine Iy ?_;intros;rw[hq];exact⟨(),trivial,aA,A.refl _⟩
 clear I r a2 q Θ;rintro _ _;have d1:(u2*4294967296+z0) / η<4294967296:=qw c4 B a6;have b4:=sM (u:=u2) (v:=z0) a6 s3;refine Iy ?_;intros;refine R.ev (O.g8 (a:=Q1) (b:=4294967296) B rfl rfl) ac ?_;refine Iy ?_;intros;refine R.ev (O.g9 B rfl rfl) ac ?_;refine Iy ?_;intros;refine R.ev (O.l5 (a:=u2) (b:=4294967296) rfl rfl) ac ?_;refine Iy ?_;intros;refine R.ev (O.t6 rfl rfl) ac ?_;refine Iy ?_;intros;refine R.ev (O.l5 rfl rfl) ac ?_;refine R.ev (O.r7 rfl rfl (Nat.le_of_lt (dA _ ac))) ac ?_;rw[b4];refine Iy ?_;intros;refine R.ev (O.m6 s rfl B rfl rfl) ac ?_;refine Iy ?_;intros;refine KX.a8 aw (A.refl _) ⟨?_,rfl⟩;grind [KD]
