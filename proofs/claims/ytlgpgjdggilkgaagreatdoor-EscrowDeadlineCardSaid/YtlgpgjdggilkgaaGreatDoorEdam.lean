/- Lemmas. -/
import Derived.Test.YtlgpgjdggilkgaaGreatDoorEdal
import Derived.Lib.Mul64
import Derived.Shelf.SlSortCmp.WholeK
import Derived.Shelf.SlSortCmp.Whole1
import Derived.Shelf.SlSortCmp.NoneTotal
set_option linter.all false
set_option maxHeartbeats 1000000
namespace Go.V
def Β.Xf{P:Program}{N:Nat}{env:Env}{L:Ι}{Ρ:F8}(r:Nat){c y:Code}(h:Β P N (.seq (.block r c) y) env L Ρ):Β P N (.seq (.block r c) y) env L Ρ:=h
section
variable {P:Program}{env:Env}{L:Ι}{ty:TypeId}{t yt:TypeId}{x y:Operand}{a b:Nat}
theorem Z.r9(M:bG env x=some (.int .u64 (a:Int)))(U:bG env y=some (.int .u64 (b:Int))):Z P L env (.binOp .add t x y yt) ty (.int .u64 (((a+b) % 18446744073709551616:Nat):Int)):=by
 have h:=Z.A9 (P:=P) (L:=L) (ty:=ty) (t:=t) (yt:=yt) M U;grind [IntKind.wrap_u64]
theorem Z.g9(hs:a+b<18446744073709551616)(M:bG env x=some (.int .u64 (a:Int)))(U:bG env y=some (.int .u64 (b:Int))):Z P L env (.binOp .add t x y yt) ty (.int .u64 ((a+b:Nat):Int)):=by
 have h:=Z.r9 (P:=P) (L:=L) (ty:=ty) (t:=t) (yt:=yt) M U;grind
theorem Z.q9(M:bG env x=some (.int .u64 (a:Int)))(U:bG env y=some (.int .u64 (b:Int)))(hb:b<=18446744073709551616):Z P L env (.binOp .sub t x y yt) ty (.int .u64 (((a+18446744073709551616 - b) % 18446744073709551616:Nat):Int)):=by
 have h:=Z.A6 (P:=P) (L:=L) (ty:=ty) (t:=t) (yt:=yt) M U;grind [IntKind.wrap_u64]
theorem Z.j9(hs:b<=a)(ha:a<18446744073709551616)(M:bG env x=some (.int .u64 (a:Int)))(U:bG env y=some (.int .u64 (b:Int))):Z P L env (.binOp .sub t x y yt) ty (.int .u64 ((a - b:Nat):Int)):=by
 have h:=Z.q9 (P:=P) (L:=L) (ty:=ty) (t:=t) (yt:=yt) M U D;grind
theorem Z.l8(M:bG env x=some (.int .u64 (a:Int)))(U:bG env y=some (.int .u64 (b:Int))):Z P L env (.binOp .mul t x y yt) ty (.int .u64 ((a*b % 18446744073709551616:Nat):Int)):=by
 have h:=Z.A7 (P:=P) (L:=L) (ty:=ty) (t:=t) (yt:=yt) M U;grind [IntKind.wrap_u64]
theorem Z.f9(hs:a*b<18446744073709551616)(M:bG env x=some (.int .u64 (a:Int)))(U:bG env y=some (.int .u64 (b:Int))):Z P L env (.binOp .mul t x y yt) ty (.int .u64 ((a*b:Nat):Int)):=by
 have h:=Z.l8 (P:=P) (L:=L) (ty:=ty) (t:=t) (yt:=yt) M U;grind
theorem Z.r8(M:bG env x=some (.int .u64 (a:Int)))(U:bG env y=some (.int .u64 (b:Int)))(ha:a<18446744073709551616)(hb:0<b):Z P L env (.binOp .quo t x y yt) ty (.int .u64 ((a / b:Nat):Int)):=by
 have h:=Z.A5 (P:=P) (L:=L) (ty:=ty) (t:=t) (yt:=yt) M U D D D;grind
theorem Z.m9(M:bG env x=some (.int .u64 (a:Int)))(U:bG env y=some (.int .u64 4294967295))(ha:a<18446744073709551616):Z P L env (.binOp .and t x y yt) ty (.int .u64 ((a % 4294967296:Nat):Int)):=by
 have h:=Z.x8 (P:=P) (L:=L) (ty:=ty) (t:=t) (yt:=yt) M U D D D D
 have e:((a:Int).toNat &&& (4294967295:Int).toNat)=a % 4294967296:=by
  rw[bB,show(4294967295:Int).toNat=2 ^ 32 - 1 by decide,Nat.and_two_pow_sub_one_eq_mod]
 grind
theorem Z.m8{k:IntKind}{c:Int}(n:Nat)(hn:c=n)(A:n<=64)(M:bG env x=some (.int .u64 (a:Int)))(U:bG env y=some (.int k c)):Z P L env (.binOp .shr t x y yt) ty (.int .u64 ((a / 2 ^ n:Nat):Int)):=by
 have h:=Z.shr (P:=P) (L:=L) (ty:=ty) (t:=t) (yt:=yt) M U D;grind [IntKind.bits]
def Z.k7(M:bG env x=some (.int .u64 (a:Int)))(U:bG env y=some (.int .u64 32)):Z P L env (.binOp .shr t x y yt) ty (.int .u64 ((a / 4294967296:Nat):Int)):=by
 have h:=Z.m8 (P:=P) (L:=L) (ty:=ty) (t:=t) (yt:=yt) 32 rfl ac M U;omega
theorem Z.r7{k:IntKind}{c:Int}(n:Nat)(hn:c=n)(A:n<=64)(M:bG env x=some (.int .u64 (a:Int)))(U:bG env y=some (.int k c)):Z P L env (.binOp .shl t x y yt) ty (.int .u64 ((a*2 ^ n % 18446744073709551616:Nat):Int)):=by
 have h:=Z.shl (P:=P) (L:=L) (ty:=ty) (t:=t) (yt:=yt) M U D;grind [IntKind.bits,IntKind.wrap_u64]
theorem Z.Y7(M:bG env x=some (.int .u64 (a:Int)))(U:bG env y=some (.int .u64 (b:Int)))(ha:a<18446744073709551616)(hb:b<18446744073709551616):Z P L env (.binOp .or t x y yt) ty (.int .u64 ((a ||| b:Nat):Int)):=by
 have h:=Z.y7 (P:=P) (L:=L) (ty:=ty) (t:=t) (yt:=yt) M U D D D D;grind
end
end Go.V
namespace Go.Proofs.YtlgpgjdggilkgaaGreatDoor
section
open Go.V
attribute [local irreducible] Β Y GP δ vi Z Ef C0 E CB GB Enters
def EB{L:Ι}(x y:Nat)(M:x<18446744073709551616)(U:y<18446744073709551616) :
  Υ Λ 328 #[.int .u64 (x:Int),.int .u64 (y:Int)] L (F7 (.tuple #[.int .u64 ((x*y / 18446744073709551616:Nat):Int),.int .u64 ((x*y % 18446744073709551616:Nat):Int)]) L):=by
 obtain⟨m1,m2,m3,m4⟩:=Go.Lib.mul64_hi x y M U;refine Υ.bd ?_;refine ML ?_;intros;refine Y.ev (Z.m9 rfl rfl M) ac ?_;refine ML ?_;intros;refine Y.ev (Z.k7 rfl rfl) ac ?_;refine ML ?_;intros;refine Y.ev (Z.m9 rfl rfl U) ac ?_;refine ML ?_;intros;refine Y.ev (Z.k7 rfl rfl) ac ?_;have A:=Go.Lib.half_mul_le (a:=x / 4294967296) (b:=y / 4294967296) D D;have J:=Go.Lib.half_mul_le (a:=x / 4294967296) (b:=y % 4294967296) D D;have a2:=Go.Lib.half_mul_le (a:=x % 4294967296) (b:=y / 4294967296) D D;refine ML ?_;intros;refine Y.ev (Z.f9 m1 rfl rfl) ac ?_;refine ML ?_;intros;refine Y.ev (Z.f9 D rfl rfl) ac ?_;refine ML ?_;intros;refine Y.ev (Z.k7 rfl rfl) ac ?_;refine Y.ev (Z.g9 m2 rfl rfl) ac ?_;refine ML ?_;intros;refine Y.ev (Z.m9 rfl rfl m2) ac ?_;refine ML ?_;intros;refine Y.ev (Z.k7 rfl rfl) ac ?_;refine ML ?_;intros;refine Y.ev (Z.f9 D rfl rfl) ac ?_;refine Y.ev (Z.g9 m3 rfl rfl) ac ?_;refine ML ?_;intros;refine Y.ev (Z.f9 D rfl rfl) ac ?_;refine ML ?_;intros;refine Y.ev (Z.g9 D rfl rfl) ac ?_;refine ML ?_;intros;refine Y.ev (Z.k7 rfl rfl) ac ?_;refine Y.ev (Z.g9 D rfl rfl) ac ?_;rw[m4];refine ML ?_;intros;refine Y.ev (Z.l8 rfl rfl) ac ?_;refine ML ?_;intros;exact KX.en ⟨rfl,rfl⟩
def IH{u y1 y0 hx:Nat}(hu:u<y1*hx+y0)(h0:y0<hx)(I:hx<=2*y1)(hp:0<y1):u / y1<=hx+1:=by
 have h:u / y1<hx+2:=by
  rw[fy hp,dX,Nat.mul_comm hx y1];omega
 omega
def LR(n v0 y hx:Nat)(U:0<y):(n*hx+v0) / y=n / y*hx+(n % y*hx+v0) / y/\(n*hx+v0) % y=(n % y*hx+v0) % y:=by
 have h:=fQ n y
 have e:n*hx+v0=y*(n / y*hx)+(n % y*hx+v0):=by
  conv=>lhs;rw[<-h]
  rw[dX,Nat.mul_assoc,dc]
 rw[e];rw[Nat.mul_add_div U,Nat.mul_add_mod];omega
def FS{s:Nat}(hs:s<=64):2 ^ (64 - s)*2 ^ s=18446744073709551616:=by
 rw[<-Nat.pow_add,Nat.sub_add_cancel hs]
theorem KD{hi lo y s:Nat}(hs:s<=64)(U:hi<y)(T:lo<18446744073709551616)(Q:y*2 ^ s<18446744073709551616) :
  hi*2 ^ s<18446744073709551616/\lo / 2 ^ (64 - s)<2 ^ s/\(hi*2 ^ s+lo / 2 ^ (64 - s))*18446744073709551616+lo*2 ^ s % 18446744073709551616=(hi*18446744073709551616+lo)*2 ^ s/\hi*2 ^ s+lo / 2 ^ (64 - s)<y*2 ^ s:=by
 have hp:=FS hs;have J:0<2 ^ s:=ah;have A:0<2 ^ (64 - s):=ah;have h3:hi*2 ^ s<=y*2 ^ s:=bS _ D
 have h4:lo / 2 ^ (64 - s)<2 ^ s:=by
  rw[fy A,Nat.mul_comm,hp];exact T
 have h5:lo*2 ^ s / 18446744073709551616=lo / 2 ^ (64 - s):=by
  rw[<-hp,Nat.mul_div_mul_right _ _ J]
 have h6:=fQ (lo*2 ^ s) 18446744073709551616;rw[h5] at h6;refine⟨D,h4,?_,?_⟩
 .grind
 .have h7:(hi+1)*2 ^ s<=y*2 ^ s:=bS _ U;grind
def Iv{a b s:Nat}(hb:b<2 ^ s):a*2 ^ s ||| b=a*2 ^ s+b:=by
 rw[<-Nat.shiftLeft_eq,Nat.shiftLeft_add_eq_or_of_lt hb]
theorem LS{N y s:Nat}:N*2 ^ s / (y*2 ^ s)=N / y/\N*2 ^ s % (y*2 ^ s) / 2 ^ s=N % y:=by
 have A:0<2 ^ s:=ah;refine⟨Nat.mul_div_mul_right _ _ A,?_⟩;rw[Nat.mul_mod_mul_right,Nat.mul_div_cancel _ A]
abbrev len8:ByteArray:={ data:=(([0,1,2,2,3,3,3,3,4,4,4,4,4,4,4,4,5,5,5,5,5,5,5,5,5,5,5,5,5,5,5,5,6,6,6,6,6,6,6,6,6,6,6,6,6,6,6,6,6,6,6,6,6,6,6,6,6,6,6,6,6,6,6,6].append [7,7,7,7,7,7,7,7,7,7,7,7,7,7,7,7,7,7,7,7,7,7,7,7,7,7,7,7,7,7,7,7,7,7,7,7,7,7,7,7,7,7,7,7,7,7,7,7,7,7,7,7,7,7,7,7,7,7,7,7,7,7,7,7]).append ([8,8,8,8,8,8,8,8,8,8,8,8,8,8,8,8,8,8,8,8,8,8,8,8,8,8,8,8,8,8,8,8,8,8,8,8,8,8,8,8,8,8,8,8,8,8,8,8,8,8,8,8,8,8,8,8,8,8,8,8,8,8,8,8].append [8,8,8,8,8,8,8,8,8,8,8,8,8,8,8,8,8,8,8,8,8,8,8,8,8,8,8,8,8,8,8,8,8,8,8,8,8,8,8,8,8,8,8,8,8,8,8,8,8,8,8,8,8,8,8,8,8,8,8,8,8,8,8,8])).toArray }
def IE:∀c:Nat,c<256->1<=c->1<=((gu len8)[c]!).toNat/\2 ^ (((gu len8)[c]!).toNat - 1)<=c/\c<2 ^ ((gu len8)[c]!).toNat/\0<=(gu len8)[c]!/\(gu len8)[c]!<=8:=by decide +kernel
def Gs:len8.size=256:=by decide +kernel
theorem LN{x l k:Nat}(I:2 ^ (l - 1)<=x / 2 ^ k)(Q:x / 2 ^ k<2 ^ l)(T:1<=l):2 ^ (l+k - 1)<=x/\x<2 ^ (l+k):=by
 have hp:0<2 ^ k:=ah;constructor
 .rw[show l+k - 1=l - 1+k by omega,Nat.pow_add];exact(Nat.le_div_iff_mul_le hp).1 I
 .rw[Nat.pow_add];exact(fy hp).1 Q
theorem EG{L:Ι}(x:Nat)(M:x<18446744073709551616)(h0:1<=x) :
  Υ Λ 182 #[.int .u64 (x:Int)] L (λv Ε=>∃l:Nat,v=K (l:Int)/\(1<=l/\l<=64/\2 ^ (l - 1)<=x/\x<2 ^ l)/\Ε = L):=by
 have a3:=Gs;refine Υ.bd ?_;repeat first|refine Β.sm 1 ?_|refine dz ?_|intro
 refine Β.c7 (α:=Nat×Nat) (λg=>(g.2=0\/g.2=32)/\g.1=x / 2 ^ g.2/\g.1<4294967296/\1<=g.1) (λg=>[(0,.int .u64 (g.1:Int)),(2,K (g.2:Int))]) (λ_=>L) ?_ ?_
 .by_cases h:4294967296<=x
  .refine ML ?_;intros;refine Y.ev (Z.k7 rfl rfl) ac ?_;refine ML ?_;intros;refine⟨(x / 4294967296,32),⟨.inr rfl,by simp,D,D⟩,aG,E.refl _⟩
  .refine ML ?_;intros;refine⟨(x,0),⟨.inl rfl,by simp,D,h0⟩,aG,E.refl _⟩
 rintro⟨a,k⟩ ⟨hk,ha,J,A⟩;dsimp only at hk ha J A ⊢;refine Β.c7 (α:=Nat×Nat) (λg=>(g.2<=48)/\g.1=x / 2 ^ g.2/\g.1<65536/\1<=g.1) (λg=>[(0,.int .u64 (g.1:Int)),(2,K (g.2:Int))]) (λ_=>L) ?_ ?_
 .by_cases h:65536<=a
  .refine ML ?_;intros;refine Y.ev (Z.m8 16 rfl ac rfl rfl) ac ?_;refine ML ?_;intros;refine⟨(a / 2 ^ 16,k+16),⟨D,ah,D,D⟩,?_,E.refl _⟩;dsimp only;rw[show((k+16:Nat):Int)=(k:Int)+16 by omega];exact aG
  .refine ML ?_;intros;refine⟨(a,k),⟨by dsimp only;omega,ha,by dsimp only;omega,A⟩,aG,E.refl _⟩
 clear hk ha J A;rintro⟨a,k⟩ ⟨hk,ha,J,A⟩;dsimp only at hk ha J A ⊢;refine Β.c7 (α:=Nat×Nat) (λg=>(g.2<=56)/\g.1=x / 2 ^ g.2/\g.1<256/\1<=g.1) (λg=>[(0,.int .u64 (g.1:Int)),(2,K (g.2:Int))]) (λ_=>L) ?_ ?_
 .by_cases h:256<=a
  .refine ML ?_;intros;refine Y.ev (Z.m8 8 rfl ac rfl rfl) ac ?_;refine ML ?_;intros;refine⟨(a / 2 ^ 8,k+8),⟨D,by dsimp only;rw[ha,Nat.div_div_eq_div_mul,<-Nat.pow_add],D,D⟩,?_,E.refl _⟩;dsimp only;rw[show((k+8:Nat):Int)=(k:Int)+8 by omega];exact aG
  .refine ML ?_;intros;refine⟨(a,k),⟨by dsimp only;omega,ha,by dsimp only;omega,A⟩,aG,E.refl _⟩
 clear hk ha J A;rintro⟨a,k⟩ ⟨hk,ha,J,A⟩;dsimp only at hk ha J A ⊢;obtain⟨t1,t2,t3,t4,t5⟩:=IE a J A;have a2:(a:Int).toNat=a:=D;refine ML ?_;intros;refine Y.ev (Z.o0 (s:=len8) rfl rfl D D) ac ?_;rw[a2];generalize (gu len8)[a]! = c at t1 t2 t3 t4 t5;refine ML ?_;intros;refine KX.a8 aC (E.refl _) ⟨c.toNat+k,?_,⟨D,D,?_⟩,rfl⟩
 .grind [O5]
 .rw[ha] at t2 t3;exact LN t2 t3 t1
theorem Go{L:Ι}(x:Nat)(M:x<18446744073709551616)(h0:1<=x) :
  Υ Λ 334 #[.int .u64 (x:Int)] L (λv Ε=>∃s:Nat,v=K (s:Int)/\(s<=63/\9223372036854775808<=x*2 ^ s/\x*2 ^ s<18446744073709551616)/\Ε = L):=by
 refine Υ.bd ?_;refine ML ?_;intros;refine Y.ca (EG x M h0) ?_;rintro _ _⟨l,rfl,⟨l1,l2,l3,l4⟩,rfl⟩;refine ML ?_;intros;refine KX.a8 aC (E.refl _) ⟨64 - l,?_,⟨D,?_,?_⟩,rfl⟩
 .grind [O5]
 .have I:2 ^ (l - 1)*2 ^ (64 - l)<=x*2 ^ (64 - l):=bS _ l3;rw[<-Nat.pow_add,show l - 1+(64 - l)=63 by omega] at I;omega
 .have I:x*2 ^ (64 - l)<2 ^ l*2 ^ (64 - l):=Nat.mul_lt_mul_of_pos_right l4 ah;rw[<-Nat.pow_add,show l+(64 - l)=64 by omega] at I;omega
structure Tn (u v y1 y0 q Δ:Nat):Prop where
 e:u=q*y1+Δ
 lo:(u*4294967296+v) / (y1*4294967296+y0)<=q
 q:q<=4294967297
 Δ:Δ<4294967296
theorem pL{u v y1 y0 q Δ:Nat}(hu:u<y1*4294967296+y0)(hv:v<4294967296)(J:y0<4294967296)(a2:2147483648<=y1)(h:Tn u v y1 y0 q Δ)(hc:4294967296<=q\/4294967296*Δ+v<q*y0) :
  1<=q/\u=(q - 1)*y1+(Δ+y1)/\(u*4294967296+v) / (y1*4294967296+y0)<=q - 1/\q - 1<=4294967296:=by
 have A:(u*4294967296+v) / (y1*4294967296+y0)<q:=by
  rcases hc with hc|hc
  .have:=sY hu hv D
   omega
  .exact KE h.e hc D
 clear hc;generalize (u*4294967296+v) / (y1*4294967296+y0)=F9 at A;have I:1<=q:=D;refine⟨I,?_,D,by have:=h.q;omega⟩;have he:=h.e;obtain⟨p,rfl⟩:∃p,q=p+1:=⟨q - 1,D⟩;grind
def wF{u v y1 y0 q Δ:Nat}(A:2147483648<=y1)(h:Tn u v y1 y0 q Δ)(hc:¬(4294967296<=q\/4294967296*Δ+v<q*y0)):q=(u*4294967296+v) / (y1*4294967296+y0) :=
 JE D h.lo (CG h.e D)
theorem sj{u v y1 y0:Nat}(hu:u<y1*4294967296+y0)(hv:v<4294967296)(A:y0<4294967296)(J:2147483648<=y1)(a2:y1<4294967296):Tn u v y1 y0 (u / y1) (u - u / y1*y1):=by
 have I:=fQ u y1;rw[Nat.mul_comm] at I;have Q:=dW u (D:0<y1);exact⟨D,II hv D ac,IH hu A D D,D⟩
def wG{u v y1 y0 q Δ:Nat}(A:y0<4294967296)(h:Tn u v y1 y0 q Δ):q*y0<18446744073709551616:=by
 have:=Nat.mul_le_mul h.q (D:y0<=4294967295)
 omega
def Dl(u z:Nat):(u*4294967296+z / 4294967296)*4294967296+z % 4294967296=u*18446744073709551616+z:=D
theorem vU{u v aa:Nat}(h0:0<aa)(I:aa<18446744073709551616):((u*4294967296 % 18446744073709551616+v) % 18446744073709551616+18446744073709551616 - (u*4294967296+v) / aa*aa % 18446744073709551616) % 18446744073709551616=(u*4294967296+v) % aa:=by
 rw[Nat.mod_add_mod];generalize u*4294967296+v=Φ;have Q:=fQ Φ aa;have h3:=dW Φ h0;grind
def lN{u v y1 y0 q Δ:Nat}(A:y0<4294967296)(J:2147483648<=y1)(e:u=q*y1+Δ)(lo:(u*4294967296+v) / (y1*4294967296+y0)<=q)(hq:q<=4294967296)(hr:4294967296<=Δ):q=(u*4294967296+v) / (y1*4294967296+y0) :=
 JE D lo (IJ e hr hq A)
abbrev AL:=Yt []
def aM{φ ψ:Prop}(k:ψ)(h:Hid ψ->φ:=by intro k;(with_reducible apply Β.a8);first|refine Β.dr 135 6 AL (Hid.out k)):φ:=h ⟨k⟩
def Nt{φ ψ:Prop}(k:ψ)(h:Hid ψ->φ:=by intro k;(repeat (first|refine ab ?_|intro B8|refine aM ?_));(repeat revert B8);exact Hid.out k):φ:=h ⟨k⟩
theorem Fa{L:Ι}(hi lo y:Nat)(c3:hi<y)(b7:lo<18446744073709551616)(U:y<18446744073709551616) :
  Υ Λ 329 #[.int .u64 (hi:Int),.int .u64 (lo:Int),.int .u64 (y:Int)] L (F7 (.tuple #[.int .u64 (((hi*18446744073709551616+lo) / y:Nat):Int),.int .u64 (((hi*18446744073709551616+lo) % y:Nat):Int)]) L):=by
 refine Υ.bd ?_;by_cases h0:hi=0
 .subst h0;refine Nt ?_;intros;refine δ.MP (Z.r8 rfl rfl b7 D) ac ?_;refine Nt ?_;intros;refine KX.a8 aC (E.refl _) ⟨?_,rfl⟩;grind [O5]
 refine Nt ?_;intros;refine Y.ca (Go y U D) ?_;rintro _ L ⟨s,rfl,⟨s1,s2,s3⟩,rfl⟩;obtain⟨n1,n2,n3,n4⟩:=KD D c3 b7 s3;have b1:((64:Nat) - s)<=64:=D;refine Nt ?_;intros;refine Y.ev (Z.r7 s rfl D rfl rfl) ac ?_;rw[Nat.mod_eq_of_lt s3];have b6:=LS (N:=hi*18446744073709551616+lo) (y:=y) (s:=s);obtain⟨aa,hY⟩:∃aa,aa=y*2 ^ s:=⟨_,rfl⟩;rw[<-hY] at s2 s3 n4 b6 ⊢;refine Nt ?_;intros;refine Y.ev (Z.k7 rfl rfl) ac ?_;refine Nt ?_;intros;refine Y.ev (Z.m9 rfl rfl s3) ac ?_;obtain⟨y1,c6⟩:∃y1,y1=aa / 4294967296:=⟨_,rfl⟩;obtain⟨y0,c5⟩:∃y0,y0=aa % 4294967296:=⟨_,rfl⟩;have a5:aa=y1*4294967296+y0:=D;rw[<-c6,<-c5];refine Nt ?_;intros;refine Y.ev (Z.r7 s rfl D rfl rfl) ac ?_;rw[Nat.mod_eq_of_lt n1];refine Nt ?_;intros;refine Y.ev (Z.j9 (a:=64) (b:=s) D D rfl rfl) ac ?_;refine Y.ev (Z.m8 (64 - s) rfl b1 rfl rfl) ac ?_;refine Y.ev (Z.Y7 rfl rfl n1 D) ac ?_;rw[Iv n2];refine Nt ?_;intros;refine Y.ev (Z.r7 s rfl D rfl rfl) ac ?_;obtain⟨u,hu⟩:∃u,u=hi*2 ^ s+lo / 2 ^ (64 - s):=⟨_,rfl⟩;obtain⟨z,hz⟩:∃z,z=lo*2 ^ s % 18446744073709551616:=⟨_,rfl⟩;have d0:z<18446744073709551616:=by rw[hz];exact D
 rw[<-hu] at n3 n4;rw[<-hz] at n3;rw[<-hu,<-hz];refine Nt ?_;intros;refine Y.ev (Z.k7 rfl rfl) ac ?_;refine Nt ?_;intros;refine Y.ev (Z.m9 rfl rfl d0) ac ?_;obtain⟨z1,b9⟩:∃z1,z1=z / 4294967296:=⟨_,rfl⟩;obtain⟨z0,b8⟩:∃z0,z0=z % 4294967296:=⟨_,rfl⟩;rw[<-b9,<-b8];refine Nt ?_;intros;refine Y.ev (Z.r8 rfl rfl D D) ac ?_;have J:Tn u z1 y1 y0 (u / y1) (u - u / y1*y1):=by grind [sj]
 have a2:=Nat.div_mul_le_self u y1;refine Nt ?_;intros;refine Y.ev (Z.f9 D rfl rfl) ac ?_;refine Y.ev (Z.j9 a2 D rfl rfl) ac ?_;have A:=J.e;generalize u / y1=q at J A a2;generalize u - q*y1=Δ at J A;obtain⟨Q1,a4⟩:∃Q1,Q1=(u*4294967296+z1) / aa:=⟨_,rfl⟩;obtain⟨u2,b2⟩:∃u2,u2=(u*4294967296+z1) % aa:=⟨_,rfl⟩;repeat first|((fail_if_success (with_reducible refine Β.Xf 0 ?_));(with_reducible apply Β.seq))|refine dz ?_|intro _|refine aM ?_
 refine Β.c7 (α:=Unit) (λ_=>True) (λ_=>[(2,.int .u64 (aa:Int)),(8,.int .u64 (s:Int)),(9,.int .u64 (y1:Int)),(10,.int .u64 (y0:Int)),(11,.int .u64 (u:Int)),(13,.int .u64 (z1:Int)),(14,.int .u64 (z0:Int)),(15,.int .u64 (Q1:Int))]) (λ_=>L) ?_ ?_
 .refine Nt ?_;intros;refine Β.loop (α:=Nat×Nat) (λg=>Tn u z1 y1 y0 g.1 g.2) (λg=>[(2,.int .u64 (aa:Int)),(8,.int .u64 (s:Int)),(9,.int .u64 (y1:Int)),(10,.int .u64 (y0:Int)),(11,.int .u64 (u:Int)),(13,.int .u64 (z1:Int)),(14,.int .u64 (z0:Int)),(15,.int .u64 (g.1:Int)),(16,.int .u64 (g.2:Int))]) (λ_=>L) (λg=>g.1) (q,Δ) J aG (E.refl _) ?_;clear J A a2;rintro⟨q,Δ⟩ hg;dsimp only at hg ⊢;have b0:=wG D hg;have c2:=hg.Δ;have c1:=hg.q;by_cases a7:4294967296<=q
  .obtain⟨g1,g2,g3,g4⟩:=pL D D D D hg (.inl a7);refine Nt ?_;intros;refine Y.ev (Z.j9 (a:=q) (b:=1) g1 D rfl rfl) ac ?_;refine Nt ?_;intros;refine Y.ev (Z.g9 (a:=Δ) (b:=y1) D rfl rfl) ac ?_;by_cases a3:4294967296<=Δ+y1
   .have hq:=lN D D g2 g3 g4 a3;rw[<-a5,<-a4] at hq;rw[hq];refine Nt ?_;intros;exact⟨(),trivial,aG,E.refl _⟩
   .refine Nt ?_;intros;exact⟨(q - 1,Δ+y1),⟨g2,g3,D,D⟩,by dsimp only;omega,aG,E.refl _⟩
  .refine Nt ?_;intros;refine Y.ev (Z.f9 b0 rfl rfl) ac ?_;refine Nt ?_;intros;refine Y.ev (Z.f9 (a:=4294967296) (b:=Δ) D rfl rfl) ac ?_;refine Nt ?_;intros;refine Y.ev (Z.g9 D rfl rfl) ac ?_;by_cases a9:4294967296*Δ+z1<q*y0
   .obtain⟨g1,g2,g3,g4⟩:=pL D D D D hg (.inr a9);refine Nt ?_;intros;refine Y.ev (Z.j9 (a:=q) (b:=1) g1 D rfl rfl) ac ?_;refine Nt ?_;intros;refine Y.ev (Z.g9 (a:=Δ) (b:=y1) D rfl rfl) ac ?_;by_cases a3:4294967296<=Δ+y1
    .have hq:=lN D D g2 g3 g4 a3;rw[<-a5,<-a4] at hq;rw[hq];refine Nt ?_;intros;exact⟨(),trivial,aG,E.refl _⟩
    .refine Nt ?_;intros;exact⟨(q - 1,Δ+y1),⟨g2,g3,D,D⟩,by dsimp only;omega,aG,E.refl _⟩
   .have hq:=wF D hg D;rw[<-a5,<-a4] at hq;refine Nt ?_;intros;rw[hq];exact⟨(),trivial,aG,E.refl _⟩
 clear J A a2 q Δ;rintro _ _;have a6:0<aa:=D;have d2:Q1<4294967296:=by rw[a4];exact sY n4 D a6
 have b3:=vU (u:=u) (v:=z1) a6 s3;have b5:=LR (u*4294967296+z1) z0 aa 4294967296 a6;have c4:u2<aa:=by rw[b2];exact dW _ a6
 rw[<-a4,<-b2] at b3 b5;have c0:(u*4294967296+z1)*4294967296+z0=(hi*18446744073709551616+lo)*2 ^ s:=by rw[b9,b8,Dl,n3]
 rw[c0,b6.1] at b5;refine Nt ?_;intros;refine Y.ev (Z.l8 (a:=u) (b:=4294967296) rfl rfl) ac ?_;refine Nt ?_;intros;refine Y.ev (Z.r9 rfl rfl) ac ?_;refine Nt ?_;intros;refine Y.ev (Z.l8 rfl rfl) ac ?_;refine Y.ev (Z.q9 rfl rfl (Nat.le_of_lt (dW _ ac))) ac ?_;rw[b3];clear b3 a4 b2;refine Nt ?_;intros;refine Y.ev (Z.r8 rfl rfl D D) ac ?_;have J:Tn u2 z0 y1 y0 (u2 / y1) (u2 - u2 / y1*y1):=by grind [sj]
 have a2:=Nat.div_mul_le_self u2 y1;refine Nt ?_;intros;refine Y.ev (Z.f9 D rfl rfl) ac ?_;refine Y.ev (Z.j9 a2 D rfl rfl) ac ?_;have A:=J.e;generalize u2 / y1=q at J A a2;generalize u2 - q*y1=Δ at J A;repeat first|((fail_if_success (with_reducible refine Β.Xf 2 ?_));(with_reducible apply Β.seq))|refine dz ?_|intro _|refine aM ?_
 refine Β.c7 (α:=Unit) (λ_=>True) (λ_=>[(2,.int .u64 (aa:Int)),(8,.int .u64 (s:Int)),(14,.int .u64 (z0:Int)),(15,.int .u64 (Q1:Int)),(17,.int .u64 (u2:Int)),(18,.int .u64 (((u2*4294967296+z0) / aa:Nat):Int))]) (λ_=>L) ?_ ?_
 .refine Nt ?_;intros;refine Β.loop (α:=Nat×Nat) (λg=>Tn u2 z0 y1 y0 g.1 g.2) (λg=>[(2,.int .u64 (aa:Int)),(8,.int .u64 (s:Int)),(9,.int .u64 (y1:Int)),(10,.int .u64 (y0:Int)),(14,.int .u64 (z0:Int)),(15,.int .u64 (Q1:Int)),(17,.int .u64 (u2:Int)),(18,.int .u64 (g.1:Int)),(16,.int .u64 (g.2:Int))]) (λ_=>L) (λg=>g.1) (q,Δ) J aG (E.refl _) ?_;clear J A a2;rintro⟨q,Δ⟩ hg;dsimp only at hg ⊢;have b0:=wG D hg;have c2:=hg.Δ;have c1:=hg.q;by_cases a7:4294967296<=q
  .obtain⟨g1,g2,g3,g4⟩:=pL D D D D hg (.inl a7);refine Nt ?_;intros;refine Y.ev (Z.j9 (a:=q) (b:=1) g1 D rfl rfl) ac ?_;refine Nt ?_;intros;refine Y.ev (Z.g9 (a:=Δ) (b:=y1) D rfl rfl) ac ?_;by_cases a3:4294967296<=Δ+y1
   .have hq:=lN D D g2 g3 g4 a3;rw[<-a5] at hq;rw[hq];refine Nt ?_;intros;exact⟨(),trivial,aG,E.refl _⟩
   .refine Nt ?_;intros;exact⟨(q - 1,Δ+y1),⟨g2,g3,D,D⟩,by dsimp only;omega,aG,E.refl _⟩
  .refine Nt ?_;intros;refine Y.ev (Z.f9 b0 rfl rfl) ac ?_;refine Nt ?_;intros;refine Y.ev (Z.f9 (a:=4294967296) (b:=Δ) D rfl rfl) ac ?_;refine Nt ?_;intros;refine Y.ev (Z.g9 D rfl rfl) ac ?_;by_cases a9:4294967296*Δ+z0<q*y0
   .obtain⟨g1,g2,g3,g4⟩:=pL D D D D hg (.inr a9);refine Nt ?_;intros;refine Y.ev (Z.j9 (a:=q) (b:=1) g1 D rfl rfl) ac ?_;refine Nt ?_;intros;refine Y.ev (Z.g9 (a:=Δ) (b:=y1) D rfl rfl) ac ?_;by_cases a3:4294967296<=Δ+y1
    .have hq:=lN D D g2 g3 g4 a3;rw[<-a5] at hq;rw[hq];refine Nt ?_;intros;exact⟨(),trivial,aG,E.refl _⟩
    .refine Nt ?_;intros;exact⟨(q - 1,Δ+y1),⟨g2,g3,D,D⟩,by dsimp only;omega,aG,E.refl _⟩
   .have hq:=wF D hg D;rw[<-a5] at hq;refine Nt ?_;intros;rw[hq];exact⟨(),trivial,aG,E.refl _⟩
 clear J A a2 q Δ;rintro _ _;have d1:(u2*4294967296+z0) / aa<4294967296:=sY c4 D a6;have b4:=vU (u:=u2) (v:=z0) a6 s3;refine Nt ?_;intros;refine Y.ev (Z.f9 (a:=Q1) (b:=4294967296) D rfl rfl) ac ?_;refine Nt ?_;intros;refine Y.ev (Z.g9 D rfl rfl) ac ?_;refine Nt ?_;intros;refine Y.ev (Z.l8 (a:=u2) (b:=4294967296) rfl rfl) ac ?_;refine Nt ?_;intros;refine Y.ev (Z.r9 rfl rfl) ac ?_;refine Nt ?_;intros;refine Y.ev (Z.l8 rfl rfl) ac ?_;refine Y.ev (Z.q9 rfl rfl (Nat.le_of_lt (dW _ ac))) ac ?_;rw[b4];refine Nt ?_;intros;refine Y.ev (Z.m8 s rfl D rfl rfl) ac ?_;refine Nt ?_;intros;refine KX.a8 aC (E.refl _) ⟨?_,rfl⟩;grind [O5]
end
end Go.Proofs.YtlgpgjdggilkgaaGreatDoor
namespace Go.V
open Go.Sort Go.Proofs
def HE:∀{a b:World},a.heap=b.heap->a.tape=b.tape->a.drawn=b.drawn->a.os=b.os->a.output=b.output->a=b:=by
 rintro⟨_,_,_,_,_⟩ ⟨_,_,_,_,_⟩ I Q h3 h4 h5;cases I;cases Q;cases h3;cases h4;cases h5;rfl
def Υ.c9{P:Program}{f:FuncId}{args:Array Value}{L:Ι}{v:Value}(h:Υ P f args L (λu _=>u=v)){w:World}{ι:Hp}(hi:Hp.sub ι (ie w))(hs:MS L ι Hp.emp) :
  Calls P f args w λe dH=>e=.returned v/\∃q a4,dH = grow (w.drewN q) a4:=by
 have a3:MS L (ie w) Hp.emp:=hs.mono hi (Hp.sub.refl _);have s0:Sat ⟨w.tape,w.os,w.output,w.drawn⟩ (L++[xy w]) w:=⟨⟨rfl,rfl,rfl,ax _⟩,ie w,Hp.emp,λ_ _ _=>rfl,Hp.sub.refl _,Hp.a8 _,a3.snoc (Hp.sub.refl _)⟩;refine(h.calls _ _ w s0).mono ?_;rintro e dH ⟨u,Ε,rfl,rfl,s1⟩;refine⟨rfl,dH.drawn - w.drawn,dH.heap.extract w.heap.size dH.heap.size,?_⟩;have s2:Sat ⟨w.tape,w.os,w.output,w.drawn⟩ (xy w::Ε) dH:=s1.perm (List.perm_append_singleton _ _);obtain⟨ok,ι',h,a,b1,c,G6,E4,D5,d1,d2,d3,d4,d5,d6⟩:=s2;have hk:∀k o,w.heap[k]? = some o->dH.heap[k]? = some o:=λk o M=>b1 k o (d1 k o (d5 k o M))
 have a7:w.heap.size<=dH.heap.size:=by
  rcases Nat.lt_or_ge dH.heap.size w.heap.size with a2|J
  .have I:=hk dH.heap.size _ (Array.getElem?_eq_getElem a2);rw[Array.getElem?_eq_none (ax _)] at I;cases I
  .exact J
 have a5:w.drawn<=dH.drawn:=ok.drawn;refine HE ?_ ok.tape ?_ ok.os ok.output
 .show dH.heap=w.heap++dH.heap.extract w.heap.size dH.heap.size;apply Array.ext_getElem?;intro k;by_cases A:k<w.heap.size
  .rw[Array.getElem?_append_left A,Array.getElem?_eq_getElem A];exact hk k _ (Array.getElem?_eq_getElem A)
  .rw[Array.getElem?_append_right D,Array.getElem?_extract];by_cases a6:k<dH.heap.size
   .rw[Ω D,show w.heap.size+(k - w.heap.size)=k by omega]
   .rw[Ο D,Array.getElem?_eq_none D]
 .show dH.drawn=w.drawn+(dH.drawn - w.drawn);omega
def tZ{α:Type}[Inhabited α]{Η:α->Value}{w:World}{ι:Hp}{blk off m:Nat}{Ξ:Array α}{os:Array Obj}(hi:Hp.sub ι (ie w))(hb:ι blk=none):Hp.sub ι (ie (grow (Sort.putRow Η (Sort.ahead w m) blk off Ξ) os)):=by
 intro k o hk;have M:w.heap[k]? = some o:=hi k o hk;have J:k≠blk:=by rintro rfl;rw[hb] at hk;cases hk
 have A:k<w.heap.size:=(Array.getElem?_eq_some_iff.1 M).1;show(w.heap.modify blk (onCells (putCells Η off Ξ))++os)[k]? = _;rw[Array.getElem?_append_left (by simpa using A),Array.getElem?_modify,Ο (λe=>J e.symm),M]
def yn{vs:χ}{A:Array Value}(hc:vs.length<=A.size):(putCells id 0 vs.toArray A).toList.take vs.length=vs:=by
 apply gM;intro i;by_cases hi:i<vs.length
 .have Q:i<A.size:=D;rw[List.getElem?_take,Ω hi];simp[putCells,hi,Q]
 .rw[List.getElem?_take,Ο hi];simp;omega
def GJ{g ζ:Nat}{A:Array Value}{vs:χ}{w:World}(hb:w.heap[g]? = some (.cells A ζ (0,0)))(ht:A.toList.take vs.length=vs):Holds id w g 0 vs.toArray:=by
 intro j hj;have J : j<vs.length:=by simpa using hj
 refine⟨?_,by simp[World.frozen?,hb]⟩;rw[dv,ej hb];have h:(A.toList.take vs.length)[j]? = vs[j]?:=by rw[ht]
 rw[List.getElem?_take,Ω J] at h;simp[J] at h;simp[J,h]
def Sat.f8{θ:Th}{g ζ:Nat}{J:Array Value}{R:Ι}{w:World}{Ξ:Array Value}{n:Nat}{os:Array Obj}(s:Sat θ (sh g (.cells J ζ (0,0))::R) w) :
  Sat θ (sh g (.cells (putCells id 0 Ξ J) ζ (0,0))::R) (grow (Sort.putRow id (Sort.ahead w n) g 0 Ξ) os):=by
 have hb:=s.M8;have a2:g<w.heap.size:=(Array.getElem?_eq_some_iff.1 hb).1;refine s.update ⟨s.1.tape,s.1.os,s.1.output,aO s.1.drawn (Nat.le_add_right _ _)⟩ ?_ ?_
 .show(w.heap.modify g (onCells (putCells id 0 Ξ))++os)[g]? = _;rw[Array.getElem?_append_left (by simpa using a2),Array.getElem?_modify,Ω rfl,hb];rfl
 .intro k x hk M;have A:k<w.heap.size:=(Array.getElem?_eq_some_iff.1 M).1;show(w.heap.modify g (onCells (putCells id 0 Ξ))++os)[k]? = _;rw[Array.getElem?_append_left (by simpa using A),Array.getElem?_modify,Ο (λe=>hk e.symm),M]
theorem Υ.c7{P:Program}{f:FuncId}{ζ cap sz:Nat}{ad:OA}{α:Type}{Η:α->χ}{G:List α}{Lc:Ι}{fv:Value}(he:Enters P f)(a7:∀ι h,MS Lc ι h->MS Lc ι Hp.emp)(A:List α->Prop)(b7:G=[]->A [])
  (h0:G.length=0->∀w,Calls P f #[.slice ad 0 cap,fv] w λe dH=>e=.returned (.tuple #[])/\dH = w)
  (I:∀blk w ι,Hp.sub ι (ie w)->ι blk=none->MS Lc ι Hp.emp->Holds id w blk 0 (G.flatMap Η).toArray->blk<w.heap.size ->
   Calls P f #[.slice (some ⟨blk,0,none⟩) G.length cap,fv] w λe dH=>e=.returned (.tuple #[])/\∃ys n os,ys.length=G.length/\(∀y∈ys,(Η y).length=sz)/\A ys/\dH = grow (Sort.putRow id (Sort.ahead w n) blk 0 (ys.flatMap Η).toArray) os) :
  Υ P f #[.slice ad G.length cap,fv] (μ Η sz ζ ad cap G::Lc) (λv Ε=>v=.tuple #[]/\∃ys,A ys/\Ε = μ Η sz ζ ad cap ys::Lc):=by
 refine⟨he,λθ R w s=>?_⟩;by_cases M:G.length=0
 .have e1:G=[]:=cc M;subst e1;refine(h0 rfl w).mono ?_;rintro e dH ⟨rfl,rfl⟩;exact⟨_,_,rfl,⟨rfl,[],b7 rfl,rfl⟩,s⟩
 obtain⟨J,a2,a3,a4⟩:=Sat.Qw (L:=Lc++R) s;rcases a4 with⟨rfl,rfl⟩|⟨g,a9,rfl,b1,b2,b3⟩
 .omega
 have hb:=b3.M8;have b6:=dd J;have b0:a9.toList.take (G.flatMap Η).length=G.flatMap Η:=by rw[b6];exact b2
 obtain⟨ok,ι,h,a,c1,c2,G6,E4,D5,d1,d2,d3,d4,d5,d6⟩:=b3
 have b8:ι g=none:=by
  cases Y8:ι g with
  | none=>rfl
  | some o =>
   have h3:=a g o Y8;have h4:h g=some (.cells a9 ζ (0,0)):=d3 g _ d5;rw[h3] at h4;cases h4
 have b5:MS Lc ι Hp.emp:=by
  obtain⟨x1,x2,y1,y2,y3,y4,ac1⟩:=MS.split d6;exact a7 ι x1 y4
 have b3:Sat θ (sh g (.cells a9 ζ (0,0))::(Lc++R)) w:=⟨ok,ι,h,a,c1,c2,G6,E4,D5,d1,d2,d3,d4,d5,d6⟩;refine(I g w ι c1 b8 b5 (GJ hb b0) (Array.getElem?_eq_some_iff.1 hb).1).mono ?_;rintro e dH ⟨rfl,ys,n,os,T,b4,a6,rfl⟩;refine⟨_,_,rfl,⟨rfl,ys,a6,rfl⟩,?_⟩;have a5:=dd b4;have b9:G.length*sz<=cap*sz:=bS _ a2;refine Sat.Rm (L:=Lc++R) (Sat.f8 b3) b4 D a3 ?_ ?_
 .simp[putCells,b1]
 .rw[<-a5];exact yn (by rw[a5,T,b1];exact b9)
def GL{α:Type}[Inhabited α]{Η:α->Value}{w:World}{g:Nat}{G:List α}(h:Holds id w g 0 (G.flatMap λx=>[Η x]).toArray):Holds Η w g 0 G.toArray:=by
 intro j hj;have A : j<G.length:=by simpa using hj
 have hf:(G.flatMap λx=>[Η x])=G.map Η:=ox _ G;rw[hf] at h;have:=h j (by simpa using A)
 simpa [A] using this
def DD{α:Type}[Inhabited α]{Η:α->Value}{w:World}{g:Nat}{Ξ:Array α}:Sort.putRow Η w g 0 Ξ=Sort.putRow id w g 0 (Ξ.toList.flatMap λx=>[Η x]).toArray:=by
 have hf:∀l:List α,(l.flatMap λx=>[Η x])=l.map Η:=λl=>ox _ l;rw[hf];unfold Sort.putRow;congr 1;funext c;unfold putCells;apply Array.ext
 .simp
 .intro i I Q;simp only[Array.getElem_mapIdx,gJ,ak,dY,dv,Nat.sub_zero,id_eq];split
  .rename_i A;simp[A.2]
  .rfl
def oL{α:Type}[Inhabited α]{G:List α}{d' : Array α}(h:PermIn 0 G.toArray.size G.toArray d'):d'.toList.Perm G:=by
 obtain⟨I,_,h3⟩:=h;have e1:(G.toArray.extract 0 G.toArray.size)=G.toArray:=by simp
 have e2:(d'.extract 0 G.toArray.size)=d':=by rw[<-I];simp
 rw[e1,e2] at h3;simpa using h3
def lV{α:Type}[Inhabited α]{lt:α->α->Bool}{Ξ:Array α}(h:SortedIn lt 0 Ξ.size Ξ):Ξ.toList.Pairwise (λa b=>lt b a=false):=by
 rw[List.pairwise_iff_getElem];intro i j hi hj J;have:=h i j (aD _) J (by simpa using hj)
 have A : i<Ξ.size:=by simpa using hi
 have a2 : j<Ξ.size:=by simpa using hj
 simpa [A,a2] using this
def gY{α:Type}(cf:α->α->Int)(G ys:List α):Prop:=ys.Perm G/\ys.Pairwise (λa b=>¬cf b a<0)
def Υ.c8{P:Program}{ρ:Go.Shelf.Ren}(S:SlLaysF.n6 P ρ)(S0:SlLaysF0.n6 P ρ){ζ cap:Nat}{ad:OA}{α:Type}[Inhabited α]{Η:α->Value}(I:OneCell Η){G:List α}{Lc:Ι}{g:Nat}{cb:Array Value}(cf:α->α->Int)(hO:SWO (ltOf cf))
  (he:Enters P (ρ.f 6)) (a6:Enters P g) (A:∀ι h,MS Lc ι h->MS Lc ι Hp.emp) (a2:∀x y:α,Υ P g (#[Η x,Η y]++cb) Lc (λu _=>u=K (cf x y))) (a7:G.length<4611686018427387904) :
  Υ P (ρ.f 6) #[.slice ad G.length cap,.func (.func g) #[] cb] (μ (λx=>[Η x]) 1 ζ ad cap G::Lc) (λv Ε=>v=.tuple #[]/\∃ys,gY cf G ys/\Ε = μ (λx=>[Η x]) 1 ζ ad cap ys::Lc):=by
 refine Υ.c7 he A (gY cf G) (λh=>by subst h;exact⟨List.Perm.refl _,List.Pairwise.nil⟩) ?_ ?_
 .intro h0 w;exact AnyF.slices_SortFunc_none S0 ad cap (.func (.func g) #[] cb) w
 .intro blk w ι hi hb hL hH J;have hc:=Any.slices_SortFunc S Η I cf hO g cb blk 0 cap G.toArray w a6 (λm os dk _ x y=>Υ.c9 (a2 x y) (tZ hi hb) hL) (GL hH) J (by simpa using a7);rw[show G.toArray.size=G.length by simp] at hc;refine hc.mono ?_;rintro e dH ⟨rfl,d',n,os,hp,hs,rfl⟩;have a3:d'.toList.Perm G:=oL (by simpa using hp);have a5:d'.size=G.length:=by have:=a3.length_eq;simpa using this
  refine⟨rfl,d'.toList,n,os,a3.length_eq,λ_ _=>rfl,⟨a3,?_⟩,?_⟩
  .rw[<-a5] at hs;refine(lV hs).imp ?_;intro a b a4;simpa [ltOf] using a4
  .unfold sortWorld;rw[DD]
def zO{α:Type}[Inhabited α]{Η:α->χ}{k:Nat}(hk:∀x,(Η x).length=k)(G:List α):flatK Η k G.toArray=(G.flatMap Η).toArray:=by
 have T:(G.flatMap Η).length=G.length*k:=dd (λx _=>hk x);apply Array.ext_getElem?;intro i;by_cases I:i<G.length*k
 .have A:0<k:=by
   rcases Nat.eq_zero_or_pos k with h|h
   .subst h;simp at I
   .exact h
  have hj:i / k<G.length:=Nat.div_lt_of_lt_mul (by rw[Nat.mul_comm];exact I);have ho:i % k<k:=dW _ A;have Q:=nw (G:=G) (λx _=>hk x) hj ho;rw[show i / k*k+i % k=i from Nat.div_add_mod' i k] at Q;have h3:=get_flatK Η k G.toArray i (by simpa using I);have h4:i<(flatK Η k G.toArray).size:=by rw[size_flatK];simpa using I
  rw[getElem!_pos _ i h4] at h3;rw[Array.getElem?_eq_getElem h4,h3,List.getElem?_toArray,Q,List.getElem?_eq_getElem (by rw[hk];exact ho)];simp[hj,hk,ho]
 .rw[Array.getElem?_eq_none (by rw[size_flatK];simpa using I),List.getElem?_toArray,List.getElem?_eq_none D]
theorem Υ.a8{P:Program}{ρ:Go.Shelf.Ren}(S:SlLaysF0.n6 P ρ){k ζ cap:Nat}(aE:∀w,(isAgg (ρ.t 24)).run P w=.ok true w)(zE:∀w,(Go.sizeOf (ρ.t 24)).run P w=.ok k w){ad:OA}{α:Type}[Inhabited α]{Η:α->χ}(hk:∀x,(Η x).length=k)(I:∀x,∀v∈Η x,v.oneCell' = true){G:List α}{Lc:Ι}{g:Nat}{cb:Array Value}(cf:α->α->Int)(hO:SWO (ltOf cf))
  (he:Enters P (ρ.f 6)) (a6:Enters P g) (A:∀ι h,MS Lc ι h->MS Lc ι Hp.emp) (a2:∀x y:α,Υ P g (#[.agg (Η x).toArray,.agg (Η y).toArray]++cb) Lc (λu _=>u=K (cf x y))) (a7:G.length<4611686018427387904) :
  Υ P (ρ.f 6) #[.slice ad G.length cap,.func (.func g) #[] cb] (μ Η k ζ ad cap G::Lc) (λv Ε=>v=.tuple #[]/\∃ys,gY cf G ys/\Ε = μ Η k ζ ad cap ys::Lc):=by
 refine Υ.c7 he A (gY cf G) (λh=>by subst h;exact⟨List.Perm.refl _,List.Pairwise.nil⟩) ?_ ?_
 .intro h0 w;exact AnyF.slices_SortFunc_none S ad cap (.func (.func g) #[] cb) w
 .intro blk w ι hi hb hL hH J;have hc:=AnyQ.slices_SortFunc S k aE zE Η hk I cf hO g cb blk 0 cap G.toArray w a6 (λm os dk _ x y=>Υ.c9 (a2 x y) (tZ hi hb) hL) (by unfold HoldsK;rw[zO hk];exact hH) J (by simpa using a7);rw[show G.toArray.size=G.length by simp] at hc;refine hc.mono ?_;rintro e dH ⟨rfl,d',n,os,hp,hs,rfl⟩;have a3:d'.toList.Perm G:=oL (by simpa using hp);have a5:d'.size=G.length:=by have:=a3.length_eq;simpa using this
  refine⟨rfl,d'.toList,n,os,a3.length_eq,λy _=>hk y,⟨a3,?_⟩,?_⟩
  .rw[<-a5] at hs;refine(lV hs).imp ?_;intro a b a4;simpa [ltOf] using a4
  .unfold sortWorldK putRowK;have:=zO hk d'.toList
   simp only[Array.toArray_toList] at this;rw[this]
def E.n9{α β:Type}{f:α->β}{Η:β->χ}{sz ζ:Nat}{ad:OA}{cap:Nat}{G:List α}{L:Ι}:E (μ Η sz ζ ad cap (G.map f)::L) (μ (λx=>Η (f x)) sz ζ ad cap G::L):=λθ R w s=>by
 obtain⟨ok,ι,h,a,b1,c,G6,E4,D5,d1,d2,d3,d4,⟨e1,e2,e3,e4⟩,d6⟩:=s;refine⟨ok,ι,h,a,b1,c,G6,E4,D5,d1,d2,d3,d4,⟨λx M=>e1 _ (O6 M),by simpa using e2,e3,?_⟩,d6⟩;rcases e4 with e4|⟨g,A,f1,f2,f3,f4⟩
 .exact .inl e4
 .refine .inr ⟨g,A,f1,f2,f3,?_⟩;rw[ak] at f4;rw[f4,List.flatMap_map]
def E.n7{α β:Type}{f:α->β}{Η:β->χ}{sz ζ:Nat}{ad:OA}{cap:Nat}{G:List α}{L:Ι}:E (μ (λx=>Η (f x)) sz ζ ad cap G::L) (μ Η sz ζ ad cap (G.map f)::L):=λθ R w s=>by
 obtain⟨ok,ι,h,a,b1,c,G6,E4,D5,d1,d2,d3,d4,⟨e1,e2,e3,e4⟩,d6⟩:=s;refine⟨ok,ι,h,a,b1,c,G6,E4,D5,d1,d2,d3,d4,⟨λy U=>?_,by simpa using e2,e3,?_⟩,d6⟩
 .obtain⟨x,M,rfl⟩:=H8 U;exact e1 x M
 rcases e4 with e4|⟨g,A,f1,f2,f3,f4⟩
 .exact .inl e4
 .refine .inr ⟨g,A,f1,f2,f3,?_⟩;rw[ak,f4,List.flatMap_map]
def E.n5{α:Type}{Η:α->χ}{sz ζ:Nat}{ad:OA}{cap:Nat}{G:List α}{L:Ι}(n:Nat):E (μ Η sz ζ ad cap G::L) (μ Η sz ζ ad cap (G.take n)::L):=λθ R w s=>by
 obtain⟨ok,ι,h,a,b1,c,G6,E4,D5,d1,d2,d3,d4,⟨e1,e2,e3,e4⟩,d6⟩:=s;refine⟨ok,ι,h,a,b1,c,G6,E4,D5,d1,d2,d3,d4,⟨λx M=>e1 x (cI M),by rw[aP];omega,e3,?_⟩,d6⟩;rcases e4 with e4|⟨g,A,f1,f2,f3,f4⟩
 .exact .inl e4
 .refine .inr ⟨g,A,f1,f2,f3,?_⟩;have I:G.flatMap Η=(G.take n).flatMap Η++(G.drop n).flatMap Η:=by rw[<-dJ,cL]
  have Q:=dd (G:=G.take n) (λx M=>e1 x (cI M));have h3:(G.take n).length<=G.length:=by rw[aP];omega
  have h4:(G.take n).length*sz<=G.length*sz:=bS _ h3;have h5:(A.toList.take (G.length*sz)).take ((G.take n).length*sz)=A.toList.take ((G.take n).length*sz):=by rw[List.take_take,dE h4]
  rw[<-h5,f4,I,<-Q,List.take_left]
