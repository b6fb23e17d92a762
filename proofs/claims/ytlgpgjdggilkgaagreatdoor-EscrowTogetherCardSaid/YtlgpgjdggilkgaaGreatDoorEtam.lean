/- Lemmas. -/
import Derived.Test.YtlgpgjdggilkgaaGreatDoorEtal
import Derived.Lib.Mul64
import Derived.Shelf.SlSortCmp.WholeK
import Derived.Shelf.SlSortCmp.Whole1
import Derived.Shelf.SlSortCmp.NoneTotal
set_option linter.all false
set_option maxHeartbeats 1000000
namespace Go.V
def Α.Xx{P:Program}{N:Nat}{env:Env}{L:Η}{Ξ:F4}(A:Nat){c y:Code}(h:Α P N (.seq (.block A c) y) env L Ξ):Α P N (.seq (.block A c) y) env L Ξ:=h
section
variable {P:Program}{env:Env}{L:Η}{ty:TypeId}{t yt:TypeId}{x y:Operand}{a b:Nat}
theorem Ev.r8(O:cq env x=some (.int .u64 (a:Int)))(Y:cq env y=some (.int .u64 (b:Int))):Ev P L env (.binOp .add t x y yt) ty (.int .u64 (((a+b) % 18446744073709551616:Nat):Int)):=by
 have h:=Ev.A7 (P:=P) (L:=L) (ty:=ty) (t:=t) (yt:=yt) O Y;grind [IntKind.wrap_u64]
theorem Ev.g8(hs:a+b<18446744073709551616)(O:cq env x=some (.int .u64 (a:Int)))(Y:cq env y=some (.int .u64 (b:Int))):Ev P L env (.binOp .add t x y yt) ty (.int .u64 ((a+b:Nat):Int)):=by
 have h:=Ev.r8 (P:=P) (L:=L) (ty:=ty) (t:=t) (yt:=yt) O Y;grind
theorem Ev.q8(O:cq env x=some (.int .u64 (a:Int)))(Y:cq env y=some (.int .u64 (b:Int)))(hb:b<=18446744073709551616):Ev P L env (.binOp .sub t x y yt) ty (.int .u64 (((a+18446744073709551616 - b) % 18446744073709551616:Nat):Int)):=by
 have h:=Ev.A4 (P:=P) (L:=L) (ty:=ty) (t:=t) (yt:=yt) O Y;grind [IntKind.wrap_u64]
theorem Ev.j8(hs:b<=a)(ha:a<18446744073709551616)(O:cq env x=some (.int .u64 (a:Int)))(Y:cq env y=some (.int .u64 (b:Int))):Ev P L env (.binOp .sub t x y yt) ty (.int .u64 ((a - b:Nat):Int)):=by
 have h:=Ev.q8 (P:=P) (L:=L) (ty:=ty) (t:=t) (yt:=yt) O Y D;grind
theorem Ev.l8(O:cq env x=some (.int .u64 (a:Int)))(Y:cq env y=some (.int .u64 (b:Int))):Ev P L env (.binOp .mul t x y yt) ty (.int .u64 ((a*b % 18446744073709551616:Nat):Int)):=by
 have h:=Ev.A5 (P:=P) (L:=L) (ty:=ty) (t:=t) (yt:=yt) O Y;grind [IntKind.wrap_u64]
theorem Ev.f8(hs:a*b<18446744073709551616)(O:cq env x=some (.int .u64 (a:Int)))(Y:cq env y=some (.int .u64 (b:Int))):Ev P L env (.binOp .mul t x y yt) ty (.int .u64 ((a*b:Nat):Int)):=by
 have h:=Ev.l8 (P:=P) (L:=L) (ty:=ty) (t:=t) (yt:=yt) O Y;grind
theorem Ev.r7(O:cq env x=some (.int .u64 (a:Int)))(Y:cq env y=some (.int .u64 (b:Int)))(ha:a<18446744073709551616)(hb:0<b):Ev P L env (.binOp .quo t x y yt) ty (.int .u64 ((a / b:Nat):Int)):=by
 have h:=Ev.A3 (P:=P) (L:=L) (ty:=ty) (t:=t) (yt:=yt) O Y D D D;grind
theorem Ev.m9(O:cq env x=some (.int .u64 (a:Int)))(Y:cq env y=some (.int .u64 4294967295))(ha:a<18446744073709551616):Ev P L env (.binOp .and t x y yt) ty (.int .u64 ((a % 4294967296:Nat):Int)):=by
 have h:=Ev.x8 (P:=P) (L:=L) (ty:=ty) (t:=t) (yt:=yt) O Y D D D D
 have e:((a:Int).toNat &&& (4294967295:Int).toNat)=a % 4294967296:=by
  rw[bD,show(4294967295:Int).toNat=2 ^ 32 - 1 by decide,Nat.and_two_pow_sub_one_eq_mod]
 grind
theorem Ev.m8{k:IntKind}{c:Int}(n:Nat)(hn:c=n)(B:n<=64)(O:cq env x=some (.int .u64 (a:Int)))(Y:cq env y=some (.int k c)):Ev P L env (.binOp .shr t x y yt) ty (.int .u64 ((a / 2 ^ n:Nat):Int)):=by
 have h:=Ev.shr (P:=P) (L:=L) (ty:=ty) (t:=t) (yt:=yt) O Y D;grind [IntKind.bits]
def Ev.j9(O:cq env x=some (.int .u64 (a:Int)))(Y:cq env y=some (.int .u64 32)):Ev P L env (.binOp .shr t x y yt) ty (.int .u64 ((a / 4294967296:Nat):Int)):=by
 have h:=Ev.m8 (P:=P) (L:=L) (ty:=ty) (t:=t) (yt:=yt) 32 rfl ae O Y;omega
theorem Ev.q9{k:IntKind}{c:Int}(n:Nat)(hn:c=n)(B:n<=64)(O:cq env x=some (.int .u64 (a:Int)))(Y:cq env y=some (.int k c)):Ev P L env (.binOp .shl t x y yt) ty (.int .u64 ((a*2 ^ n % 18446744073709551616:Nat):Int)):=by
 have h:=Ev.shl (P:=P) (L:=L) (ty:=ty) (t:=t) (yt:=yt) O Y D;grind [IntKind.bits,IntKind.wrap_u64]
theorem Ev.Zo(O:cq env x=some (.int .u64 (a:Int)))(Y:cq env y=some (.int .u64 (b:Int)))(ha:a<18446744073709551616)(hb:b<18446744073709551616):Ev P L env (.binOp .or t x y yt) ty (.int .u64 ((a ||| b:Nat):Int)):=by
 have h:=Ev.y7 (P:=P) (L:=L) (ty:=ty) (t:=t) (yt:=yt) O Y D D D D;grind
end
end Go.V
namespace Go.Proofs.YtlgpgjdggilkgaaGreatDoor
section
open Go.V
attribute [local irreducible] Α GO GP δ ms Ev Ef C0 F CB GB Enters
def EH{L:Η}(x y:Nat)(O:x<18446744073709551616)(Y:y<18446744073709551616) :
  Τ Θ 328 #[.int .u64 (x:Int),.int .u64 (y:Int)] L (F3 (.tuple #[.int .u64 ((x*y / 18446744073709551616:Nat):Int),.int .u64 ((x*y % 18446744073709551616:Nat):Int)]) L):=by
 obtain⟨m1,m2,m3,m4⟩:=Go.Lib.mul64_hi x y O Y;refine Τ.bd ?_;refine Nd ?_;intros;refine GO.ev (Ev.m9 rfl rfl O) ae ?_;refine Nd ?_;intros;refine GO.ev (Ev.j9 rfl rfl) ae ?_;refine Nd ?_;intros;refine GO.ev (Ev.m9 rfl rfl Y) ae ?_;refine Nd ?_;intros;refine GO.ev (Ev.j9 rfl rfl) ae ?_;have B:=Go.Lib.half_mul_le (a:=x / 4294967296) (b:=y / 4294967296) D D;have M:=Go.Lib.half_mul_le (a:=x / 4294967296) (b:=y % 4294967296) D D;have a2:=Go.Lib.half_mul_le (a:=x % 4294967296) (b:=y / 4294967296) D D;refine Nd ?_;intros;refine GO.ev (Ev.f8 m1 rfl rfl) ae ?_;refine Nd ?_;intros;refine GO.ev (Ev.f8 D rfl rfl) ae ?_;refine Nd ?_;intros;refine GO.ev (Ev.j9 rfl rfl) ae ?_;refine GO.ev (Ev.g8 m2 rfl rfl) ae ?_;refine Nd ?_;intros;refine GO.ev (Ev.m9 rfl rfl m2) ae ?_;refine Nd ?_;intros;refine GO.ev (Ev.j9 rfl rfl) ae ?_;refine Nd ?_;intros;refine GO.ev (Ev.f8 D rfl rfl) ae ?_;refine GO.ev (Ev.g8 m3 rfl rfl) ae ?_;refine Nd ?_;intros;refine GO.ev (Ev.f8 D rfl rfl) ae ?_;refine Nd ?_;intros;refine GO.ev (Ev.g8 D rfl rfl) ae ?_;refine Nd ?_;intros;refine GO.ev (Ev.j9 rfl rfl) ae ?_;refine GO.ev (Ev.g8 D rfl rfl) ae ?_;rw[m4];refine Nd ?_;intros;refine GO.ev (Ev.l8 rfl rfl) ae ?_;refine Nd ?_;intros;exact KX.en ⟨rfl,rfl⟩
def IS{u y1 y0 fG:Nat}(hu:u<y1*fG+y0)(h0:y0<fG)(K:fG<=2*y1)(hp:0<y1):u / y1<=fG+1:=by
 have h:u / y1<fG+2:=by
  rw[fu hp,dY,Nat.mul_comm fG y1];omega
 omega
def Mi(n v0 y fG:Nat)(Y:0<y):(n*fG+v0) / y=n / y*fG+(n % y*fG+v0) / y/\(n*fG+v0) % y=(n % y*fG+v0) % y:=by
 have h:=fO n y
 have e:n*fG+v0=y*(n / y*fG)+(n % y*fG+v0):=by
  conv=>lhs;rw[<-h]
  rw[dY,Nat.mul_assoc,dh]
 rw[e];rw[Nat.mul_add_div Y,Nat.mul_add_mod];omega
def FY{s:Nat}(hs:s<=64):2 ^ (64 - s)*2 ^ s=18446744073709551616:=by
 rw[<-Nat.pow_add,Nat.sub_add_cancel hs]
theorem KV{hi lo y s:Nat}(hs:s<=64)(Y:hi<y)(U:lo<18446744073709551616)(T:y*2 ^ s<18446744073709551616) :
  hi*2 ^ s<18446744073709551616/\lo / 2 ^ (64 - s)<2 ^ s/\(hi*2 ^ s+lo / 2 ^ (64 - s))*18446744073709551616+lo*2 ^ s % 18446744073709551616=(hi*18446744073709551616+lo)*2 ^ s/\hi*2 ^ s+lo / 2 ^ (64 - s)<y*2 ^ s:=by
 have hp:=FY hs;have M:0<2 ^ s:=aj;have B:0<2 ^ (64 - s):=aj;have h3:hi*2 ^ s<=y*2 ^ s:=bR _ D
 have h4:lo / 2 ^ (64 - s)<2 ^ s:=by
  rw[fu B,Nat.mul_comm,hp];exact U
 have h5:lo*2 ^ s / 18446744073709551616=lo / 2 ^ (64 - s):=by
  rw[<-hp,Nat.mul_div_mul_right _ _ M]
 have h6:=fO (lo*2 ^ s) 18446744073709551616;rw[h5] at h6;refine⟨D,h4,?_,?_⟩
 .grind
 .have h7:(hi+1)*2 ^ s<=y*2 ^ s:=bR _ Y;grind
def IF{a b s:Nat}(hb:b<2 ^ s):a*2 ^ s ||| b=a*2 ^ s+b:=by
 rw[<-Nat.shiftLeft_eq,Nat.shiftLeft_add_eq_or_of_lt hb]
theorem Mj{N y s:Nat}:N*2 ^ s / (y*2 ^ s)=N / y/\N*2 ^ s % (y*2 ^ s) / 2 ^ s=N % y:=by
 have B:0<2 ^ s:=aj;refine⟨Nat.mul_div_mul_right _ _ B,?_⟩;rw[Nat.mul_mod_mul_right,Nat.mul_div_cancel _ B]
abbrev len8:ByteArray:={ data:=(([0,1,2,2,3,3,3,3,4,4,4,4,4,4,4,4,5,5,5,5,5,5,5,5,5,5,5,5,5,5,5,5,6,6,6,6,6,6,6,6,6,6,6,6,6,6,6,6,6,6,6,6,6,6,6,6,6,6,6,6,6,6,6,6].append [7,7,7,7,7,7,7,7,7,7,7,7,7,7,7,7,7,7,7,7,7,7,7,7,7,7,7,7,7,7,7,7,7,7,7,7,7,7,7,7,7,7,7,7,7,7,7,7,7,7,7,7,7,7,7,7,7,7,7,7,7,7,7,7]).append ([8,8,8,8,8,8,8,8,8,8,8,8,8,8,8,8,8,8,8,8,8,8,8,8,8,8,8,8,8,8,8,8,8,8,8,8,8,8,8,8,8,8,8,8,8,8,8,8,8,8,8,8,8,8,8,8,8,8,8,8,8,8,8,8].append [8,8,8,8,8,8,8,8,8,8,8,8,8,8,8,8,8,8,8,8,8,8,8,8,8,8,8,8,8,8,8,8,8,8,8,8,8,8,8,8,8,8,8,8,8,8,8,8,8,8,8,8,8,8,8,8,8,8,8,8,8,8,8,8])).toArray }
def IP:∀c:Nat,c<256->1<=c->1<=((gt len8)[c]!).toNat/\2 ^ (((gt len8)[c]!).toNat - 1)<=c/\c<2 ^ ((gt len8)[c]!).toNat/\0<=(gt len8)[c]!/\(gt len8)[c]!<=8:=by decide +kernel
def GA:len8.size=256:=by decide +kernel
theorem Me{x l k:Nat}(K:2 ^ (l - 1)<=x / 2 ^ k)(T:x / 2 ^ k<2 ^ l)(U:1<=l):2 ^ (l+k - 1)<=x/\x<2 ^ (l+k):=by
 have hp:0<2 ^ k:=aj;constructor
 .rw[show l+k - 1=l - 1+k by omega,Nat.pow_add];exact(Nat.le_div_iff_mul_le hp).1 K
 .rw[Nat.pow_add];exact(fu hp).1 T
theorem EN{L:Η}(x:Nat)(O:x<18446744073709551616)(h0:1<=x) :
  Τ Θ 182 #[.int .u64 (x:Int)] L (λv Γ=>∃l:Nat,v=J (l:Int)/\(1<=l/\l<=64/\2 ^ (l - 1)<=x/\x<2 ^ l)/\Γ = L):=by
 have a3:=GA;refine Τ.bd ?_;repeat first|refine Α.sm 1 ?_|refine dA ?_|intro
 refine Α.c7 (α:=Nat×Nat) (λg=>(g.2=0\/g.2=32)/\g.1=x / 2 ^ g.2/\g.1<4294967296/\1<=g.1) (λg=>[(0,.int .u64 (g.1:Int)),(2,J (g.2:Int))]) (λ_=>L) ?_ ?_
 .by_cases h:4294967296<=x
  .refine Nd ?_;intros;refine GO.ev (Ev.j9 rfl rfl) ae ?_;refine Nd ?_;intros;refine⟨(x / 4294967296,32),⟨.inr rfl,by simp,D,D⟩,aD,F.refl _⟩
  .refine Nd ?_;intros;refine⟨(x,0),⟨.inl rfl,by simp,D,h0⟩,aD,F.refl _⟩
 rintro⟨a,k⟩ ⟨hk,ha,M,B⟩;dsimp only at hk ha M B ⊢;refine Α.c7 (α:=Nat×Nat) (λg=>(g.2<=48)/\g.1=x / 2 ^ g.2/\g.1<65536/\1<=g.1) (λg=>[(0,.int .u64 (g.1:Int)),(2,J (g.2:Int))]) (λ_=>L) ?_ ?_
 .by_cases h:65536<=a
  .refine Nd ?_;intros;refine GO.ev (Ev.m8 16 rfl ae rfl rfl) ae ?_;refine Nd ?_;intros;refine⟨(a / 2 ^ 16,k+16),⟨D,aj,D,D⟩,?_,F.refl _⟩;dsimp only;rw[show((k+16:Nat):Int)=(k:Int)+16 by omega];exact aD
  .refine Nd ?_;intros;refine⟨(a,k),⟨by dsimp only;omega,ha,by dsimp only;omega,B⟩,aD,F.refl _⟩
 clear hk ha M B;rintro⟨a,k⟩ ⟨hk,ha,M,B⟩;dsimp only at hk ha M B ⊢;refine Α.c7 (α:=Nat×Nat) (λg=>(g.2<=56)/\g.1=x / 2 ^ g.2/\g.1<256/\1<=g.1) (λg=>[(0,.int .u64 (g.1:Int)),(2,J (g.2:Int))]) (λ_=>L) ?_ ?_
 .by_cases h:256<=a
  .refine Nd ?_;intros;refine GO.ev (Ev.m8 8 rfl ae rfl rfl) ae ?_;refine Nd ?_;intros;refine⟨(a / 2 ^ 8,k+8),⟨D,by dsimp only;rw[ha,Nat.div_div_eq_div_mul,<-Nat.pow_add],D,D⟩,?_,F.refl _⟩;dsimp only;rw[show((k+8:Nat):Int)=(k:Int)+8 by omega];exact aD
  .refine Nd ?_;intros;refine⟨(a,k),⟨by dsimp only;omega,ha,by dsimp only;omega,B⟩,aD,F.refl _⟩
 clear hk ha M B;rintro⟨a,k⟩ ⟨hk,ha,M,B⟩;dsimp only at hk ha M B ⊢;obtain⟨t1,t2,t3,t4,t5⟩:=IP a M B;have a2:(a:Int).toNat=a:=D;refine Nd ?_;intros;refine GO.ev (Ev.n9 (s:=len8) rfl rfl D D) ae ?_;rw[a2];generalize (gt len8)[a]! = c at t1 t2 t3 t4 t5;refine Nd ?_;intros;refine KX.a8 aF (F.refl _) ⟨c.toNat+k,?_,⟨D,D,?_⟩,rfl⟩
 .grind [Pt]
 .rw[ha] at t2 t3;exact Me t2 t3 t1
theorem Gw{L:Η}(x:Nat)(O:x<18446744073709551616)(h0:1<=x) :
  Τ Θ 334 #[.int .u64 (x:Int)] L (λv Γ=>∃s:Nat,v=J (s:Int)/\(s<=63/\9223372036854775808<=x*2 ^ s/\x*2 ^ s<18446744073709551616)/\Γ = L):=by
 refine Τ.bd ?_;refine Nd ?_;intros;refine GO.ca (EN x O h0) ?_;rintro _ _⟨l,rfl,⟨l1,l2,l3,l4⟩,rfl⟩;refine Nd ?_;intros;refine KX.a8 aF (F.refl _) ⟨64 - l,?_,⟨D,?_,?_⟩,rfl⟩
 .grind [Pt]
 .have K:2 ^ (l - 1)*2 ^ (64 - l)<=x*2 ^ (64 - l):=bR _ l3;rw[<-Nat.pow_add,show l - 1+(64 - l)=63 by omega] at K;omega
 .have K:x*2 ^ (64 - l)<2 ^ l*2 ^ (64 - l):=Nat.mul_lt_mul_of_pos_right l4 aj;rw[<-Nat.pow_add,show l+(64 - l)=64 by omega] at K;omega
structure TP (u v y1 y0 q r:Nat):Prop where
 e:u=q*y1+r
 lo:(u*4294967296+v) / (y1*4294967296+y0)<=q
 q:q<=4294967297
 r:r<4294967296
theorem pQ{u v y1 y0 q r:Nat}(hu:u<y1*4294967296+y0)(hv:v<4294967296)(M:y0<4294967296)(a2:2147483648<=y1)(h:TP u v y1 y0 q r)(hc:4294967296<=q\/4294967296*r+v<q*y0) :
  1<=q/\u=(q - 1)*y1+(r+y1)/\(u*4294967296+v) / (y1*4294967296+y0)<=q - 1/\q - 1<=4294967296:=by
 have B:(u*4294967296+v) / (y1*4294967296+y0)<q:=by
  rcases hc with hc|hc
  .have:=sY hu hv D
   omega
  .exact KW h.e hc D
 clear hc;generalize (u*4294967296+v) / (y1*4294967296+y0)=F5 at B;have K:1<=q:=D;refine⟨K,?_,D,by have:=h.q;omega⟩;have he:=h.e;obtain⟨p,rfl⟩:∃p,q=p+1:=⟨q - 1,D⟩;grind
def wB{u v y1 y0 q r:Nat}(B:2147483648<=y1)(h:TP u v y1 y0 q r)(hc:¬(4294967296<=q\/4294967296*r+v<q*y0)):q=(u*4294967296+v) / (y1*4294967296+y0) :=
 JS D h.lo (CJ h.e D)
theorem so{u v y1 y0:Nat}(hu:u<y1*4294967296+y0)(hv:v<4294967296)(B:y0<4294967296)(M:2147483648<=y1)(a2:y1<4294967296):TP u v y1 y0 (u / y1) (u - u / y1*y1):=by
 have K:=fO u y1;rw[Nat.mul_comm] at K;have T:=dX u (D:0<y1);exact⟨D,IT hv D ae,IS hu B D D,D⟩
def wC{u v y1 y0 q r:Nat}(B:y0<4294967296)(h:TP u v y1 y0 q r):q*y0<18446744073709551616:=by
 have:=Nat.mul_le_mul h.q (D:y0<=4294967295)
 omega
def Do(u z:Nat):(u*4294967296+z / 4294967296)*4294967296+z % 4294967296=u*18446744073709551616+z:=D
theorem vP{u v χ:Nat}(h0:0<χ)(K:χ<18446744073709551616):((u*4294967296 % 18446744073709551616+v) % 18446744073709551616+18446744073709551616 - (u*4294967296+v) / χ*χ % 18446744073709551616) % 18446744073709551616=(u*4294967296+v) % χ:=by
 rw[Nat.mod_add_mod];generalize u*4294967296+v=Ο;have T:=fO Ο χ;have h3:=dX Ο h0;grind
def lP{u v y1 y0 q r:Nat}(B:y0<4294967296)(M:2147483648<=y1)(e:u=q*y1+r)(lo:(u*4294967296+v) / (y1*4294967296+y0)<=q)(hq:q<=4294967296)(hr:4294967296<=r):q=(u*4294967296+v) / (y1*4294967296+y0) :=
 JS D lo (IU e hr hq B)
abbrev AP:=Zb []
def aN{φ ψ:Prop}(k:ψ)(h:Hid ψ->φ:=by intro k;(with_reducible apply Α.a8);first|refine Α.dr 135 6 AP (Hid.out k)):φ:=h ⟨k⟩
def NL{φ ψ:Prop}(k:ψ)(h:Hid ψ->φ:=by intro k;(repeat (first|refine ab ?_|intro B6|refine aN ?_));(repeat revert B6);exact Hid.out k):φ:=h ⟨k⟩
theorem Fe{L:Η}(hi lo y:Nat)(c3:hi<y)(b7:lo<18446744073709551616)(Y:y<18446744073709551616) :
  Τ Θ 329 #[.int .u64 (hi:Int),.int .u64 (lo:Int),.int .u64 (y:Int)] L (F3 (.tuple #[.int .u64 (((hi*18446744073709551616+lo) / y:Nat):Int),.int .u64 (((hi*18446744073709551616+lo) % y:Nat):Int)]) L):=by
 refine Τ.bd ?_;by_cases h0:hi=0
 .subst h0;refine NL ?_;intros;refine δ.M8 (Ev.r7 rfl rfl b7 D) ae ?_;refine NL ?_;intros;refine KX.a8 aF (F.refl _) ⟨?_,rfl⟩;grind [Pt]
 refine NL ?_;intros;refine GO.ca (Gw y Y D) ?_;rintro _ L ⟨s,rfl,⟨s1,s2,s3⟩,rfl⟩;obtain⟨n1,n2,n3,n4⟩:=KV D c3 b7 s3;have b1:((64:Nat) - s)<=64:=D;refine NL ?_;intros;refine GO.ev (Ev.q9 s rfl D rfl rfl) ae ?_;rw[Nat.mod_eq_of_lt s3];have b6:=Mj (N:=hi*18446744073709551616+lo) (y:=y) (s:=s);obtain⟨χ,hY⟩:∃χ,χ=y*2 ^ s:=⟨_,rfl⟩;rw[<-hY] at s2 s3 n4 b6 ⊢;refine NL ?_;intros;refine GO.ev (Ev.j9 rfl rfl) ae ?_;refine NL ?_;intros;refine GO.ev (Ev.m9 rfl rfl s3) ae ?_;obtain⟨y1,c6⟩:∃y1,y1=χ / 4294967296:=⟨_,rfl⟩;obtain⟨y0,c5⟩:∃y0,y0=χ % 4294967296:=⟨_,rfl⟩;have a5:χ=y1*4294967296+y0:=D;rw[<-c6,<-c5];refine NL ?_;intros;refine GO.ev (Ev.q9 s rfl D rfl rfl) ae ?_;rw[Nat.mod_eq_of_lt n1];refine NL ?_;intros;refine GO.ev (Ev.j8 (a:=64) (b:=s) D D rfl rfl) ae ?_;refine GO.ev (Ev.m8 (64 - s) rfl b1 rfl rfl) ae ?_;refine GO.ev (Ev.Zo rfl rfl n1 D) ae ?_;rw[IF n2];refine NL ?_;intros;refine GO.ev (Ev.q9 s rfl D rfl rfl) ae ?_;obtain⟨u,hu⟩:∃u,u=hi*2 ^ s+lo / 2 ^ (64 - s):=⟨_,rfl⟩;obtain⟨z,hz⟩:∃z,z=lo*2 ^ s % 18446744073709551616:=⟨_,rfl⟩;have d0:z<18446744073709551616:=by rw[hz];exact D
 rw[<-hu] at n3 n4;rw[<-hz] at n3;rw[<-hu,<-hz];refine NL ?_;intros;refine GO.ev (Ev.j9 rfl rfl) ae ?_;refine NL ?_;intros;refine GO.ev (Ev.m9 rfl rfl d0) ae ?_;obtain⟨z1,b9⟩:∃z1,z1=z / 4294967296:=⟨_,rfl⟩;obtain⟨z0,b8⟩:∃z0,z0=z % 4294967296:=⟨_,rfl⟩;rw[<-b9,<-b8];refine NL ?_;intros;refine GO.ev (Ev.r7 rfl rfl D D) ae ?_;have M:TP u z1 y1 y0 (u / y1) (u - u / y1*y1):=by grind [so]
 have a2:=Nat.div_mul_le_self u y1;refine NL ?_;intros;refine GO.ev (Ev.f8 D rfl rfl) ae ?_;refine GO.ev (Ev.j8 a2 D rfl rfl) ae ?_;have B:=M.e;generalize u / y1=q at M B a2;generalize u - q*y1=r at M B;obtain⟨Q1,a4⟩:∃Q1,Q1=(u*4294967296+z1) / χ:=⟨_,rfl⟩;obtain⟨u2,b2⟩:∃u2,u2=(u*4294967296+z1) % χ:=⟨_,rfl⟩;repeat first|((fail_if_success (with_reducible refine Α.Xx 0 ?_));(with_reducible apply Α.seq))|refine dA ?_|intro _|refine aN ?_
 refine Α.c7 (α:=Unit) (λ_=>True) (λ_=>[(2,.int .u64 (χ:Int)),(8,.int .u64 (s:Int)),(9,.int .u64 (y1:Int)),(10,.int .u64 (y0:Int)),(11,.int .u64 (u:Int)),(13,.int .u64 (z1:Int)),(14,.int .u64 (z0:Int)),(15,.int .u64 (Q1:Int))]) (λ_=>L) ?_ ?_
 .refine NL ?_;intros;refine Α.loop (α:=Nat×Nat) (λg=>TP u z1 y1 y0 g.1 g.2) (λg=>[(2,.int .u64 (χ:Int)),(8,.int .u64 (s:Int)),(9,.int .u64 (y1:Int)),(10,.int .u64 (y0:Int)),(11,.int .u64 (u:Int)),(13,.int .u64 (z1:Int)),(14,.int .u64 (z0:Int)),(15,.int .u64 (g.1:Int)),(16,.int .u64 (g.2:Int))]) (λ_=>L) (λg=>g.1) (q,r) M aD (F.refl _) ?_;clear M B a2;rintro⟨q,r⟩ hg;dsimp only at hg ⊢;have b0:=wC D hg;have c2:=hg.r;have c1:=hg.q;by_cases a7:4294967296<=q
  .obtain⟨g1,g2,g3,g4⟩:=pQ D D D D hg (.inl a7);refine NL ?_;intros;refine GO.ev (Ev.j8 (a:=q) (b:=1) g1 D rfl rfl) ae ?_;refine NL ?_;intros;refine GO.ev (Ev.g8 (a:=r) (b:=y1) D rfl rfl) ae ?_;by_cases a3:4294967296<=r+y1
   .have hq:=lP D D g2 g3 g4 a3;rw[<-a5,<-a4] at hq;rw[hq];refine NL ?_;intros;exact⟨(),trivial,aD,F.refl _⟩
   .refine NL ?_;intros;exact⟨(q - 1,r+y1),⟨g2,g3,D,D⟩,by dsimp only;omega,aD,F.refl _⟩
  .refine NL ?_;intros;refine GO.ev (Ev.f8 b0 rfl rfl) ae ?_;refine NL ?_;intros;refine GO.ev (Ev.f8 (a:=4294967296) (b:=r) D rfl rfl) ae ?_;refine NL ?_;intros;refine GO.ev (Ev.g8 D rfl rfl) ae ?_;by_cases a9:4294967296*r+z1<q*y0
   .obtain⟨g1,g2,g3,g4⟩:=pQ D D D D hg (.inr a9);refine NL ?_;intros;refine GO.ev (Ev.j8 (a:=q) (b:=1) g1 D rfl rfl) ae ?_;refine NL ?_;intros;refine GO.ev (Ev.g8 (a:=r) (b:=y1) D rfl rfl) ae ?_;by_cases a3:4294967296<=r+y1
    .have hq:=lP D D g2 g3 g4 a3;rw[<-a5,<-a4] at hq;rw[hq];refine NL ?_;intros;exact⟨(),trivial,aD,F.refl _⟩
    .refine NL ?_;intros;exact⟨(q - 1,r+y1),⟨g2,g3,D,D⟩,by dsimp only;omega,aD,F.refl _⟩
   .have hq:=wB D hg D;rw[<-a5,<-a4] at hq;refine NL ?_;intros;rw[hq];exact⟨(),trivial,aD,F.refl _⟩
 clear M B a2 q r;rintro _ _;have a6:0<χ:=D;have d2:Q1<4294967296:=by rw[a4];exact sY n4 D a6
 have b3:=vP (u:=u) (v:=z1) a6 s3;have b5:=Mi (u*4294967296+z1) z0 χ 4294967296 a6;have c4:u2<χ:=by rw[b2];exact dX _ a6
 rw[<-a4,<-b2] at b3 b5;have c0:(u*4294967296+z1)*4294967296+z0=(hi*18446744073709551616+lo)*2 ^ s:=by rw[b9,b8,Do,n3]
 rw[c0,b6.1] at b5;refine NL ?_;intros;refine GO.ev (Ev.l8 (a:=u) (b:=4294967296) rfl rfl) ae ?_;refine NL ?_;intros;refine GO.ev (Ev.r8 rfl rfl) ae ?_;refine NL ?_;intros;refine GO.ev (Ev.l8 rfl rfl) ae ?_;refine GO.ev (Ev.q8 rfl rfl (Nat.le_of_lt (dX _ ae))) ae ?_;rw[b3];clear b3 a4 b2;refine NL ?_;intros;refine GO.ev (Ev.r7 rfl rfl D D) ae ?_;have M:TP u2 z0 y1 y0 (u2 / y1) (u2 - u2 / y1*y1):=by grind [so]
 have a2:=Nat.div_mul_le_self u2 y1;refine NL ?_;intros;refine GO.ev (Ev.f8 D rfl rfl) ae ?_;refine GO.ev (Ev.j8 a2 D rfl rfl) ae ?_;have B:=M.e;generalize u2 / y1=q at M B a2;generalize u2 - q*y1=r at M B;repeat first|((fail_if_success (with_reducible refine Α.Xx 2 ?_));(with_reducible apply Α.seq))|refine dA ?_|intro _|refine aN ?_
 refine Α.c7 (α:=Unit) (λ_=>True) (λ_=>[(2,.int .u64 (χ:Int)),(8,.int .u64 (s:Int)),(14,.int .u64 (z0:Int)),(15,.int .u64 (Q1:Int)),(17,.int .u64 (u2:Int)),(18,.int .u64 (((u2*4294967296+z0) / χ:Nat):Int))]) (λ_=>L) ?_ ?_
 .refine NL ?_;intros;refine Α.loop (α:=Nat×Nat) (λg=>TP u2 z0 y1 y0 g.1 g.2) (λg=>[(2,.int .u64 (χ:Int)),(8,.int .u64 (s:Int)),(9,.int .u64 (y1:Int)),(10,.int .u64 (y0:Int)),(14,.int .u64 (z0:Int)),(15,.int .u64 (Q1:Int)),(17,.int .u64 (u2:Int)),(18,.int .u64 (g.1:Int)),(16,.int .u64 (g.2:Int))]) (λ_=>L) (λg=>g.1) (q,r) M aD (F.refl _) ?_;clear M B a2;rintro⟨q,r⟩ hg;dsimp only at hg ⊢;have b0:=wC D hg;have c2:=hg.r;have c1:=hg.q;by_cases a7:4294967296<=q
  .obtain⟨g1,g2,g3,g4⟩:=pQ D D D D hg (.inl a7);refine NL ?_;intros;refine GO.ev (Ev.j8 (a:=q) (b:=1) g1 D rfl rfl) ae ?_;refine NL ?_;intros;refine GO.ev (Ev.g8 (a:=r) (b:=y1) D rfl rfl) ae ?_;by_cases a3:4294967296<=r+y1
   .have hq:=lP D D g2 g3 g4 a3;rw[<-a5] at hq;rw[hq];refine NL ?_;intros;exact⟨(),trivial,aD,F.refl _⟩
   .refine NL ?_;intros;exact⟨(q - 1,r+y1),⟨g2,g3,D,D⟩,by dsimp only;omega,aD,F.refl _⟩
  .refine NL ?_;intros;refine GO.ev (Ev.f8 b0 rfl rfl) ae ?_;refine NL ?_;intros;refine GO.ev (Ev.f8 (a:=4294967296) (b:=r) D rfl rfl) ae ?_;refine NL ?_;intros;refine GO.ev (Ev.g8 D rfl rfl) ae ?_;by_cases a9:4294967296*r+z0<q*y0
   .obtain⟨g1,g2,g3,g4⟩:=pQ D D D D hg (.inr a9);refine NL ?_;intros;refine GO.ev (Ev.j8 (a:=q) (b:=1) g1 D rfl rfl) ae ?_;refine NL ?_;intros;refine GO.ev (Ev.g8 (a:=r) (b:=y1) D rfl rfl) ae ?_;by_cases a3:4294967296<=r+y1
    .have hq:=lP D D g2 g3 g4 a3;rw[<-a5] at hq;rw[hq];refine NL ?_;intros;exact⟨(),trivial,aD,F.refl _⟩
    .refine NL ?_;intros;exact⟨(q - 1,r+y1),⟨g2,g3,D,D⟩,by dsimp only;omega,aD,F.refl _⟩
   .have hq:=wB D hg D;rw[<-a5] at hq;refine NL ?_;intros;rw[hq];exact⟨(),trivial,aD,F.refl _⟩
 clear M B a2 q r;rintro _ _;have d1:(u2*4294967296+z0) / χ<4294967296:=sY c4 D a6;have b4:=vP (u:=u2) (v:=z0) a6 s3;refine NL ?_;intros;refine GO.ev (Ev.f8 (a:=Q1) (b:=4294967296) D rfl rfl) ae ?_;refine NL ?_;intros;refine GO.ev (Ev.g8 D rfl rfl) ae ?_;refine NL ?_;intros;refine GO.ev (Ev.l8 (a:=u2) (b:=4294967296) rfl rfl) ae ?_;refine NL ?_;intros;refine GO.ev (Ev.r8 rfl rfl) ae ?_;refine NL ?_;intros;refine GO.ev (Ev.l8 rfl rfl) ae ?_;refine GO.ev (Ev.q8 rfl rfl (Nat.le_of_lt (dX _ ae))) ae ?_;rw[b4];refine NL ?_;intros;refine GO.ev (Ev.m8 s rfl D rfl rfl) ae ?_;refine NL ?_;intros;refine KX.a8 aF (F.refl _) ⟨?_,rfl⟩;grind [Pt]
end
end Go.Proofs.YtlgpgjdggilkgaaGreatDoor
namespace Go.V
open Go.Sort Go.Proofs
def HQ:∀{a b:World},a.heap=b.heap->a.tape=b.tape->a.drawn=b.drawn->a.os=b.os->a.output=b.output->a=b:=by
 rintro⟨_,_,_,_,_⟩ ⟨_,_,_,_,_⟩ K T h3 h4 h5;cases K;cases T;cases h3;cases h4;cases h5;rfl
def Τ.c9{P:Program}{f:FuncId}{args:Array Value}{L:Η}{v:Value}(h:Τ P f args L (λu _=>u=v)){w:World}{ι:Hp}(hi:Hp.sub ι (ib w))(hs:M6 L ι Hp.emp) :
  Calls P f args w λe cO=>e=.returned v/\∃q a4,cO = grow (w.drewN q) a4:=by
 have a3:M6 L (ib w) Hp.emp:=hs.mono hi (Hp.sub.refl _);have s0:Sat ⟨w.tape,w.os,w.output,w.drawn⟩ (L++[xu w]) w:=⟨⟨rfl,rfl,rfl,an _⟩,ib w,Hp.emp,λ_ _ _=>rfl,Hp.sub.refl _,Hp.a8 _,a3.snoc (Hp.sub.refl _)⟩;refine(h.calls _ _ w s0).mono ?_;rintro e cO ⟨u,Γ,rfl,rfl,s1⟩;refine⟨rfl,cO.drawn - w.drawn,cO.heap.extract w.heap.size cO.heap.size,?_⟩;have s2:Sat ⟨w.tape,w.os,w.output,w.drawn⟩ (xu w::Γ) cO:=s1.perm (List.perm_append_singleton _ _);obtain⟨ok,ι',h,a,b1,c,G6,E4,D4,d1,d2,d3,d4,d5,d6⟩:=s2;have hk:∀k o,w.heap[k]? = some o->cO.heap[k]? = some o:=λk o O=>b1 k o (d1 k o (d5 k o O))
 have a7:w.heap.size<=cO.heap.size:=by
  rcases Nat.lt_or_ge cO.heap.size w.heap.size with a2|M
  .have K:=hk cO.heap.size _ (Array.getElem?_eq_getElem a2);rw[Array.getElem?_eq_none (an _)] at K;cases K
  .exact M
 have a5:w.drawn<=cO.drawn:=ok.drawn;refine HQ ?_ ok.tape ?_ ok.os ok.output
 .show cO.heap=w.heap++cO.heap.extract w.heap.size cO.heap.size;apply Array.ext_getElem?;intro k;by_cases B:k<w.heap.size
  .rw[Array.getElem?_append_left B,Array.getElem?_eq_getElem B];exact hk k _ (Array.getElem?_eq_getElem B)
  .rw[Array.getElem?_append_right D,Array.getElem?_extract];by_cases a6:k<cO.heap.size
   .rw[Χ D,show w.heap.size+(k - w.heap.size)=k by omega]
   .rw[Ν D,Array.getElem?_eq_none D]
 .show cO.drawn=w.drawn+(cO.drawn - w.drawn);omega
def tX{α:Type}[Inhabited α]{Ε:α->Value}{w:World}{ι:Hp}{blk off m:Nat}{Μ:Array α}{os:Array Obj}(hi:Hp.sub ι (ib w))(hb:ι blk=none):Hp.sub ι (ib (grow (Sort.putRow Ε (Sort.ahead w m) blk off Μ) os)):=by
 intro k o hk;have O:w.heap[k]? = some o:=hi k o hk;have M:k≠blk:=by rintro rfl;rw[hb] at hk;cases hk
 have B:k<w.heap.size:=(Array.getElem?_eq_some_iff.1 O).1;show(w.heap.modify blk (onCells (putCells Ε off Μ))++os)[k]? = _;rw[Array.getElem?_append_left (by simpa using B),Array.getElem?_modify,Ν (λe=>M e.symm),O]
def yk{vs:τ}{B:Array Value}(hc:vs.length<=B.size):(putCells id 0 vs.toArray B).toList.take vs.length=vs:=by
 apply gJ;intro i;by_cases hi:i<vs.length
 .have T:i<B.size:=D;rw[List.getElem?_take,Χ hi];simp[putCells,hi,T]
 .rw[List.getElem?_take,Ν hi];simp;omega
def GU{g η:Nat}{B:Array Value}{vs:τ}{w:World}(hb:w.heap[g]? = some (.cells B η (0,0)))(ht:B.toList.take vs.length=vs):Holds id w g 0 vs.toArray:=by
 intro j hj;have M : j<vs.length:=by simpa using hj
 refine⟨?_,by simp[World.frozen?,hb]⟩;rw[dw,eh hb];have h:(B.toList.take vs.length)[j]? = vs[j]?:=by rw[ht]
 rw[List.getElem?_take,Χ M] at h;simp[M] at h;simp[M,h]
def Sat.f7{θ:Th}{g η:Nat}{M:Array Value}{R:Η}{w:World}{Μ:Array Value}{n:Nat}{os:Array Obj}(s:Sat θ (jC g (.cells M η (0,0))::R) w) :
  Sat θ (jC g (.cells (putCells id 0 Μ M) η (0,0))::R) (grow (Sort.putRow id (Sort.ahead w n) g 0 Μ) os):=by
 have hb:=s.Nr;have a2:g<w.heap.size:=(Array.getElem?_eq_some_iff.1 hb).1;refine s.update ⟨s.1.tape,s.1.os,s.1.output,aO s.1.drawn (Nat.le_add_right _ _)⟩ ?_ ?_
 .show(w.heap.modify g (onCells (putCells id 0 Μ))++os)[g]? = _;rw[Array.getElem?_append_left (by simpa using a2),Array.getElem?_modify,Χ rfl,hb];rfl
 .intro k x hk O;have B:k<w.heap.size:=(Array.getElem?_eq_some_iff.1 O).1;show(w.heap.modify g (onCells (putCells id 0 Μ))++os)[k]? = _;rw[Array.getElem?_append_left (by simpa using B),Array.getElem?_modify,Ν (λe=>hk e.symm),O]
theorem Τ.c7{P:Program}{f:FuncId}{η cap sz:Nat}{ad:OA}{α:Type}{Ε:α->τ}{I:List α}{Lc:Η}{fv:Value}(he:Enters P f)(a7:∀ι h,M6 Lc ι h->M6 Lc ι Hp.emp)(B:List α->Prop)(b7:I=[]->B [])
  (h0:I.length=0->∀w,Calls P f #[.slice ad 0 cap,fv] w λe cO=>e=.returned (.tuple #[])/\cO = w)
  (K:∀blk w ι,Hp.sub ι (ib w)->ι blk=none->M6 Lc ι Hp.emp->Holds id w blk 0 (I.flatMap Ε).toArray->blk<w.heap.size ->
   Calls P f #[.slice (some ⟨blk,0,none⟩) I.length cap,fv] w λe cO=>e=.returned (.tuple #[])/\∃ys n os,ys.length=I.length/\(∀y∈ys,(Ε y).length=sz)/\B ys/\cO = grow (Sort.putRow id (Sort.ahead w n) blk 0 (ys.flatMap Ε).toArray) os) :
  Τ P f #[.slice ad I.length cap,fv] (Ω Ε sz η ad cap I::Lc) (λv Γ=>v=.tuple #[]/\∃ys,B ys/\Γ = Ω Ε sz η ad cap ys::Lc):=by
 refine⟨he,λθ R w s=>?_⟩;by_cases O:I.length=0
 .have e1:I=[]:=cd O;subst e1;refine(h0 rfl w).mono ?_;rintro e cO ⟨rfl,rfl⟩;exact⟨_,_,rfl,⟨rfl,[],b7 rfl,rfl⟩,s⟩
 obtain⟨M,a2,a3,a4⟩:=Sat.QY (L:=Lc++R) s;rcases a4 with⟨rfl,rfl⟩|⟨g,a9,rfl,b1,b2,b3⟩
 .omega
 have hb:=b3.Nr;have b6:=db M;have b0:a9.toList.take (I.flatMap Ε).length=I.flatMap Ε:=by rw[b6];exact b2
 obtain⟨ok,ι,h,a,c1,c2,G6,E4,D4,d1,d2,d3,d4,d5,d6⟩:=b3
 have b8:ι g=none:=by
  cases Zp:ι g with
  | none=>rfl
  | some o =>
   have h3:=a g o Zp;have h4:h g=some (.cells a9 η (0,0)):=d3 g _ d5;rw[h3] at h4;cases h4
 have b5:M6 Lc ι Hp.emp:=by
  obtain⟨x1,x2,y1,y2,y3,y4,y5⟩:=M6.split d6;exact a7 ι x1 y4
 have b3:Sat θ (jC g (.cells a9 η (0,0))::(Lc++R)) w:=⟨ok,ι,h,a,c1,c2,G6,E4,D4,d1,d2,d3,d4,d5,d6⟩;refine(K g w ι c1 b8 b5 (GU hb b0) (Array.getElem?_eq_some_iff.1 hb).1).mono ?_;rintro e cO ⟨rfl,ys,n,os,U,b4,a6,rfl⟩;refine⟨_,_,rfl,⟨rfl,ys,a6,rfl⟩,?_⟩;have a5:=db b4;have b9:I.length*sz<=cap*sz:=bR _ a2;refine Sat.RO (L:=Lc++R) (Sat.f7 b3) b4 D a3 ?_ ?_
 .simp[putCells,b1]
 .rw[<-a5];exact yk (by rw[a5,U,b1];exact b9)
def GW{α:Type}[Inhabited α]{Ε:α->Value}{w:World}{g:Nat}{I:List α}(h:Holds id w g 0 (I.flatMap λx=>[Ε x]).toArray):Holds Ε w g 0 I.toArray:=by
 intro j hj;have B : j<I.length:=by simpa using hj
 have hf:(I.flatMap λx=>[Ε x])=I.map Ε:=oB _ I;rw[hf] at h;have:=h j (by simpa using B)
 simpa [B] using this
def DF{α:Type}[Inhabited α]{Ε:α->Value}{w:World}{g:Nat}{Μ:Array α}:Sort.putRow Ε w g 0 Μ=Sort.putRow id w g 0 (Μ.toList.flatMap λx=>[Ε x]).toArray:=by
 have hf:∀l:List α,(l.flatMap λx=>[Ε x])=l.map Ε:=λl=>oB _ l;rw[hf];unfold Sort.putRow;congr 1;funext c;unfold putCells;apply Array.ext
 .simp
 .intro i K T;simp only[Array.getElem_mapIdx,gH,al,ec,dw,Nat.sub_zero,id_eq];split
  .rename_i B;simp[B.2]
  .rfl
def oR{α:Type}[Inhabited α]{I:List α}{d' : Array α}(h:PermIn 0 I.toArray.size I.toArray d'):d'.toList.Perm I:=by
 obtain⟨K,_,h3⟩:=h;have e1:(I.toArray.extract 0 I.toArray.size)=I.toArray:=by simp
 have e2:(d'.extract 0 I.toArray.size)=d':=by rw[<-K];simp
 rw[e1,e2] at h3;simpa using h3
def lX{α:Type}[Inhabited α]{lt:α->α->Bool}{Μ:Array α}(h:SortedIn lt 0 Μ.size Μ):Μ.toList.Pairwise (λa b=>lt b a=false):=by
 rw[List.pairwise_iff_getElem];intro i j hi hj M;have:=h i j (aC _) M (by simpa using hj)
 have B : i<Μ.size:=by simpa using hi
 have a2 : j<Μ.size:=by simpa using hj
 simpa [B,a2] using this
def gW{α:Type}(cf:α->α->Int)(I ys:List α):Prop:=ys.Perm I/\ys.Pairwise (λa b=>¬cf b a<0)
def Τ.c8{P:Program}{ρ:Go.Shelf.Ren}(S:SlLaysF.n6 P ρ)(S0:SlLaysF0.n6 P ρ){η cap:Nat}{ad:OA}{α:Type}[Inhabited α]{Ε:α->Value}(K:OneCell Ε){I:List α}{Lc:Η}{g:Nat}{cb:Array Value}(cf:α->α->Int)(hO:SWO (ltOf cf))
  (he:Enters P (ρ.f 6)) (a6:Enters P g) (B:∀ι h,M6 Lc ι h->M6 Lc ι Hp.emp) (a2:∀x y:α,Τ P g (#[Ε x,Ε y]++cb) Lc (λu _=>u=J (cf x y))) (a7:I.length<4611686018427387904) :
  Τ P (ρ.f 6) #[.slice ad I.length cap,.func (.func g) #[] cb] (Ω (λx=>[Ε x]) 1 η ad cap I::Lc) (λv Γ=>v=.tuple #[]/\∃ys,gW cf I ys/\Γ = Ω (λx=>[Ε x]) 1 η ad cap ys::Lc):=by
 refine Τ.c7 he B (gW cf I) (λh=>by subst h;exact⟨List.Perm.refl _,List.Pairwise.nil⟩) ?_ ?_
 .intro h0 w;exact AnyF.slices_SortFunc_none S0 ad cap (.func (.func g) #[] cb) w
 .intro blk w ι hi hb hL hH M;have hc:=Any.slices_SortFunc S Ε K cf hO g cb blk 0 cap I.toArray w a6 (λm os dk _ x y=>Τ.c9 (a2 x y) (tX hi hb) hL) (GW hH) M (by simpa using a7);rw[show I.toArray.size=I.length by simp] at hc;refine hc.mono ?_;rintro e cO ⟨rfl,d',n,os,hp,hs,rfl⟩;have a3:d'.toList.Perm I:=oR (by simpa using hp);have a5:d'.size=I.length:=by have:=a3.length_eq;simpa using this
  refine⟨rfl,d'.toList,n,os,a3.length_eq,λ_ _=>rfl,⟨a3,?_⟩,?_⟩
  .rw[<-a5] at hs;refine(lX hs).imp ?_;intro a b a4;simpa [ltOf] using a4
  .unfold sortWorld;rw[DF]
def zQ{α:Type}[Inhabited α]{Ε:α->τ}{k:Nat}(hk:∀x,(Ε x).length=k)(I:List α):flatK Ε k I.toArray=(I.flatMap Ε).toArray:=by
 have U:(I.flatMap Ε).length=I.length*k:=db (λx _=>hk x);apply Array.ext_getElem?;intro i;by_cases K:i<I.length*k
 .have B:0<k:=by
   rcases Nat.eq_zero_or_pos k with h|h
   .subst h;simp at K
   .exact h
  have hj:i / k<I.length:=Nat.div_lt_of_lt_mul (by rw[Nat.mul_comm];exact K);have ho:i % k<k:=dX _ B;have T:=nz (I:=I) (λx _=>hk x) hj ho;rw[show i / k*k+i % k=i from Nat.div_add_mod' i k] at T;have h3:=get_flatK Ε k I.toArray i (by simpa using K);have h4:i<(flatK Ε k I.toArray).size:=by rw[size_flatK];simpa using K
  rw[getElem!_pos _ i h4] at h3;rw[Array.getElem?_eq_getElem h4,h3,List.getElem?_toArray,T,List.getElem?_eq_getElem (by rw[hk];exact ho)];simp[hj,hk,ho]
 .rw[Array.getElem?_eq_none (by rw[size_flatK];simpa using K),List.getElem?_toArray,List.getElem?_eq_none D]
theorem Τ.a8{P:Program}{ρ:Go.Shelf.Ren}(S:SlLaysF0.n6 P ρ){k η cap:Nat}(aE:∀w,(isAgg (ρ.t 24)).run P w=.ok true w)(zE:∀w,(Go.sizeOf (ρ.t 24)).run P w=.ok k w){ad:OA}{α:Type}[Inhabited α]{Ε:α->τ}(hk:∀x,(Ε x).length=k)(K:∀x,∀v∈Ε x,v.oneCell' = true){I:List α}{Lc:Η}{g:Nat}{cb:Array Value}(cf:α->α->Int)(hO:SWO (ltOf cf))
  (he:Enters P (ρ.f 6)) (a6:Enters P g) (B:∀ι h,M6 Lc ι h->M6 Lc ι Hp.emp) (a2:∀x y:α,Τ P g (#[.agg (Ε x).toArray,.agg (Ε y).toArray]++cb) Lc (λu _=>u=J (cf x y))) (a7:I.length<4611686018427387904) :
  Τ P (ρ.f 6) #[.slice ad I.length cap,.func (.func g) #[] cb] (Ω Ε k η ad cap I::Lc) (λv Γ=>v=.tuple #[]/\∃ys,gW cf I ys/\Γ = Ω Ε k η ad cap ys::Lc):=by
 refine Τ.c7 he B (gW cf I) (λh=>by subst h;exact⟨List.Perm.refl _,List.Pairwise.nil⟩) ?_ ?_
 .intro h0 w;exact AnyF.slices_SortFunc_none S ad cap (.func (.func g) #[] cb) w
 .intro blk w ι hi hb hL hH M;have hc:=AnyQ.slices_SortFunc S k aE zE Ε hk K cf hO g cb blk 0 cap I.toArray w a6 (λm os dk _ x y=>Τ.c9 (a2 x y) (tX hi hb) hL) (by unfold HoldsK;rw[zQ hk];exact hH) M (by simpa using a7);rw[show I.toArray.size=I.length by simp] at hc;refine hc.mono ?_;rintro e cO ⟨rfl,d',n,os,hp,hs,rfl⟩;have a3:d'.toList.Perm I:=oR (by simpa using hp);have a5:d'.size=I.length:=by have:=a3.length_eq;simpa using this
  refine⟨rfl,d'.toList,n,os,a3.length_eq,λy _=>hk y,⟨a3,?_⟩,?_⟩
  .rw[<-a5] at hs;refine(lX hs).imp ?_;intro a b a4;simpa [ltOf] using a4
  .unfold sortWorldK putRowK;have:=zQ hk d'.toList
   simp only[Array.toArray_toList] at this;rw[this]
def F.n5{α β:Type}{f:α->β}{Ε:β->τ}{sz η:Nat}{ad:OA}{cap:Nat}{I:List α}{L:Η}:F (Ω Ε sz η ad cap (I.map f)::L) (Ω (λx=>Ε (f x)) sz η ad cap I::L):=λθ R w s=>by
 obtain⟨ok,ι,h,a,b1,c,G6,E4,D4,d1,d2,d3,d4,⟨e1,e2,e3,e4⟩,d6⟩:=s;refine⟨ok,ι,h,a,b1,c,G6,E4,D4,d1,d2,d3,d4,⟨λx O=>e1 _ (PB O),by simpa using e2,e3,?_⟩,d6⟩;rcases e4 with e4|⟨g,B,f1,f2,f3,f4⟩
 .exact .inl e4
 .refine .inr ⟨g,B,f1,f2,f3,?_⟩;rw[al] at f4;rw[f4,List.flatMap_map]
def F.m8{α β:Type}{f:α->β}{Ε:β->τ}{sz η:Nat}{ad:OA}{cap:Nat}{I:List α}{L:Η}:F (Ω (λx=>Ε (f x)) sz η ad cap I::L) (Ω Ε sz η ad cap (I.map f)::L):=λθ R w s=>by
 obtain⟨ok,ι,h,a,b1,c,G6,E4,D4,d1,d2,d3,d4,⟨e1,e2,e3,e4⟩,d6⟩:=s;refine⟨ok,ι,h,a,b1,c,G6,E4,D4,d1,d2,d3,d4,⟨λy Y=>?_,by simpa using e2,e3,?_⟩,d6⟩
 .obtain⟨x,O,rfl⟩:=H9 Y;exact e1 x O
 rcases e4 with e4|⟨g,B,f1,f2,f3,f4⟩
 .exact .inl e4
 .refine .inr ⟨g,B,f1,f2,f3,?_⟩;rw[al,f4,List.flatMap_map]
def F.m7{α:Type}{Ε:α->τ}{sz η:Nat}{ad:OA}{cap:Nat}{I:List α}{L:Η}(n:Nat):F (Ω Ε sz η ad cap I::L) (Ω Ε sz η ad cap (I.take n)::L):=λθ R w s=>by
 obtain⟨ok,ι,h,a,b1,c,G6,E4,D4,d1,d2,d3,d4,⟨e1,e2,e3,e4⟩,d6⟩:=s;refine⟨ok,ι,h,a,b1,c,G6,E4,D4,d1,d2,d3,d4,⟨λx O=>e1 x (cp O),by rw[aP];omega,e3,?_⟩,d6⟩;rcases e4 with e4|⟨g,B,f1,f2,f3,f4⟩
 .exact .inl e4
 .refine .inr ⟨g,B,f1,f2,f3,?_⟩;have K:I.flatMap Ε=(I.take n).flatMap Ε++(I.drop n).flatMap Ε:=by rw[<-dL,cK]
  have T:=db (I:=I.take n) (λx O=>e1 x (cp O));have h3:(I.take n).length<=I.length:=by rw[aP];omega
  have h4:(I.take n).length*sz<=I.length*sz:=bR _ h3;have h5:(B.toList.take (I.length*sz)).take ((I.take n).length*sz)=B.toList.take ((I.take n).length*sz):=by rw[List.take_take,dF h4]
  rw[<-h5,f4,K,<-T,List.take_left]
