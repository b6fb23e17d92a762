/- Lemmas. -/
import Derived.Test.YtlgpgjdggilkgaaGreatDoorEcan
import Derived.Shelf.SlSortCmp.WholeK
import Derived.Shelf.SlSortCmp.Whole1
import Derived.Shelf.SlSortCmp.NoneTotal
set_option linter.all false
set_option maxHeartbeats 1000000
namespace Go.Proofs.YtlgpgjdggilkgaaGreatDoor
open Go.V
attribute [local irreducible] G GO GP GPW GPK Ev Ef EfR Ent CB GB Enters
def He{u y1 y0 B:Nat}(hu:u<y1*B+y0)(h0:y0<B)(h1:B≤2*y1)(hp:0<y1):u / y1≤B+1:=by
 have h:u / y1<B+2:=by
  rw[eM hp,dc,ft B y1];omega
 omega
def JI(n v0 y B:Nat)(hy:0<y):(n*B+v0) / y=n / y*B+(n % y*B+v0) / y∧(n*B+v0) % y=(n % y*B+v0) % y:=by
 have h:=fO n y
 have e:n*B+v0=y*(n / y*B)+(n % y*B+v0):=by
  conv=>lhs;rw[←h]
  rw[dc,Nat.mul_assoc,dS]
 rw[e];rw[Nat.mul_add_div hy,Nat.mul_add_mod];exact⟨rfl,rfl⟩
def EP{s:Nat}(hs:s≤64):2 ^ (64 - s)*2 ^ s=18446744073709551616:=by
 rw[←Nat.pow_add,Nat.sub_add_cancel hs]
def IK{hi lo y s:Nat}(hs:s≤64)(hy:hi<y)(hl:lo<18446744073709551616)(h2:y*2 ^ s<18446744073709551616) :
  hi*2 ^ s<18446744073709551616∧lo / 2 ^ (64 - s)<2 ^ s∧(hi*2 ^ s+lo / 2 ^ (64 - s))*18446744073709551616+lo*2 ^ s % 18446744073709551616=(hi*18446744073709551616+lo)*2 ^ s∧hi*2 ^ s+lo / 2 ^ (64 - s)<y*2 ^ s:=by
 have hp:=EP hs;have a1:0<2 ^ s:=Nat.pow_pos ae;have a0:0<2 ^ (64 - s):=Nat.pow_pos ae;have h3:hi*2 ^ s≤y*2 ^ s:=bj _ ab
 have h4:lo / 2 ^ (64 - s)<2 ^ s:=by
  rw[eM a0,ft,hp];exact hl
 have h5:lo*2 ^ s / 18446744073709551616=lo / 2 ^ (64 - s):=by
  rw[←hp,Nat.mul_div_mul_right _ _ a1]
 have h6:=fO (lo*2 ^ s) 18446744073709551616;rw[h5] at h6;refine⟨ab,h4,?_,?_⟩
 ·rw[dc,dc,Nat.mul_right_comm hi (2 ^ s) 18446744073709551616];omega
 ·have h7:(hi+1)*2 ^ s≤y*2 ^ s:=bj _ hy;rw[dc] at h7;omega
def GT{a b s:Nat}(hb:b<2 ^ s):a*2 ^ s ||| b=a*2 ^ s+b:=by
 rw[←Nat.shiftLeft_eq,Nat.shiftLeft_add_eq_or_of_lt hb]
def JJ{N y s:Nat}:N*2 ^ s / (y*2 ^ s)=N / y∧N*2 ^ s % (y*2 ^ s) / 2 ^ s=N % y:=by
 have a0:0<2 ^ s:=Nat.pow_pos ae;refine⟨Nat.mul_div_mul_right _ _ a0,?_⟩;rw[Nat.mul_mod_mul_right,Nat.mul_div_cancel _ a0]
abbrev len8:ByteArray:={ data:=(([0,1,2,2,3,3,3,3,4,4,4,4,4,4,4,4,5,5,5,5,5,5,5,5,5,5,5,5,5,5,5,5,6,6,6,6,6,6,6,6,6,6,6,6,6,6,6,6,6,6,6,6,6,6,6,6,6,6,6,6,6,6,6,6].append [7,7,7,7,7,7,7,7,7,7,7,7,7,7,7,7,7,7,7,7,7,7,7,7,7,7,7,7,7,7,7,7,7,7,7,7,7,7,7,7,7,7,7,7,7,7,7,7,7,7,7,7,7,7,7,7,7,7,7,7,7,7,7,7]).append ([8,8,8,8,8,8,8,8,8,8,8,8,8,8,8,8,8,8,8,8,8,8,8,8,8,8,8,8,8,8,8,8,8,8,8,8,8,8,8,8,8,8,8,8,8,8,8,8,8,8,8,8,8,8,8,8,8,8,8,8,8,8,8,8].append [8,8,8,8,8,8,8,8,8,8,8,8,8,8,8,8,8,8,8,8,8,8,8,8,8,8,8,8,8,8,8,8,8,8,8,8,8,8,8,8,8,8,8,8,8,8,8,8,8,8,8,8,8,8,8,8,8,8,8,8,8,8,8,8])).toArray }
def Hc:∀c:Nat,c<256→1≤c→1≤((gu len8)[c]!).toNat∧2 ^ (((gu len8)[c]!).toNat - 1)≤c∧c<2 ^ ((gu len8)[c]!).toNat∧0≤(gu len8)[c]!∧(gu len8)[c]!≤8:=by decide +kernel
def Fi:len8.size=256:=by decide +kernel
def JF{x l k:Nat}(h1:2 ^ (l - 1)≤x / 2 ^ k)(h2:x / 2 ^ k<2 ^ l)(hl:1≤l):2 ^ (l+k - 1)≤x∧x<2 ^ (l+k):=by
 have hp:0<2 ^ k:=Nat.pow_pos ae;constructor
 ·rw[show l+k - 1=l - 1+k by omega,Nat.pow_add];exact(Nat.le_div_iff_mul_le hp).1 h1
 ·rw[Nat.pow_add];exact(eM hp).1 h2
def DG{L:LH}(x:Nat)(hx:x<18446744073709551616)(h0:1≤x) :
  Tri Tryz.prog 182 #[.int .u64 (x:Int)] L (fun v L'=>∃l:Nat,v=ac (l:Int)∧(1≤l∧l≤64∧2 ^ (l - 1)≤x∧x<2 ^ l)∧L' = L):=by
 have a3:=Fi;refine Tri.bd ?_;repeat first|refine G.sm 1 ?_|refine dq ?_|intro
 refine G.c7 (α:=Nat×Nat) (fun g=>(g.2=0∨g.2=32)∧g.1=x / 2 ^ g.2∧g.1<4294967296∧1≤g.1) (fun g=>[(0,.int .u64 (g.1:Int)),(2,ac (g.2:Int))]) (fun _=>L) ?_ ?_
 ·by_cases h:4294967296≤x
  ·refine Ks ?_;intros;refine GO.ev (Ev.j8 rfl rfl) ae ?_;refine Ks ?_;intros;refine⟨(x / 4294967296,32),⟨.inr rfl,by simp,by dsimp only;omega,by dsimp only;omega⟩,aC,Ent.refl _⟩
  ·refine Ks ?_;intros;refine⟨(x,0),⟨.inl rfl,by simp,by dsimp only;omega,h0⟩,aC,Ent.refl _⟩
 rintro⟨a,k⟩ ⟨hk,ha,a1,a0⟩;dsimp only at hk ha a1 a0 ⊢;refine G.c7 (α:=Nat×Nat) (fun g=>(g.2≤48)∧g.1=x / 2 ^ g.2∧g.1<65536∧1≤g.1) (fun g=>[(0,.int .u64 (g.1:Int)),(2,ac (g.2:Int))]) (fun _=>L) ?_ ?_
 ·by_cases h:65536≤a
  ·refine Ks ?_;intros;refine GO.ev (Ev.m5 16 rfl ae rfl rfl) ae ?_;refine Ks ?_;intros;refine⟨(a / 2 ^ 16,k+16),⟨by dsimp only;omega,by dsimp only;rw[ha,Nat.div_div_eq_div_mul,←Nat.pow_add],by dsimp only;omega,by dsimp only;omega⟩,?_,Ent.refl _⟩;dsimp only;rw[show((k+16:Nat):Int)=(k:Int)+16 by omega];exact aC
  ·refine Ks ?_;intros;refine⟨(a,k),⟨by dsimp only;omega,ha,by dsimp only;omega,a0⟩,aC,Ent.refl _⟩
 clear hk ha a1 a0;rintro⟨a,k⟩ ⟨hk,ha,a1,a0⟩;dsimp only at hk ha a1 a0 ⊢;refine G.c7 (α:=Nat×Nat) (fun g=>(g.2≤56)∧g.1=x / 2 ^ g.2∧g.1<256∧1≤g.1) (fun g=>[(0,.int .u64 (g.1:Int)),(2,ac (g.2:Int))]) (fun _=>L) ?_ ?_
 ·by_cases h:256≤a
  ·refine Ks ?_;intros;refine GO.ev (Ev.m5 8 rfl ae rfl rfl) ae ?_;refine Ks ?_;intros;refine⟨(a / 2 ^ 8,k+8),⟨by dsimp only;omega,by dsimp only;rw[ha,Nat.div_div_eq_div_mul,←Nat.pow_add],by dsimp only;omega,by dsimp only;omega⟩,?_,Ent.refl _⟩;dsimp only;rw[show((k+8:Nat):Int)=(k:Int)+8 by omega];exact aC
  ·refine Ks ?_;intros;refine⟨(a,k),⟨by dsimp only;omega,ha,by dsimp only;omega,a0⟩,aC,Ent.refl _⟩
 clear hk ha a1 a0;rintro⟨a,k⟩ ⟨hk,ha,a1,a0⟩;dsimp only at hk ha a1 a0 ⊢;obtain⟨t1,t2,t3,t4,t5⟩:=Hc a a1 a0;have a2:(a:Int).toNat=a:=ab;refine Ks ?_;intros;refine GO.ev (Ev.n7 (s:=len8) rfl rfl ab ab) ae ?_;rw[a2];generalize (gu len8)[a]! = c at t1 t2 t3 t4 t5;refine Ks ?_;intros;refine KX.a8 aA (Ent.refl _) ⟨c.toNat+k,?_,⟨ab,ab,?_⟩,rfl⟩
 ·simp only[resV];rw[show((c.toNat+k:Nat):Int)=(k:Int)+c by omega]
 ·rw[ha] at t2 t3;exact JF t2 t3 t1
def Ff{L:LH}(x:Nat)(hx:x<18446744073709551616)(h0:1≤x) :
  Tri Tryz.prog 334 #[.int .u64 (x:Int)] L (fun v L'=>∃s:Nat,v=ac (s:Int)∧(s≤63∧9223372036854775808≤x*2 ^ s∧x*2 ^ s<18446744073709551616)∧L' = L):=by
 refine Tri.bd ?_;refine Ks ?_;intros;refine GO.ca (DG x hx h0) ?_;rintro _ _⟨l,rfl,⟨l1,l2,l3,l4⟩,rfl⟩;refine Ks ?_;intros;refine KX.a8 aA (Ent.refl _) ⟨64 - l,?_,⟨ab,?_,?_⟩,rfl⟩
 ·simp only[resV];rw[show((64 - l:Nat):Int)=64 - (l:Int) by omega]
 ·have h1:2 ^ (l - 1)*2 ^ (64 - l)≤x*2 ^ (64 - l):=bj _ l3;rw[←Nat.pow_add,show l - 1+(64 - l)=63 by omega] at h1;have:(2:Nat) ^ 63=9223372036854775808:=by decide
  omega
 ·have h1:x*2 ^ (64 - l)<2 ^ l*2 ^ (64 - l):=Nat.mul_lt_mul_of_pos_right l4 (Nat.pow_pos ae);rw[←Nat.pow_add,show l+(64 - l)=64 by omega] at h1;have:(2:Nat) ^ 64=18446744073709551616:=by decide
  omega
structure Guess (u v y1 y0 q r:Nat):Prop where
 e:u=q*y1+r
 lo:(u*4294967296+v) / (y1*4294967296+y0)≤q
 q:q≤4294967297
 r:r<4294967296
def pf{u v y1 y0 q r:Nat}(hu:u<y1*4294967296+y0)(hv:v<4294967296)(a1:y0<4294967296)(a2:2147483648≤y1)(h:Guess u v y1 y0 q r)(hc:4294967296≤q∨4294967296*r+v<q*y0) :
  1≤q∧u=(q - 1)*y1+(r+y1)∧(u*4294967296+v) / (y1*4294967296+y0)≤q - 1∧q - 1≤4294967296:=by
 have a0:(u*4294967296+v) / (y1*4294967296+y0)<q:=by
  rcases hc with hc|hc
  ·have:=rY hu hv (ab:0<y1*4294967296+y0)
   omega
  ·exact IL h.e hc ab
 clear hc;generalize (u*4294967296+v) / (y1*4294967296+y0)=Q at a0;have h1:1≤q:=ab;refine⟨h1,?_,ab,by have:=h.q;omega⟩;have he:=h.e;obtain⟨p,rfl⟩:∃p,q=p+1:=⟨q - 1,ab⟩;rw[dc] at he;simp only[Nat.add_sub_cancel];omega
def vr{u v y1 y0 q r:Nat}(a0:2147483648≤y1)(h:Guess u v y1 y0 q r)(hc:¬(4294967296≤q∨4294967296*r+v<q*y0)):q=(u*4294967296+v) / (y1*4294967296+y0) :=
 HS ab h.lo (BD h.e ab)
def rC{u v y1 y0:Nat}(hu:u<y1*4294967296+y0)(hv:v<4294967296)(a0:y0<4294967296)(a1:2147483648≤y1)(a2:y1<4294967296):Guess u v y1 y0 (u / y1) (u - u / y1*y1):=by
 have h1:=fO u y1;rw[ft] at h1;have h2:=dU u (ab:0<y1);exact⟨ab,Hf hv ab ae,He hu a0 ab ab,ab⟩
def vt{u v y1 y0 q r:Nat}(a0:y0<4294967296)(h:Guess u v y1 y0 q r):q*y0<18446744073709551616:=by
 have:=Nat.mul_le_mul h.q (ab:y0≤4294967295)
 omega
def Gs{A B n:Nat}(h:B≤A)(hd:A - B<18446744073709551616):(A % 18446744073709551616+18446744073709551616 - B % 18446744073709551616) % 18446744073709551616=A - B:=ab
def Ch(u z:Nat):(u*4294967296+z / 4294967296)*4294967296+z % 4294967296=u*18446744073709551616+z:=ab
def uS{u v Y:Nat}(h0:0<Y)(h1:Y<18446744073709551616):((u*4294967296 % 18446744073709551616+v) % 18446744073709551616+18446744073709551616 - (u*4294967296+v) / Y*Y % 18446744073709551616) % 18446744073709551616=(u*4294967296+v) % Y:=by
 rw[Nat.mod_add_mod];generalize u*4294967296+v=A;have h2:=fO A Y;have h3:=dU A h0;rw[ft] at h2;rw[Gs (n:=0) ab ab];omega
def lK{u v y1 y0 q r:Nat}(a0:y0<4294967296)(a1:2147483648≤y1)(e:u=q*y1+r)(lo:(u*4294967296+v) / (y1*4294967296+y0)≤q)(hq:q≤4294967296)(hr:4294967296≤r):q=(u*4294967296+v) / (y1*4294967296+y0) :=
 HS ab lo (Hg e hr hq a0)
abbrev zF:=XC []
def aN{φ ψ:Prop}(k:ψ)(h:Hid ψ→φ:=by intro k;(with_reducible apply G.a8);first|refine G.dr 135 6 zF (Hid.out k)):φ:=h ⟨k⟩
def LP{φ ψ:Prop}(k:ψ)(h:Hid ψ→φ:=by intro k;(repeat (first|refine aa ?_|intro zzz|refine aN ?_));(repeat revert zzz);exact Hid.out k):φ:=h ⟨k⟩
def DU{L:LH}(hi lo y:Nat)(c3:hi<y)(b7:lo<18446744073709551616)(hy:y<18446744073709551616) :
  Tri Tryz.prog 329 #[.int .u64 (hi:Int),.int .u64 (lo:Int),.int .u64 (y:Int)] L (rtQ (.tuple #[.int .u64 (((hi*18446744073709551616+lo) / y:Nat):Int),.int .u64 (((hi*18446744073709551616+lo) % y:Nat):Int)]) L):=by
 refine Tri.bd ?_;by_cases h0:hi=0
 ·subst h0;refine LP ?_;intros;refine GPW.evP (Ev.q8 rfl rfl b7 ab) ae ?_;refine LP ?_;intros;refine KX.a8 aA (Ent.refl _) ⟨?_,rfl⟩;simp only[resV,Nat.zero_mul,du];rfl
 refine LP ?_;intros;refine GO.ca (Ff y hy ab) ?_;rintro _ L ⟨s,rfl,⟨s1,s2,s3⟩,rfl⟩;obtain⟨n1,n2,n3,n4⟩:=IK (ab:s≤64) c3 b7 s3;have b3:((64:Nat) - s)≤64:=ab;refine LP ?_;intros;refine GO.ev (Ev.q7 s rfl ab rfl rfl) ae ?_;rw[ez s3];have b2:=JJ (N:=hi*18446744073709551616+lo) (y:=y) (s:=s);obtain⟨Y,hY⟩:∃Y,Y=y*2 ^ s:=⟨_,rfl⟩;rw[←hY] at s2 s3 n4 b2 ⊢;refine LP ?_;intros;refine GO.ev (Ev.j8 rfl rfl) ae ?_;refine LP ?_;intros;refine GO.ev (Ev.m6 rfl rfl s3) ae ?_;obtain⟨y1,c6⟩:∃y1,y1=Y / 4294967296:=⟨_,rfl⟩;obtain⟨y0,c5⟩:∃y0,y0=Y % 4294967296:=⟨_,rfl⟩;have a5:Y=y1*4294967296+y0:=ab;rw[←c6,←c5];refine LP ?_;intros;refine GO.ev (Ev.q7 s rfl ab rfl rfl) ae ?_;rw[ez n1];refine LP ?_;intros;refine GO.ev (Ev.j7 (a:=64) (b:=s) ab ab rfl rfl) ae ?_;refine GO.ev (Ev.m5 (64 - s) rfl b3 rfl rfl) ae ?_;refine GO.ev (Ev.orN rfl rfl n1 ab) ae ?_;rw[GT n2];refine LP ?_;intros;refine GO.ev (Ev.q7 s rfl ab rfl rfl) ae ?_;obtain⟨u,hu⟩:∃u,u=hi*2 ^ s+lo / 2 ^ (64 - s):=⟨_,rfl⟩;obtain⟨z,hz⟩:∃z,z=lo*2 ^ s % 18446744073709551616:=⟨_,rfl⟩;have d0:z<18446744073709551616:=by rw[hz];exact dU _ ae
 rw[←hu] at n3 n4;rw[←hz] at n3;rw[←hu,←hz];refine LP ?_;intros;refine GO.ev (Ev.j8 rfl rfl) ae ?_;refine LP ?_;intros;refine GO.ev (Ev.m6 rfl rfl d0) ae ?_;obtain⟨z1,b9⟩:∃z1,z1=z / 4294967296:=⟨_,rfl⟩;obtain⟨z0,b8⟩:∃z0,z0=z % 4294967296:=⟨_,rfl⟩;rw[←b9,←b8];refine LP ?_;intros;refine GO.ev (Ev.q8 rfl rfl ab ab) ae ?_;have a1:Guess u z1 y1 y0 (u / y1) (u - u / y1*y1):=rC ab ab ab ab ab;have a2:=Nat.div_mul_le_self u y1;refine LP ?_;intros;refine GO.ev (Ev.g8 ab rfl rfl) ae ?_;refine GO.ev (Ev.j7 a2 ab rfl rfl) ae ?_;have a0:=a1.e;generalize u / y1=q at a1 a0 a2;generalize u - q*y1=r at a1 a0;obtain⟨Q1,a4⟩:∃Q1,Q1=(u*4294967296+z1) / Y:=⟨_,rfl⟩;obtain⟨u2,b4⟩:∃u2,u2=(u*4294967296+z1) % Y:=⟨_,rfl⟩;repeat first|((fail_if_success (with_reducible refine G.atB 0 ?_));(with_reducible apply G.seq))|refine dq ?_|intro _|refine aN ?_
 refine G.c7 (α:=Unit) (fun _=>True) (fun _=>[(2,.int .u64 (Y:Int)),(8,.int .u64 (s:Int)),(9,.int .u64 (y1:Int)),(10,.int .u64 (y0:Int)),(11,.int .u64 (u:Int)),(13,.int .u64 (z1:Int)),(14,.int .u64 (z0:Int)),(15,.int .u64 (Q1:Int))]) (fun _=>L) ?_ ?_
 ·refine LP ?_;intros;refine G.loop (α:=Nat×Nat) (fun g=>Guess u z1 y1 y0 g.1 g.2) (fun g=>[(2,.int .u64 (Y:Int)),(8,.int .u64 (s:Int)),(9,.int .u64 (y1:Int)),(10,.int .u64 (y0:Int)),(11,.int .u64 (u:Int)),(13,.int .u64 (z1:Int)),(14,.int .u64 (z0:Int)),(15,.int .u64 (g.1:Int)),(16,.int .u64 (g.2:Int))]) (fun _=>L) (fun g=>g.1) (q,r) a1 aC (Ent.refl _) ?_;clear a1 a0 a2;rintro⟨q,r⟩ hg;dsimp only at hg ⊢;have b1:=vt ab hg;have c2:=hg.r;have c1:=hg.q;by_cases a9:4294967296≤q
  ·obtain⟨g1,g2,g3,g4⟩:=pf ab ab ab ab hg (.inl a9);refine LP ?_;intros;refine GO.ev (Ev.j7 (a:=q) (b:=1) g1 ab rfl rfl) ae ?_;refine LP ?_;intros;refine GO.ev (Ev.j0 (a:=r) (b:=y1) ab rfl rfl) ae ?_;by_cases a3:4294967296≤r+y1
   ·have hq:=lK ab ab g2 g3 g4 a3;rw[←a5,←a4] at hq;rw[hq];refine LP ?_;intros;exact⟨(),trivial,aC,Ent.refl _⟩
   ·refine LP ?_;intros;exact⟨(q - 1,r+y1),⟨g2,g3,ab,ab⟩,by dsimp only;omega,aC,Ent.refl _⟩
  ·refine LP ?_;intros;refine GO.ev (Ev.g8 b1 rfl rfl) ae ?_;refine LP ?_;intros;refine GO.ev (Ev.g8 (a:=4294967296) (b:=r) ab rfl rfl) ae ?_;refine LP ?_;intros;refine GO.ev (Ev.j0 ab rfl rfl) ae ?_;by_cases b0:4294967296*r+z1<q*y0
   ·obtain⟨g1,g2,g3,g4⟩:=pf ab ab ab ab hg (.inr b0);refine LP ?_;intros;refine GO.ev (Ev.j7 (a:=q) (b:=1) g1 ab rfl rfl) ae ?_;refine LP ?_;intros;refine GO.ev (Ev.j0 (a:=r) (b:=y1) ab rfl rfl) ae ?_;by_cases a3:4294967296≤r+y1
    ·have hq:=lK ab ab g2 g3 g4 a3;rw[←a5,←a4] at hq;rw[hq];refine LP ?_;intros;exact⟨(),trivial,aC,Ent.refl _⟩
    ·refine LP ?_;intros;exact⟨(q - 1,r+y1),⟨g2,g3,ab,ab⟩,by dsimp only;omega,aC,Ent.refl _⟩
   ·have hq:=vr ab hg ab;rw[←a5,←a4] at hq;refine LP ?_;intros;rw[hq];exact⟨(),trivial,aC,Ent.refl _⟩
 clear a1 a0 a2 q r;rintro _ _;have a6:0<Y:=ab;have d2:Q1<4294967296:=by rw[a4];exact rY n4 ab a6
 have b5:=uS (u:=u) (v:=z1) a6 s3;have a7:=JI (u*4294967296+z1) z0 Y 4294967296 a6;have c4:u2<Y:=by rw[b4];exact dU _ a6
 rw[←a4,←b4] at b5 a7;have c0:(u*4294967296+z1)*4294967296+z0=(hi*18446744073709551616+lo)*2 ^ s:=by rw[b9,b8,Ch,n3]
 rw[c0,b2.1] at a7;refine LP ?_;intros;refine GO.ev (Ev.l5 (a:=u) (b:=4294967296) rfl rfl) ae ?_;refine LP ?_;intros;refine GO.ev (Ev.q9 rfl rfl) ae ?_;refine LP ?_;intros;refine GO.ev (Ev.l5 rfl rfl) ae ?_;refine GO.ev (Ev.p9 rfl rfl (Nat.le_of_lt (dU _ ae))) ae ?_;rw[b5];clear b5 a4 b4;refine LP ?_;intros;refine GO.ev (Ev.q8 rfl rfl ab ab) ae ?_;have a1:Guess u2 z0 y1 y0 (u2 / y1) (u2 - u2 / y1*y1):=rC ab ab ab ab ab;have a2:=Nat.div_mul_le_self u2 y1;refine LP ?_;intros;refine GO.ev (Ev.g8 ab rfl rfl) ae ?_;refine GO.ev (Ev.j7 a2 ab rfl rfl) ae ?_;have a0:=a1.e;generalize u2 / y1=q at a1 a0 a2;generalize u2 - q*y1=r at a1 a0;repeat first|((fail_if_success (with_reducible refine G.atB 2 ?_));(with_reducible apply G.seq))|refine dq ?_|intro _|refine aN ?_
 refine G.c7 (α:=Unit) (fun _=>True) (fun _=>[(2,.int .u64 (Y:Int)),(8,.int .u64 (s:Int)),(14,.int .u64 (z0:Int)),(15,.int .u64 (Q1:Int)),(17,.int .u64 (u2:Int)),(18,.int .u64 (((u2*4294967296+z0) / Y:Nat):Int))]) (fun _=>L) ?_ ?_
 ·refine LP ?_;intros;refine G.loop (α:=Nat×Nat) (fun g=>Guess u2 z0 y1 y0 g.1 g.2) (fun g=>[(2,.int .u64 (Y:Int)),(8,.int .u64 (s:Int)),(9,.int .u64 (y1:Int)),(10,.int .u64 (y0:Int)),(14,.int .u64 (z0:Int)),(15,.int .u64 (Q1:Int)),(17,.int .u64 (u2:Int)),(18,.int .u64 (g.1:Int)),(16,.int .u64 (g.2:Int))]) (fun _=>L) (fun g=>g.1) (q,r) a1 aC (Ent.refl _) ?_;clear a1 a0 a2;rintro⟨q,r⟩ hg;dsimp only at hg ⊢;have b1:=vt ab hg;have c2:=hg.r;have c1:=hg.q;by_cases a9:4294967296≤q
  ·obtain⟨g1,g2,g3,g4⟩:=pf ab ab ab ab hg (.inl a9);refine LP ?_;intros;refine GO.ev (Ev.j7 (a:=q) (b:=1) g1 ab rfl rfl) ae ?_;refine LP ?_;intros;refine GO.ev (Ev.j0 (a:=r) (b:=y1) ab rfl rfl) ae ?_;by_cases a3:4294967296≤r+y1
   ·have hq:=lK ab ab g2 g3 g4 a3;rw[←a5] at hq;rw[hq];refine LP ?_;intros;exact⟨(),trivial,aC,Ent.refl _⟩
   ·refine LP ?_;intros;exact⟨(q - 1,r+y1),⟨g2,g3,ab,ab⟩,by dsimp only;omega,aC,Ent.refl _⟩
  ·refine LP ?_;intros;refine GO.ev (Ev.g8 b1 rfl rfl) ae ?_;refine LP ?_;intros;refine GO.ev (Ev.g8 (a:=4294967296) (b:=r) ab rfl rfl) ae ?_;refine LP ?_;intros;refine GO.ev (Ev.j0 ab rfl rfl) ae ?_;by_cases b0:4294967296*r+z0<q*y0
   ·obtain⟨g1,g2,g3,g4⟩:=pf ab ab ab ab hg (.inr b0);refine LP ?_;intros;refine GO.ev (Ev.j7 (a:=q) (b:=1) g1 ab rfl rfl) ae ?_;refine LP ?_;intros;refine GO.ev (Ev.j0 (a:=r) (b:=y1) ab rfl rfl) ae ?_;by_cases a3:4294967296≤r+y1
    ·have hq:=lK ab ab g2 g3 g4 a3;rw[←a5] at hq;rw[hq];refine LP ?_;intros;exact⟨(),trivial,aC,Ent.refl _⟩
    ·refine LP ?_;intros;exact⟨(q - 1,r+y1),⟨g2,g3,ab,ab⟩,by dsimp only;omega,aC,Ent.refl _⟩
   ·have hq:=vr ab hg ab;rw[←a5] at hq;refine LP ?_;intros;rw[hq];exact⟨(),trivial,aC,Ent.refl _⟩
 clear a1 a0 a2 q r;rintro _ _;have d1:(u2*4294967296+z0) / Y<4294967296:=rY c4 ab a6;have b6:=uS (u:=u2) (v:=z0) a6 s3;refine LP ?_;intros;refine GO.ev (Ev.g8 (a:=Q1) (b:=4294967296) ab rfl rfl) ae ?_;refine LP ?_;intros;refine GO.ev (Ev.j0 ab rfl rfl) ae ?_;refine LP ?_;intros;refine GO.ev (Ev.l5 (a:=u2) (b:=4294967296) rfl rfl) ae ?_;refine LP ?_;intros;refine GO.ev (Ev.q9 rfl rfl) ae ?_;refine LP ?_;intros;refine GO.ev (Ev.l5 rfl rfl) ae ?_;refine GO.ev (Ev.p9 rfl rfl (Nat.le_of_lt (dU _ ae))) ae ?_;rw[b6];refine LP ?_;intros;refine GO.ev (Ev.m5 s rfl ab rfl rfl) ae ?_;refine LP ?_;intros;refine KX.a8 aA (Ent.refl _) ⟨?_,rfl⟩;simp only[resV];rw[←a7.1,←a7.2,b2.2]
end Go.Proofs.YtlgpgjdggilkgaaGreatDoor
namespace Go.V
open Go.Sort Go.Proofs
def Gm:∀{a b:World},a.heap=b.heap→a.tape=b.tape→a.drawn=b.drawn→a.os=b.os→a.output=b.output→a=b:=by
 rintro⟨_,_,_,_,_⟩ ⟨_,_,_,_,_⟩ h1 h2 h3 h4 h5;cases h1;cases h2;cases h3;cases h4;cases h5;rfl
def Tri.c9{P:Program}{f:FuncId}{args:Array Value}{L:LH}{v:Value}(h:Tri P f args L (fun u _=>u=v)){w:World}{ι:Hp}(hi:Hp.sub ι (im w))(hs:Stars L ι Hp.emp) :
  Calls P f args w fun e w'=>e=.returned v∧∃q a4,w' = grow (w.drewN q) a4:=by
 have a3:Stars L (im w) Hp.emp:=hs.mono hi (Hp.sub.refl _);have s0:Sat ⟨w.tape,w.os,w.output,w.drawn⟩ (L++[wh w]) w:=⟨⟨rfl,rfl,rfl,aq _⟩,im w,Hp.emp,fun _ _ _=>rfl,Hp.sub.refl _,Hp.a8 _,a3.snoc (Hp.sub.refl _)⟩;refine(h.calls _ _ w s0).mono ?_;rintro e w' ⟨u,L',rfl,rfl,s1⟩;refine⟨rfl,w'.drawn - w.drawn,w'.heap.extract w.heap.size w'.heap.size,?_⟩;have s2:Sat ⟨w.tape,w.os,w.output,w.drawn⟩ (wh w::L') w':=s1.perm (List.perm_append_singleton _ _);obtain⟨ok,ι',h,a,b1,c,ι₀,h₁,h₂,d1,d2,d3,d4,d5,d6⟩:=s2;have hk:∀k o,w.heap[k]? = some o→w'.heap[k]? = some o:=fun k o hx=>b1 k o (d1 k o (d5 k o hx))
 have a7:w.heap.size≤w'.heap.size:=by
  rcases fc w'.heap.size w.heap.size with a2|a1
  ·have h1:=hk w'.heap.size _ (Array.getElem?_eq_getElem a2);rw[Array.getElem?_eq_none (aq _)] at h1;cases h1
  ·exact a1
 have a5:w.drawn≤w'.drawn:=ok.drawn;refine Gm ?_ ok.tape ?_ ok.os ok.output
 ·show w'.heap=w.heap++w'.heap.extract w.heap.size w'.heap.size;apply Array.ext_getElem?;intro k;by_cases a0:k<w.heap.size
  ·rw[Array.getElem?_append_left a0,Array.getElem?_eq_getElem a0];exact hk k _ (Array.getElem?_eq_getElem a0)
  ·rw[Array.getElem?_append_right ab,Array.getElem?_extract];by_cases a6:k<w'.heap.size
   ·rw[if_pos ab,show w.heap.size+(k - w.heap.size)=k by omega]
   ·rw[if_neg ab,Array.getElem?_eq_none ab]
 ·show w'.drawn=w.drawn+(w'.drawn - w.drawn);omega
def sZ{α:Type}[Inhabited α]{enc:α→Value}{w:World}{ι:Hp}{a0 off m:Nat}{d:Array α}{os:Array Obj}(hi:Hp.sub ι (im w))(hb:ι a0=none):Hp.sub ι (im (grow (Sort.putRow enc (Sort.ahead w m) a0 off d) os)):=by
 intro k o hk;have hx:w.heap[k]? = some o:=hi k o hk;have a2:k≠a0:=by rintro rfl;rw[hb] at hk;cases hk
 have a1:k<w.heap.size:=(Array.getElem?_eq_some_iff.1 hx).1;show(w.heap.modify a0 (onCells (putCells enc off d))++os)[k]? = _;rw[Array.getElem?_append_left (by simpa using a1),Array.getElem?_modify,if_neg (fun e=>a2 e.symm),hx]
def xh{vs:LV}{a0:Array Value}(hc:vs.length≤a0.size):(putCells id 0 vs.toArray a0).toList.take vs.length=vs:=by
 apply ib;intro i;by_cases hi:i<vs.length
 ·have h2:i<a0.size:=ab;rw[List.getElem?_take,if_pos hi];simp[putCells,hi,h2]
 ·rw[List.getElem?_take,if_neg hi];simp;omega
def Fw{g E:Nat}{a0:Array Value}{vs:LV}{w:World}(hb:w.heap[g]? = some (.cells a0 E (0,0)))(ht:a0.toList.take vs.length=vs):Holds id w g 0 vs.toArray:=by
 intro j hj;have a1 : j<vs.length:=by simpa using hj
 refine⟨?_,by simp[World.frozen?,hb]⟩;rw[du,eD hb];have h:(a0.toList.take vs.length)[j]? = vs[j]?:=by rw[ht]
 rw[List.getElem?_take,if_pos a1] at h;simp[a1] at h;simp[a1,h]
def Sat.f8{θ:Th}{g E:Nat}{a1:Array Value}{R:LH}{w:World}{d:Array Value}{n:Nat}{os:Array Obj}(s:Sat θ (own g (.cells a1 E (0,0))::R) w) :
  Sat θ (own g (.cells (putCells id 0 d a1) E (0,0))::R) (grow (Sort.putRow id (Sort.ahead w n) g 0 d) os):=by
 have hb:=s.own_heap;have a2:g<w.heap.size:=(Array.getElem?_eq_some_iff.1 hb).1;refine s.update ⟨s.1.tape,s.1.os,s.1.output,aP s.1.drawn (dW _ _)⟩ ?_ ?_
 ·show(w.heap.modify g (onCells (putCells id 0 d))++os)[g]? = _;rw[Array.getElem?_append_left (by simpa using a2),Array.getElem?_modify,if_pos rfl,hb];rfl
 ·intro k x hk hx;have a0:k<w.heap.size:=(Array.getElem?_eq_some_iff.1 hx).1;show(w.heap.modify g (onCells (putCells id 0 d))++os)[k]? = _;rw[Array.getElem?_append_left (by simpa using a0),Array.getElem?_modify,if_neg (fun e=>hk e.symm),hx]
def Tri.a8{P:Program}{f:FuncId}{E cap sz:Nat}{ad:OA}{α:Type}{enc:α→LV}{xs:List α}{Lc:LH}{fv:Value}(he:Enters P f)(a7:∀ι h,Stars Lc ι h→Stars Lc ι Hp.emp)(good:List α→Prop)(b7:xs=[]→good [])
  (h0:xs.length=0→∀w,Calls P f #[.slice ad 0 cap,fv] w fun e w'=>e=.returned (.tuple #[])∧w' = w)
  (h1:∀a0 w ι,Hp.sub ι (im w)→ι a0=none→Stars Lc ι Hp.emp→Holds id w a0 0 (xs.flatMap enc).toArray→a0<w.heap.size →
   Calls P f #[.slice (some ⟨a0,0,none⟩) xs.length cap,fv] w fun e w'=>e=.returned (.tuple #[])∧∃ys n os,ys.length=xs.length∧(∀y∈ys,(enc y).length=sz)∧good ys∧w' = grow (Sort.putRow id (Sort.ahead w n) a0 0 (ys.flatMap enc).toArray) os) :
  Tri P f #[.slice ad xs.length cap,fv] (osl enc sz E ad cap xs::Lc) (fun v L'=>v=.tuple #[]∧∃ys,good ys∧L' = osl enc sz E ad cap ys::Lc):=by
 refine⟨he,fun θ R w s=>?_⟩;by_cases hx:xs.length=0
 ·have e1:xs=[]:=aZ hx;subst e1;refine(h0 rfl w).mono ?_;rintro e w' ⟨rfl,rfl⟩;exact⟨_,_,rfl,⟨rfl,[],b7 rfl,rfl⟩,s⟩
 obtain⟨a1,a2,a3,a4⟩:=Sat.osl_parts (L:=Lc++R) s;rcases a4 with⟨rfl,rfl⟩|⟨g,a9,rfl,b1,b2,b3⟩
 ·omega
 have hb:=b3.own_heap;have b6:=dm a1;have b0:a9.toList.take (xs.flatMap enc).length=xs.flatMap enc:=by rw[b6];exact b2
 obtain⟨ok,ι,h,a,c1,c2,ι₀,h₁,h₂,d1,d2,d3,d4,d5,d6⟩:=b3
 have b8:ι g=none:=by
  cases hι:ι g with
  | none=>rfl
  | some o =>
   have h3:=a g o hι;have h4:h g=some (.cells a9 E (0,0)):=d3 g _ d5;rw[h3] at h4;cases h4
 have b5:Stars Lc ι Hp.emp:=by
  obtain⟨x1,x2,y1,y2,y3,y4,y5⟩:=Stars.split d6;exact a7 ι x1 y4
 have b3:Sat θ (own g (.cells a9 E (0,0))::(Lc++R)) w:=⟨ok,ι,h,a,c1,c2,ι₀,h₁,h₂,d1,d2,d3,d4,d5,d6⟩;refine(h1 g w ι c1 b8 b5 (Fw hb b0) (Array.getElem?_eq_some_iff.1 hb).1).mono ?_;rintro e w' ⟨rfl,ys,n,os,hl,b4,a6,rfl⟩;refine⟨_,_,rfl,⟨rfl,ys,a6,rfl⟩,?_⟩;have a5:=dm b4;have b9:xs.length*sz≤cap*sz:=bj _ a2;refine Sat.osl_mk (L:=Lc++R) (Sat.f8 b3) b4 ab a3 ?_ ?_
 ·simp[putCells,b1]
 ·rw[←a5];exact xh (by rw[a5,hl,b1];exact b9)
def Fy{α:Type}[Inhabited α]{enc:α→Value}{w:World}{g:Nat}{xs:List α}(h:Holds id w g 0 (xs.flatMap fun x=>[enc x]).toArray):Holds enc w g 0 xs.toArray:=by
 intro j hj;have a0 : j<xs.length:=by simpa using hj
 have hf:(xs.flatMap fun x=>[enc x])=xs.map enc:=nV _ xs;rw[hf] at h;have:=h j (by simpa using a0)
 simpa [a0] using this
def Cw{α:Type}[Inhabited α]{enc:α→Value}{w:World}{g:Nat}{d:Array α}:Sort.putRow enc w g 0 d=Sort.putRow id w g 0 (d.toList.flatMap fun x=>[enc x]).toArray:=by
 have hf:∀l:List α,(l.flatMap fun x=>[enc x])=l.map enc:=fun l=>nV _ l;rw[hf];unfold Sort.putRow;congr 1;funext c;unfold putCells;apply Array.ext
 ·simp
 ·intro i h1 h2;simp only[Array.getElem_mapIdx,hZ,an,ep,du,Nat.sub_zero,id_eq];split
  ·rename_i a0;simp[a0.2]
  ·rfl
def og{α:Type}[Inhabited α]{xs:List α}{d' : Array α}(h:PermIn 0 xs.toArray.size xs.toArray d'):d'.toList.Perm xs:=by
 obtain⟨h1,_,h3⟩:=h;have e1:(xs.toArray.extract 0 xs.toArray.size)=xs.toArray:=by simp
 have e2:(d'.extract 0 xs.toArray.size)=d':=by rw[←h1];simp
 rw[e1,e2] at h3;simpa using h3
def lR{α:Type}[Inhabited α]{lt:α→α→Bool}{d:Array α}(h:SortedIn lt 0 d.size d):d.toList.Pairwise (fun a b=>lt b a=false):=by
 rw[List.pairwise_iff_getElem];intro i j hi hj a1;have:=h i j (aw _) a1 (by simpa using hj)
 have a0 : i<d.size:=by simpa using hi
 have a2 : j<d.size:=by simpa using hj
 simpa [a0,a2] using this
def gV{α:Type}(cf:α→α→Int)(xs ys:List α):Prop:=ys.Perm xs∧ys.Pairwise (fun a b=>¬cf b a<0)
def Tri.c8{P:Program}{ρ:Go.Shelf.Ren}(S:SlLaysF.n6 P ρ)(S0:SlLaysF0.n6 P ρ){E cap:Nat}{ad:OA}{α:Type}[Inhabited α]{enc:α→Value}(h1:OneCell enc){xs:List α}{Lc:LH}{g:Nat}{cb:Array Value}(cf:α→α→Int)(hO:SWO (ltOf cf))
  (he:Enters P (ρ.f 6)) (a7:Enters P g) (a0:∀ι h,Stars Lc ι h→Stars Lc ι Hp.emp) (a2:∀x y:α,Tri P g (#[enc x,enc y]++cb) Lc (fun u _=>u=ac (cf x y))) (a9:xs.length<4611686018427387904) :
  Tri P (ρ.f 6) #[.slice ad xs.length cap,.func (.func g) #[] cb] (osl (fun x=>[enc x]) 1 E ad cap xs::Lc) (fun v L'=>v=.tuple #[]∧∃ys,gV cf xs ys∧L' = osl (fun x=>[enc x]) 1 E ad cap ys::Lc):=by
 refine Tri.a8 he a0 (gV cf xs) (fun h=>by subst h;exact⟨List.Perm.refl _,List.Pairwise.nil⟩) ?_ ?_
 ·intro h0 w;exact AnyF.slices_SortFunc_none S0 ad cap (.func (.func g) #[] cb) w
 ·intro a4 w ι hi hb hL hH a1;have hc:=Any.slices_SortFunc S enc h1 cf hO g cb a4 0 cap xs.toArray w a7 (fun m os dk _ x y=>Tri.c9 (a2 x y) (sZ hi hb) hL) (Fy hH) a1 (by simpa using a9);rw[show xs.toArray.size=xs.length by simp] at hc;refine hc.mono ?_;rintro e w' ⟨rfl,d',n,os,hp,hs,rfl⟩;have a3:d'.toList.Perm xs:=og (by simpa using hp);have a6:d'.size=xs.length:=by have:=a3.length_eq;simpa using this
  refine⟨rfl,d'.toList,n,os,a3.length_eq,fun _ _=>rfl,⟨a3,?_⟩,?_⟩
  ·rw[←a6] at hs;refine(lR hs).imp ?_;intro a b a5;simpa [ltOf] using a5
  ·unfold sortWorld;rw[Cw]
def yy{α:Type}[Inhabited α]{enc:α→LV}{k:Nat}(hk:∀x,(enc x).length=k)(xs:List α):flatK enc k xs.toArray=(xs.flatMap enc).toArray:=by
 have hl:(xs.flatMap enc).length=xs.length*k:=dm (fun x _=>hk x);apply Array.ext_getElem?;intro i;by_cases h1:i<xs.length*k
 ·have a0:0<k:=by
   rcases Nat.eq_zero_or_pos k with h|h
   ·subst h;simp at h1
   ·exact h
  have hj:i / k<xs.length:=Nat.div_lt_of_lt_mul (by rw[ft];exact h1);have ho:i % k<k:=dU _ a0;have h2:=mX (xs:=xs) (fun x _=>hk x) hj ho;rw[show i / k*k+i % k=i from Nat.div_add_mod' i k] at h2;have h3:=get_flatK enc k xs.toArray i (by simpa using h1);have h4:i<(flatK enc k xs.toArray).size:=by rw[size_flatK];simpa using h1
  rw[getElem!_pos _ i h4] at h3;rw[Array.getElem?_eq_getElem h4,h3,List.getElem?_toArray,h2,List.getElem?_eq_getElem (by rw[hk];exact ho)];simp[hj,hk,ho]
 ·rw[Array.getElem?_eq_none (by rw[size_flatK];simpa using h1),List.getElem?_toArray,List.getElem?_eq_none ab]
def Tri.c7{P:Program}{ρ:Go.Shelf.Ren}(S:SlLaysF0.n6 P ρ){k E cap:Nat}(aE:∀w,(isAgg (ρ.t 24)).run P w=.ok true w)(zE:∀w,(Go.sizeOf (ρ.t 24)).run P w=.ok k w){ad:OA}{α:Type}[Inhabited α]{enc:α→LV}(hk:∀x,(enc x).length=k)(h1:∀x,∀v∈enc x,v.oneCell' = true){xs:List α}{Lc:LH}{g:Nat}{cb:Array Value}(cf:α→α→Int)(hO:SWO (ltOf cf))
  (he:Enters P (ρ.f 6)) (a7:Enters P g) (a0:∀ι h,Stars Lc ι h→Stars Lc ι Hp.emp) (a2:∀x y:α,Tri P g (#[.agg (enc x).toArray,.agg (enc y).toArray]++cb) Lc (fun u _=>u=ac (cf x y))) (a9:xs.length<4611686018427387904) :
  Tri P (ρ.f 6) #[.slice ad xs.length cap,.func (.func g) #[] cb] (osl enc k E ad cap xs::Lc) (fun v L'=>v=.tuple #[]∧∃ys,gV cf xs ys∧L' = osl enc k E ad cap ys::Lc):=by
 refine Tri.a8 he a0 (gV cf xs) (fun h=>by subst h;exact⟨List.Perm.refl _,List.Pairwise.nil⟩) ?_ ?_
 ·intro h0 w;exact AnyF.slices_SortFunc_none S ad cap (.func (.func g) #[] cb) w
 ·intro a4 w ι hi hb hL hH a1;have hc:=AnyQ.slices_SortFunc S k aE zE enc hk h1 cf hO g cb a4 0 cap xs.toArray w a7 (fun m os dk _ x y=>Tri.c9 (a2 x y) (sZ hi hb) hL) (by unfold HoldsK;rw[yy hk];exact hH) a1 (by simpa using a9);rw[show xs.toArray.size=xs.length by simp] at hc;refine hc.mono ?_;rintro e w' ⟨rfl,d',n,os,hp,hs,rfl⟩;have a3:d'.toList.Perm xs:=og (by simpa using hp);have a6:d'.size=xs.length:=by have:=a3.length_eq;simpa using this
  refine⟨rfl,d'.toList,n,os,a3.length_eq,fun y _=>hk y,⟨a3,?_⟩,?_⟩
  ·rw[←a6] at hs;refine(lR hs).imp ?_;intro a b a5;simpa [ltOf] using a5
  ·unfold sortWorldK putRowK;have:=yy hk d'.toList
   simp only[Array.toArray_toList] at this;rw[this]
def Ent.n7{α β:Type}{f:α→β}{enc:β→LV}{sz E:Nat}{ad:OA}{cap:Nat}{xs:List α}{L:LH}:Ent (osl enc sz E ad cap (xs.map f)::L) (osl (fun x=>enc (f x)) sz E ad cap xs::L):=fun θ R w s=>by
 obtain⟨ok,ι,h,a,b1,c,ι₀,h₁,h₂,d1,d2,d3,d4,⟨e1,e2,e3,e4⟩,d6⟩:=s;refine⟨ok,ι,h,a,b1,c,ι₀,h₁,h₂,d1,d2,d3,d4,⟨fun x hx=>e1 _ (alStd0List_mem_map_of_mem hx),by simpa using e2,e3,?_⟩,d6⟩;rcases e4 with e4|⟨g,a0,f1,f2,f3,f4⟩
 ·exact .inl e4
 ·refine .inr ⟨g,a0,f1,f2,f3,?_⟩;rw[an] at f4;rw[f4,List.flatMap_map]
def Ent.m9{α β:Type}{f:α→β}{enc:β→LV}{sz E:Nat}{ad:OA}{cap:Nat}{xs:List α}{L:LH}:Ent (osl (fun x=>enc (f x)) sz E ad cap xs::L) (osl enc sz E ad cap (xs.map f)::L):=fun θ R w s=>by
 obtain⟨ok,ι,h,a,b1,c,ι₀,h₁,h₂,d1,d2,d3,d4,⟨e1,e2,e3,e4⟩,d6⟩:=s;refine⟨ok,ι,h,a,b1,c,ι₀,h₁,h₂,d1,d2,d3,d4,⟨fun y hy=>?_,by simpa using e2,e3,?_⟩,d6⟩
 ·obtain⟨x,hx,rfl⟩:=List.mem_map.1 hy;exact e1 x hx
 rcases e4 with e4|⟨g,a0,f1,f2,f3,f4⟩
 ·exact .inl e4
 ·refine .inr ⟨g,a0,f1,f2,f3,?_⟩;rw[an,f4,List.flatMap_map]
def Ent.m8{α:Type}{enc:α→LV}{sz E:Nat}{ad:OA}{cap:Nat}{xs:List α}{L:LH}(n:Nat):Ent (osl enc sz E ad cap xs::L) (osl enc sz E ad cap (xs.take n)::L):=fun θ R w s=>by
 obtain⟨ok,ι,h,a,b1,c,ι₀,h₁,h₂,d1,d2,d3,d4,⟨e1,e2,e3,e4⟩,d6⟩:=s;refine⟨ok,ι,h,a,b1,c,ι₀,h₁,h₂,d1,d2,d3,d4,⟨fun x hx=>e1 x (bF hx),by rw[aK];omega,e3,?_⟩,d6⟩;rcases e4 with e4|⟨g,a0,f1,f2,f3,f4⟩
 ·exact .inl e4
 ·refine .inr ⟨g,a0,f1,f2,f3,?_⟩;have h1:xs.flatMap enc=(xs.take n).flatMap enc++(xs.drop n).flatMap enc:=by rw[←cl,cK]
  have h2:=dm (xs:=xs.take n) (fun x hx=>e1 x (bF hx));have h3:(xs.take n).length≤xs.length:=by rw[aK];omega
  have h4:(xs.take n).length*sz≤xs.length*sz:=bj _ h3;have h5:(a0.toList.take (xs.length*sz)).take ((xs.take n).length*sz)=a0.toList.take ((xs.take n).length*sz):=by rw[List.take_take,dp h4]
  rw[←h5,f4,h1,←h2,List.take_left]
