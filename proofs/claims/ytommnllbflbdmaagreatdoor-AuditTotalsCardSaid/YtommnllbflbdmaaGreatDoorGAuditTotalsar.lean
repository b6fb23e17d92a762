/- Lemmas and contracts of functions. -/
import Derived.Test.YtommnllbflbdmaaGreatDoorGAuditTotalsaq
import Derived.Test.YtommnllbflbdmaaGreatDoorGAuditTotalsaj
import Derived.Shelf.SlSortCmp.WholeK
import Derived.Shelf.SlSortCmp.Whole1
import Derived.Shelf.SlSortCmp.NoneTotal
set_option linter.all false
set_option maxHeartbeats 1000000
namespace Go.Proofs.YtommnllbflbdmaaGreatDoor
open Go.V
attribute [local irreducible] G GO GP GPW GPK Ev Ef EfR Ent CB GB Enters
theorem Dl {u y1 y0 B:Nat} (hu:u<y1*B+y0) (h0:y0<B) (h1:B≤2*y1) (hp:0<y1):u / y1≤B+1:=by
 have h:u / y1<B+2:=by
  rw [eD hp,fD,dM B y1]
  omega
 omega
theorem Fh (n v0 y B:Nat) (hy:0<y):(n*B+v0) / y=n / y*B+(n % y*B+v0) / y∧(n*B+v0) % y=(n % y*B+v0) % y:=by
 have h:=eA n y
 have e:n*B+v0=y*(n / y*B)+(n % y*B+v0):=by
  conv=>lhs;rw [← h]
  rw [fD,gh,dg]
 rw [e]
 rw [Nat.mul_add_div hy,Nat.mul_add_mod]
 exact ⟨rfl,rfl⟩
theorem Bu {s:Nat} (hs:s≤64):2 ^ (64 - s)*2 ^ s=18446744073709551616:=by
 rw [← Nat.pow_add,Nat.sub_add_cancel hs]
theorem Ez {hi lo y s:Nat} (hs:s≤64) (hy:hi<y) (hl:lo<18446744073709551616) (h2:y*2 ^ s<18446744073709551616) :
  hi*2 ^ s<18446744073709551616∧lo / 2 ^ (64 - s)<2 ^ s∧(hi*2 ^ s+lo / 2 ^ (64 - s))*18446744073709551616+lo*2 ^ s % 18446744073709551616=(hi*18446744073709551616+lo)*2 ^ s∧hi*2 ^ s+lo / 2 ^ (64 - s)<y*2 ^ s:=by
 have hp:=Bu hs
 have hpos:0<2 ^ s:=Nat.pow_pos ac
 have hpos2:0<2 ^ (64 - s):=Nat.pow_pos ac
 have h3:hi*2 ^ s≤y*2 ^ s:=cZ _ ab
 have h4:lo / 2 ^ (64 - s)<2 ^ s:=by
  rw [eD hpos2,dM,hp]
  exact hl
 have h5:lo*2 ^ s / 18446744073709551616=lo / 2 ^ (64 - s):=by
  rw [← hp,Nat.mul_div_mul_right _ _ hpos]
 have h6:=eA (lo*2 ^ s) 18446744073709551616
 rw [h5] at h6
 refine ⟨ab,h4,?_,?_⟩
 ·rw [fD,fD,Nat.mul_right_comm hi (2 ^ s) 18446744073709551616]
  omega
 ·have h7:(hi+1)*2 ^ s≤y*2 ^ s:=cZ _ hy
  rw [fD] at h7
  omega
theorem Dg {a b s:Nat} (hb:b<2 ^ s):a*2 ^ s ||| b=a*2 ^ s+b:=by
 rw [← Nat.shiftLeft_eq,Nat.shiftLeft_add_eq_or_of_lt hb]
theorem Fi {N y s:Nat}:N*2 ^ s / (y*2 ^ s)=N / y∧N*2 ^ s % (y*2 ^ s) / 2 ^ s=N % y:=by
 have hpos:0<2 ^ s:=Nat.pow_pos ac
 refine ⟨Nat.mul_div_mul_right _ _ hpos,?_⟩
 rw [Nat.mul_mod_mul_right,Nat.mul_div_cancel _ hpos]
abbrev len8:ByteArray:={ data:=(([0,1,2,2,3,3,3,3,4,4,4,4,4,4,4,4,5,5,5,5,5,5,5,5,5,5,5,5,5,5,5,5,6,6,6,6,6,6,6,6,6,6,6,6,6,6,6,6,6,6,6,6,6,6,6,6,6,6,6,6,6,6,6,6].append [7,7,7,7,7,7,7,7,7,7,7,7,7,7,7,7,7,7,7,7,7,7,7,7,7,7,7,7,7,7,7,7,7,7,7,7,7,7,7,7,7,7,7,7,7,7,7,7,7,7,7,7,7,7,7,7,7,7,7,7,7,7,7,7]).append ([8,8,8,8,8,8,8,8,8,8,8,8,8,8,8,8,8,8,8,8,8,8,8,8,8,8,8,8,8,8,8,8,8,8,8,8,8,8,8,8,8,8,8,8,8,8,8,8,8,8,8,8,8,8,8,8,8,8,8,8,8,8,8,8].append [8,8,8,8,8,8,8,8,8,8,8,8,8,8,8,8,8,8,8,8,8,8,8,8,8,8,8,8,8,8,8,8,8,8,8,8,8,8,8,8,8,8,8,8,8,8,8,8,8,8,8,8,8,8,8,8,8,8,8,8,8,8,8,8])).toArray }
theorem Dk:∀ c:Nat,c<256→1≤c→1≤((fG len8)[c]!).toNat∧2 ^ (((fG len8)[c]!).toNat - 1)≤c∧c<2 ^ ((fG len8)[c]!).toNat∧0≤(fG len8)[c]!∧(fG len8)[c]!≤8:=by decide +kernel
theorem BR:len8.size=256:=by decide +kernel
theorem Ff {x l k:Nat} (h1:2 ^ (l - 1)≤x / 2 ^ k) (h2:x / 2 ^ k<2 ^ l) (hl:1≤l):2 ^ (l+k - 1)≤x∧x<2 ^ (l+k):=by
 have hp:0<2 ^ k:=Nat.pow_pos ac
 constructor
 ·rw [show l+k - 1=l - 1+k by omega,Nat.pow_add]
  exact (Nat.le_div_iff_mul_le hp).1 h1
 ·rw [Nat.pow_add]
  exact (eD hp).1 h2
theorem Au {L:List HP} (x:Nat) (hx:x<18446744073709551616) (h0:1≤x) :
  Tri Tryz.prog 167 #[.int .u64 (x:Int)] L (fun v L'=>∃ l:Nat,v=.int .i64 (l:Int)∧(1≤l∧l≤64∧2 ^ (l - 1)≤x∧x<2 ^ l)∧L' = L):=by
 have hsz:=BR
 refine Tri.body (args:=[.int .u64 (x:Int)]) 25 HU Tryz.func167 rfl rfl rfl (by simp) ?_
 repeat first|((fail_if_success (with_reducible refine G.e7 1 ?_));(with_reducible apply G.seq))|refine bU ?_|intro
 refine G.d9 (α:=Nat×Nat) (fun g=>(g.2=0∨g.2=32)∧g.1=x / 2 ^ g.2∧g.1<4294967296∧1≤g.1) (fun g=>[(0,.int .u64 (g.1:Int)),(2,.int .i64 (g.2:Int))]) (fun _=>L) ?_ ?_
 ·by_cases h:4294967296≤x
  ·repeat first|refine aa ?_|intro
   refine GO.ev (Ev.l5 rfl rfl) ac ?_
   repeat first|refine aa ?_|intro
   refine ⟨(x / 4294967296,32),⟨.inr rfl,by simp,by dsimp only;omega,by dsimp only;omega⟩,ai,Ent.refl _⟩
  ·repeat first|refine aa ?_|intro
   refine ⟨(x,0),⟨.inl rfl,by simp,by dsimp only;omega,h0⟩,ai,Ent.refl _⟩
 rintro ⟨a,k⟩ ⟨hk,ha,ha1,ha2⟩
 dsimp only at hk ha ha1 ha2 ⊢
 refine G.d9 (α:=Nat×Nat) (fun g=>(g.2≤48)∧g.1=x / 2 ^ g.2∧g.1<65536∧1≤g.1) (fun g=>[(0,.int .u64 (g.1:Int)),(2,.int .i64 (g.2:Int))]) (fun _=>L) ?_ ?_
 ·by_cases h:65536≤a
  ·repeat first|refine aa ?_|intro
   refine GO.ev (Ev.n8 16 rfl ac rfl rfl) ac ?_
   repeat first|refine aa ?_|intro
   refine ⟨(a / 2 ^ 16,k+16),⟨by dsimp only;omega,by dsimp only;rw [ha,Nat.div_div_eq_div_mul,← Nat.pow_add],by dsimp only;omega,by dsimp only;omega⟩,?_,Ent.refl _⟩
   dsimp only
   rw [show ((k+16:Nat):Int)=(k:Int)+16 by omega]
   exact ai
  ·repeat first|refine aa ?_|intro
   refine ⟨(a,k),⟨by dsimp only;omega,ha,by dsimp only;omega,ha2⟩,ai,Ent.refl _⟩
 clear hk ha ha1 ha2
 rintro ⟨a,k⟩ ⟨hk,ha,ha1,ha2⟩
 dsimp only at hk ha ha1 ha2 ⊢
 refine G.d9 (α:=Nat×Nat) (fun g=>(g.2≤56)∧g.1=x / 2 ^ g.2∧g.1<256∧1≤g.1) (fun g=>[(0,.int .u64 (g.1:Int)),(2,.int .i64 (g.2:Int))]) (fun _=>L) ?_ ?_
 ·by_cases h:256≤a
  ·repeat first|refine aa ?_|intro
   refine GO.ev (Ev.n8 8 rfl ac rfl rfl) ac ?_
   repeat first|refine aa ?_|intro
   refine ⟨(a / 2 ^ 8,k+8),⟨by dsimp only;omega,by dsimp only;rw [ha,Nat.div_div_eq_div_mul,← Nat.pow_add],by dsimp only;omega,by dsimp only;omega⟩,?_,Ent.refl _⟩
   dsimp only
   rw [show ((k+8:Nat):Int)=(k:Int)+8 by omega]
   exact ai
  ·repeat first|refine aa ?_|intro
   refine ⟨(a,k),⟨by dsimp only;omega,ha,by dsimp only;omega,ha2⟩,ai,Ent.refl _⟩
 clear hk ha ha1 ha2
 rintro ⟨a,k⟩ ⟨hk,ha,ha1,ha2⟩
 dsimp only at hk ha ha1 ha2 ⊢
 obtain ⟨t1,t2,t3,t4,t5⟩:=Dk a ha1 ha2
 have hai:(a:Int).toNat=a:=ab
 repeat first|refine aa ?_|intro
 refine GO.ev (Ev.q6 (s:=len8) rfl rfl ab ab) ac ?_
 rw [hai]
 generalize (fG len8)[a]! = c at t1 t2 t3 t4 t5
 repeat first|refine aa ?_|intro
 refine KX.d7 ag (Ent.refl _) ⟨c.toNat+k,?_,⟨ab,ab,?_⟩,rfl⟩
 ·simp only [resV]
  rw [show ((c.toNat+k:Nat):Int)=(k:Int)+c by omega]
 ·rw [ha] at t2 t3
  exact Ff t2 t3 t1
theorem BO {L:List HP} (x:Nat) (hx:x<18446744073709551616) (h0:1≤x) :
  Tri Tryz.prog 276 #[.int .u64 (x:Int)] L (fun v L'=>∃ s:Nat,v=.int .i64 (s:Int)∧(s≤63∧9223372036854775808≤x*2 ^ s∧x*2 ^ s<18446744073709551616)∧L' = L):=by
 refine Tri.body (args:=[.int .u64 (x:Int)]) 6 FX Tryz.func276 rfl rfl rfl (by simp) ?_
 repeat first|refine aa ?_|intro
 refine GO.ef (Ef.d7 (Au x hx h0) rfl) ac ?_
 rintro _ _ ⟨l,rfl,⟨l1,l2,l3,l4⟩,rfl⟩
 repeat first|refine aa ?_|intro
 refine KX.d7 ag (Ent.refl _) ⟨64 - l,?_,⟨ab,?_,?_⟩,rfl⟩
 ·simp only [resV]
  rw [show ((64 - l:Nat):Int)=64 - (l:Int) by omega]
 ·have h1:2 ^ (l - 1)*2 ^ (64 - l)≤x*2 ^ (64 - l):=cZ _ l3
  rw [← Nat.pow_add,show l - 1+(64 - l)=63 by omega] at h1
  have:(2:Nat) ^ 63=9223372036854775808:=by decide
  omega
 ·have h1:x*2 ^ (64 - l)<2 ^ l*2 ^ (64 - l):=Nat.mul_lt_mul_of_pos_right l4 (Nat.pow_pos ac)
  rw [← Nat.pow_add,show l+(64 - l)=64 by omega] at h1
  have:(2:Nat) ^ 64=18446744073709551616:=by decide
  omega
structure Guess (u v y1 y0 q r:Nat):Prop where
 e:u=q*y1+r
 lo:(u*4294967296+v) / (y1*4294967296+y0)≤q
 q:q≤4294967297
 r:r<4294967296
theorem nu {u v y1 y0 q r:Nat} (hu:u<y1*4294967296+y0) (hv:v<4294967296) (hy0:y0<4294967296) (hy1:2147483648≤y1) (h:Guess u v y1 y0 q r) (hc:4294967296≤q∨4294967296*r+v<q*y0) :
  1≤q∧u=(q - 1)*y1+(r+y1)∧(u*4294967296+v) / (y1*4294967296+y0)≤q - 1∧q - 1≤4294967296:=by
 have hlt:(u*4294967296+v) / (y1*4294967296+y0)<q:=by
  rcases hc with hc|hc
  ·have:=qm hu hv (show 0<y1*4294967296+y0 by omega)
   omega
  ·exact EA h.e hc ab
 clear hc
 generalize (u*4294967296+v) / (y1*4294967296+y0)=Q at hlt
 have h1:1≤q:=ab
 refine ⟨h1,?_,ab,by have:=h.q;omega⟩
 have he:=h.e
 obtain ⟨p,rfl⟩:∃ p,q=p+1:=⟨q - 1,ab⟩
 rw [fD] at he
 simp only [Nat.add_sub_cancel]
 omega
theorem sV {u v y1 y0 q r:Nat} (hy1:2147483648≤y1) (h:Guess u v y1 y0 q r) (hc:¬(4294967296≤q∨4294967296*r+v<q*y0)):q=(u*4294967296+v) / (y1*4294967296+y0) :=
 DI ab h.lo (yH h.e ab)
theorem pJ {u v y1 y0:Nat} (hu:u<y1*4294967296+y0) (hv:v<4294967296) (hy0:y0<4294967296) (hy1:2147483648≤y1) (hy2:y1<4294967296):Guess u v y1 y0 (u / y1) (u - u / y1*y1):=by
 have h1:=eA u y1
 rw [dM] at h1
 have h2:=dq u (show 0<y1 by omega)
 exact ⟨ab,Dm hv ab ac,Dl hu hy0 ab ab,ab⟩
theorem sW {u v y1 y0 q r:Nat} (hy0:y0<4294967296) (h:Guess u v y1 y0 q r):q*y0<18446744073709551616:=by
 have:=Nat.mul_le_mul h.q (show y0≤4294967295 by omega)
 omega
theorem CQ {A B n:Nat} (h:B≤A) (hd:A - B<18446744073709551616):(A % 18446744073709551616+18446744073709551616 - B % 18446744073709551616) % 18446744073709551616=A - B:=ab
theorem zd (u z:Nat):(u*4294967296+z / 4294967296)*4294967296+z % 4294967296=u*18446744073709551616+z:=ab
theorem sx {u v Y:Nat} (h0:0<Y) (h1:Y<18446744073709551616):((u*4294967296 % 18446744073709551616+v) % 18446744073709551616+18446744073709551616 - (u*4294967296+v) / Y*Y % 18446744073709551616) % 18446744073709551616=(u*4294967296+v) % Y:=by
 rw [Nat.mod_add_mod]
 generalize u*4294967296+v=A
 have h2:=eA A Y
 have h3:=dq A h0
 rw [dM] at h2
 rw [CQ (n:=0) ab ab]
 omega
theorem kz {u v y1 y0 q r:Nat} (hy0:y0<4294967296) (hy1:2147483648≤y1) (e:u=q*y1+r) (lo:(u*4294967296+v) / (y1*4294967296+y0)≤q) (hq:q≤4294967296) (hr:4294967296≤r):q=(u*4294967296+v) / (y1*4294967296+y0) :=
 DI ab lo (Dn e hr hq hy0)
abbrev wT:List Stp:=[.ev 0,.ev 1,.ev 2,.ev 3,.ev 4,.ev 5,.ev 6,.ev 7]
theorem aP {φ ψ:Prop} (k:ψ) (h:Hid ψ→φ:=by intro k;(with_reducible apply G.d8);first|refine G.d7 (N:=135) (id:=6) wT mixed an (Hid.out k)):φ:=h ⟨k⟩
theorem rE {L:List HP} (hi lo y:Nat) (hhi:hi<y) (hlo:lo<18446744073709551616) (hy:y<18446744073709551616) :
  Tri Tryz.prog 242 #[.int .u64 (hi:Int),.int .u64 (lo:Int),.int .u64 (y:Int)] L (fun v L'=>v=.tuple #[.int .u64 (((hi*18446744073709551616+lo) / y:Nat):Int),.int .u64 (((hi*18446744073709551616+lo) % y:Nat):Int)]∧L' = L):=by
 refine Tri.body (args:=[.int .u64 (hi:Int),.int .u64 (lo:Int),.int .u64 (y:Int)]) 135 Gu Tryz.func242 rfl rfl rfl (by simp) ?_
 by_cases h0:hi=0
 ·subst h0
  repeat first|refine aa ?_|intro _|refine aP ?_
  refine GPW.evP (Ev.v7 rfl rfl hlo ab) ac ?_
  repeat first|refine aa ?_|intro _|refine aP ?_
  refine KX.d7 ag (Ent.refl _) ⟨?_,rfl⟩
  simp only [resV,Nat.zero_mul,cD]
  rfl
 repeat first|refine aa ?_|intro _|refine aP ?_
 refine GO.ef (Ef.d7 (BO y hy ab) rfl) ac ?_
 rintro _ L ⟨s,rfl,⟨s1,s2,s3⟩,rfl⟩
 obtain ⟨n1,n2,n3,n4⟩:=Ez (show s≤64 by omega) hhi hlo s3
 have hs64:((64:Nat) - s)≤64:=ab
 repeat first|refine aa ?_|intro _|refine aP ?_
 refine GO.ev (Ev.v6 s rfl ab rfl rfl) ac ?_
 rw [Nat.mod_eq_of_lt s3]
 have hke:=Fi (N:=hi*18446744073709551616+lo) (y:=y) (s:=s)
 obtain ⟨Y,hY⟩:∃ Y,Y=y*2 ^ s:=⟨_,rfl⟩
 rw [← hY] at s2 s3 n4 hke ⊢
 repeat first|refine aa ?_|intro _|refine aP ?_
 refine GO.ev (Ev.l5 rfl rfl) ac ?_
 repeat first|refine aa ?_|intro _|refine aP ?_
 refine GO.ev (Ev.n9 rfl rfl s3) ac ?_
 obtain ⟨y1,hy1⟩:∃ y1,y1=Y / 4294967296:=⟨_,rfl⟩
 obtain ⟨y0,hy0⟩:∃ y0,y0=Y % 4294967296:=⟨_,rfl⟩
 have hYe:Y=y1*4294967296+y0:=ab
 rw [← hy1,← hy0]
 repeat first|refine aa ?_|intro _|refine aP ?_
 refine GO.ev (Ev.v6 s rfl ab rfl rfl) ac ?_
 rw [Nat.mod_eq_of_lt n1]
 repeat first|refine aa ?_|intro _|refine aP ?_
 refine GO.ev (Ev.l0 (a:=64) (b:=s) ab ab rfl rfl) ac ?_
 refine GO.ev (Ev.n8 (64 - s) rfl hs64 rfl rfl) ac ?_
 refine GO.ev (Ev.orN rfl rfl n1 ab) ac ?_
 rw [Dg n2]
 repeat first|refine aa ?_|intro _|refine aP ?_
 refine GO.ev (Ev.v6 s rfl ab rfl rfl) ac ?_
 obtain ⟨u,hu⟩:∃ u,u=hi*2 ^ s+lo / 2 ^ (64 - s):=⟨_,rfl⟩
 obtain ⟨z,hz⟩:∃ z,z=lo*2 ^ s % 18446744073709551616:=⟨_,rfl⟩
 have hzl:z<18446744073709551616:=by rw [hz];exact dq _ ac
 rw [← hu] at n3 n4
 rw [← hz] at n3
 rw [← hu,← hz]
 repeat first|refine aa ?_|intro _|refine aP ?_
 refine GO.ev (Ev.l5 rfl rfl) ac ?_
 repeat first|refine aa ?_|intro _|refine aP ?_
 refine GO.ev (Ev.n9 rfl rfl hzl) ac ?_
 obtain ⟨z1,hz1⟩:∃ z1,z1=z / 4294967296:=⟨_,rfl⟩
 obtain ⟨z0,hz0⟩:∃ z0,z0=z % 4294967296:=⟨_,rfl⟩
 rw [← hz1,← hz0]
 repeat first|refine aa ?_|intro _|refine aP ?_
 refine GO.ev (Ev.v7 rfl rfl ab ab) ac ?_
 have hg1:Guess u z1 y1 y0 (u / y1) (u - u / y1*y1):=pJ ab ab ab ab ab
 have hdm:=Nat.div_mul_le_self u y1
 repeat first|refine aa ?_|intro _|refine aP ?_
 refine GO.ev (Ev.f8 ab rfl rfl) ac ?_
 refine GO.ev (Ev.l0 hdm ab rfl rfl) ac ?_
 have hg1e:=hg1.e
 generalize u / y1=q at hg1 hg1e hdm
 generalize u - q*y1=r at hg1 hg1e
 obtain ⟨Q1,hQ1⟩:∃ Q1,Q1=(u*4294967296+z1) / Y:=⟨_,rfl⟩
 obtain ⟨u2,hu2⟩:∃ u2,u2=(u*4294967296+z1) % Y:=⟨_,rfl⟩
 repeat first|((fail_if_success (with_reducible refine G.atB 0 ?_));(with_reducible apply G.seq))|refine bU ?_|intro _|refine aP ?_
 refine G.d9 (α:=Unit) (fun _=>True) (fun _=>[(2,.int .u64 (Y:Int)),(8,.int .u64 (s:Int)),(9,.int .u64 (y1:Int)),(10,.int .u64 (y0:Int)),(11,.int .u64 (u:Int)),(13,.int .u64 (z1:Int)),(14,.int .u64 (z0:Int)),(15,.int .u64 (Q1:Int))]) (fun _=>L) ?_ ?_
 ·repeat first|refine aa ?_|intro _|refine aP ?_
  refine G.loop (α:=Nat×Nat) (fun g=>Guess u z1 y1 y0 g.1 g.2) (fun g=>[(2,.int .u64 (Y:Int)),(8,.int .u64 (s:Int)),(9,.int .u64 (y1:Int)),(10,.int .u64 (y0:Int)),(11,.int .u64 (u:Int)),(13,.int .u64 (z1:Int)),(14,.int .u64 (z0:Int)),(15,.int .u64 (g.1:Int)),(16,.int .u64 (g.2:Int))]) (fun _=>L) (fun g=>g.1) (q,r) hg1 ai (Ent.refl _) ?_
  clear hg1 hg1e hdm
  rintro ⟨q,r⟩ hg
  dsimp only at hg ⊢
  have hgm:=sW ab hg
  have hgr:=hg.r
  have hgq:=hg.q
  by_cases hc1:4294967296≤q
  ·obtain ⟨g1,g2,g3,g4⟩:=nu ab ab ab ab hg (.inl hc1)
   repeat first|refine aa ?_|intro _|refine aP ?_
   refine GO.ev (Ev.l0 (a:=q) (b:=1) g1 ab rfl rfl) ac ?_
   repeat first|refine aa ?_|intro _|refine aP ?_
   refine GO.ev (Ev.f9 (a:=r) (b:=y1) ab rfl rfl) ac ?_
   by_cases hbk:4294967296≤r+y1
   ·have hq:=kz ab ab g2 g3 g4 hbk
    rw [← hYe,← hQ1] at hq
    rw [hq]
    repeat first|refine aa ?_|intro _|refine aP ?_
    exact ⟨(),trivial,ai,Ent.refl _⟩
   ·repeat first|refine aa ?_|intro _|refine aP ?_
    exact ⟨(q - 1,r+y1),⟨g2,g3,ab,ab⟩,by dsimp only;omega,ai,Ent.refl _⟩
  ·repeat first|refine aa ?_|intro _|refine aP ?_
   refine GO.ev (Ev.f8 hgm rfl rfl) ac ?_
   repeat first|refine aa ?_|intro _|refine aP ?_
   refine GO.ev (Ev.f8 (a:=4294967296) (b:=r) ab rfl rfl) ac ?_
   repeat first|refine aa ?_|intro _|refine aP ?_
   refine GO.ev (Ev.f9 ab rfl rfl) ac ?_
   by_cases hc2:4294967296*r+z1<q*y0
   ·obtain ⟨g1,g2,g3,g4⟩:=nu ab ab ab ab hg (.inr hc2)
    repeat first|refine aa ?_|intro _|refine aP ?_
    refine GO.ev (Ev.l0 (a:=q) (b:=1) g1 ab rfl rfl) ac ?_
    repeat first|refine aa ?_|intro _|refine aP ?_
    refine GO.ev (Ev.f9 (a:=r) (b:=y1) ab rfl rfl) ac ?_
    by_cases hbk:4294967296≤r+y1
    ·have hq:=kz ab ab g2 g3 g4 hbk
     rw [← hYe,← hQ1] at hq
     rw [hq]
     repeat first|refine aa ?_|intro _|refine aP ?_
     exact ⟨(),trivial,ai,Ent.refl _⟩
    ·repeat first|refine aa ?_|intro _|refine aP ?_
     exact ⟨(q - 1,r+y1),⟨g2,g3,ab,ab⟩,by dsimp only;omega,ai,Ent.refl _⟩
   ·have hq:=sV ab hg ab
    rw [← hYe,← hQ1] at hq
    repeat first|refine aa ?_|intro _|refine aP ?_
    rw [hq]
    exact ⟨(),trivial,ai,Ent.refl _⟩
 clear hg1 hg1e hdm q r
 rintro _ _
 have hYp:0<Y:=ab
 have hq1:Q1<4294967296:=by rw [hQ1];exact qm n4 ab hYp
 have hwr:=sx (u:=u) (v:=z1) hYp s3
 have hk2:=Fh (u*4294967296+z1) z0 Y 4294967296 hYp
 have hml:u2<Y:=by rw [hu2];exact dq _ hYp
 rw [← hQ1,← hu2] at hwr hk2
 have hNU:(u*4294967296+z1)*4294967296+z0=(hi*18446744073709551616+lo)*2 ^ s:=by rw [hz1,hz0,zd,n3]
 rw [hNU,hke.1] at hk2
 repeat first|refine aa ?_|intro _|refine aP ?_
 refine GO.ev (Ev.m6 (a:=u) (b:=4294967296) rfl rfl) ac ?_
 repeat first|refine aa ?_|intro _|refine aP ?_
 refine GO.ev (Ev.v8 rfl rfl) ac ?_
 repeat first|refine aa ?_|intro _|refine aP ?_
 refine GO.ev (Ev.m6 rfl rfl) ac ?_
 refine GO.ev (Ev.u9 rfl rfl (Nat.le_of_lt (dq _ ac))) ac ?_
 rw [hwr]
 clear hwr hQ1 hu2
 repeat first|refine aa ?_|intro _|refine aP ?_
 refine GO.ev (Ev.v7 rfl rfl ab ab) ac ?_
 have hg1:Guess u2 z0 y1 y0 (u2 / y1) (u2 - u2 / y1*y1):=pJ ab ab ab ab ab
 have hdm:=Nat.div_mul_le_self u2 y1
 repeat first|refine aa ?_|intro _|refine aP ?_
 refine GO.ev (Ev.f8 ab rfl rfl) ac ?_
 refine GO.ev (Ev.l0 hdm ab rfl rfl) ac ?_
 have hg1e:=hg1.e
 generalize u2 / y1=q at hg1 hg1e hdm
 generalize u2 - q*y1=r at hg1 hg1e
 repeat first|((fail_if_success (with_reducible refine G.atB 2 ?_));(with_reducible apply G.seq))|refine bU ?_|intro _|refine aP ?_
 refine G.d9 (α:=Unit) (fun _=>True) (fun _=>[(2,.int .u64 (Y:Int)),(8,.int .u64 (s:Int)),(14,.int .u64 (z0:Int)),(15,.int .u64 (Q1:Int)),(17,.int .u64 (u2:Int)),(18,.int .u64 (((u2*4294967296+z0) / Y:Nat):Int))]) (fun _=>L) ?_ ?_
 ·repeat first|refine aa ?_|intro _|refine aP ?_
  refine G.loop (α:=Nat×Nat) (fun g=>Guess u2 z0 y1 y0 g.1 g.2) (fun g=>[(2,.int .u64 (Y:Int)),(8,.int .u64 (s:Int)),(9,.int .u64 (y1:Int)),(10,.int .u64 (y0:Int)),(14,.int .u64 (z0:Int)),(15,.int .u64 (Q1:Int)),(17,.int .u64 (u2:Int)),(18,.int .u64 (g.1:Int)),(16,.int .u64 (g.2:Int))]) (fun _=>L) (fun g=>g.1) (q,r) hg1 ai (Ent.refl _) ?_
  clear hg1 hg1e hdm
  rintro ⟨q,r⟩ hg
  dsimp only at hg ⊢
  have hgm:=sW ab hg
  have hgr:=hg.r
  have hgq:=hg.q
  by_cases hc1:4294967296≤q
  ·obtain ⟨g1,g2,g3,g4⟩:=nu ab ab ab ab hg (.inl hc1)
   repeat first|refine aa ?_|intro _|refine aP ?_
   refine GO.ev (Ev.l0 (a:=q) (b:=1) g1 ab rfl rfl) ac ?_
   repeat first|refine aa ?_|intro _|refine aP ?_
   refine GO.ev (Ev.f9 (a:=r) (b:=y1) ab rfl rfl) ac ?_
   by_cases hbk:4294967296≤r+y1
   ·have hq:=kz ab ab g2 g3 g4 hbk
    rw [← hYe] at hq
    rw [hq]
    repeat first|refine aa ?_|intro _|refine aP ?_
    exact ⟨(),trivial,ai,Ent.refl _⟩
   ·repeat first|refine aa ?_|intro _|refine aP ?_
    exact ⟨(q - 1,r+y1),⟨g2,g3,ab,ab⟩,by dsimp only;omega,ai,Ent.refl _⟩
  ·repeat first|refine aa ?_|intro _|refine aP ?_
   refine GO.ev (Ev.f8 hgm rfl rfl) ac ?_
   repeat first|refine aa ?_|intro _|refine aP ?_
   refine GO.ev (Ev.f8 (a:=4294967296) (b:=r) ab rfl rfl) ac ?_
   repeat first|refine aa ?_|intro _|refine aP ?_
   refine GO.ev (Ev.f9 ab rfl rfl) ac ?_
   by_cases hc2:4294967296*r+z0<q*y0
   ·obtain ⟨g1,g2,g3,g4⟩:=nu ab ab ab ab hg (.inr hc2)
    repeat first|refine aa ?_|intro _|refine aP ?_
    refine GO.ev (Ev.l0 (a:=q) (b:=1) g1 ab rfl rfl) ac ?_
    repeat first|refine aa ?_|intro _|refine aP ?_
    refine GO.ev (Ev.f9 (a:=r) (b:=y1) ab rfl rfl) ac ?_
    by_cases hbk:4294967296≤r+y1
    ·have hq:=kz ab ab g2 g3 g4 hbk
     rw [← hYe] at hq
     rw [hq]
     repeat first|refine aa ?_|intro _|refine aP ?_
     exact ⟨(),trivial,ai,Ent.refl _⟩
    ·repeat first|refine aa ?_|intro _|refine aP ?_
     exact ⟨(q - 1,r+y1),⟨g2,g3,ab,ab⟩,by dsimp only;omega,ai,Ent.refl _⟩
   ·have hq:=sV ab hg ab
    rw [← hYe] at hq
    repeat first|refine aa ?_|intro _|refine aP ?_
    rw [hq]
    exact ⟨(),trivial,ai,Ent.refl _⟩
 clear hg1 hg1e hdm q r
 rintro _ _
 have hq0:(u2*4294967296+z0) / Y<4294967296:=qm hml ab hYp
 have hwr2:=sx (u:=u2) (v:=z0) hYp s3
 repeat first|refine aa ?_|intro _|refine aP ?_
 refine GO.ev (Ev.f8 (a:=Q1) (b:=4294967296) ab rfl rfl) ac ?_
 repeat first|refine aa ?_|intro _|refine aP ?_
 refine GO.ev (Ev.f9 ab rfl rfl) ac ?_
 repeat first|refine aa ?_|intro _|refine aP ?_
 refine GO.ev (Ev.m6 (a:=u2) (b:=4294967296) rfl rfl) ac ?_
 repeat first|refine aa ?_|intro _|refine aP ?_
 refine GO.ev (Ev.v8 rfl rfl) ac ?_
 repeat first|refine aa ?_|intro _|refine aP ?_
 refine GO.ev (Ev.m6 rfl rfl) ac ?_
 refine GO.ev (Ev.u9 rfl rfl (Nat.le_of_lt (dq _ ac))) ac ?_
 rw [hwr2]
 repeat first|refine aa ?_|intro _|refine aP ?_
 refine GO.ev (Ev.n8 s rfl ab rfl rfl) ac ?_
 repeat first|refine aa ?_|intro _|refine aP ?_
 refine KX.d7 ag (Ent.refl _) ⟨?_,rfl⟩
 simp only [resV]
 rw [← hk2.1,← hk2.2,hke.2]
end Go.Proofs.YtommnllbflbdmaaGreatDoor
namespace Go.V
open Go.Sort Go.Proofs
theorem CL:∀ {a b:World},a.heap=b.heap→a.tape=b.tape→a.drawn=b.drawn→a.os=b.os→a.output=b.output→a=b:=by
 rintro ⟨_,_,_,_,_⟩ ⟨_,_,_,_,_⟩ h1 h2 h3 h4 h5
 cases h1;cases h2;cases h3;cases h4;cases h5;rfl
theorem Tri.e7 {P:Program} {f:FuncId} {args:Array Value} {L:List HP} {v:Value} (h:Tri P f args L (fun u _=>u=v)) {w:World} {ι:Hp} (hi:Hp.sub ι (gu w)) (hs:Stars L ι Hp.emp) :
  Calls P f args w fun e w'=>e=.returned v∧∃ q os',w' = grow (w.drewN q) os':=by
 have hs2:Stars L (gu w) Hp.emp:=hs.mono hi (Hp.sub.refl _)
 have s0:Sat ⟨w.tape,w.os,w.output,w.drawn⟩ (L++[ug w]) w:=⟨⟨rfl,rfl,rfl,aw _⟩,gu w,Hp.emp,fun _ _ _=>rfl,Hp.sub.refl _,Hp.d7 _,hs2.snoc (Hp.sub.refl _)⟩
 refine (h.calls _ _ w s0).mono ?_
 rintro e w' ⟨u,L',rfl,rfl,s1⟩
 refine ⟨rfl,w'.drawn - w.drawn,w'.heap.extract w.heap.size w'.heap.size,?_⟩
 have s2:Sat ⟨w.tape,w.os,w.output,w.drawn⟩ (ug w::L') w':=s1.perm (dA _ _)
 obtain ⟨ok,ι',h,a,b1,c,ι₀,h₁,h₂,d1,d2,d3,d4,d5,d6⟩:=s2
 have hk:∀ k o,w.heap[k]? = some o→w'.heap[k]? = some o:=fun k o hx=>b1 k o (d1 k o (d5 k o hx))
 have hsz:w.heap.size≤w'.heap.size:=by
  rcases bG w'.heap.size w.heap.size with hlt|hge
  ·have h1:=hk w'.heap.size _ (Array.getElem?_eq_getElem hlt)
   rw [Array.getElem?_eq_none (aw _)] at h1
   cases h1
  ·exact hge
 have hdr:w.drawn≤w'.drawn:=ok.drawn
 refine CL ?_ ok.tape ?_ ok.os ok.output
 ·show w'.heap=w.heap++w'.heap.extract w.heap.size w'.heap.size
  apply Array.ext_getElem?
  intro k
  by_cases hk2:k<w.heap.size
  ·rw [Array.getElem?_append_left hk2,Array.getElem?_eq_getElem hk2]
   exact hk k _ (Array.getElem?_eq_getElem hk2)
  ·rw [Array.getElem?_append_right ab,Array.getElem?_extract]
   by_cases hk3:k<w'.heap.size
   ·rw [if_pos ab,show w.heap.size+(k - w.heap.size)=k by omega]
   ·rw [if_neg ab,Array.getElem?_eq_none ab]
 ·show w'.drawn=w.drawn+(w'.drawn - w.drawn)
  omega
theorem qO {α:Type} [Inhabited α] {enc:α→Value} {w:World} {ι:Hp} {blk off m:Nat} {d:Array α} {os:Array Obj} (hi:Hp.sub ι (gu w)) (hb:ι blk=none):Hp.sub ι (gu (grow (Sort.putRow enc (Sort.ahead w m) blk off d) os)):=by
 intro k o hk
 have hx:w.heap[k]? = some o:=hi k o hk
 have hne:k≠blk:=by rintro rfl;rw [hb] at hk;cases hk
 have hlt:k<w.heap.size:=(Array.getElem?_eq_some_iff.1 hx).1
 show (w.heap.modify blk (onCells (putCells enc off d))++os)[k]? = _
 rw [Array.getElem?_append_left (by simpa using hlt),Array.getElem?_modify,if_neg (fun e=>hne e.symm),hx]
theorem uS {vs:List Value} {cur:Array Value} (hc:vs.length≤cur.size):(putCells id 0 vs.toArray cur).toList.take vs.length=vs:=by
 apply gg
 intro i
 by_cases hi:i<vs.length
 ·have h2:i<cur.size:=ab
  rw [List.getElem?_take,if_pos hi]
  simp [putCells,hi,h2]
 ·rw [List.getElem?_take,if_neg hi]
  simp
  omega
theorem Cb {g E:Nat} {cur:Array Value} {vs:List Value} {w:World} (hb:w.heap[g]? = some (.cells cur E (0,0))) (ht:cur.toList.take vs.length=vs):Holds id w g 0 vs.toArray:=by
 intro j hj
 have hj' : j<vs.length:=by simpa using hj
 refine ⟨?_,by simp [World.frozen?,hb]⟩
 rw [cD,dP hb]
 have h:(cur.toList.take vs.length)[j]? = vs[j]?:=by rw [ht]
 rw [List.getElem?_take,if_pos hj'] at h
 simp [hj'] at h
 simp [hj',h]
theorem Sat.f8 {θ:Th} {g E:Nat} {cur:Array Value} {R:List HP} {w:World} {d:Array Value} {n:Nat} {os:Array Obj} (s:Sat θ (own g (.cells cur E (0,0))::R) w) :
  Sat θ (own g (.cells (putCells id 0 d cur) E (0,0))::R) (grow (Sort.putRow id (Sort.ahead w n) g 0 d) os):=by
 have hb:=s.own_heap
 have hlt:g<w.heap.size:=(Array.getElem?_eq_some_iff.1 hb).1
 refine s.update ⟨s.1.tape,s.1.os,s.1.output,cx s.1.drawn (dE _ _)⟩ ?_ ?_
 ·show (w.heap.modify g (onCells (putCells id 0 d))++os)[g]? = _
  rw [Array.getElem?_append_left (by simpa using hlt),Array.getElem?_modify,if_pos rfl,hb]
  rfl
 ·intro k x hk hx
  have hklt:k<w.heap.size:=(Array.getElem?_eq_some_iff.1 hx).1
  show (w.heap.modify g (onCells (putCells id 0 d))++os)[k]? = _
  rw [Array.getElem?_append_left (by simpa using hklt),Array.getElem?_modify,if_neg (fun e=>hk e.symm),hx]
theorem Tri.d8 {P:Program} {f:FuncId} {E cap sz:Nat} {ad:Option Addr} {α:Type} {enc:α→List Value} {xs:List α} {Lc:List HP} {fv:Value} (he:Enters P f) (hpers:∀ ι h,Stars Lc ι h→Stars Lc ι Hp.emp) (good:List α→Prop) (hg0:xs=[]→good [])
  (h0:xs.length=0→∀ w,Calls P f #[.slice ad 0 cap,fv] w fun e w'=>e=.returned (.tuple #[])∧w' = w)
  (h1:∀ blk w ι,Hp.sub ι (gu w)→ι blk=none→Stars Lc ι Hp.emp→Holds id w blk 0 (xs.flatMap enc).toArray→blk<w.heap.size →
   Calls P f #[.slice (some ⟨blk,0,none⟩) xs.length cap,fv] w fun e w'=>e=.returned (.tuple #[])∧∃ ys n os,ys.length=xs.length∧(∀ y∈ys,(enc y).length=sz)∧good ys∧w' = grow (Sort.putRow id (Sort.ahead w n) blk 0 (ys.flatMap enc).toArray) os) :
  Tri P f #[.slice ad xs.length cap,fv] (osl enc sz E ad cap xs::Lc) (fun v L'=>v=.tuple #[]∧∃ ys,good ys∧L' = osl enc sz E ad cap ys::Lc):=by
 refine ⟨he,fun θ R w s=>?_⟩
 by_cases hx:xs.length=0
 ·have e1:xs=[]:=aQ hx
  subst e1
  refine (h0 rfl w).mono ?_
  rintro e w' ⟨rfl,rfl⟩
  exact ⟨_,_,rfl,⟨rfl,[],hg0 rfl,rfl⟩,s⟩
 obtain ⟨a1,a2,a3,a4⟩:=Sat.osl_parts (L:=Lc++R) s
 rcases a4 with ⟨rfl,rfl⟩|⟨g,cur,rfl,b1,b2,b3⟩
 ·omega
 have hb:=b3.own_heap
 have hfl:=dY a1
 have hrow:cur.toList.take (xs.flatMap enc).length=xs.flatMap enc:=by rw [hfl];exact b2
 obtain ⟨ok,ι,h,a,c1,c2,ι₀,h₁,h₂,d1,d2,d3,d4,d5,d6⟩:=b3
 have hig:ι g=none:=by
  cases hι:ι g with
  | none=>rfl
  | some o =>
   have h3:=a g o hι
   have h4:h g=some (.cells cur E (0,0)):=d3 g _ d5
   rw [h3] at h4
   cases h4
 have hLc:Stars Lc ι Hp.emp:=by
  obtain ⟨x1,x2,y1,y2,y3,y4,y5⟩:=Stars.split d6
  exact hpers ι x1 y4
 have b3:Sat θ (own g (.cells cur E (0,0))::(Lc++R)) w:=⟨ok,ι,h,a,c1,c2,ι₀,h₁,h₂,d1,d2,d3,d4,d5,d6⟩
 refine (h1 g w ι c1 hig hLc (Cb hb hrow) (Array.getElem?_eq_some_iff.1 hb).1).mono ?_
 rintro e w' ⟨rfl,ys,n,os,hl,hsz,hgood,rfl⟩
 refine ⟨_,_,rfl,⟨rfl,ys,hgood,rfl⟩,?_⟩
 have hfl2:=dY hsz
 have hle:xs.length*sz≤cap*sz:=cZ _ a2
 refine Sat.osl_mk (L:=Lc++R) (Sat.f8 b3) hsz ab a3 ?_ ?_
 ·simp [putCells,b1]
 ·rw [← hfl2]
  exact uS (by rw [hfl2,hl,b1];exact hle)
theorem Cd {α:Type} [Inhabited α] {enc:α→Value} {w:World} {g:Nat} {xs:List α} (h:Holds id w g 0 (xs.flatMap fun x=>[enc x]).toArray):Holds enc w g 0 xs.toArray:=by
 intro j hj
 have hj' : j<xs.length:=by simpa using hj
 have hf:(xs.flatMap fun x=>[enc x])=xs.map enc:=mw _ xs
 rw [hf] at h
 have:=h j (by simpa using hj')
 simpa [hj'] using this
theorem zt {α:Type} [Inhabited α] {enc:α→Value} {w:World} {g:Nat} {d:Array α}:Sort.putRow enc w g 0 d=Sort.putRow id w g 0 (d.toList.flatMap fun x=>[enc x]).toArray:=by
 have hf:∀ l:List α,(l.flatMap fun x=>[enc x])=l.map enc:=fun l=>mw _ l
 rw [hf]
 unfold Sort.putRow
 congr 1
 funext c
 unfold putCells
 apply Array.ext
 ·simp
 ·intro i h1 h2
  simp only [Array.getElem_mapIdx,List.size_toArray,aD,fU,cD,Nat.sub_zero,id_eq]
  split
  ·rename_i hlt
   simp [hlt.2]
  ·rfl
theorem mI {α:Type} [Inhabited α] {xs:List α} {d' : Array α} (h:PermIn 0 xs.toArray.size xs.toArray d'):d'.toList.Perm xs:=by
 obtain ⟨h1,_,h3⟩:=h
 have e1:(xs.toArray.extract 0 xs.toArray.size)=xs.toArray:=by simp
 have e2:(d'.extract 0 xs.toArray.size)=d':=by rw [← h1];simp
 rw [e1,e2] at h3
 simpa using h3
theorem kG {α:Type} [Inhabited α] {lt:α→α→Bool} {d:Array α} (h:SortedIn lt 0 d.size d):d.toList.Pairwise (fun a b=>lt b a=false):=by
 rw [List.pairwise_iff_getElem]
 intro i j hi hj hij
 have:=h i j (al _) hij (by simpa using hj)
 have hi' : i<d.size:=by simpa using hi
 have hj' : j<d.size:=by simpa using hj
 simpa [hi',hj'] using this
def fM {α:Type} (cf:α→α→Int) (xs ys:List α):Prop:=ys.Perm xs∧ys.Pairwise (fun a b=>¬cf b a<0)
theorem Tri.d9 {P:Program} {ρ:Go.Shelf.Ren} (S:SlLaysF.n6 P ρ) (S0:SlLaysF0.n6 P ρ) {E cap:Nat} {ad:Option Addr} {α:Type} [Inhabited α] {enc:α→Value} (h1:OneCell enc) {xs:List α} {Lc:List HP} {g:Nat} {cb:Array Value} (cf:α→α→Int) (hO:SWO (ltOf cf))
  (he:Enters P (ρ.f 6)) (heg:Enters P g) (hpers:∀ ι h,Stars Lc ι h→Stars Lc ι Hp.emp) (hcmp:∀ x y:α,Tri P g (#[enc x,enc y]++cb) Lc (fun u _=>u=.int .i64 (cf x y))) (hsz:xs.length<4611686018427387904) :
  Tri P (ρ.f 6) #[.slice ad xs.length cap,.func (.func g) #[] cb] (osl (fun x=>[enc x]) 1 E ad cap xs::Lc) (fun v L'=>v=.tuple #[]∧∃ ys,fM cf xs ys∧L' = osl (fun x=>[enc x]) 1 E ad cap ys::Lc):=by
 refine Tri.d8 he hpers (fM cf xs) (fun h=>by subst h;exact ⟨List.Perm.refl _,List.Pairwise.nil⟩) ?_ ?_
 ·intro h0 w
  exact AnyF.slices_SortFunc_none S0 ad cap (.func (.func g) #[] cb) w
 ·intro blk w ι hi hb hL hH hblk
  have hc:=Any.slices_SortFunc S enc h1 cf hO g cb blk 0 cap xs.toArray w heg (fun m os dk _ x y=>Tri.e7 (hcmp x y) (qO hi hb) hL) (Cd hH) hblk (by simpa using hsz)
  rw [show xs.toArray.size=xs.length by simp] at hc
  refine hc.mono ?_
  rintro e w' ⟨rfl,d',n,os,hp,hs,rfl⟩
  have hp2:d'.toList.Perm xs:=mI (by simpa using hp)
  have hds:d'.size=xs.length:=by have:=hp2.length_eq;simpa using this
  refine ⟨rfl,d'.toList,n,os,hp2.length_eq,fun _ _=>rfl,⟨hp2,?_⟩,?_⟩
  ·rw [← hds] at hs
   refine (kG hs).imp ?_
   intro a b hab
   simpa [ltOf] using hab
  ·unfold sortWorld
   rw [zt]
theorem vH {α:Type} [Inhabited α] {enc:α→List Value} {k:Nat} (hk:∀ x,(enc x).length=k) (xs:List α):flatK enc k xs.toArray=(xs.flatMap enc).toArray:=by
 have hl:(xs.flatMap enc).length=xs.length*k:=dY (fun x _=>hk x)
 apply Array.ext_getElem?
 intro i
 by_cases h1:i<xs.length*k
 ·have hk0:0<k:=by
   rcases Nat.eq_zero_or_pos k with h|h
   ·subst h;simp at h1
   ·exact h
  have hj:i / k<xs.length:=Nat.div_lt_of_lt_mul (by rw [dM];exact h1)
  have ho:i % k<k:=dq _ hk0
  have h2:=nx (xs:=xs) (fun x _=>hk x) hj ho
  rw [show i / k*k+i % k=i from Nat.div_add_mod' i k] at h2
  have h3:=get_flatK enc k xs.toArray i (by simpa using h1)
  have h4:i<(flatK enc k xs.toArray).size:=by rw [size_flatK];simpa using h1
  rw [getElem!_pos _ i h4] at h3
  rw [Array.getElem?_eq_getElem h4,h3,List.getElem?_toArray,h2,List.getElem?_eq_getElem (by rw [hk];exact ho)]
  simp [hj,hk,ho]
 ·rw [Array.getElem?_eq_none (by rw [size_flatK];simpa using h1),List.getElem?_toArray,List.getElem?_eq_none ab]
theorem Tri.d7 {P:Program} {ρ:Go.Shelf.Ren} (S:SlLaysF0.n6 P ρ) {k E cap:Nat} (aE:∀ w,(isAgg (ρ.t 24)).run P w=.ok true w) (zE:∀ w,(Go.sizeOf (ρ.t 24)).run P w=.ok k w) {ad:Option Addr} {α:Type} [Inhabited α] {enc:α→List Value} (hk:∀ x,(enc x).length=k) (h1:∀ x,∀ v∈enc x,v.oneCell' = true) {xs:List α} {Lc:List HP} {g:Nat} {cb:Array Value} (cf:α→α→Int) (hO:SWO (ltOf cf))
  (he:Enters P (ρ.f 6)) (heg:Enters P g) (hpers:∀ ι h,Stars Lc ι h→Stars Lc ι Hp.emp) (hcmp:∀ x y:α,Tri P g (#[.agg (enc x).toArray,.agg (enc y).toArray]++cb) Lc (fun u _=>u=.int .i64 (cf x y))) (hsz:xs.length<4611686018427387904) :
  Tri P (ρ.f 6) #[.slice ad xs.length cap,.func (.func g) #[] cb] (osl enc k E ad cap xs::Lc) (fun v L'=>v=.tuple #[]∧∃ ys,fM cf xs ys∧L' = osl enc k E ad cap ys::Lc):=by
 refine Tri.d8 he hpers (fM cf xs) (fun h=>by subst h;exact ⟨List.Perm.refl _,List.Pairwise.nil⟩) ?_ ?_
 ·intro h0 w
  exact AnyF.slices_SortFunc_none S ad cap (.func (.func g) #[] cb) w
 ·intro blk w ι hi hb hL hH hblk
  have hc:=AnyQ.slices_SortFunc S k aE zE enc hk h1 cf hO g cb blk 0 cap xs.toArray w heg (fun m os dk _ x y=>Tri.e7 (hcmp x y) (qO hi hb) hL) (by unfold HoldsK;rw [vH hk];exact hH) hblk (by simpa using hsz)
  rw [show xs.toArray.size=xs.length by simp] at hc
  refine hc.mono ?_
  rintro e w' ⟨rfl,d',n,os,hp,hs,rfl⟩
  have hp2:d'.toList.Perm xs:=mI (by simpa using hp)
  have hds:d'.size=xs.length:=by have:=hp2.length_eq;simpa using this
  refine ⟨rfl,d'.toList,n,os,hp2.length_eq,fun y _=>hk y,⟨hp2,?_⟩,?_⟩
  ·rw [← hds] at hs
   refine (kG hs).imp ?_
   intro a b hab
   simpa [ltOf] using hab
  ·unfold sortWorldK putRowK
   have:=vH hk d'.toList
   simp only [Array.toArray_toList] at this
   rw [this]
theorem Ent.n7 {α β:Type} {f:α→β} {enc:β→List Value} {sz E:Nat} {ad:Option Addr} {cap:Nat} {xs:List α} {L:List HP}:Ent (osl enc sz E ad cap (xs.map f)::L) (osl (fun x=>enc (f x)) sz E ad cap xs::L):=fun θ R w s=>by
 obtain ⟨ok,ι,h,a,b1,c,ι₀,h₁,h₂,d1,d2,d3,d4,⟨e1,e2,e3,e4⟩,d6⟩:=s
 refine ⟨ok,ι,h,a,b1,c,ι₀,h₁,h₂,d1,d2,d3,d4,⟨fun x hx=>e1 _ (alStd0List_mem_map_of_mem hx),by simpa using e2,e3,?_⟩,d6⟩
 rcases e4 with e4|⟨g,cur,f1,f2,f3,f4⟩
 ·exact .inl e4
 ·refine .inr ⟨g,cur,f1,f2,f3,?_⟩
  rw [aD] at f4
  rw [f4,List.flatMap_map]
theorem Ent.n5 {α β:Type} {f:α→β} {enc:β→List Value} {sz E:Nat} {ad:Option Addr} {cap:Nat} {xs:List α} {L:List HP}:Ent (osl (fun x=>enc (f x)) sz E ad cap xs::L) (osl enc sz E ad cap (xs.map f)::L):=fun θ R w s=>by
 obtain ⟨ok,ι,h,a,b1,c,ι₀,h₁,h₂,d1,d2,d3,d4,⟨e1,e2,e3,e4⟩,d6⟩:=s
 refine ⟨ok,ι,h,a,b1,c,ι₀,h₁,h₂,d1,d2,d3,d4,⟨fun y hy=>?_,by simpa using e2,e3,?_⟩,d6⟩
 ·obtain ⟨x,hx,rfl⟩:=List.mem_map.1 hy
  exact e1 x hx
 rcases e4 with e4|⟨g,cur,f1,f2,f3,f4⟩
 ·exact .inl e4
 ·refine .inr ⟨g,cur,f1,f2,f3,?_⟩
  rw [aD,f4,List.flatMap_map]
end Go.V
