/- Lemmas. -/
import Derived.Test.YtommnllbflbdmaaGreatDoorLaq
import Derived.Shelf.SlSortCmp.WholeK
import Derived.Shelf.SlSortCmp.Whole1
import Derived.Shelf.SlSortCmp.NoneTotal
set_option linter.all false
set_option maxHeartbeats 1000000
namespace Go.Proofs.YtommnllbflbdmaaGreatDoor
open Go.V
attribute [local irreducible] G GO GP GPW GPK Ev Ef EfR Ent CB GB Enters
theorem Et{u y1 y0 B:Nat}(hu:u<y1*B+y0)(h0:y0<B)(h1:B≤2*y1)(hp:0<y1):u / y1≤B+1:=by
 have h:u / y1<B+2:=by
  rw[fh hp,fX,ee B y1];omega
 omega
theorem GA(n v0 y B:Nat)(hy:0<y):(n*B+v0) / y=n / y*B+(n % y*B+v0) / y∧(n*B+v0) % y=(n % y*B+v0) % y:=by
 have h:=fb n y
 have e:n*B+v0=y*(n / y*B)+(n % y*B+v0):=by
  conv=>lhs;rw[←h]
  rw[fX,gL,dH]
 rw[e];rw[Nat.mul_add_div hy,Nat.mul_add_mod];exact⟨rfl,rfl⟩
theorem Cx{s:Nat}(hs:s≤64):2 ^ (64 - s)*2 ^ s=18446744073709551616:=by
 rw[←Nat.pow_add,Nat.sub_add_cancel hs]
theorem FP{hi lo y s:Nat}(hs:s≤64)(hy:hi<y)(hl:lo<18446744073709551616)(h2:y*2 ^ s<18446744073709551616) :
  hi*2 ^ s<18446744073709551616∧lo / 2 ^ (64 - s)<2 ^ s∧(hi*2 ^ s+lo / 2 ^ (64 - s))*18446744073709551616+lo*2 ^ s % 18446744073709551616=(hi*18446744073709551616+lo)*2 ^ s∧hi*2 ^ s+lo / 2 ^ (64 - s)<y*2 ^ s:=by
 have hp:=Cx hs;have hpos:0<2 ^ s:=Nat.pow_pos ae;have hpos2:0<2 ^ (64 - s):=Nat.pow_pos ae;have h3:hi*2 ^ s≤y*2 ^ s:=dz _ ac
 have h4:lo / 2 ^ (64 - s)<2 ^ s:=by
  rw[fh hpos2,ee,hp];exact hl
 have h5:lo*2 ^ s / 18446744073709551616=lo / 2 ^ (64 - s):=by
  rw[←hp,Nat.mul_div_mul_right _ _ hpos]
 have h6:=fb (lo*2 ^ s) 18446744073709551616;rw[h5] at h6;refine⟨ac,h4,?_,?_⟩
 ·rw[fX,fX,Nat.mul_right_comm hi (2 ^ s) 18446744073709551616];omega
 ·have h7:(hi+1)*2 ^ s≤y*2 ^ s:=dz _ hy;rw[fX] at h7;omega
theorem Em{a b s:Nat}(hb:b<2 ^ s):a*2 ^ s ||| b=a*2 ^ s+b:=by
 rw[←Nat.shiftLeft_eq,Nat.shiftLeft_add_eq_or_of_lt hb]
theorem GC{N y s:Nat}:N*2 ^ s / (y*2 ^ s)=N / y∧N*2 ^ s % (y*2 ^ s) / 2 ^ s=N % y:=by
 have hpos:0<2 ^ s:=Nat.pow_pos ae;refine⟨Nat.mul_div_mul_right _ _ hpos,?_⟩;rw[Nat.mul_mod_mul_right,Nat.mul_div_cancel _ hpos]
abbrev len8:ByteArray:={ data:=(([0,1,2,2,3,3,3,3,4,4,4,4,4,4,4,4,5,5,5,5,5,5,5,5,5,5,5,5,5,5,5,5,6,6,6,6,6,6,6,6,6,6,6,6,6,6,6,6,6,6,6,6,6,6,6,6,6,6,6,6,6,6,6,6].append [7,7,7,7,7,7,7,7,7,7,7,7,7,7,7,7,7,7,7,7,7,7,7,7,7,7,7,7,7,7,7,7,7,7,7,7,7,7,7,7,7,7,7,7,7,7,7,7,7,7,7,7,7,7,7,7,7,7,7,7,7,7,7,7]).append ([8,8,8,8,8,8,8,8,8,8,8,8,8,8,8,8,8,8,8,8,8,8,8,8,8,8,8,8,8,8,8,8,8,8,8,8,8,8,8,8,8,8,8,8,8,8,8,8,8,8,8,8,8,8,8,8,8,8,8,8,8,8,8,8].append [8,8,8,8,8,8,8,8,8,8,8,8,8,8,8,8,8,8,8,8,8,8,8,8,8,8,8,8,8,8,8,8,8,8,8,8,8,8,8,8,8,8,8,8,8,8,8,8,8,8,8,8,8,8,8,8,8,8,8,8,8,8,8,8])).toArray }
theorem Es:∀c:Nat,c<256→1≤c→1≤((ed len8)[c]!).toNat∧2 ^ (((ed len8)[c]!).toNat - 1)≤c∧c<2 ^ ((ed len8)[c]!).toNat∧0≤(ed len8)[c]!∧(ed len8)[c]!≤8:=by decide +kernel
theorem CY:len8.size=256:=by decide +kernel
theorem Gy{x l k:Nat}(h1:2 ^ (l - 1)≤x / 2 ^ k)(h2:x / 2 ^ k<2 ^ l)(hl:1≤l):2 ^ (l+k - 1)≤x∧x<2 ^ (l+k):=by
 have hp:0<2 ^ k:=Nat.pow_pos ae;constructor
 ·rw[show l+k - 1=l - 1+k by omega,Nat.pow_add];exact(Nat.le_div_iff_mul_le hp).1 h1
 ·rw[Nat.pow_add];exact(fh hp).1 h2
theorem Bq{L:LH}(x:Nat)(hx:x<18446744073709551616)(h0:1≤x) :
  Tri ah 167 #[.int .u64 (x:Int)] L (fun v L'=>∃l:Nat,v=ab (l:Int)∧(1≤l∧l≤64∧2 ^ (l - 1)≤x∧x<2 ^ l)∧L' = L):=by
 have hsz:=CY;refine Tri.body (args:=[.int .u64 (x:Int)]) 25 Jp Tryz.func167 rfl rfl rfl (by simp) ?_;repeat first|((fail_if_success (with_reducible refine G.e7 1 ?_));(with_reducible apply G.seq))|refine bB ?_|intro
 refine G.d9 (α:=Nat×Nat) (fun g=>(g.2=0∨g.2=32)∧g.1=x / 2 ^ g.2∧g.1<4294967296∧1≤g.1) (fun g=>[(0,.int .u64 (g.1:Int)),(2,ab (g.2:Int))]) (fun _=>L) ?_ ?_
 ·by_cases h:4294967296≤x
  ·repeat first|refine aa ?_|intro
   refine GO.ev (Ev.l6 rfl rfl) ae ?_;repeat first|refine aa ?_|intro
   refine⟨(x / 4294967296,32),⟨.inr rfl,by simp,by dsimp only;omega,by dsimp only;omega⟩,aj,Ent.refl _⟩
  ·repeat first|refine aa ?_|intro
   refine⟨(x,0),⟨.inl rfl,by simp,by dsimp only;omega,h0⟩,aj,Ent.refl _⟩
 rintro⟨a,k⟩ ⟨hk,ha,ha1,ha2⟩;dsimp only at hk ha ha1 ha2 ⊢;refine G.d9 (α:=Nat×Nat) (fun g=>(g.2≤48)∧g.1=x / 2 ^ g.2∧g.1<65536∧1≤g.1) (fun g=>[(0,.int .u64 (g.1:Int)),(2,ab (g.2:Int))]) (fun _=>L) ?_ ?_
 ·by_cases h:65536≤a
  ·repeat first|refine aa ?_|intro
   refine GO.ev (Ev.o7 16 rfl ae rfl rfl) ae ?_;repeat first|refine aa ?_|intro
   refine⟨(a / 2 ^ 16,k+16),⟨by dsimp only;omega,by dsimp only;rw[ha,Nat.div_div_eq_div_mul,←Nat.pow_add],by dsimp only;omega,by dsimp only;omega⟩,?_,Ent.refl _⟩;dsimp only;rw[show((k+16:Nat):Int)=(k:Int)+16 by omega];exact aj
  ·repeat first|refine aa ?_|intro
   refine⟨(a,k),⟨by dsimp only;omega,ha,by dsimp only;omega,ha2⟩,aj,Ent.refl _⟩
 clear hk ha ha1 ha2;rintro⟨a,k⟩ ⟨hk,ha,ha1,ha2⟩;dsimp only at hk ha ha1 ha2 ⊢;refine G.d9 (α:=Nat×Nat) (fun g=>(g.2≤56)∧g.1=x / 2 ^ g.2∧g.1<256∧1≤g.1) (fun g=>[(0,.int .u64 (g.1:Int)),(2,ab (g.2:Int))]) (fun _=>L) ?_ ?_
 ·by_cases h:256≤a
  ·repeat first|refine aa ?_|intro
   refine GO.ev (Ev.o7 8 rfl ae rfl rfl) ae ?_;repeat first|refine aa ?_|intro
   refine⟨(a / 2 ^ 8,k+8),⟨by dsimp only;omega,by dsimp only;rw[ha,Nat.div_div_eq_div_mul,←Nat.pow_add],by dsimp only;omega,by dsimp only;omega⟩,?_,Ent.refl _⟩;dsimp only;rw[show((k+8:Nat):Int)=(k:Int)+8 by omega];exact aj
  ·repeat first|refine aa ?_|intro
   refine⟨(a,k),⟨by dsimp only;omega,ha,by dsimp only;omega,ha2⟩,aj,Ent.refl _⟩
 clear hk ha ha1 ha2;rintro⟨a,k⟩ ⟨hk,ha,ha1,ha2⟩;dsimp only at hk ha ha1 ha2 ⊢;obtain⟨t1,t2,t3,t4,t5⟩:=Es a ha1 ha2;have hai:(a:Int).toNat=a:=ac;repeat first|refine aa ?_|intro
 refine GO.ev (Ev.t7 (s:=len8) rfl rfl ac ac) ae ?_;rw[hai];generalize (ed len8)[a]! = c at t1 t2 t3 t4 t5;repeat first|refine aa ?_|intro
 refine KX.d7 ai (Ent.refl _) ⟨c.toNat+k,?_,⟨ac,ac,?_⟩,rfl⟩
 ·simp only[resV];rw[show((c.toNat+k:Nat):Int)=(k:Int)+c by omega]
 ·rw[ha] at t2 t3;exact Gy t2 t3 t1
theorem CU{L:LH}(x:Nat)(hx:x<18446744073709551616)(h0:1≤x) :
  Tri ah 276 #[.int .u64 (x:Int)] L (fun v L'=>∃s:Nat,v=ab (s:Int)∧(s≤63∧9223372036854775808≤x*2 ^ s∧x*2 ^ s<18446744073709551616)∧L' = L):=by
 refine Tri.body (args:=[.int .u64 (x:Int)]) 6 Hx Tryz.func276 rfl rfl rfl (by simp) ?_;repeat first|refine aa ?_|intro
 refine GO.ef (Ef.d7 (Bq x hx h0) rfl) ae ?_;rintro _ _⟨l,rfl,⟨l1,l2,l3,l4⟩,rfl⟩;repeat first|refine aa ?_|intro
 refine KX.d7 ai (Ent.refl _) ⟨64 - l,?_,⟨ac,?_,?_⟩,rfl⟩
 ·simp only[resV];rw[show((64 - l:Nat):Int)=64 - (l:Int) by omega]
 ·have h1:2 ^ (l - 1)*2 ^ (64 - l)≤x*2 ^ (64 - l):=dz _ l3;rw[←Nat.pow_add,show l - 1+(64 - l)=63 by omega] at h1;have:(2:Nat) ^ 63=9223372036854775808:=by decide
  omega
 ·have h1:x*2 ^ (64 - l)<2 ^ l*2 ^ (64 - l):=Nat.mul_lt_mul_of_pos_right l4 (Nat.pow_pos ae);rw[←Nat.pow_add,show l+(64 - l)=64 by omega] at h1;have:(2:Nat) ^ 64=18446744073709551616:=by decide
  omega
structure Guess (u v y1 y0 q r:Nat):Prop where
 e:u=q*y1+r
 lo:(u*4294967296+v) / (y1*4294967296+y0)≤q
 q:q≤4294967297
 r:r<4294967296
theorem nU{u v y1 y0 q r:Nat}(hu:u<y1*4294967296+y0)(hv:v<4294967296)(hy0:y0<4294967296)(hy1:2147483648≤y1)(h:Guess u v y1 y0 q r)(hc:4294967296≤q∨4294967296*r+v<q*y0) :
  1≤q∧u=(q - 1)*y1+(r+y1)∧(u*4294967296+v) / (y1*4294967296+y0)≤q - 1∧q - 1≤4294967296:=by
 have hlt:(u*4294967296+v) / (y1*4294967296+y0)<q:=by
  rcases hc with hc|hc
  ·have:=qQ hu hv (show 0<y1*4294967296+y0 by omega)
   omega
  ·exact FQ h.e hc ac
 clear hc;generalize (u*4294967296+v) / (y1*4294967296+y0)=Q at hlt;have h1:1≤q:=ac;refine⟨h1,?_,ac,by have:=h.q;omega⟩;have he:=h.e;obtain⟨p,rfl⟩:∃p,q=p+1:=⟨q - 1,ac⟩;rw[fX] at he;simp only[Nat.add_sub_cancel];omega
theorem tV{u v y1 y0 q r:Nat}(hy1:2147483648≤y1)(h:Guess u v y1 y0 q r)(hc:¬(4294967296≤q∨4294967296*r+v<q*y0)):q=(u*4294967296+v) / (y1*4294967296+y0) :=
 EV ac h.lo (zD h.e ac)
theorem qn{u v y1 y0:Nat}(hu:u<y1*4294967296+y0)(hv:v<4294967296)(hy0:y0<4294967296)(hy1:2147483648≤y1)(hy2:y1<4294967296):Guess u v y1 y0 (u / y1) (u - u / y1*y1):=by
 have h1:=fb u y1;rw[ee] at h1;have h2:=dI u (show 0<y1 by omega);exact⟨ac,Eu hv ac ae,Et hu hy0 ac ac,ac⟩
theorem tW{u v y1 y0 q r:Nat}(hy0:y0<4294967296)(h:Guess u v y1 y0 q r):q*y0<18446744073709551616:=by
 have:=Nat.mul_le_mul h.q (show y0≤4294967295 by omega)
 omega
theorem DW{A B n:Nat}(h:B≤A)(hd:A - B<18446744073709551616):(A % 18446744073709551616+18446744073709551616 - B % 18446744073709551616) % 18446744073709551616=A - B:=ac
theorem Ac(u z:Nat):(u*4294967296+z / 4294967296)*4294967296+z % 4294967296=u*18446744073709551616+z:=ac
theorem tA{u v Y:Nat}(h0:0<Y)(h1:Y<18446744073709551616):((u*4294967296 % 18446744073709551616+v) % 18446744073709551616+18446744073709551616 - (u*4294967296+v) / Y*Y % 18446744073709551616) % 18446744073709551616=(u*4294967296+v) % Y:=by
 rw[Nat.mod_add_mod];generalize u*4294967296+v=A;have h2:=fb A Y;have h3:=dI A h0;rw[ee] at h2;rw[DW (n:=0) ac ac];omega
theorem kX{u v y1 y0 q r:Nat}(hy0:y0<4294967296)(hy1:2147483648≤y1)(e:u=q*y1+r)(lo:(u*4294967296+v) / (y1*4294967296+y0)≤q)(hq:q≤4294967296)(hr:4294967296≤r):q=(u*4294967296+v) / (y1*4294967296+y0) :=
 EV ac lo (Ew e hr hq hy0)
abbrev xI:List Stp:=[.ev 0,.ev 1,.ev 2,.ev 3,.ev 4,.ev 5,.ev 6,.ev 7]
theorem aV{φ ψ:Prop}(k:ψ)(h:Hid ψ→φ:=by intro k;(with_reducible apply G.d8);first|refine G.d7 (N:=135) (id:=6) xI mixed ap (Hid.out k)):φ:=h ⟨k⟩
theorem sx{L:LH}(hi lo y:Nat)(hhi:hi<y)(hlo:lo<18446744073709551616)(hy:y<18446744073709551616) :
  Tri ah 242 #[.int .u64 (hi:Int),.int .u64 (lo:Int),.int .u64 (y:Int)] L (fun v L'=>v=.tuple #[.int .u64 (((hi*18446744073709551616+lo) / y:Nat):Int),.int .u64 (((hi*18446744073709551616+lo) % y:Nat):Int)]∧L' = L):=by
 refine Tri.body (args:=[.int .u64 (hi:Int),.int .u64 (lo:Int),.int .u64 (y:Int)]) 135 HV Tryz.func242 rfl rfl rfl (by simp) ?_;by_cases h0:hi=0
 ·subst h0;repeat first|refine aa ?_|intro _|refine aV ?_
  refine GPW.evP (Ev.z7 rfl rfl hlo ac) ae ?_;repeat first|refine aa ?_|intro _|refine aV ?_
  refine KX.d7 ai (Ent.refl _) ⟨?_,rfl⟩;simp only[resV,Nat.zero_mul,de];rfl
 repeat first|refine aa ?_|intro _|refine aV ?_
 refine GO.ef (Ef.d7 (CU y hy ac) rfl) ae ?_;rintro _ L ⟨s,rfl,⟨s1,s2,s3⟩,rfl⟩;obtain⟨n1,n2,n3,n4⟩:=FP (show s≤64 by omega) hhi hlo s3;have hs64:((64:Nat) - s)≤64:=ac;repeat first|refine aa ?_|intro _|refine aV ?_
 refine GO.ev (Ev.z6 s rfl ac rfl rfl) ae ?_;rw[Nat.mod_eq_of_lt s3];have hke:=GC (N:=hi*18446744073709551616+lo) (y:=y) (s:=s);obtain⟨Y,hY⟩:∃Y,Y=y*2 ^ s:=⟨_,rfl⟩;rw[←hY] at s2 s3 n4 hke ⊢;repeat first|refine aa ?_|intro _|refine aV ?_
 refine GO.ev (Ev.l6 rfl rfl) ae ?_;repeat first|refine aa ?_|intro _|refine aV ?_
 refine GO.ev (Ev.o8 rfl rfl s3) ae ?_;obtain⟨y1,hy1⟩:∃y1,y1=Y / 4294967296:=⟨_,rfl⟩;obtain⟨y0,hy0⟩:∃y0,y0=Y % 4294967296:=⟨_,rfl⟩;have hYe:Y=y1*4294967296+y0:=ac;rw[←hy1,←hy0];repeat first|refine aa ?_|intro _|refine aV ?_
 refine GO.ev (Ev.z6 s rfl ac rfl rfl) ae ?_;rw[Nat.mod_eq_of_lt n1];repeat first|refine aa ?_|intro _|refine aV ?_
 refine GO.ev (Ev.l5 (a:=64) (b:=s) ac ac rfl rfl) ae ?_;refine GO.ev (Ev.o7 (64 - s) rfl hs64 rfl rfl) ae ?_;refine GO.ev (Ev.orN rfl rfl n1 ac) ae ?_;rw[Em n2];repeat first|refine aa ?_|intro _|refine aV ?_
 refine GO.ev (Ev.z6 s rfl ac rfl rfl) ae ?_;obtain⟨u,hu⟩:∃u,u=hi*2 ^ s+lo / 2 ^ (64 - s):=⟨_,rfl⟩;obtain⟨z,hz⟩:∃z,z=lo*2 ^ s % 18446744073709551616:=⟨_,rfl⟩;have hzl:z<18446744073709551616:=by rw[hz];exact dI _ ae
 rw[←hu] at n3 n4;rw[←hz] at n3;rw[←hu,←hz];repeat first|refine aa ?_|intro _|refine aV ?_
 refine GO.ev (Ev.l6 rfl rfl) ae ?_;repeat first|refine aa ?_|intro _|refine aV ?_
 refine GO.ev (Ev.o8 rfl rfl hzl) ae ?_;obtain⟨z1,hz1⟩:∃z1,z1=z / 4294967296:=⟨_,rfl⟩;obtain⟨z0,hz0⟩:∃z0,z0=z % 4294967296:=⟨_,rfl⟩;rw[←hz1,←hz0];repeat first|refine aa ?_|intro _|refine aV ?_
 refine GO.ev (Ev.z7 rfl rfl ac ac) ae ?_;have hg1:Guess u z1 y1 y0 (u / y1) (u - u / y1*y1):=qn ac ac ac ac ac;have hdm:=Nat.div_mul_le_self u y1;repeat first|refine aa ?_|intro _|refine aV ?_
 refine GO.ev (Ev.f9 ac rfl rfl) ae ?_;refine GO.ev (Ev.l5 hdm ac rfl rfl) ae ?_;have hg1e:=hg1.e;generalize u / y1=q at hg1 hg1e hdm;generalize u - q*y1=r at hg1 hg1e;obtain⟨Q1,hQ1⟩:∃Q1,Q1=(u*4294967296+z1) / Y:=⟨_,rfl⟩;obtain⟨u2,hu2⟩:∃u2,u2=(u*4294967296+z1) % Y:=⟨_,rfl⟩;repeat first|((fail_if_success (with_reducible refine G.atB 0 ?_));(with_reducible apply G.seq))|refine bB ?_|intro _|refine aV ?_
 refine G.d9 (α:=Unit) (fun _=>True) (fun _=>[(2,.int .u64 (Y:Int)),(8,.int .u64 (s:Int)),(9,.int .u64 (y1:Int)),(10,.int .u64 (y0:Int)),(11,.int .u64 (u:Int)),(13,.int .u64 (z1:Int)),(14,.int .u64 (z0:Int)),(15,.int .u64 (Q1:Int))]) (fun _=>L) ?_ ?_
 ·repeat first|refine aa ?_|intro _|refine aV ?_
  refine G.loop (α:=Nat×Nat) (fun g=>Guess u z1 y1 y0 g.1 g.2) (fun g=>[(2,.int .u64 (Y:Int)),(8,.int .u64 (s:Int)),(9,.int .u64 (y1:Int)),(10,.int .u64 (y0:Int)),(11,.int .u64 (u:Int)),(13,.int .u64 (z1:Int)),(14,.int .u64 (z0:Int)),(15,.int .u64 (g.1:Int)),(16,.int .u64 (g.2:Int))]) (fun _=>L) (fun g=>g.1) (q,r) hg1 aj (Ent.refl _) ?_;clear hg1 hg1e hdm;rintro⟨q,r⟩ hg;dsimp only at hg ⊢;have hgm:=tW ac hg;have hgr:=hg.r;have hgq:=hg.q;by_cases hc1:4294967296≤q
  ·obtain⟨g1,g2,g3,g4⟩:=nU ac ac ac ac hg (.inl hc1);repeat first|refine aa ?_|intro _|refine aV ?_
   refine GO.ev (Ev.l5 (a:=q) (b:=1) g1 ac rfl rfl) ae ?_;repeat first|refine aa ?_|intro _|refine aV ?_
   refine GO.ev (Ev.g7 (a:=r) (b:=y1) ac rfl rfl) ae ?_;by_cases hbk:4294967296≤r+y1
   ·have hq:=kX ac ac g2 g3 g4 hbk;rw[←hYe,←hQ1] at hq;rw[hq];repeat first|refine aa ?_|intro _|refine aV ?_
    exact⟨(),trivial,aj,Ent.refl _⟩
   ·repeat first|refine aa ?_|intro _|refine aV ?_
    exact⟨(q - 1,r+y1),⟨g2,g3,ac,ac⟩,by dsimp only;omega,aj,Ent.refl _⟩
  ·repeat first|refine aa ?_|intro _|refine aV ?_
   refine GO.ev (Ev.f9 hgm rfl rfl) ae ?_;repeat first|refine aa ?_|intro _|refine aV ?_
   refine GO.ev (Ev.f9 (a:=4294967296) (b:=r) ac rfl rfl) ae ?_;repeat first|refine aa ?_|intro _|refine aV ?_
   refine GO.ev (Ev.g7 ac rfl rfl) ae ?_;by_cases hc2:4294967296*r+z1<q*y0
   ·obtain⟨g1,g2,g3,g4⟩:=nU ac ac ac ac hg (.inr hc2);repeat first|refine aa ?_|intro _|refine aV ?_
    refine GO.ev (Ev.l5 (a:=q) (b:=1) g1 ac rfl rfl) ae ?_;repeat first|refine aa ?_|intro _|refine aV ?_
    refine GO.ev (Ev.g7 (a:=r) (b:=y1) ac rfl rfl) ae ?_;by_cases hbk:4294967296≤r+y1
    ·have hq:=kX ac ac g2 g3 g4 hbk;rw[←hYe,←hQ1] at hq;rw[hq];repeat first|refine aa ?_|intro _|refine aV ?_
     exact⟨(),trivial,aj,Ent.refl _⟩
    ·repeat first|refine aa ?_|intro _|refine aV ?_
     exact⟨(q - 1,r+y1),⟨g2,g3,ac,ac⟩,by dsimp only;omega,aj,Ent.refl _⟩
   ·have hq:=tV ac hg ac;rw[←hYe,←hQ1] at hq;repeat first|refine aa ?_|intro _|refine aV ?_
    rw[hq];exact⟨(),trivial,aj,Ent.refl _⟩
 clear hg1 hg1e hdm q r;rintro _ _;have hYp:0<Y:=ac;have hq1:Q1<4294967296:=by rw[hQ1];exact qQ n4 ac hYp
 have hwr:=tA (u:=u) (v:=z1) hYp s3;have hk2:=GA (u*4294967296+z1) z0 Y 4294967296 hYp;have hml:u2<Y:=by rw[hu2];exact dI _ hYp
 rw[←hQ1,←hu2] at hwr hk2;have hNU:(u*4294967296+z1)*4294967296+z0=(hi*18446744073709551616+lo)*2 ^ s:=by rw[hz1,hz0,Ac,n3]
 rw[hNU,hke.1] at hk2;repeat first|refine aa ?_|intro _|refine aV ?_
 refine GO.ev (Ev.m7 (a:=u) (b:=4294967296) rfl rfl) ae ?_;repeat first|refine aa ?_|intro _|refine aV ?_
 refine GO.ev (Ev.z8 rfl rfl) ae ?_;repeat first|refine aa ?_|intro _|refine aV ?_
 refine GO.ev (Ev.m7 rfl rfl) ae ?_;refine GO.ev (Ev.y9 rfl rfl (Nat.le_of_lt (dI _ ae))) ae ?_;rw[hwr];clear hwr hQ1 hu2;repeat first|refine aa ?_|intro _|refine aV ?_
 refine GO.ev (Ev.z7 rfl rfl ac ac) ae ?_;have hg1:Guess u2 z0 y1 y0 (u2 / y1) (u2 - u2 / y1*y1):=qn ac ac ac ac ac;have hdm:=Nat.div_mul_le_self u2 y1;repeat first|refine aa ?_|intro _|refine aV ?_
 refine GO.ev (Ev.f9 ac rfl rfl) ae ?_;refine GO.ev (Ev.l5 hdm ac rfl rfl) ae ?_;have hg1e:=hg1.e;generalize u2 / y1=q at hg1 hg1e hdm;generalize u2 - q*y1=r at hg1 hg1e;repeat first|((fail_if_success (with_reducible refine G.atB 2 ?_));(with_reducible apply G.seq))|refine bB ?_|intro _|refine aV ?_
 refine G.d9 (α:=Unit) (fun _=>True) (fun _=>[(2,.int .u64 (Y:Int)),(8,.int .u64 (s:Int)),(14,.int .u64 (z0:Int)),(15,.int .u64 (Q1:Int)),(17,.int .u64 (u2:Int)),(18,.int .u64 (((u2*4294967296+z0) / Y:Nat):Int))]) (fun _=>L) ?_ ?_
 ·repeat first|refine aa ?_|intro _|refine aV ?_
  refine G.loop (α:=Nat×Nat) (fun g=>Guess u2 z0 y1 y0 g.1 g.2) (fun g=>[(2,.int .u64 (Y:Int)),(8,.int .u64 (s:Int)),(9,.int .u64 (y1:Int)),(10,.int .u64 (y0:Int)),(14,.int .u64 (z0:Int)),(15,.int .u64 (Q1:Int)),(17,.int .u64 (u2:Int)),(18,.int .u64 (g.1:Int)),(16,.int .u64 (g.2:Int))]) (fun _=>L) (fun g=>g.1) (q,r) hg1 aj (Ent.refl _) ?_;clear hg1 hg1e hdm;rintro⟨q,r⟩ hg;dsimp only at hg ⊢;have hgm:=tW ac hg;have hgr:=hg.r;have hgq:=hg.q;by_cases hc1:4294967296≤q
  ·obtain⟨g1,g2,g3,g4⟩:=nU ac ac ac ac hg (.inl hc1);repeat first|refine aa ?_|intro _|refine aV ?_
   refine GO.ev (Ev.l5 (a:=q) (b:=1) g1 ac rfl rfl) ae ?_;repeat first|refine aa ?_|intro _|refine aV ?_
   refine GO.ev (Ev.g7 (a:=r) (b:=y1) ac rfl rfl) ae ?_;by_cases hbk:4294967296≤r+y1
   ·have hq:=kX ac ac g2 g3 g4 hbk;rw[←hYe] at hq;rw[hq];repeat first|refine aa ?_|intro _|refine aV ?_
    exact⟨(),trivial,aj,Ent.refl _⟩
   ·repeat first|refine aa ?_|intro _|refine aV ?_
    exact⟨(q - 1,r+y1),⟨g2,g3,ac,ac⟩,by dsimp only;omega,aj,Ent.refl _⟩
  ·repeat first|refine aa ?_|intro _|refine aV ?_
   refine GO.ev (Ev.f9 hgm rfl rfl) ae ?_;repeat first|refine aa ?_|intro _|refine aV ?_
   refine GO.ev (Ev.f9 (a:=4294967296) (b:=r) ac rfl rfl) ae ?_;repeat first|refine aa ?_|intro _|refine aV ?_
   refine GO.ev (Ev.g7 ac rfl rfl) ae ?_;by_cases hc2:4294967296*r+z0<q*y0
   ·obtain⟨g1,g2,g3,g4⟩:=nU ac ac ac ac hg (.inr hc2);repeat first|refine aa ?_|intro _|refine aV ?_
    refine GO.ev (Ev.l5 (a:=q) (b:=1) g1 ac rfl rfl) ae ?_;repeat first|refine aa ?_|intro _|refine aV ?_
    refine GO.ev (Ev.g7 (a:=r) (b:=y1) ac rfl rfl) ae ?_;by_cases hbk:4294967296≤r+y1
    ·have hq:=kX ac ac g2 g3 g4 hbk;rw[←hYe] at hq;rw[hq];repeat first|refine aa ?_|intro _|refine aV ?_
     exact⟨(),trivial,aj,Ent.refl _⟩
    ·repeat first|refine aa ?_|intro _|refine aV ?_
     exact⟨(q - 1,r+y1),⟨g2,g3,ac,ac⟩,by dsimp only;omega,aj,Ent.refl _⟩
   ·have hq:=tV ac hg ac;rw[←hYe] at hq;repeat first|refine aa ?_|intro _|refine aV ?_
    rw[hq];exact⟨(),trivial,aj,Ent.refl _⟩
 clear hg1 hg1e hdm q r;rintro _ _;have hq0:(u2*4294967296+z0) / Y<4294967296:=qQ hml ac hYp;have hwr2:=tA (u:=u2) (v:=z0) hYp s3;repeat first|refine aa ?_|intro _|refine aV ?_
 refine GO.ev (Ev.f9 (a:=Q1) (b:=4294967296) ac rfl rfl) ae ?_;repeat first|refine aa ?_|intro _|refine aV ?_
 refine GO.ev (Ev.g7 ac rfl rfl) ae ?_;repeat first|refine aa ?_|intro _|refine aV ?_
 refine GO.ev (Ev.m7 (a:=u2) (b:=4294967296) rfl rfl) ae ?_;repeat first|refine aa ?_|intro _|refine aV ?_
 refine GO.ev (Ev.z8 rfl rfl) ae ?_;repeat first|refine aa ?_|intro _|refine aV ?_
 refine GO.ev (Ev.m7 rfl rfl) ae ?_;refine GO.ev (Ev.y9 rfl rfl (Nat.le_of_lt (dI _ ae))) ae ?_;rw[hwr2];repeat first|refine aa ?_|intro _|refine aV ?_
 refine GO.ev (Ev.o7 s rfl ac rfl rfl) ae ?_;repeat first|refine aa ?_|intro _|refine aV ?_
 refine KX.d7 ai (Ent.refl _) ⟨?_,rfl⟩;simp only[resV];rw[←hk2.1,←hk2.2,hke.2]
end Go.Proofs.YtommnllbflbdmaaGreatDoor
namespace Go.V
open Go.Sort Go.Proofs
theorem DR:∀{a b:World},a.heap=b.heap→a.tape=b.tape→a.drawn=b.drawn→a.os=b.os→a.output=b.output→a=b:=by
 rintro⟨_,_,_,_,_⟩ ⟨_,_,_,_,_⟩ h1 h2 h3 h4 h5;cases h1;cases h2;cases h3;cases h4;cases h5;rfl
theorem Tri.e7{P:Program}{f:FuncId}{args:Array Value}{L:LH}{v:Value}(h:Tri P f args L (fun u _=>u=v)){w:World}{ι:Hp}(hi:Hp.sub ι (gP w))(hs:Stars L ι Hp.emp) :
  Calls P f args w fun e w'=>e=.returned v∧∃q os',w' = grow (w.drewN q) os':=by
 have hs2:Stars L (gP w) Hp.emp:=hs.mono hi (Hp.sub.refl _);have s0:Sat ⟨w.tape,w.os,w.output,w.drawn⟩ (L++[uY w]) w:=⟨⟨rfl,rfl,rfl,aB _⟩,gP w,Hp.emp,fun _ _ _=>rfl,Hp.sub.refl _,Hp.d7 _,hs2.snoc (Hp.sub.refl _)⟩;refine(h.calls _ _ w s0).mono ?_;rintro e w' ⟨u,L',rfl,rfl,s1⟩;refine⟨rfl,w'.drawn - w.drawn,w'.heap.extract w.heap.size w'.heap.size,?_⟩;have s2:Sat ⟨w.tape,w.os,w.output,w.drawn⟩ (uY w::L') w':=s1.perm (dO _ _);obtain⟨ok,ι',h,a,b1,c,ι₀,h₁,h₂,d1,d2,d3,d4,d5,d6⟩:=s2;have hk:∀k o,w.heap[k]? = some o→w'.heap[k]? = some o:=fun k o hx=>b1 k o (d1 k o (d5 k o hx))
 have hsz:w.heap.size≤w'.heap.size:=by
  rcases cg w'.heap.size w.heap.size with hlt|hge
  ·have h1:=hk w'.heap.size _ (Array.getElem?_eq_getElem hlt);rw[Array.getElem?_eq_none (aB _)] at h1;cases h1
  ·exact hge
 have hdr:w.drawn≤w'.drawn:=ok.drawn;refine DR ?_ ok.tape ?_ ok.os ok.output
 ·show w'.heap=w.heap++w'.heap.extract w.heap.size w'.heap.size;apply Array.ext_getElem?;intro k;by_cases hk2:k<w.heap.size
  ·rw[Array.getElem?_append_left hk2,Array.getElem?_eq_getElem hk2];exact hk k _ (Array.getElem?_eq_getElem hk2)
  ·rw[Array.getElem?_append_right ac,Array.getElem?_extract];by_cases hk3:k<w'.heap.size
   ·rw[if_pos ac,show w.heap.size+(k - w.heap.size)=k by omega]
   ·rw[if_neg ac,Array.getElem?_eq_none ac]
 ·show w'.drawn=w.drawn+(w'.drawn - w.drawn);omega
theorem rC{α:Type}[Inhabited α]{enc:α→Value}{w:World}{ι:Hp}{blk off m:Nat}{d:Array α}{os:Array Obj}(hi:Hp.sub ι (gP w))(hb:ι blk=none):Hp.sub ι (gP (grow (Sort.putRow enc (Sort.ahead w m) blk off d) os)):=by
 intro k o hk;have hx:w.heap[k]? = some o:=hi k o hk;have hne:k≠blk:=by rintro rfl;rw[hb] at hk;cases hk
 have hlt:k<w.heap.size:=(Array.getElem?_eq_some_iff.1 hx).1;show(w.heap.modify blk (onCells (putCells enc off d))++os)[k]? = _;rw[Array.getElem?_append_left (by simpa using hlt),Array.getElem?_modify,if_neg (fun e=>hne e.symm),hx]
theorem vJ{vs:LV}{cur:Array Value}(hc:vs.length≤cur.size):(putCells id 0 vs.toArray cur).toList.take vs.length=vs:=by
 apply gI;intro i;by_cases hi:i<vs.length
 ·have h2:i<cur.size:=ac;rw[List.getElem?_take,if_pos hi];simp[putCells,hi,h2]
 ·rw[List.getElem?_take,if_neg hi];simp;omega
theorem Dg{g E:Nat}{cur:Array Value}{vs:LV}{w:World}(hb:w.heap[g]? = some (.cells cur E (0,0)))(ht:cur.toList.take vs.length=vs):Holds id w g 0 vs.toArray:=by
 intro j hj;have hj' : j<vs.length:=by simpa using hj
 refine⟨?_,by simp[World.frozen?,hb]⟩;rw[de,el hb];have h:(cur.toList.take vs.length)[j]? = vs[j]?:=by rw[ht]
 rw[List.getElem?_take,if_pos hj'] at h;simp[hj'] at h;simp[hj',h]
theorem Sat.f8{θ:Th}{g E:Nat}{cur:Array Value}{R:LH}{w:World}{d:Array Value}{n:Nat}{os:Array Obj}(s:Sat θ (own g (.cells cur E (0,0))::R) w) :
  Sat θ (own g (.cells (putCells id 0 d cur) E (0,0))::R) (grow (Sort.putRow id (Sort.ahead w n) g 0 d) os):=by
 have hb:=s.own_heap;have hlt:g<w.heap.size:=(Array.getElem?_eq_some_iff.1 hb).1;refine s.update ⟨s.1.tape,s.1.os,s.1.output,cB s.1.drawn (dQ _ _)⟩ ?_ ?_
 ·show(w.heap.modify g (onCells (putCells id 0 d))++os)[g]? = _;rw[Array.getElem?_append_left (by simpa using hlt),Array.getElem?_modify,if_pos rfl,hb];rfl
 ·intro k x hk hx;have hklt:k<w.heap.size:=(Array.getElem?_eq_some_iff.1 hx).1;show(w.heap.modify g (onCells (putCells id 0 d))++os)[k]? = _;rw[Array.getElem?_append_left (by simpa using hklt),Array.getElem?_modify,if_neg (fun e=>hk e.symm),hx]
theorem Tri.d8{P:Program}{f:FuncId}{E cap sz:Nat}{ad:OA}{α:Type}{enc:α→LV}{xs:List α}{Lc:LH}{fv:Value}(he:Enters P f)(hpers:∀ι h,Stars Lc ι h→Stars Lc ι Hp.emp)(good:List α→Prop)(hg0:xs=[]→good [])
  (h0:xs.length=0→∀w,Calls P f #[.slice ad 0 cap,fv] w fun e w'=>e=.returned (.tuple #[])∧w' = w)
  (h1:∀blk w ι,Hp.sub ι (gP w)→ι blk=none→Stars Lc ι Hp.emp→Holds id w blk 0 (xs.flatMap enc).toArray→blk<w.heap.size →
   Calls P f #[.slice (some ⟨blk,0,none⟩) xs.length cap,fv] w fun e w'=>e=.returned (.tuple #[])∧∃ys n os,ys.length=xs.length∧(∀y∈ys,(enc y).length=sz)∧good ys∧w' = grow (Sort.putRow id (Sort.ahead w n) blk 0 (ys.flatMap enc).toArray) os) :
  Tri P f #[.slice ad xs.length cap,fv] (osl enc sz E ad cap xs::Lc) (fun v L'=>v=.tuple #[]∧∃ys,good ys∧L' = osl enc sz E ad cap ys::Lc):=by
 refine⟨he,fun θ R w s=>?_⟩;by_cases hx:xs.length=0
 ·have e1:xs=[]:=aW hx;subst e1;refine(h0 rfl w).mono ?_;rintro e w' ⟨rfl,rfl⟩;exact⟨_,_,rfl,⟨rfl,[],hg0 rfl,rfl⟩,s⟩
 obtain⟨a1,a2,a3,a4⟩:=Sat.osl_parts (L:=Lc++R) s;rcases a4 with⟨rfl,rfl⟩|⟨g,cur,rfl,b1,b2,b3⟩
 ·omega
 have hb:=b3.own_heap;have hfl:=eO a1;have hrow:cur.toList.take (xs.flatMap enc).length=xs.flatMap enc:=by rw[hfl];exact b2
 obtain⟨ok,ι,h,a,c1,c2,ι₀,h₁,h₂,d1,d2,d3,d4,d5,d6⟩:=b3
 have hig:ι g=none:=by
  cases hι:ι g with
  | none=>rfl
  | some o =>
   have h3:=a g o hι;have h4:h g=some (.cells cur E (0,0)):=d3 g _ d5;rw[h3] at h4;cases h4
 have hLc:Stars Lc ι Hp.emp:=by
  obtain⟨x1,x2,y1,y2,y3,y4,y5⟩:=Stars.split d6;exact hpers ι x1 y4
 have b3:Sat θ (own g (.cells cur E (0,0))::(Lc++R)) w:=⟨ok,ι,h,a,c1,c2,ι₀,h₁,h₂,d1,d2,d3,d4,d5,d6⟩;refine(h1 g w ι c1 hig hLc (Dg hb hrow) (Array.getElem?_eq_some_iff.1 hb).1).mono ?_;rintro e w' ⟨rfl,ys,n,os,hl,hsz,hgood,rfl⟩;refine⟨_,_,rfl,⟨rfl,ys,hgood,rfl⟩,?_⟩;have hfl2:=eO hsz;have hle:xs.length*sz≤cap*sz:=dz _ a2;refine Sat.osl_mk (L:=Lc++R) (Sat.f8 b3) hsz ac a3 ?_ ?_
 ·simp[putCells,b1]
 ·rw[←hfl2];exact vJ (by rw[hfl2,hl,b1];exact hle)
theorem Di{α:Type}[Inhabited α]{enc:α→Value}{w:World}{g:Nat}{xs:List α}(h:Holds id w g 0 (xs.flatMap fun x=>[enc x]).toArray):Holds enc w g 0 xs.toArray:=by
 intro j hj;have hj' : j<xs.length:=by simpa using hj
 have hf:(xs.flatMap fun x=>[enc x])=xs.map enc:=mU _ xs;rw[hf] at h;have:=h j (by simpa using hj')
 simpa [hj'] using this
theorem As{α:Type}[Inhabited α]{enc:α→Value}{w:World}{g:Nat}{d:Array α}:Sort.putRow enc w g 0 d=Sort.putRow id w g 0 (d.toList.flatMap fun x=>[enc x]).toArray:=by
 have hf:∀l:List α,(l.flatMap fun x=>[enc x])=l.map enc:=fun l=>mU _ l;rw[hf];unfold Sort.putRow;congr 1;funext c;unfold putCells;apply Array.ext
 ·simp
 ·intro i h1 h2;simp only[Array.getElem_mapIdx,List.size_toArray,aG,gr,de,Nat.sub_zero,id_eq];split
  ·rename_i hlt;simp[hlt.2]
  ·rfl
theorem nj{α:Type}[Inhabited α]{xs:List α}{d' : Array α}(h:PermIn 0 xs.toArray.size xs.toArray d'):d'.toList.Perm xs:=by
 obtain⟨h1,_,h3⟩:=h;have e1:(xs.toArray.extract 0 xs.toArray.size)=xs.toArray:=by simp
 have e2:(d'.extract 0 xs.toArray.size)=d':=by rw[←h1];simp
 rw[e1,e2] at h3;simpa using h3
theorem li{α:Type}[Inhabited α]{lt:α→α→Bool}{d:Array α}(h:SortedIn lt 0 d.size d):d.toList.Pairwise (fun a b=>lt b a=false):=by
 rw[List.pairwise_iff_getElem];intro i j hi hj hij;have:=h i j (ao _) hij (by simpa using hj)
 have hi' : i<d.size:=by simpa using hi
 have hj' : j<d.size:=by simpa using hj
 simpa [hi',hj'] using this
def gh{α:Type}(cf:α→α→Int)(xs ys:List α):Prop:=ys.Perm xs∧ys.Pairwise (fun a b=>¬cf b a<0)
theorem Tri.d9{P:Program}{ρ:Go.Shelf.Ren}(S:SlLaysF.n6 P ρ)(S0:SlLaysF0.n6 P ρ){E cap:Nat}{ad:OA}{α:Type}[Inhabited α]{enc:α→Value}(h1:OneCell enc){xs:List α}{Lc:LH}{g:Nat}{cb:Array Value}(cf:α→α→Int)(hO:SWO (ltOf cf))
  (he:Enters P (ρ.f 6)) (heg:Enters P g) (hpers:∀ι h,Stars Lc ι h→Stars Lc ι Hp.emp) (hcmp:∀x y:α,Tri P g (#[enc x,enc y]++cb) Lc (fun u _=>u=ab (cf x y))) (hsz:xs.length<4611686018427387904) :
  Tri P (ρ.f 6) #[.slice ad xs.length cap,.func (.func g) #[] cb] (osl (fun x=>[enc x]) 1 E ad cap xs::Lc) (fun v L'=>v=.tuple #[]∧∃ys,gh cf xs ys∧L' = osl (fun x=>[enc x]) 1 E ad cap ys::Lc):=by
 refine Tri.d8 he hpers (gh cf xs) (fun h=>by subst h;exact⟨List.Perm.refl _,List.Pairwise.nil⟩) ?_ ?_
 ·intro h0 w;exact AnyF.slices_SortFunc_none S0 ad cap (.func (.func g) #[] cb) w
 ·intro blk w ι hi hb hL hH hblk;have hc:=Any.slices_SortFunc S enc h1 cf hO g cb blk 0 cap xs.toArray w heg (fun m os dk _ x y=>Tri.e7 (hcmp x y) (rC hi hb) hL) (Di hH) hblk (by simpa using hsz);rw[show xs.toArray.size=xs.length by simp] at hc;refine hc.mono ?_;rintro e w' ⟨rfl,d',n,os,hp,hs,rfl⟩;have hp2:d'.toList.Perm xs:=nj (by simpa using hp);have hds:d'.size=xs.length:=by have:=hp2.length_eq;simpa using this
  refine⟨rfl,d'.toList,n,os,hp2.length_eq,fun _ _=>rfl,⟨hp2,?_⟩,?_⟩
  ·rw[←hds] at hs;refine(li hs).imp ?_;intro a b hab;simpa [ltOf] using hab
  ·unfold sortWorld;rw[As]
theorem wC{α:Type}[Inhabited α]{enc:α→LV}{k:Nat}(hk:∀x,(enc x).length=k)(xs:List α):flatK enc k xs.toArray=(xs.flatMap enc).toArray:=by
 have hl:(xs.flatMap enc).length=xs.length*k:=eO (fun x _=>hk x);apply Array.ext_getElem?;intro i;by_cases h1:i<xs.length*k
 ·have hk0:0<k:=by
   rcases Nat.eq_zero_or_pos k with h|h
   ·subst h;simp at h1
   ·exact h
  have hj:i / k<xs.length:=Nat.div_lt_of_lt_mul (by rw[ee];exact h1);have ho:i % k<k:=dI _ hk0;have h2:=nX (xs:=xs) (fun x _=>hk x) hj ho;rw[show i / k*k+i % k=i from Nat.div_add_mod' i k] at h2;have h3:=get_flatK enc k xs.toArray i (by simpa using h1);have h4:i<(flatK enc k xs.toArray).size:=by rw[size_flatK];simpa using h1
  rw[getElem!_pos _ i h4] at h3;rw[Array.getElem?_eq_getElem h4,h3,List.getElem?_toArray,h2,List.getElem?_eq_getElem (by rw[hk];exact ho)];simp[hj,hk,ho]
 ·rw[Array.getElem?_eq_none (by rw[size_flatK];simpa using h1),List.getElem?_toArray,List.getElem?_eq_none ac]
theorem Tri.d7{P:Program}{ρ:Go.Shelf.Ren}(S:SlLaysF0.n6 P ρ){k E cap:Nat}(aE:∀w,(isAgg (ρ.t 24)).run P w=.ok true w)(zE:∀w,(Go.sizeOf (ρ.t 24)).run P w=.ok k w){ad:OA}{α:Type}[Inhabited α]{enc:α→LV}(hk:∀x,(enc x).length=k)(h1:∀x,∀v∈enc x,v.oneCell' = true){xs:List α}{Lc:LH}{g:Nat}{cb:Array Value}(cf:α→α→Int)(hO:SWO (ltOf cf))
  (he:Enters P (ρ.f 6)) (heg:Enters P g) (hpers:∀ι h,Stars Lc ι h→Stars Lc ι Hp.emp) (hcmp:∀x y:α,Tri P g (#[.agg (enc x).toArray,.agg (enc y).toArray]++cb) Lc (fun u _=>u=ab (cf x y))) (hsz:xs.length<4611686018427387904) :
  Tri P (ρ.f 6) #[.slice ad xs.length cap,.func (.func g) #[] cb] (osl enc k E ad cap xs::Lc) (fun v L'=>v=.tuple #[]∧∃ys,gh cf xs ys∧L' = osl enc k E ad cap ys::Lc):=by
 refine Tri.d8 he hpers (gh cf xs) (fun h=>by subst h;exact⟨List.Perm.refl _,List.Pairwise.nil⟩) ?_ ?_
 ·intro h0 w;exact AnyF.slices_SortFunc_none S ad cap (.func (.func g) #[] cb) w
 ·intro blk w ι hi hb hL hH hblk;have hc:=AnyQ.slices_SortFunc S k aE zE enc hk h1 cf hO g cb blk 0 cap xs.toArray w heg (fun m os dk _ x y=>Tri.e7 (hcmp x y) (rC hi hb) hL) (by unfold HoldsK;rw[wC hk];exact hH) hblk (by simpa using hsz);rw[show xs.toArray.size=xs.length by simp] at hc;refine hc.mono ?_;rintro e w' ⟨rfl,d',n,os,hp,hs,rfl⟩;have hp2:d'.toList.Perm xs:=nj (by simpa using hp);have hds:d'.size=xs.length:=by have:=hp2.length_eq;simpa using this
  refine⟨rfl,d'.toList,n,os,hp2.length_eq,fun y _=>hk y,⟨hp2,?_⟩,?_⟩
  ·rw[←hds] at hs;refine(li hs).imp ?_;intro a b hab;simpa [ltOf] using hab
  ·unfold sortWorldK putRowK;have:=wC hk d'.toList
   simp only[Array.toArray_toList] at this;rw[this]
theorem Ent.o0{α β:Type}{f:α→β}{enc:β→LV}{sz E:Nat}{ad:OA}{cap:Nat}{xs:List α}{L:LH}:Ent (osl enc sz E ad cap (xs.map f)::L) (osl (fun x=>enc (f x)) sz E ad cap xs::L):=fun θ R w s=>by
 obtain⟨ok,ι,h,a,b1,c,ι₀,h₁,h₂,d1,d2,d3,d4,⟨e1,e2,e3,e4⟩,d6⟩:=s;refine⟨ok,ι,h,a,b1,c,ι₀,h₁,h₂,d1,d2,d3,d4,⟨fun x hx=>e1 _ (alStd0List_mem_map_of_mem hx),by simpa using e2,e3,?_⟩,d6⟩;rcases e4 with e4|⟨g,cur,f1,f2,f3,f4⟩
 ·exact .inl e4
 ·refine .inr ⟨g,cur,f1,f2,f3,?_⟩;rw[aG] at f4;rw[f4,List.flatMap_map]
theorem Ent.n9{α β:Type}{f:α→β}{enc:β→LV}{sz E:Nat}{ad:OA}{cap:Nat}{xs:List α}{L:LH}:Ent (osl (fun x=>enc (f x)) sz E ad cap xs::L) (osl enc sz E ad cap (xs.map f)::L):=fun θ R w s=>by
 obtain⟨ok,ι,h,a,b1,c,ι₀,h₁,h₂,d1,d2,d3,d4,⟨e1,e2,e3,e4⟩,d6⟩:=s;refine⟨ok,ι,h,a,b1,c,ι₀,h₁,h₂,d1,d2,d3,d4,⟨fun y hy=>?_,by simpa using e2,e3,?_⟩,d6⟩
 ·obtain⟨x,hx,rfl⟩:=List.mem_map.1 hy;exact e1 x hx
 rcases e4 with e4|⟨g,cur,f1,f2,f3,f4⟩
 ·exact .inl e4
 ·refine .inr ⟨g,cur,f1,f2,f3,?_⟩;rw[aG,f4,List.flatMap_map]
