/- Lemmas and contracts of functions, in the order: Q16, Q17, Q18, Q19, Q20. -/
import Derived.Test.YtfmgkkofledkbaaGreatDoorGCraftAlle
import Derived.Lib.Mul64
set_option linter.all false
set_option maxHeartbeats 1000000
namespace Go.Proofs.YtfmgkkofledkbaaGreatDoor
theorem DK {u v y1 y0 B:Nat} (hv:v<B) (hy:0<y1) (h0:0<B):(u*B+v) / (y1*B+y0)≤u / y1:=by
 rw [Nat.le_div_iff_mul_le hy]
 have hd:(u*B+v) / (y1*B+y0)*(y1*B+y0)≤u*B+v:=Nat.div_mul_le_self _ _
 generalize (u*B+v) / (y1*B+y0)=q at *
 have h1:q*y1*B≤q*(y1*B+y0):=by rw [Nat.mul_add,Nat.mul_assoc];exact Nat.le_add_right _ _
 have h2:q*y1*B<(u+1)*B:=by rw [Nat.add_mul];omega
 have h3:=Nat.lt_of_mul_lt_mul_right h2
 omega
theorem yJ {u v y1 y0 B q r:Nat} (hr:u=q*y1+r) (h:q*y0≤B*r+v):q*(y1*B+y0)≤u*B+v:=by
 subst hr
 rw [Nat.mul_add,Nat.add_mul,← Nat.mul_assoc,Nat.mul_comm r B]
 omega
theorem Ff {u v y1 y0 B q r:Nat} (hr:u=q*y1+r) (h:B*r+v<q*y0) (hy:0<y1*B+y0):(u*B+v) / (y1*B+y0)<q:=by
 rw [Nat.div_lt_iff_lt_mul hy]
 subst hr
 rw [Nat.mul_add,Nat.add_mul,← Nat.mul_assoc,Nat.mul_comm r B]
 omega
theorem pF {u v y B:Nat} (hu:u<y) (hv:v<B) (hy:0<y):(u*B+v) / y<B:=by
 rw [Nat.div_lt_iff_lt_mul hy]
 have h1:(u+1)*B≤y*B:=Nat.mul_le_mul_right _ hu
 rw [Nat.add_mul] at h1
 rw [Nat.mul_comm B y]
 omega
theorem DL {u v y1 y0 B q r:Nat} (hr:u=q*y1+r) (hB:B≤r) (hq:q≤B) (hy:y0<B):q*(y1*B+y0)≤u*B+v:=by
 refine yJ hr ?_
 have h1:q*y0≤B*y0:=Nat.mul_le_mul_right _ hq
 have h2:B*y0≤B*r:=Nat.mul_le_mul_left _ (by omega)
 omega
theorem Et {n y q:Nat} (hy:0<y) (h1:n / y≤q) (h2:q*y≤n):q=n / y:=by
 have h3:q≤n / y:=(Nat.le_div_iff_mul_le hy).2 h2
 omega
end Go.Proofs.YtfmgkkofledkbaaGreatDoor
namespace Go.Proofs.YtfmgkkofledkbaaGreatDoor
open Go.V
theorem ml (l:List Lot):∀ i,i≤l.length→(List.range i).foldl (fun s k=>s+l[k]!.2.2) 0=lsum (l.take i):=by
 intro i
 induction i with
 | zero=>intro _;simp [lsum]
 | succ i ih =>
  intro hi
  rw [List.range_succ,List.foldl_append,ih ab,dL l ab]
  rfl
theorem fk (l:List Lot):lsum (l.take l.length)=lsum l:=by rw [List.take_of_length_le (Nat.le_refl _)]
theorem oF {f g:Nat→Int}:∀ (n:Nat),(∀ k,k<n→f k=g k)→(List.range n).foldl (fun s k=>s+f k) 0=(List.range n).foldl (fun s k=>s+g k) (0:Int):=by
 intro n
 induction n with
 | zero=>intro _;rfl
 | succ n ih =>
  intro h
  rw [List.range_succ,List.foldl_append,List.foldl_append,ih (fun k hk=>h k ab)]
  simp [h n ab]
theorem jj {l:List Lot} (h:∀ x∈l,LotOk x) {k:Nat} (hk:k<l.length):0<lsum l:=by
 have h1:=fg h k ab
 have h2:=dL l hk
 have h3:=h _ (ap hk)
 unfold LotOk at h3
 have h4:∀ j,k+1≤j→j≤l.length→lsum (l.take (k+1))≤lsum (l.take j):=by
  intro j
  induction j with
  | zero=>intro h;omega
  | succ j ih =>
   intro hj hjl
   rcases Nat.lt_or_ge k j with h5|h5
   ·have h6:=ih ab ab
    have h7:=dL l (show j<l.length by omega)
    have h8:=h _ (ap (show j<l.length by omega))
    unfold LotOk at h8
    omega
   ·obtain rfl:j=k:=ab
    exact Int.le_refl _
 have h5:=h4 l.length ab (Nat.le_refl _)
 rw [fk] at h5
 omega
theorem BN {l:List Lot} {n:Int} (hl:∀ x∈l,LotOk x) (h0:0≤n) (h1:n≤lsum l) (k:Nat) (hk:k<l.length):0≤shC l n k∧shC l n k≤l[k]!.2.2:=by
 have hs:=jj hl hk
 have hw:=hl _ (ap hk)
 unfold LotOk at hw
 have hq0:0≤shQ l n k:=Int.ediv_nonneg (Int.mul_nonneg h0 ab) ab
 unfold shC
 rcases Int.lt_or_le n (lsum l) with hlt|hge
 ·have hq1:shQ l n k<l[k]!.2.2:=by
   unfold shQ
   refine Int.ediv_lt_of_lt_mul hs ?_
   rw [Int.mul_comm]
   exact Int.mul_lt_mul_of_pos_left hlt ab
  constructor
  ·split<;>omega
  ·split<;>omega
 ·have hn:n=lsum l:=ab
  have hqe:∀ j,shQ l n j=l[j]!.2.2:=by
   intro j
   unfold shQ
   rw [hn]
   exact Int.mul_ediv_cancel_left _ ab
  have hleft:dD l n=0:=by
   unfold dD
   rw [oF (g:=fun j=>l[j]!.2.2) l.length (fun j _=>hqe j),ml l l.length (Nat.le_refl _),fk]
   omega
  rw [hleft,hqe k]
  constructor
  ·split<;>omega
  ·rw [if_neg ab]
   omega
theorem ua (mixed:Bool) (l:List Lot) (n:Int) (hl:∀ x∈l,LotOk x) (h0:0≤n) (h1:n≤lsum l) (k:Nat) (hk:k<l.length):0≤tkC mixed l n k∧tkC mixed l n k≤l[k]!.2.2:=by
 unfold tkC
 split
 ·exact BN hl h0 h1 k hk
 ·exact lI h0 (fun x h=>(hl x h).w) k hk
end Go.Proofs.YtfmgkkofledkbaaGreatDoor
namespace Go.V
theorem G.atB {P:Program} {N:Nat} {env:Env} {L:List HP} {K:Post} (id:Nat) {c y:Code} (h:G P N (.seq (.block id c) y) env L K):G P N (.seq (.block id c) y) env L K:=h
section
variable {P:Program} {env:Env} {L:List HP} {ty:TypeId} {t yt:TypeId} {x y:Operand} {a b:Nat}
theorem Ev.r7 (hx:evE env x=some (.int .u64 (a:Int))) (hy:evE env y=some (.int .u64 (b:Int))):Ev P L env (.binOp .add t x y yt) ty (.int .u64 (((a+b) % 18446744073709551616:Nat):Int)):=by
 have h:=Ev.o7 (P:=P) (L:=L) (ty:=ty) (t:=t) (yt:=yt) hx hy
 rw [IntKind.wrap_u64,show ((a:Int)+(b:Int)) % 18446744073709551616=(((a+b) % 18446744073709551616:Nat):Int) by omega] at h
 exact h
theorem Ev.c9 (hs:a+b<18446744073709551616) (hx:evE env x=some (.int .u64 (a:Int))) (hy:evE env y=some (.int .u64 (b:Int))):Ev P L env (.binOp .add t x y yt) ty (.int .u64 ((a+b:Nat):Int)):=by
 have h:=Ev.r7 (P:=P) (L:=L) (ty:=ty) (t:=t) (yt:=yt) hx hy
 rw [Nat.mod_eq_of_lt hs] at h
 exact h
theorem Ev.q8 (hx:evE env x=some (.int .u64 (a:Int))) (hy:evE env y=some (.int .u64 (b:Int))) (hb:b≤18446744073709551616):Ev P L env (.binOp .sub t x y yt) ty (.int .u64 (((a+18446744073709551616 - b) % 18446744073709551616:Nat):Int)):=by
 have h:=Ev.z7 (P:=P) (L:=L) (ty:=ty) (t:=t) (yt:=yt) hx hy
 rw [IntKind.wrap_u64,show ((a:Int) - (b:Int)) % 18446744073709551616=(((a+18446744073709551616 - b) % 18446744073709551616:Nat):Int) by omega] at h
 exact h
theorem Ev.d9 (hs:b≤a) (ha:a<18446744073709551616) (hx:evE env x=some (.int .u64 (a:Int))) (hy:evE env y=some (.int .u64 (b:Int))):Ev P L env (.binOp .sub t x y yt) ty (.int .u64 ((a - b:Nat):Int)):=by
 have h:=Ev.q8 (P:=P) (L:=L) (ty:=ty) (t:=t) (yt:=yt) hx hy ab
 rw [show (a+18446744073709551616 - b) % 18446744073709551616=a - b by omega] at h
 exact h
theorem Ev.k5 (hx:evE env x=some (.int .u64 (a:Int))) (hy:evE env y=some (.int .u64 (b:Int))):Ev P L env (.binOp .mul t x y yt) ty (.int .u64 ((a*b % 18446744073709551616:Nat):Int)):=by
 have h:=Ev.o6 (P:=P) (L:=L) (ty:=ty) (t:=t) (yt:=yt) hx hy
 have e:((a:Int)*(b:Int)) % 18446744073709551616=((a*b % 18446744073709551616:Nat):Int):=by simp
 rw [IntKind.wrap_u64,e] at h
 exact h
theorem Ev.d7 (hs:a*b<18446744073709551616) (hx:evE env x=some (.int .u64 (a:Int))) (hy:evE env y=some (.int .u64 (b:Int))):Ev P L env (.binOp .mul t x y yt) ty (.int .u64 ((a*b:Nat):Int)):=by
 have h:=Ev.k5 (P:=P) (L:=L) (ty:=ty) (t:=t) (yt:=yt) hx hy
 rw [Nat.mod_eq_of_lt hs] at h
 exact h
theorem Ev.r4 (hx:evE env x=some (.int .u64 (a:Int))) (hy:evE env y=some (.int .u64 (b:Int))) (ha:a<18446744073709551616) (hb:0<b):Ev P L env (.binOp .quo t x y yt) ty (.int .u64 ((a / b:Nat):Int)):=by
 have h:=Ev.w6 (P:=P) (L:=L) (ty:=ty) (t:=t) (yt:=yt) hx hy ab ab ab
 rw [show ((a:Int) / (b:Int))=((a / b:Nat):Int) from (Int.natCast_ediv a b).symm] at h
 exact h
theorem Ev.l7 (hx:evE env x=some (.int .u64 (a:Int))) (hy:evE env y=some (.int .u64 4294967295)) (ha:a<18446744073709551616):Ev P L env (.binOp .and t x y yt) ty (.int .u64 ((a % 4294967296:Nat):Int)):=by
 have h:=Ev.z6 (P:=P) (L:=L) (ty:=ty) (t:=t) (yt:=yt) hx hy ab ab ab ab
 have e:((a:Int).toNat &&& (4294967295:Int).toNat)=a % 4294967296:=by
  rw [Int.toNat_natCast,show (4294967295:Int).toNat=2 ^ 32 - 1 by decide,Nat.and_two_pow_sub_one_eq_mod]
 rw [e] at h
 exact h
theorem Ev.j9 {k:IntKind} {c:Int} (n:Nat) (hn:c=n) (h64:n≤64) (hx:evE env x=some (.int .u64 (a:Int))) (hy:evE env y=some (.int k c)):Ev P L env (.binOp .shr t x y yt) ty (.int .u64 ((a / 2 ^ n:Nat):Int)):=by
 have h:=Ev.shr (P:=P) (L:=L) (ty:=ty) (t:=t) (yt:=yt) hx hy ab
 have e:((a:Nat):Int).fdiv (2 ^ min c.toNat IntKind.u64.bits)=((a / 2 ^ n:Nat):Int):=by
  have e2:min c.toNat IntKind.u64.bits=n:=by simp [IntKind.bits];omega
  rw [e2,Int.fdiv_eq_ediv_of_nonneg _ (Int.le_of_lt (Int.pow_pos ac))]
  simp
 rw [e] at h
 exact h
theorem Ev.g6 (hx:evE env x=some (.int .u64 (a:Int))) (hy:evE env y=some (.int .u64 32)):Ev P L env (.binOp .shr t x y yt) ty (.int .u64 ((a / 4294967296:Nat):Int)):=by
 have h:=Ev.j9 (P:=P) (L:=L) (ty:=ty) (t:=t) (yt:=yt) 32 rfl ac hx hy
 rw [show (2:Nat) ^ 32=4294967296 by decide] at h
 exact h
theorem Ev.q9 {k:IntKind} {c:Int} (n:Nat) (hn:c=n) (h64:n≤64) (hx:evE env x=some (.int .u64 (a:Int))) (hy:evE env y=some (.int k c)):Ev P L env (.binOp .shl t x y yt) ty (.int .u64 ((a*2 ^ n % 18446744073709551616:Nat):Int)):=by
 have h:=Ev.shl (P:=P) (L:=L) (ty:=ty) (t:=t) (yt:=yt) hx hy ab
 have e:IntKind.u64.wrap ((a:Int)*2 ^ min c.toNat IntKind.u64.bits)=((a*2 ^ n % 18446744073709551616:Nat):Int):=by
  have e2:min c.toNat IntKind.u64.bits=n:=by simp [IntKind.bits];omega
  rw [e2,IntKind.wrap_u64]
  simp
 rw [e] at h
 exact h
theorem Ev.orN (hx:evE env x=some (.int .u64 (a:Int))) (hy:evE env y=some (.int .u64 (b:Int))) (ha:a<18446744073709551616) (hb:b<18446744073709551616):Ev P L env (.binOp .or t x y yt) ty (.int .u64 ((a ||| b:Nat):Int)):=by
 have h:=Ev.x8 (P:=P) (L:=L) (ty:=ty) (t:=t) (yt:=yt) hx hy ab ab ab ab
 rw [Int.toNat_natCast,Int.toNat_natCast] at h
 exact h
end
end Go.V
namespace Go.Proofs.YtfmgkkofledkbaaGreatDoor
open Go.V
attribute [local irreducible] G GO GP GPW GPK Ev Ef EfR Ent CB GB Enters
section
theorem AN {L:List HP} (x y:Nat) (hx:x<18446744073709551616) (hy:y<18446744073709551616) :
  Tri Tryz.prog 362 #[.int .u64 (x:Int),.int .u64 (y:Int)] L (fun v L'=>v=.tuple #[.int .u64 ((x*y / 18446744073709551616:Nat):Int),.int .u64 ((x*y % 18446744073709551616:Nat):Int)]∧L' = L):=by
 obtain ⟨m1,m2,m3,m4⟩:=Go.Lib.mul64_hi x y hx hy
 refine Tri.body (args:=[.int .u64 (x:Int),.int .u64 (y:Int)]) 51 Gj Tryz.func362 rfl rfl rfl (by simp) ?_
 repeat first|refine aa ?_|intro _
 refine GO.ev (Ev.l7 rfl rfl hx) ac ?_
 repeat first|refine aa ?_|intro _
 refine GO.ev (Ev.g6 rfl rfl) ac ?_
 repeat first|refine aa ?_|intro _
 refine GO.ev (Ev.l7 rfl rfl hy) ac ?_
 repeat first|refine aa ?_|intro _
 refine GO.ev (Ev.g6 rfl rfl) ac ?_
 have hb1:=Go.Lib.half_mul_le (a:=x / 4294967296) (b:=y / 4294967296) ab ab
 have hb2:=Go.Lib.half_mul_le (a:=x / 4294967296) (b:=y % 4294967296) ab ab
 have hb3:=Go.Lib.half_mul_le (a:=x % 4294967296) (b:=y / 4294967296) ab ab
 repeat first|refine aa ?_|intro _
 refine GO.ev (Ev.d7 m1 rfl rfl) ac ?_
 repeat first|refine aa ?_|intro _
 refine GO.ev (Ev.d7 ab rfl rfl) ac ?_
 repeat first|refine aa ?_|intro _
 refine GO.ev (Ev.g6 rfl rfl) ac ?_
 refine GO.ev (Ev.c9 m2 rfl rfl) ac ?_
 repeat first|refine aa ?_|intro _
 refine GO.ev (Ev.l7 rfl rfl m2) ac ?_
 repeat first|refine aa ?_|intro _
 refine GO.ev (Ev.g6 rfl rfl) ac ?_
 repeat first|refine aa ?_|intro _
 refine GO.ev (Ev.d7 ab rfl rfl) ac ?_
 refine GO.ev (Ev.c9 m3 rfl rfl) ac ?_
 repeat first|refine aa ?_|intro _
 refine GO.ev (Ev.d7 ab rfl rfl) ac ?_
 repeat first|refine aa ?_|intro _
 refine GO.ev (Ev.c9 ab rfl rfl) ac ?_
 repeat first|refine aa ?_|intro _
 refine GO.ev (Ev.g6 rfl rfl) ac ?_
 refine GO.ev (Ev.c9 ab rfl rfl) ac ?_
 rw [m4]
 repeat first|refine aa ?_|intro _
 refine GO.ev (Ev.k5 rfl rfl) ac ?_
 repeat first|refine aa ?_|intro _
 exact KX.a6 ai (Ent.refl _) ⟨rfl,rfl⟩
end
section
theorem DJ {u y1 y0 B:Nat} (hu:u<y1*B+y0) (h0:y0<B) (h1:B≤2*y1) (hp:0<y1):u / y1≤B+1:=by
 have h:u / y1<B+2:=by
  rw [Nat.div_lt_iff_lt_mul hp,Nat.add_mul,Nat.mul_comm B y1]
  omega
 omega
theorem FN (n v0 y B:Nat) (hy:0<y):(n*B+v0) / y=n / y*B+(n % y*B+v0) / y∧(n*B+v0) % y=(n % y*B+v0) % y:=by
 have h:=Nat.div_add_mod n y
 have e:n*B+v0=y*(n / y*B)+(n % y*B+v0):=by
  conv=>lhs;rw [← h]
  rw [Nat.add_mul,Nat.mul_assoc,Nat.add_assoc]
 rw [e]
 rw [Nat.mul_add_div hy,Nat.mul_add_mod]
 exact ⟨rfl,rfl⟩
theorem BU {s:Nat} (hs:s≤64):2 ^ (64 - s)*2 ^ s=18446744073709551616:=by
 rw [← Nat.pow_add,Nat.sub_add_cancel hs]
theorem Fe {hi lo y s:Nat} (hs:s≤64) (hy:hi<y) (hl:lo<18446744073709551616) (h2:y*2 ^ s<18446744073709551616) :
  hi*2 ^ s<18446744073709551616∧lo / 2 ^ (64 - s)<2 ^ s∧(hi*2 ^ s+lo / 2 ^ (64 - s))*18446744073709551616+lo*2 ^ s % 18446744073709551616=(hi*18446744073709551616+lo)*2 ^ s∧hi*2 ^ s+lo / 2 ^ (64 - s)<y*2 ^ s:=by
 have hp:=BU hs
 have hpos:0<2 ^ s:=Nat.pow_pos ac
 have hpos2:0<2 ^ (64 - s):=Nat.pow_pos ac
 have h3:hi*2 ^ s≤y*2 ^ s:=Nat.mul_le_mul_right _ ab
 have h4:lo / 2 ^ (64 - s)<2 ^ s:=by
  rw [Nat.div_lt_iff_lt_mul hpos2,Nat.mul_comm,hp]
  exact hl
 have h5:lo*2 ^ s / 18446744073709551616=lo / 2 ^ (64 - s):=by
  rw [← hp,Nat.mul_div_mul_right _ _ hpos]
 have h6:=Nat.div_add_mod (lo*2 ^ s) 18446744073709551616
 rw [h5] at h6
 refine ⟨ab,h4,?_,?_⟩
 ·rw [Nat.add_mul,Nat.add_mul,Nat.mul_right_comm hi (2 ^ s) 18446744073709551616]
  omega
 ·have h7:(hi+1)*2 ^ s≤y*2 ^ s:=Nat.mul_le_mul_right _ hy
  rw [Nat.add_mul] at h7
  omega
theorem Dy {a b s:Nat} (hb:b<2 ^ s):a*2 ^ s ||| b=a*2 ^ s+b:=by
 rw [← Nat.shiftLeft_eq,Nat.shiftLeft_add_eq_or_of_lt hb]
theorem FO {N y s:Nat}:N*2 ^ s / (y*2 ^ s)=N / y∧N*2 ^ s % (y*2 ^ s) / 2 ^ s=N % y:=by
 have hpos:0<2 ^ s:=Nat.pow_pos ac
 refine ⟨Nat.mul_div_mul_right _ _ hpos,?_⟩
 rw [Nat.mul_mod_mul_right,Nat.mul_div_cancel _ hpos]
abbrev len8:ByteArray:={ data:=(([0,1,2,2,3,3,3,3,4,4,4,4,4,4,4,4,5,5,5,5,5,5,5,5,5,5,5,5,5,5,5,5,6,6,6,6,6,6,6,6,6,6,6,6,6,6,6,6,6,6,6,6,6,6,6,6,6,6,6,6,6,6,6,6].append [7,7,7,7,7,7,7,7,7,7,7,7,7,7,7,7,7,7,7,7,7,7,7,7,7,7,7,7,7,7,7,7,7,7,7,7,7,7,7,7,7,7,7,7,7,7,7,7,7,7,7,7,7,7,7,7,7,7,7,7,7,7,7,7]).append ([8,8,8,8,8,8,8,8,8,8,8,8,8,8,8,8,8,8,8,8,8,8,8,8,8,8,8,8,8,8,8,8,8,8,8,8,8,8,8,8,8,8,8,8,8,8,8,8,8,8,8,8,8,8,8,8,8,8,8,8,8,8,8,8].append [8,8,8,8,8,8,8,8,8,8,8,8,8,8,8,8,8,8,8,8,8,8,8,8,8,8,8,8,8,8,8,8,8,8,8,8,8,8,8,8,8,8,8,8,8,8,8,8,8,8,8,8,8,8,8,8,8,8,8,8,8,8,8,8])).toArray }
theorem DH:∀ c:Nat,c<256→1≤c→1≤((aD len8)[c]!).toNat∧2 ^ (((aD len8)[c]!).toNat - 1)≤c∧c<2 ^ ((aD len8)[c]!).toNat∧0≤(aD len8)[c]!∧(aD len8)[c]!≤8:=by decide +kernel
theorem CC:len8.size=256:=by decide +kernel
theorem FL {x l k:Nat} (h1:2 ^ (l - 1)≤x / 2 ^ k) (h2:x / 2 ^ k<2 ^ l) (hl:1≤l):2 ^ (l+k - 1)≤x∧x<2 ^ (l+k):=by
 have hp:0<2 ^ k:=Nat.pow_pos ac
 constructor
 ·rw [show l+k - 1=l - 1+k by omega,Nat.pow_add]
  exact (Nat.le_div_iff_mul_le hp).1 h1
 ·rw [Nat.pow_add]
  exact (Nat.div_lt_iff_lt_mul hp).1 h2
theorem AR {L:List HP} (x:Nat) (hx:x<18446744073709551616) (h0:1≤x) :
  Tri Tryz.prog 175 #[.int .u64 (x:Int)] L (fun v L'=>∃ l:Nat,v=.int .i64 (l:Int)∧(1≤l∧l≤64∧2 ^ (l - 1)≤x∧x<2 ^ l)∧L' = L):=by
 have hsz:=CC
 refine Tri.body (args:=[.int .u64 (x:Int)]) 25 IA Tryz.func175 rfl rfl rfl (by simp) ?_
 repeat first|((fail_if_success (with_reducible refine G.c7 1 ?_));(with_reducible apply G.seq))|refine aL ?_|intro _
 refine G.a8 (α:=Nat×Nat) (fun g=>(g.2=0∨g.2=32)∧g.1=x / 2 ^ g.2∧g.1<4294967296∧1≤g.1) (fun g=>[(0,.int .u64 (g.1:Int)),(2,.int .i64 (g.2:Int))]) (fun _=>L) ?_ ?_
 ·by_cases h:4294967296≤x
  ·repeat first|refine aa ?_|intro _
   refine GO.ev (Ev.g6 rfl rfl) ac ?_
   repeat first|refine aa ?_|intro _
   refine ⟨(x / 4294967296,32),⟨.inr rfl,by simp,by dsimp only;omega,by dsimp only;omega⟩,aj,Ent.refl _⟩
  ·repeat first|refine aa ?_|intro _
   refine ⟨(x,0),⟨.inl rfl,by simp,by dsimp only;omega,h0⟩,aj,Ent.refl _⟩
 rintro ⟨a,k⟩ ⟨hk,ha,ha1,ha2⟩
 dsimp only at hk ha ha1 ha2 ⊢
 refine G.a8 (α:=Nat×Nat) (fun g=>(g.2≤48)∧g.1=x / 2 ^ g.2∧g.1<65536∧1≤g.1) (fun g=>[(0,.int .u64 (g.1:Int)),(2,.int .i64 (g.2:Int))]) (fun _=>L) ?_ ?_
 ·by_cases h:65536≤a
  ·repeat first|refine aa ?_|intro _
   refine GO.ev (Ev.j9 16 rfl ac rfl rfl) ac ?_
   repeat first|refine aa ?_|intro _
   refine ⟨(a / 2 ^ 16,k+16),⟨by dsimp only;omega,by dsimp only;rw [ha,Nat.div_div_eq_div_mul,← Nat.pow_add],by dsimp only;omega,by dsimp only;omega⟩,?_,Ent.refl _⟩
   dsimp only
   rw [show ((k+16:Nat):Int)=(k:Int)+16 by omega]
   exact aj
  ·repeat first|refine aa ?_|intro _
   refine ⟨(a,k),⟨by dsimp only;omega,ha,by dsimp only;omega,ha2⟩,aj,Ent.refl _⟩
 clear hk ha ha1 ha2
 rintro ⟨a,k⟩ ⟨hk,ha,ha1,ha2⟩
 dsimp only at hk ha ha1 ha2 ⊢
 refine G.a8 (α:=Nat×Nat) (fun g=>(g.2≤56)∧g.1=x / 2 ^ g.2∧g.1<256∧1≤g.1) (fun g=>[(0,.int .u64 (g.1:Int)),(2,.int .i64 (g.2:Int))]) (fun _=>L) ?_ ?_
 ·by_cases h:256≤a
  ·repeat first|refine aa ?_|intro _
   refine GO.ev (Ev.j9 8 rfl ac rfl rfl) ac ?_
   repeat first|refine aa ?_|intro _
   refine ⟨(a / 2 ^ 8,k+8),⟨by dsimp only;omega,by dsimp only;rw [ha,Nat.div_div_eq_div_mul,← Nat.pow_add],by dsimp only;omega,by dsimp only;omega⟩,?_,Ent.refl _⟩
   dsimp only
   rw [show ((k+8:Nat):Int)=(k:Int)+8 by omega]
   exact aj
  ·repeat first|refine aa ?_|intro _
   refine ⟨(a,k),⟨by dsimp only;omega,ha,by dsimp only;omega,ha2⟩,aj,Ent.refl _⟩
 clear hk ha ha1 ha2
 rintro ⟨a,k⟩ ⟨hk,ha,ha1,ha2⟩
 dsimp only at hk ha ha1 ha2 ⊢
 obtain ⟨t1,t2,t3,t4,t5⟩:=DH a ha1 ha2
 have hai:(a:Int).toNat=a:=ab
 repeat first|refine aa ?_|intro _
 refine GO.ev (Ev.m9 (s:=len8) rfl rfl ab ab) ac ?_
 rw [hai]
 generalize (aD len8)[a]! = c at t1 t2 t3 t4 t5
 repeat first|refine aa ?_|intro _
 refine KX.a6 ai (Ent.refl _) ⟨c.toNat+k,?_,⟨ab,ab,?_⟩,rfl⟩
 ·simp only [resV]
  rw [show ((c.toNat+k:Nat):Int)=(k:Int)+c by omega]
 ·rw [ha] at t2 t3
  exact FL t2 t3 t1
theorem Cx {L:List HP} (x:Nat) (hx:x<18446744073709551616) (h0:1≤x) :
  Tri Tryz.prog 368 #[.int .u64 (x:Int)] L (fun v L'=>∃ s:Nat,v=.int .i64 (s:Int)∧(s≤63∧9223372036854775808≤x*2 ^ s∧x*2 ^ s<18446744073709551616)∧L' = L):=by
 refine Tri.body (args:=[.int .u64 (x:Int)]) 6 Gh Tryz.func368 rfl rfl rfl (by simp) ?_
 repeat first|refine aa ?_|intro _
 refine GO.ef (Ef.a6 (AR x hx h0) rfl) ac ?_
 rintro _ _ ⟨l,rfl,⟨l1,l2,l3,l4⟩,rfl⟩
 repeat first|refine aa ?_|intro _
 refine KX.a6 ai (Ent.refl _) ⟨64 - l,?_,⟨ab,?_,?_⟩,rfl⟩
 ·simp only [resV]
  rw [show ((64 - l:Nat):Int)=64 - (l:Int) by omega]
 ·have h1:2 ^ (l - 1)*2 ^ (64 - l)≤x*2 ^ (64 - l):=Nat.mul_le_mul_right _ l3
  rw [← Nat.pow_add,show l - 1+(64 - l)=63 by omega] at h1
  have:(2:Nat) ^ 63=9223372036854775808:=by decide
  omega
 ·have h1:x*2 ^ (64 - l)<2 ^ l*2 ^ (64 - l):=Nat.mul_lt_mul_of_pos_right l4 (Nat.pow_pos ac)
  rw [← Nat.pow_add,show l+(64 - l)=64 by omega] at h1
  have:(2:Nat) ^ 64=18446744073709551616:=by decide
  omega
structure Guess (u v y1 y0 q r:Nat):Prop where
 e:u=q*y1+r
 lo:(u*4294967296+v) / (y1*4294967296+y0)≤q
 q:q≤4294967297
 r:r<4294967296
theorem mF {u v y1 y0 q r:Nat} (hu:u<y1*4294967296+y0) (hv:v<4294967296) (hy0:y0<4294967296) (hy1:2147483648≤y1) (h:Guess u v y1 y0 q r) (hc:4294967296≤q∨4294967296*r+v<q*y0) :
  1≤q∧u=(q - 1)*y1+(r+y1)∧(u*4294967296+v) / (y1*4294967296+y0)≤q - 1∧q - 1≤4294967296:=by
 have hlt:(u*4294967296+v) / (y1*4294967296+y0)<q:=by
  rcases hc with hc|hc
  ·have:=pF hu hv (show 0<y1*4294967296+y0 by omega)
   omega
  ·exact Ff h.e hc ab
 clear hc
 generalize (u*4294967296+v) / (y1*4294967296+y0)=Q at hlt
 have h1:1≤q:=ab
 refine ⟨h1,?_,ab,by have:=h.q;omega⟩
 have he:=h.e
 obtain ⟨p,rfl⟩:∃ p,q=p+1:=⟨q - 1,ab⟩
 rw [Nat.add_mul] at he
 simp only [Nat.add_sub_cancel]
 omega
theorem sP {u v y1 y0 q r:Nat} (hy1:2147483648≤y1) (h:Guess u v y1 y0 q r) (hc:¬(4294967296≤q∨4294967296*r+v<q*y0)):q=(u*4294967296+v) / (y1*4294967296+y0) :=
 Et ab h.lo (yJ h.e ab)
theorem oZ {u v y1 y0:Nat} (hu:u<y1*4294967296+y0) (hv:v<4294967296) (hy0:y0<4294967296) (hy1:2147483648≤y1) (hy2:y1<4294967296):Guess u v y1 y0 (u / y1) (u - u / y1*y1):=by
 have h1:=Nat.div_add_mod u y1
 rw [Nat.mul_comm] at h1
 have h2:=Nat.mod_lt u (show 0<y1 by omega)
 exact ⟨ab,DK hv ab ac,DJ hu hy0 ab ab,ab⟩
theorem sQ {u v y1 y0 q r:Nat} (hy0:y0<4294967296) (h:Guess u v y1 y0 q r):q*y0<18446744073709551616:=by
 have:=Nat.mul_le_mul h.q (show y0≤4294967295 by omega)
 omega
theorem Dl {A B n:Nat} (h:B≤A) (hd:A - B<18446744073709551616):(A % 18446744073709551616+18446744073709551616 - B % 18446744073709551616) % 18446744073709551616=A - B:=ab
theorem zc (u z:Nat):(u*4294967296+z / 4294967296)*4294967296+z % 4294967296=u*18446744073709551616+z:=ab
theorem rY {u v Y:Nat} (h0:0<Y) (h1:Y<18446744073709551616):((u*4294967296 % 18446744073709551616+v) % 18446744073709551616+18446744073709551616 - (u*4294967296+v) / Y*Y % 18446744073709551616) % 18446744073709551616=(u*4294967296+v) % Y:=by
 rw [Nat.mod_add_mod]
 generalize u*4294967296+v=A
 have h2:=Nat.div_add_mod A Y
 have h3:=Nat.mod_lt A h0
 rw [Nat.mul_comm] at h2
 rw [Dl (n:=0) ab ab]
 omega
theorem jy {u v y1 y0 q r:Nat} (hy0:y0<4294967296) (hy1:2147483648≤y1) (e:u=q*y1+r) (lo:(u*4294967296+v) / (y1*4294967296+y0)≤q) (hq:q≤4294967296) (hr:4294967296≤r):q=(u*4294967296+v) / (y1*4294967296+y0) :=
 Et ab lo (DL e hr hq hy0)
abbrev xr:List Stp:=[.ev 0,.ev 1,.ev 2,.ev 3,.ev 4,.ev 5,.ev 6,.ev 7]
theorem ay {φ ψ:Prop} (k:ψ) (h:Hid ψ→φ:=by intro k;(with_reducible apply G.a7);first|refine G.a6 (N:=135) (id:=6) xr mixed ah (Hid.out k)):φ:=h ⟨k⟩
theorem Bm {L:List HP} (hi lo y:Nat) (hhi:hi<y) (hlo:lo<18446744073709551616) (hy:y<18446744073709551616) :
  Tri Tryz.prog 363 #[.int .u64 (hi:Int),.int .u64 (lo:Int),.int .u64 (y:Int)] L (fun v L'=>v=.tuple #[.int .u64 (((hi*18446744073709551616+lo) / y:Nat):Int),.int .u64 (((hi*18446744073709551616+lo) % y:Nat):Int)]∧L' = L):=by
 refine Tri.body (args:=[.int .u64 (hi:Int),.int .u64 (lo:Int),.int .u64 (y:Int)]) 135 Gi Tryz.func363 rfl rfl rfl (by simp) ?_
 by_cases h0:hi=0
 ·subst h0
  repeat first|refine aa ?_|intro _|refine ay ?_
  refine GPW.evP (Ev.r4 rfl rfl hlo ab) ac ?_
  repeat first|refine aa ?_|intro _|refine ay ?_
  refine KX.a6 ai (Ent.refl _) ⟨?_,rfl⟩
  simp only [resV,Nat.zero_mul,Nat.zero_add]
  rfl
 repeat first|refine aa ?_|intro _|refine ay ?_
 refine GO.ef (Ef.a6 (Cx y hy ab) rfl) ac ?_
 rintro _ L ⟨s,rfl,⟨s1,s2,s3⟩,rfl⟩
 obtain ⟨n1,n2,n3,n4⟩:=Fe (show s≤64 by omega) hhi hlo s3
 have hs64:((64:Nat) - s)≤64:=ab
 repeat first|refine aa ?_|intro _|refine ay ?_
 refine GO.ev (Ev.q9 s rfl ab rfl rfl) ac ?_
 rw [Nat.mod_eq_of_lt s3]
 have hke:=FO (N:=hi*18446744073709551616+lo) (y:=y) (s:=s)
 obtain ⟨Y,hY⟩:∃ Y,Y=y*2 ^ s:=⟨_,rfl⟩
 rw [← hY] at s2 s3 n4 hke ⊢
 repeat first|refine aa ?_|intro _|refine ay ?_
 refine GO.ev (Ev.g6 rfl rfl) ac ?_
 repeat first|refine aa ?_|intro _|refine ay ?_
 refine GO.ev (Ev.l7 rfl rfl s3) ac ?_
 obtain ⟨y1,hy1⟩:∃ y1,y1=Y / 4294967296:=⟨_,rfl⟩
 obtain ⟨y0,hy0⟩:∃ y0,y0=Y % 4294967296:=⟨_,rfl⟩
 have hYe:Y=y1*4294967296+y0:=ab
 rw [← hy1,← hy0]
 repeat first|refine aa ?_|intro _|refine ay ?_
 refine GO.ev (Ev.q9 s rfl ab rfl rfl) ac ?_
 rw [Nat.mod_eq_of_lt n1]
 repeat first|refine aa ?_|intro _|refine ay ?_
 refine GO.ev (Ev.d9 (a:=64) (b:=s) ab ab rfl rfl) ac ?_
 refine GO.ev (Ev.j9 (64 - s) rfl hs64 rfl rfl) ac ?_
 refine GO.ev (Ev.orN rfl rfl n1 ab) ac ?_
 rw [Dy n2]
 repeat first|refine aa ?_|intro _|refine ay ?_
 refine GO.ev (Ev.q9 s rfl ab rfl rfl) ac ?_
 obtain ⟨u,hu⟩:∃ u,u=hi*2 ^ s+lo / 2 ^ (64 - s):=⟨_,rfl⟩
 obtain ⟨z,hz⟩:∃ z,z=lo*2 ^ s % 18446744073709551616:=⟨_,rfl⟩
 have hzl:z<18446744073709551616:=by rw [hz];exact Nat.mod_lt _ ac
 rw [← hu] at n3 n4
 rw [← hz] at n3
 rw [← hu,← hz]
 repeat first|refine aa ?_|intro _|refine ay ?_
 refine GO.ev (Ev.g6 rfl rfl) ac ?_
 repeat first|refine aa ?_|intro _|refine ay ?_
 refine GO.ev (Ev.l7 rfl rfl hzl) ac ?_
 obtain ⟨z1,hz1⟩:∃ z1,z1=z / 4294967296:=⟨_,rfl⟩
 obtain ⟨z0,hz0⟩:∃ z0,z0=z % 4294967296:=⟨_,rfl⟩
 rw [← hz1,← hz0]
 repeat first|refine aa ?_|intro _|refine ay ?_
 refine GO.ev (Ev.r4 rfl rfl ab ab) ac ?_
 have hg1:Guess u z1 y1 y0 (u / y1) (u - u / y1*y1):=oZ ab ab ab ab ab
 have hdm:=Nat.div_mul_le_self u y1
 repeat first|refine aa ?_|intro _|refine ay ?_
 refine GO.ev (Ev.d7 ab rfl rfl) ac ?_
 refine GO.ev (Ev.d9 hdm ab rfl rfl) ac ?_
 have hg1e:=hg1.e
 generalize u / y1=q at hg1 hg1e hdm
 generalize u - q*y1=r at hg1 hg1e
 obtain ⟨Q1,hQ1⟩:∃ Q1,Q1=(u*4294967296+z1) / Y:=⟨_,rfl⟩
 obtain ⟨u2,hu2⟩:∃ u2,u2=(u*4294967296+z1) % Y:=⟨_,rfl⟩
 repeat first|((fail_if_success (with_reducible refine G.atB 0 ?_));(with_reducible apply G.seq))|refine aL ?_|intro _|refine ay ?_
 refine G.a8 (α:=Unit) (fun _=>True) (fun _=>[(2,.int .u64 (Y:Int)),(8,.int .u64 (s:Int)),(9,.int .u64 (y1:Int)),(10,.int .u64 (y0:Int)),(11,.int .u64 (u:Int)),(13,.int .u64 (z1:Int)),(14,.int .u64 (z0:Int)),(15,.int .u64 (Q1:Int))]) (fun _=>L) ?_ ?_
 ·repeat first|refine aa ?_|intro _|refine ay ?_
  refine G.loop (α:=Nat×Nat) (fun g=>Guess u z1 y1 y0 g.1 g.2) (fun g=>[(2,.int .u64 (Y:Int)),(8,.int .u64 (s:Int)),(9,.int .u64 (y1:Int)),(10,.int .u64 (y0:Int)),(11,.int .u64 (u:Int)),(13,.int .u64 (z1:Int)),(14,.int .u64 (z0:Int)),(15,.int .u64 (g.1:Int)),(16,.int .u64 (g.2:Int))]) (fun _=>L) (fun g=>g.1) (q,r) hg1 aj (Ent.refl _) ?_
  clear hg1 hg1e hdm
  rintro ⟨q,r⟩ hg
  dsimp only at hg ⊢
  have hgm:=sQ ab hg
  have hgr:=hg.r
  have hgq:=hg.q
  by_cases hc1:4294967296≤q
  ·obtain ⟨g1,g2,g3,g4⟩:=mF ab ab ab ab hg (.inl hc1)
   repeat first|refine aa ?_|intro _|refine ay ?_
   refine GO.ev (Ev.d9 (a:=q) (b:=1) g1 ab rfl rfl) ac ?_
   repeat first|refine aa ?_|intro _|refine ay ?_
   refine GO.ev (Ev.c9 (a:=r) (b:=y1) ab rfl rfl) ac ?_
   by_cases hbk:4294967296≤r+y1
   ·have hq:=jy ab ab g2 g3 g4 hbk
    rw [← hYe,← hQ1] at hq
    rw [hq]
    repeat first|refine aa ?_|intro _|refine ay ?_
    exact ⟨(),trivial,aj,Ent.refl _⟩
   ·repeat first|refine aa ?_|intro _|refine ay ?_
    exact ⟨(q - 1,r+y1),⟨g2,g3,ab,ab⟩,by dsimp only;omega,aj,Ent.refl _⟩
  ·repeat first|refine aa ?_|intro _|refine ay ?_
   refine GO.ev (Ev.d7 hgm rfl rfl) ac ?_
   repeat first|refine aa ?_|intro _|refine ay ?_
   refine GO.ev (Ev.d7 (a:=4294967296) (b:=r) ab rfl rfl) ac ?_
   repeat first|refine aa ?_|intro _|refine ay ?_
   refine GO.ev (Ev.c9 ab rfl rfl) ac ?_
   by_cases hc2:4294967296*r+z1<q*y0
   ·obtain ⟨g1,g2,g3,g4⟩:=mF ab ab ab ab hg (.inr hc2)
    repeat first|refine aa ?_|intro _|refine ay ?_
    refine GO.ev (Ev.d9 (a:=q) (b:=1) g1 ab rfl rfl) ac ?_
    repeat first|refine aa ?_|intro _|refine ay ?_
    refine GO.ev (Ev.c9 (a:=r) (b:=y1) ab rfl rfl) ac ?_
    by_cases hbk:4294967296≤r+y1
    ·have hq:=jy ab ab g2 g3 g4 hbk
     rw [← hYe,← hQ1] at hq
     rw [hq]
     repeat first|refine aa ?_|intro _|refine ay ?_
     exact ⟨(),trivial,aj,Ent.refl _⟩
    ·repeat first|refine aa ?_|intro _|refine ay ?_
     exact ⟨(q - 1,r+y1),⟨g2,g3,ab,ab⟩,by dsimp only;omega,aj,Ent.refl _⟩
   ·have hq:=sP ab hg ab
    rw [← hYe,← hQ1] at hq
    repeat first|refine aa ?_|intro _|refine ay ?_
    rw [hq]
    exact ⟨(),trivial,aj,Ent.refl _⟩
 clear hg1 hg1e hdm q r
 rintro _ _
 have hYp:0<Y:=ab
 have hq1:Q1<4294967296:=by rw [hQ1];exact pF n4 ab hYp
 have hwr:=rY (u:=u) (v:=z1) hYp s3
 have hk2:=FN (u*4294967296+z1) z0 Y 4294967296 hYp
 have hml:u2<Y:=by rw [hu2];exact Nat.mod_lt _ hYp
 rw [← hQ1,← hu2] at hwr hk2
 have hNU:(u*4294967296+z1)*4294967296+z0=(hi*18446744073709551616+lo)*2 ^ s:=by rw [hz1,hz0,zc,n3]
 rw [hNU,hke.1] at hk2
 repeat first|refine aa ?_|intro _|refine ay ?_
 refine GO.ev (Ev.k5 (a:=u) (b:=4294967296) rfl rfl) ac ?_
 repeat first|refine aa ?_|intro _|refine ay ?_
 refine GO.ev (Ev.r7 rfl rfl) ac ?_
 repeat first|refine aa ?_|intro _|refine ay ?_
 refine GO.ev (Ev.k5 rfl rfl) ac ?_
 refine GO.ev (Ev.q8 rfl rfl (Nat.le_of_lt (Nat.mod_lt _ ac))) ac ?_
 rw [hwr]
 clear hwr hQ1 hu2
 repeat first|refine aa ?_|intro _|refine ay ?_
 refine GO.ev (Ev.r4 rfl rfl ab ab) ac ?_
 have hg1:Guess u2 z0 y1 y0 (u2 / y1) (u2 - u2 / y1*y1):=oZ ab ab ab ab ab
 have hdm:=Nat.div_mul_le_self u2 y1
 repeat first|refine aa ?_|intro _|refine ay ?_
 refine GO.ev (Ev.d7 ab rfl rfl) ac ?_
 refine GO.ev (Ev.d9 hdm ab rfl rfl) ac ?_
 have hg1e:=hg1.e
 generalize u2 / y1=q at hg1 hg1e hdm
 generalize u2 - q*y1=r at hg1 hg1e
 repeat first|((fail_if_success (with_reducible refine G.atB 2 ?_));(with_reducible apply G.seq))|refine aL ?_|intro _|refine ay ?_
 refine G.a8 (α:=Unit) (fun _=>True) (fun _=>[(2,.int .u64 (Y:Int)),(8,.int .u64 (s:Int)),(14,.int .u64 (z0:Int)),(15,.int .u64 (Q1:Int)),(17,.int .u64 (u2:Int)),(18,.int .u64 (((u2*4294967296+z0) / Y:Nat):Int))]) (fun _=>L) ?_ ?_
 ·repeat first|refine aa ?_|intro _|refine ay ?_
  refine G.loop (α:=Nat×Nat) (fun g=>Guess u2 z0 y1 y0 g.1 g.2) (fun g=>[(2,.int .u64 (Y:Int)),(8,.int .u64 (s:Int)),(9,.int .u64 (y1:Int)),(10,.int .u64 (y0:Int)),(14,.int .u64 (z0:Int)),(15,.int .u64 (Q1:Int)),(17,.int .u64 (u2:Int)),(18,.int .u64 (g.1:Int)),(16,.int .u64 (g.2:Int))]) (fun _=>L) (fun g=>g.1) (q,r) hg1 aj (Ent.refl _) ?_
  clear hg1 hg1e hdm
  rintro ⟨q,r⟩ hg
  dsimp only at hg ⊢
  have hgm:=sQ ab hg
  have hgr:=hg.r
  have hgq:=hg.q
  by_cases hc1:4294967296≤q
  ·obtain ⟨g1,g2,g3,g4⟩:=mF ab ab ab ab hg (.inl hc1)
   repeat first|refine aa ?_|intro _|refine ay ?_
   refine GO.ev (Ev.d9 (a:=q) (b:=1) g1 ab rfl rfl) ac ?_
   repeat first|refine aa ?_|intro _|refine ay ?_
   refine GO.ev (Ev.c9 (a:=r) (b:=y1) ab rfl rfl) ac ?_
   by_cases hbk:4294967296≤r+y1
   ·have hq:=jy ab ab g2 g3 g4 hbk
    rw [← hYe] at hq
    rw [hq]
    repeat first|refine aa ?_|intro _|refine ay ?_
    exact ⟨(),trivial,aj,Ent.refl _⟩
   ·repeat first|refine aa ?_|intro _|refine ay ?_
    exact ⟨(q - 1,r+y1),⟨g2,g3,ab,ab⟩,by dsimp only;omega,aj,Ent.refl _⟩
  ·repeat first|refine aa ?_|intro _|refine ay ?_
   refine GO.ev (Ev.d7 hgm rfl rfl) ac ?_
   repeat first|refine aa ?_|intro _|refine ay ?_
   refine GO.ev (Ev.d7 (a:=4294967296) (b:=r) ab rfl rfl) ac ?_
   repeat first|refine aa ?_|intro _|refine ay ?_
   refine GO.ev (Ev.c9 ab rfl rfl) ac ?_
   by_cases hc2:4294967296*r+z0<q*y0
   ·obtain ⟨g1,g2,g3,g4⟩:=mF ab ab ab ab hg (.inr hc2)
    repeat first|refine aa ?_|intro _|refine ay ?_
    refine GO.ev (Ev.d9 (a:=q) (b:=1) g1 ab rfl rfl) ac ?_
    repeat first|refine aa ?_|intro _|refine ay ?_
    refine GO.ev (Ev.c9 (a:=r) (b:=y1) ab rfl rfl) ac ?_
    by_cases hbk:4294967296≤r+y1
    ·have hq:=jy ab ab g2 g3 g4 hbk
     rw [← hYe] at hq
     rw [hq]
     repeat first|refine aa ?_|intro _|refine ay ?_
     exact ⟨(),trivial,aj,Ent.refl _⟩
    ·repeat first|refine aa ?_|intro _|refine ay ?_
     exact ⟨(q - 1,r+y1),⟨g2,g3,ab,ab⟩,by dsimp only;omega,aj,Ent.refl _⟩
   ·have hq:=sP ab hg ab
    rw [← hYe] at hq
    repeat first|refine aa ?_|intro _|refine ay ?_
    rw [hq]
    exact ⟨(),trivial,aj,Ent.refl _⟩
 clear hg1 hg1e hdm q r
 rintro _ _
 have hq0:(u2*4294967296+z0) / Y<4294967296:=pF hml ab hYp
 have hwr2:=rY (u:=u2) (v:=z0) hYp s3
 repeat first|refine aa ?_|intro _|refine ay ?_
 refine GO.ev (Ev.d7 (a:=Q1) (b:=4294967296) ab rfl rfl) ac ?_
 repeat first|refine aa ?_|intro _|refine ay ?_
 refine GO.ev (Ev.c9 ab rfl rfl) ac ?_
 repeat first|refine aa ?_|intro _|refine ay ?_
 refine GO.ev (Ev.k5 (a:=u2) (b:=4294967296) rfl rfl) ac ?_
 repeat first|refine aa ?_|intro _|refine ay ?_
 refine GO.ev (Ev.r7 rfl rfl) ac ?_
 repeat first|refine aa ?_|intro _|refine ay ?_
 refine GO.ev (Ev.k5 rfl rfl) ac ?_
 refine GO.ev (Ev.q8 rfl rfl (Nat.le_of_lt (Nat.mod_lt _ ac))) ac ?_
 rw [hwr2]
 repeat first|refine aa ?_|intro _|refine ay ?_
 refine GO.ev (Ev.j9 s rfl ab rfl rfl) ac ?_
 repeat first|refine aa ?_|intro _|refine ay ?_
 refine KX.a6 ai (Ent.refl _) ⟨?_,rfl⟩
 simp only [resV]
 rw [← hk2.1,← hk2.2,hke.2]
end
end Go.Proofs.YtfmgkkofledkbaaGreatDoor
namespace Go.Proofs.YtfmgkkofledkbaaGreatDoor
open Go.V
def rkLt (R:Nat→Int) (i j:Nat):Prop:=R j<R i∨(R i=R j∧i<j)
def db (R:Nat→Int) (n k:Nat):Nat:=((List.range n).filter (fun j=>decide (R k<R j∨(R j=R k∧j<k)))).length
theorem po (l:List Lot) (n:Int) (k:Nat):Eq l n k=db (shR l n) l.length k:=rfl
theorem iR {R:Nat→Int} {n:Nat} {o:List Nat} (hp:o.Perm (List.range n)) (hs:o.Pairwise (rkLt R)) {p:Nat} (h:p<o.length):db R n o[p]=p:=by
 unfold db
 rw [← (hp.filter _).length_eq]
 have hpw:=List.pairwise_iff_getElem.1 hs
 have e:o=o.take p++o[p]::o.drop (p+1):=by
  conv=>lhs;rw [← List.take_append_drop p o,List.drop_eq_getElem_cons h]
 have h1:(o.take p).filter (fun j=>decide (R o[p]<R j∨(R j=R o[p]∧j<o[p])))=o.take p:=by
  rw [List.filter_eq_self]
  intro x hx
  obtain ⟨i,hi,rfl⟩:=List.mem_iff_getElem.1 hx
  rw [List.length_take] at hi
  rw [List.getElem_take]
  have:=hpw i p ab h ab
  simpa [rkLt] using this
 have h2:(o.drop (p+1)).filter (fun j=>decide (R o[p]<R j∨(R j=R o[p]∧j<o[p])))=[]:=by
  rw [List.filter_eq_nil_iff]
  intro x hx
  obtain ⟨i,hi,rfl⟩:=List.mem_iff_getElem.1 hx
  rw [List.length_drop] at hi
  rw [List.getElem_drop]
  have:=hpw p (p+1+i) h ab ab
  unfold rkLt at this
  simp only [decide_eq_true_eq]
  omega
 have h3:(o.filter (fun j=>decide (R o[p]<R j∨(R j=R o[p]∧j<o[p])))).length=((o.take p++o[p]::o.drop (p+1)).filter (fun j=>decide (R o[p]<R j∨(R j=R o[p]∧j<o[p])))).length:=by rw [← e]
 rw [h3,List.filter_append,h1,List.filter_cons_of_neg (by simp),h2]
 simp
 omega
theorem nA (R:Nat→Int) (n:Nat):∃ o:List Nat,o.Perm (List.range n)∧o.Pairwise (rkLt R):=by
 refine ⟨(List.range n).mergeSort (fun i j=>decide (R j<R i∨(R i=R j∧i≤j))),List.mergeSort_perm _ _,?_⟩
 have hp:=List.mergeSort_perm (List.range n) (fun i j=>decide (R j<R i∨(R i=R j∧i≤j)))
 have hnd:=hp.nodup_iff.2 List.nodup_range
 have hs:=List.pairwise_mergeSort (le:=fun i j=>decide (R j<R i∨(R i=R j∧i≤j))) (by intro a b c h1 h2;simp only [decide_eq_true_eq] at *;omega) (by intro a b;simp only [Bool.or_eq_true,decide_eq_true_eq];omega) (List.range n)
 rw [List.pairwise_iff_getElem] at hs ⊢
 intro i j hi hj hij
 have h1:=hs i j hi hj hij
 have h2:=(List.pairwise_iff_getElem.1 hnd) i j hi hj hij
 simp only [decide_eq_true_eq] at h1
 unfold rkLt
 omega
theorem ut {R:Nat→Int} {n:Nat} {o:List Nat} (hp:o.Perm (List.range n)) (hs:o.Pairwise (fun a b=>¬(R a<R b∨(R a=R b∧b<a)))):o.Pairwise (rkLt R):=by
 have hnd:=hp.nodup_iff.2 List.nodup_range
 rw [List.pairwise_iff_getElem] at hs ⊢
 intro i j hi hj hij
 have h1:=hs i j hi hj hij
 have h2:=(List.pairwise_iff_getElem.1 hnd) i j hi hj hij
 unfold rkLt
 omega
theorem jv {R:Nat→Int} {n:Nat} {o:List Nat} (hp:o.Perm (List.range n)) (hs:o.Pairwise (rkLt R)) {k m:Nat} (hk:k<n):k∈o.take m↔db R n k<m:=by
 have hm:k∈o:=hp.mem_iff.2 (List.mem_range.2 hk)
 have hnd:=hp.nodup_iff.2 List.nodup_range
 obtain ⟨p,hpl,rfl⟩:=List.mem_iff_getElem.1 hm
 rw [iR hp hs hpl]
 constructor
 ·intro h
  obtain ⟨i,hi,he⟩:=List.mem_iff_getElem.1 h
  rw [List.length_take] at hi
  rw [List.getElem_take] at he
  have:=(List.getElem_inj hnd).1 he
  omega
 ·intro h
  refine List.mem_iff_getElem.2 ⟨p,by rw [List.length_take];omega,?_⟩
  rw [List.getElem_take]
theorem Gb {R:Nat→Int} {n m:Nat} (hm:m<n):∃ k,k<n∧db R n k=m∧∀ j,j<n→j≠k→m≤db R n j→rkLt R k j:=by
 obtain ⟨o,hp,hs⟩:=nA R n
 have hl:o.length=n:=by have:=hp.length_eq;simpa using this
 have hmo:m<o.length:=ab
 refine ⟨o[m],List.mem_range.1 (hp.mem_iff.1 (List.getElem_mem hmo)),iR hp hs hmo,?_⟩
 intro j hj hne hle
 have hjm:j∈o:=hp.mem_iff.2 (List.mem_range.2 hj)
 obtain ⟨p,hpl,rfl⟩:=List.mem_iff_getElem.1 hjm
 rw [iR hp hs hpl] at hle
 have hnm:p≠m:=by rintro rfl;exact hne rfl
 exact (List.pairwise_iff_getElem.1 hs) m p hmo hpl ab
theorem uu {R:Nat→Int} {n i j:Nat} (hi:i<n) (hj:j<n) (h:db R n i=db R n j):i=j:=by
 obtain ⟨o,hp,hs⟩:=nA R n
 have him:i∈o:=hp.mem_iff.2 (List.mem_range.2 hi)
 have hjm:j∈o:=hp.mem_iff.2 (List.mem_range.2 hj)
 obtain ⟨p,hpl,rfl⟩:=List.mem_iff_getElem.1 him
 obtain ⟨q,hql,rfl⟩:=List.mem_iff_getElem.1 hjm
 rw [iR hp hs hpl,iR hp hs hql] at h
 subst h
 rfl
def bQ (n:Nat) (f:Nat→Int):Int:=(List.range n).foldl (fun s k=>s+f k) 0
theorem iP (f:Nat→Int):bQ 0 f=0:=rfl
theorem cH (n:Nat) (f:Nat→Int):bQ (n+1) f=bQ n f+f n:=by
 unfold bQ
 rw [List.range_succ,List.foldl_append]
 rfl
theorem oQ {n:Nat} {f g:Nat→Int} (h:∀ k,k<n→f k=g k):bQ n f=bQ n g:=by
 induction n with
 | zero=>rfl
 | succ n ih=>rw [cH,cH,ih (fun k hk=>h k ab),h n ab]
theorem sc (n:Nat) (f g:Nat→Int):bQ n (fun k=>f k+g k)=bQ n f+bQ n g:=by
 induction n with
 | zero=>rfl
 | succ n ih=>rw [cH,cH,cH,ih];omega
theorem BI (n:Nat) (f g:Nat→Int):bQ n (fun k=>f k - g k)=bQ n f - bQ n g:=by
 induction n with
 | zero=>rfl
 | succ n ih=>rw [cH,cH,cH,ih];omega
theorem sa (n:Nat) (c:Int) (f:Nat→Int):bQ n (fun k=>c*f k)=c*bQ n f:=by
 induction n with
 | zero=>simp [iP]
 | succ n ih=>rw [cH,cH,ih,Int.mul_add]
theorem lS {n:Nat} {f g:Nat→Int} (h:∀ k,k<n→f k≤g k):bQ n f≤bQ n g:=by
 induction n with
 | zero=>exact Int.le_refl _
 | succ n ih=>rw [cH,cH];have:=ih (fun k hk=>h k ab);have:=h n ab;omega
theorem oP (n:Nat) (c:Int):bQ n (fun _=>c)=n*c:=by
 induction n with
 | zero=>simp [iP]
 | succ n ih=>rw [cH,ih,Int.natCast_succ,Int.add_mul,Int.one_mul]
theorem rT {f:Nat→Int} {l l' : List Nat} (h:l.Perm l'):∀ s:Int,l.foldl (fun s k=>s+f k) s=l'.foldl (fun s k=>s+f k) s:=by
 induction h with
 | nil=>intro s;rfl
 | cons x _ ih=>intro s;exact ih _
 | swap x y l=>intro s;simp only [List.foldl_cons];rw [show s+f y+f x=s+f x+f y by omega]
 | trans _ _ ih1 ih2=>intro s;rw [ih1,ih2]
theorem Ds (R:Nat→Int) {n m:Nat} (hm:m≤n):bQ n (fun k=>if db R n k<m then 1 else 0)=m:=by
 obtain ⟨o,hp,hs⟩:=nA R n
 have hl:o.length=n:=by have:=hp.length_eq;simpa using this
 unfold bQ
 rw [← rT hp]
 have h:∀ q,q≤n→(o.take q).foldl (fun (s:Int) k=>s+if db R n k<m then 1 else 0) 0=min q m:=by
  intro q
  induction q with
  | zero=>intro _;simp
  | succ q ih =>
   intro hq
   rw [List.take_succ_eq_append_getElem ab,List.foldl_append,ih ab]
   simp only [List.foldl_cons,List.foldl_nil]
   rw [iR hp hs ab]
   split<;>omega
 have h2:=h n (Nat.le_refl _)
 rw [List.take_of_length_le ab] at h2
 rw [h2]
 omega
theorem qM (l:List Lot):lsum l=bQ l.length (fun k=>l[k]!.2.2):=by
 unfold bQ
 rw [ml l l.length (Nat.le_refl _),fk]
theorem jF (l:List Lot) (n:Int):dD l n=n - bQ l.length (shQ l n):=rfl
theorem kL {l:List Lot} {n:Int} (hl:∀ x∈l,LotOk x) (h0:l≠[]):0≤dD l n∧dD l n<l.length:=by
 have hlen:0<l.length:=List.length_pos_iff.2 h0
 have hs:=jj hl hlen
 have h1:bQ l.length (fun k=>lsum l*shQ l n k+shR l n k)=bQ l.length (fun k=>n*l[k]!.2.2) :=
  oQ (fun k _=>by unfold shQ shR;exact Int.mul_ediv_add_emod _ _)
 rw [sc,sa,sa,← qM] at h1
 have h2:bQ l.length (shR l n)≤bQ l.length (fun _=>lsum l - 1):=lS (fun k _=>by
  have:=Int.emod_lt_of_pos (n*l[k]!.2.2) hs
  unfold shR
  omega)
 have h3:bQ l.length (fun _=>(0:Int))≤bQ l.length (shR l n):=lS (fun k _=>Int.emod_nonneg _ ab)
 rw [oP] at h2 h3
 have h4:lsum l*dD l n=bQ l.length (shR l n):=by
  rw [jF,Int.mul_sub]
  rw [Int.mul_comm (lsum l) n]
  omega
 have h5:0≤lsum l*dD l n:=by rw [h4];omega
 have h6:lsum l*dD l n<lsum l*l.length:=by
  rw [h4]
  have:(l.length:Int)*(lsum l - 1)<lsum l*l.length:=by
   rw [Int.mul_sub,Int.mul_one,Int.mul_comm]
   omega
  omega
 exact ⟨Int.nonneg_of_mul_nonneg_right h5 hs,Int.lt_of_mul_lt_mul_left h6 ab⟩
theorem ER {l:List Lot} {n:Int} (hl:∀ x∈l,LotOk x) (h0:l≠[]):bQ l.length (shC l n)=n:=by
 obtain ⟨h1,h2⟩:=kL (n:=n) hl h0
 have e:bQ l.length (shC l n)=bQ l.length (fun k=>shQ l n k+(if db (shR l n) l.length k<(dD l n).toNat then 1 else 0)):=oQ (fun k _=>by
  unfold shC
  rw [po]
  congr 1
  by_cases hb:db (shR l n) l.length k<(dD l n).toNat
  ·rw [if_pos hb,if_pos ab]
  ·rw [if_neg hb,if_neg ab])
 rw [e,sc,Ds _ ab,jF] at *
 omega
theorem Fm (l:List Lot) (m:Int):∀ k,fuR l m k=m - bQ k (fuC l m):=by
 intro k
 induction k with
 | zero=>simp [fuR,iP]
 | succ k ih =>
  rw [cH]
  show fuR l m k - min (fuR l m k) l[k]!.2.2=_
  unfold fuC at *
  omega
theorem Fo {l:List Lot} {m:Int} (hl:∀ x∈l,LotOk x) (h0:0≤m) (h1:m≤lsum l):bQ l.length (fuC l m)=m:=by
 have h2:∀ k,k≤l.length→fuR l m k=max 0 (m - lsum (l.take k)):=by
  intro k
  induction k with
  | zero=>intro _;simp [fuR,lsum];omega
  | succ k ih =>
   intro hk
   have h3:=hl _ (ap (show k<l.length by omega))
   have h4:=fg hl k ab
   unfold LotOk at h3
   simp only [fuR]
   rw [ih ab,dL l ab]
   omega
 have h3:=h2 l.length (Nat.le_refl _)
 rw [fk,Fm] at h3
 omega
theorem EI {mixed:Bool} {l:List Lot} {n:Int} (hl:∀ x∈l,LotOk x) (h0:0≤n) (h1:n≤lsum l):bQ l.length (tkC mixed l n)=n:=by
 unfold tkC
 split
 ·rename_i h
  refine ER hl ?_
  rintro rfl
  simp [lsum] at h1
  omega
 ·exact Fo hl h0 h1
theorem lm (a b:List Lot):lsum (a++b)=lsum a+lsum b:=by
 have h:∀ (l:List Lot) (s:Int),l.foldl (fun s x=>s+x.2.2) s=s+l.foldl (fun s x=>s+x.2.2) 0:=by
  intro l
  induction l with
  | nil=>intro s;simp
  | cons x l ih=>intro s;simp only [List.foldl_cons];rw [ih,ih (0+x.2.2)];omega
 unfold lsum
 rw [List.foldl_append,h]
theorem pC (x:Lot):lsum [x]=x.2.2:=by simp [lsum]
theorem mz (l:List Lot) (x:Lot):lsum (bR l x)=lsum l+x.2.2:=by
 unfold bR
 split
 ·omega
 ·split
  ·rename_i h
   obtain ⟨h1,_⟩:=h
   have e:l=l.take (l.length - 1)++[l[l.length - 1]!]:=by
    conv=>lhs;rw [← List.take_append_drop (l.length - 1) l,List.drop_eq_getElem_cons ab,List.drop_of_length_le ab]
    rw [getElem!_of ab]
   have e2:l.set (l.length - 1) (l[l.length - 1]!.1,l[l.length - 1]!.2.1,l[l.length - 1]!.2.2+x.2.2)=l.take (l.length - 1)++[(l[l.length - 1]!.1,l[l.length - 1]!.2.1,l[l.length - 1]!.2.2+x.2.2)]:=by
    rw [List.set_eq_take_append_cons_drop,if_pos ab,List.drop_of_length_le ab]
   have e3:lsum l=lsum (l.take (l.length - 1))+l[l.length - 1]!.2.2:=by
    conv=>lhs;rw [e]
    rw [lm,pC]
   rw [e2,lm,pC,e3]
   dsimp only
   omega
  ·rw [lm,pC]
theorem Ec (l:List Lot) (cs:Nat→Int) (m:Nat):lsum (divR l cs m)=bQ m (fun k=>l[k]!.2.2 - cs k):=by
 induction m with
 | zero=>rfl
 | succ m ih=>rw [nV,mz,ih,cH];rfl
theorem sH {mixed:Bool} {l:List Lot} {n:Int} (hl:∀ x∈l,LotOk x) (h0:0≤n) (h1:n≤lsum l):lsum (eX mixed l n)=lsum l - n:=by
 unfold eX
 rw [Ec,BI,EI hl h0 h1,← qM]
end Go.Proofs.YtfmgkkofledkbaaGreatDoor
