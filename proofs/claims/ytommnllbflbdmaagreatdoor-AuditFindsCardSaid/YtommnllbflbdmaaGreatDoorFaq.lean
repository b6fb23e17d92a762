/- Lemmas. -/
import Derived.Test.YtommnllbflbdmaaGreatDoorFap
import Derived.Lib.Mul64
set_option linter.all false
set_option maxHeartbeats 2000000
namespace Go.Proofs.YtommnllbflbdmaaGreatDoor
section
open Go.V
attribute [local irreducible] G GO GP GPW GPK Ev Ef EfR Ent CB GB V.Enters
def xk{L:LH}(x:Lot)(h:LotOk x):Tri ai 233 #[aO (aj x)] L (rtQ (.bool true) L):=by
 obtain⟨f,a,n⟩:=x;obtain⟨h1,h2,h3,h4,h5⟩:=h;dsimp only at h1 h2 h3 h4 h5;refine Tri.bd (args:=[aO (aj (f,a,n))]) ?_;simp only[aj];refine JM ?_;intros;exact KX.d7 an ag ⟨by rw[aU (ab:a≤1099511627776 - n)];rfl,rfl⟩
def rx{L:LH}(ad:OA)(n c:Nat)(xs:LL)[Rds L ad Lot aj 3 xs](hn:n=xs.length)(hb:xs.length≤4096)(hx:∀l∈xs,LotOk l) :
  Tri ai 144 #[ah ad n c] L (rtQ (.bool true) L):=by
 subst hn;refine Tri.bd ?_;refine JM ?_;intros;refine G.loop (α:=Nat) (fun i=>i≤xs.length) (fun i=>[(0,ah ad xs.length c),(3,ac (i:Int))]) (fun _=>L) (fun i=>xs.length - i) 0 (ax _) av (Ent.refl _) ?_;intro i hi;by_cases a1:i<xs.length
 case neg =>
  refine JM ?_;intros;exact KX.d7 an (Ent.refl _) ⟨by rw[aU ab];rfl,rfl⟩
 have a0:(i:Int).toNat=i:=ab;refine JM ?_;intros;rw[a0];refine GO.ca (xk xs[i]! (hx _ (aJ a1))) ?_;rintro _ L ⟨rfl,rfl⟩;refine JM ?_;intros;refine⟨i+1,ab,ab,?_,Ent.refl _⟩;rw[aY i];exact av
def jD{L:LH}(ad:OA)(n c:Nat)(xs:LL)[Rds L ad Lot aj 3 xs](hn:n=xs.length)(hb:xs.length≤4096)(hx:∀l∈xs,LotOk l) :
  Tri ai 222 #[ah ad n c] L (rtQ (ac (lsum xs)) L):=by
 subst hn;refine Tri.bd ?_;refine JM ?_;intros;refine GO.ca (rx ad xs.length c xs rfl hb hx) ?_;rintro _ L ⟨rfl,rfl⟩;refine JM ?_;intros;refine G.loop (α:=Nat) (fun i=>i≤xs.length) (fun i=>[(0,ah ad xs.length c),(3,ac (lsum (xs.take i))),(4,.bool true),(5,ac (i:Int))]) (fun _=>L) (fun i=>xs.length - i) 0 (ax _) av (Ent.refl _) ?_;intro i hi;by_cases a1:i<xs.length
 case neg =>
  rw[aD ab];refine JM ?_;intros;exact KX.en ⟨rfl,rfl⟩
 have a0:(i:Int).toNat=i:=ab;have a2:=gZ hx i hi;have a3:=gZ hx (i+1) ab;have hs:=eK xs a1;refine JM ?_;intros;rw[a0];refine JM ?_;intros;refine⟨i+1,ab,ab,?_,Ent.refl _⟩;rw[aY i,hs];exact av
abbrev CW:=aH4 [.ev 17,.ev 18,.ev 19,.ev 20,.ev 21,.ev 22,.ev 23,.ev 24,.ev 25,.ev 26,.ev 27,.ev 28,.ev 29,.ev 30]
abbrev CV:=aH3 [.ev 13,.ef 14]
def MQ{φ ψ:Prop}(k:ψ)(h:Hid ψ→φ:=by intro k;(repeat (first|refine aa ?_|intro zzz|refine G.dr 66 6 CW ?_|refine G.dr 66 7 CV ?_));(repeat revert zzz);exact Hid.out k):φ:=h ⟨k⟩
def lQ{L:LH}(ad:OA)(n c:Nat)(xs:LL)(x:Lot)[Rds L ad Lot aj 3 xs](hn:n=xs.length)(hl:xs.length≤100000000)(a6:∀y∈xs,LotW y)(hx:LotW x) :
  Tri ai 140 #[ah ad n c,aO (aj x)] L (fun v L'=>∃a3 a0,v=ah a3 (aZ xs x).length a0∧L' = osl aj 3 tLot a3 a0 (aZ xs x)::L):=by
 subst hn;obtain⟨f,a,m⟩:=x;obtain⟨x1,x2,x3,x4⟩:=hx;dsimp only at x1 x2 x3 x4;refine Tri.bd (args:=[ah ad xs.length c,aO (aj (f,a,m))]) ?_;simp only[aj];refine MQ ?_;intros;rename_i b3;refine GO.ent (Ent.d8 aj 3 tLot) ?_;refine GO.ef (Ef.d9 (xs:=[]) rfl rfl rfl rfl rfl (fun e _=>bX e) eh eh) ae ?_;rintro _ _⟨ad2,a1,rfl,rfl⟩;simp only[al];by_cases h0:m=0
 ·have e:aZ xs (f,a,m)=xs:=if_pos h0;rw[e];refine MQ ?_;intros;exact KX.en ⟨ad2,a1,rfl,rfl⟩
 have e0:aZ xs (f,a,m)=if xs.length≠0∧ky (f,a,m) xs[xs.length - 1]! then xs.set (xs.length - 1) (xs[xs.length - 1]!.1,xs[xs.length - 1]!.2.1,xs[xs.length - 1]!.2.2+m) else xs++[(f,a,m)]:=if_neg h0;by_cases a4:xs.length=0
 ·rw[if_neg (fun q=>q.1 a4)] at e0;rw[e0];refine MQ ?_;intros;refine GO.ef (Ef.d7 (enc:=aj) (f,a,m) rfl rfl rfl rfl rfl aK (bX _) ab ab) ae ?_;rintro _ _⟨ad3,cap3,rfl,rfl⟩;refine MQ ?_;intros;exact KX.en ⟨ad3,cap3,rfl,rfl⟩
 obtain⟨i,hi⟩:∃i,((xs.length:Int) - 1).toNat=i:=⟨_,rfl⟩;have a2:i<xs.length:=ab;have a5:xs.length - 1=i:=ab;have hw:=a6 _ (aJ a2);rw[←hi] at hw a2;obtain⟨w1,w2,w3,w4⟩:=hw;rw[a5] at e0;by_cases hc:xs[((xs.length:Int) - 1).toNat]!.1=f∧xs[((xs.length:Int) - 1).toNat]!.2.1+xs[((xs.length:Int) - 1).toNat]!.2.2=a
 ·obtain⟨c1,c2⟩:=hc;rw[hi] at c1 c2;rw[if_pos ⟨a4,lcont_iff.2 ⟨c1.symm,c2.symm⟩⟩] at e0;rw[e0];rw[←hi] at c1 c2;refine MQ ?_;intros;refine GPW.efu (Ef.e9 (enc:=aj) (xs[((xs.length:Int) - 1).toNat]!.1,xs[((xs.length:Int) - 1).toNat]!.2.1,xs[((xs.length:Int) - 1).toNat]!.2.2+m) rfl rfl rfl rfl a2 ae) ?_;rintro _ _ rfl;rw[hi];refine MQ ?_;intros;refine KX.d7 an ag ⟨ad2,a1,?_,rfl⟩;rw[bh];rfl
 ·have e1:aZ xs (f,a,m)=xs++[(f,a,m)]:=by
   rw[e0,if_neg];rintro⟨_,q⟩;rw[lcont_iff] at q;rw[hi] at hc;exact hc ⟨q.1.symm,q.2.symm⟩
  rw[e1];by_cases c1:xs[((xs.length:Int) - 1).toNat]!.1=f
  ·have c2:¬xs[((xs.length:Int) - 1).toNat]!.2.1+xs[((xs.length:Int) - 1).toNat]!.2.2=a:=fun q=>hc ⟨c1,q⟩;refine MQ ?_;intros;refine GO.ef (Ef.d7 (enc:=aj) (f,a,m) rfl rfl rfl rfl rfl aK (bX _) ab ab) ae ?_;rintro _ _⟨ad3,cap3,rfl,rfl⟩;refine MQ ?_;intros;exact KX.en ⟨ad3,cap3,rfl,rfl⟩
  ·refine MQ ?_;intros;refine GO.ef (Ef.d7 (enc:=aj) (f,a,m) rfl rfl rfl rfl rfl aK (bX _) ab ab) ae ?_;rintro _ _⟨ad3,cap3,rfl,rfl⟩;refine MQ ?_;intros;exact KX.en ⟨ad3,cap3,rfl,rfl⟩
def Hh(k:Nat):2 ^ (k+1) / 2=2 ^ k:=by
 rw[Nat.pow_succ];omega
structure DivI (A B D k:Nat) (a q r bit:Int):Prop where
 a:a=((A % 2 ^ k:Nat):Int)
 q:q=((A / 2 ^ k*B / D:Nat):Int)
 r:r=((A / 2 ^ k*B % D:Nat):Int)
 bit:bit=((2 ^ k / 2:Nat):Int)
def lc{A B D k:Nat}(hD:0<D){a q r bit:Int}(h:DivI A B D (k+1) a q r bit){q1 r1:Int}(h1:((D:Int)≤2*r∧q1=2*q+1∧r1=2*r - D)∨(2*r<D∧q1=2*q∧r1=2*r)){a' q2 r2:Int}
  (h2:(a<bit∧a' = a∧q2=q1∧r2=r1)∨(bit≤a∧a' = a - bit∧((r1+(B:Int) % D<D∧q2=q1+(B:Int) / D∧r2=r1+(B:Int) % D)∨((D:Int)≤r1+(B:Int) % D∧q2=q1+(B:Int) / D+1∧r2=r1+(B:Int) % D - D)))):DivI A B D k a' q2 r2 (bit / 2):=by
 obtain⟨ha,hq,hr,hb⟩:=h;have hp:0<2 ^ k:=Nat.pos_of_ne_zero ce;obtain⟨p,a0⟩:∃p,2 ^ k=p:=⟨_,rfl⟩;have a2:2 ^ (k+1)=2*p:=by rw[Nat.pow_succ,a0];omega
 obtain⟨H,hH⟩:∃H,A / (2*p)=H:=⟨_,rfl⟩;obtain⟨m,hm⟩:∃m,A % (2*p)=m:=⟨_,rfl⟩;have hA:m+2*p*H=A:=by rw[←hH,←hm];exact Nat.mod_add_div A (2*p)
 have a8:m<2*p:=by rw[←hm];exact dV _ ab
 rw[a2,hH] at hq hr;rw[a2,hm] at ha;rw[a2] at hb;have a4:bit=(p:Int):=by rw[hb];omega
 rw[a0] at hp;obtain⟨Q,hQ⟩:∃Q,H*B / D=Q:=⟨_,rfl⟩;obtain⟨R,hR⟩:∃R,H*B % D=R:=⟨_,rfl⟩;rw[hQ] at hq;rw[hR] at hr;have a5:R+D*Q=H*B:=by rw[←hQ,←hR];exact Nat.mod_add_div (H*B) D
 have a6:R<D:=by rw[←hR];exact dV _ hD
 obtain⟨bq,a3⟩:∃x,B / D=x:=⟨_,rfl⟩;obtain⟨br,a1⟩:∃x,B % D=x:=⟨_,rfl⟩;have hB:br+D*bq=B:=by rw[←a3,←a1];exact Nat.mod_add_div B D
 have a7:br<D:=by rw[←a1];exact dV _ hD
 have e1:(B:Int) / D=(bq:Int):=by rw[←a3];rfl
 have e2:(B:Int) % D=(br:Int):=by rw[←a1];rfl
 rw[e1,e2] at h2;-- the first half
 obtain⟨Q1,R1,f1,f2,f3,f4⟩:∃Q1 R1:Nat,q1=(Q1:Int)∧r1=(R1:Int)∧R1<D∧R1+D*Q1=2*(H*B):=by
  rcases h1 with⟨c,x,y⟩|⟨c,x,y⟩
  ·refine⟨2*Q+1,2*R - D,ab,ab,ab,?_⟩;rw[fP,Nat.mul_one,Nat.mul_left_comm];omega
  ·refine⟨2*Q,2*R,ab,ab,ab,?_⟩;rw[Nat.mul_left_comm];omega
 rcases h2 with⟨c,x,y,z⟩|⟨c,x,⟨c2,y,z⟩|⟨c2,y,z⟩⟩
 ·have g:A / p=2*H∧A % p=m:=(Nat.div_mod_unique hp).2 ⟨by rw[←hA,eX 2 p,ij],ab⟩;have g2:2*H*B / D=Q1∧2*H*B % D=R1:=(Nat.div_mod_unique hD).2 ⟨by rw[f4,ij],f3⟩;refine⟨by rw[a0,g.2];omega,by rw[a0,g.1,g2.1];omega,by rw[a0,g.1,g2.2];omega,by rw[a0];omega⟩
 all_goals
  have g:A / p=2*H+1∧A % p=m - p:=(Nat.div_mod_unique hp).2 ⟨by
   rw[fP,Nat.mul_one,←hA,eX 2 p,ij];omega,ab⟩
  have g3:(2*H+1)*B=2*(H*B)+B:=by rw[gF,Nat.one_mul,ij]
 ·have g2:(2*H+1)*B / D=Q1+bq∧(2*H+1)*B % D=R1+br:=(Nat.div_mod_unique hD).2 ⟨by rw[g3,fP];omega,ab⟩;refine⟨by rw[a0,g.2];omega,by rw[a0,g.1,g2.1];omega,by rw[a0,g.1,g2.2];omega,by rw[a0];omega⟩
 ·have g2:(2*H+1)*B / D=Q1+bq+1∧(2*H+1)*B % D=R1+br - D:=(Nat.div_mod_unique hD).2 ⟨by rw[g3,fP,fP];omega,ab⟩;refine⟨by rw[a0,g.2];omega,by rw[a0,g.1,g2.1];omega,by rw[a0,g.1,g2.2];omega,by rw[a0];omega⟩
def lM{A B D k:Nat}{a q r bit:Int}(h:DivI A B D k a q r bit)(hD:0<D)(hq:A*B / D≤1099511627776)(hk:k≤61)(hA:A≤1152921504606846976):(0≤a∧a≤1152921504606846976)∧(0≤q∧q≤1099511627776)∧(0≤r∧r<D)∧(0≤bit∧bit≤1152921504606846976):=by
 obtain⟨ha,a0,hr,hb⟩:=h;have h1:A % 2 ^ k≤A:=Nat.mod_le _ _;have h2:A / 2 ^ k*B / D≤A*B / D:=Nat.div_le_div_right (dG _ (Nat.div_le_self _ _));have h3:A / 2 ^ k*B % D<D:=dV _ hD;have h4:2 ^ k≤2 ^ 61:=Nat.pow_le_pow_right ae hk;have h5:(2:Nat) ^ 61=2305843009213693952:=by decide
 rw[h5] at h4;generalize A % 2 ^ k=u1 at *;generalize A / 2 ^ k*B / D=u2 at *;generalize A / 2 ^ k*B % D=u3 at *;generalize A*B / D=u4 at *;generalize 2 ^ k=u5 at *;omega
def xr{L:LH}(A B D:Nat)(hA:A≤1152921504606846976)(hB:B≤1152921504606846976)(hD:0<D)(a2:D≤1152921504606846976)(hq:A*B / D≤1099511627776) :
  Tri ai 307 #[ac (A:Int),ac (B:Int),ac (D:Int)] L (rtQ (.tuple #[ac ((A*B / D:Nat):Int),ac ((A*B % D:Nat):Int),.bool true]) L):=by
 have a4:0≤(B:Int) / D∧(B:Int) / D≤1152921504606846976:=by
  have h1:B / D≤B:=Nat.div_le_self _ _;have h2:(B:Int) / D=((B / D:Nat):Int):=rfl;rw[h2];generalize B / D=w at *;omega
 have a5:0≤(B:Int) % D∧(B:Int) % D<D:=by
  have h1:B % D<D:=dV _ hD;have h2:(B:Int) % D=((B % D:Nat):Int):=rfl;rw[h2];generalize B % D=w at *;omega
 have a1:DivI A B D 61 A 0 0 1152921504606846976:=by
  have h5:(2:Nat) ^ 61=2305843009213693952:=by decide
  have e1:A % 2305843009213693952=A:=Nat.mod_eq_of_lt ab;have e0:A / 2305843009213693952=0:=Nat.div_eq_of_lt ab;refine⟨?_,?_,?_,?_⟩
  ·rw[h5,e1]
  ·rw[h5,e0,Nat.zero_mul,Nat.zero_div];rfl
  ·rw[h5,e0,Nat.zero_mul,Nat.zero_mod];rfl
  ·rw[h5];omega
 refine Tri.bd ?_;refine JM ?_;intros;refine G.loop (α:=Nat×Int×Int×Int×Int) (fun z=>z.1≤61∧DivI A B D z.1 z.2.1 z.2.2.1 z.2.2.2.1 z.2.2.2.2) (fun z=>[(0,ac z.2.1),(1,ac (B:Int)),(2,ac (D:Int)),(9,ac z.2.2.1),(10,ac z.2.2.2.1),(11,ac z.2.2.2.2)]) (fun _=>L) (fun z=>z.1) (61,A,0,0,1152921504606846976) ⟨aB _,a1⟩ av (Ent.refl _) ?_;rintro⟨k,a,q,r,bit⟩ ⟨hk,hI⟩;dsimp only at hk hI ⊢;obtain⟨⟨b1,b2⟩,⟨b3,b4⟩,⟨b5,b6⟩,b7,b8⟩:=lM hI hD hq hk hA;by_cases a0:k=0
 ·subst a0;obtain⟨i1,i2,i3,i4⟩:=hI;have e1:q=((A*B / D:Nat):Int):=by rw[i2,Nat.pow_zero,Nat.div_one]
  have e2:r=((A*B % D:Nat):Int):=by rw[i3,Nat.pow_zero,Nat.div_one]
  have e3:bit=0:=by rw[i4];rfl
  subst e1 e2 e3;refine JM ?_;intros;exact KX.en ⟨rfl,rfl⟩
 obtain⟨k,rfl⟩:∃j,k=j+1:=⟨k - 1,ab⟩
 have a3:0<bit:=by
  rw[hI.bit,Hh];have:0<2 ^ k:=Nat.pos_of_ne_zero ce;omega
 by_cases c1:(D:Int)≤2*r
 ·by_cases c2:bit≤a
  ·by_cases c3:(D:Int)≤2*r - D+(B:Int) % D
   ·have hn:=lc hD hI (.inl ⟨c1,rfl,rfl⟩) (.inr ⟨c2,rfl,.inr ⟨c3,rfl,rfl⟩⟩);obtain⟨_,⟨n3,n4⟩,_,_,_⟩:=lM hn hD hq ab hA;refine JM ?_;intros;exact⟨(k,_,_,_,_),⟨by dsimp only;omega,hn⟩,by dsimp only;omega,av,Ent.refl _⟩
   ·have hn:=lc hD hI (.inl ⟨c1,rfl,rfl⟩) (.inr ⟨c2,rfl,.inl ⟨ab,rfl,rfl⟩⟩);obtain⟨_,⟨n3,n4⟩,_,_,_⟩:=lM hn hD hq ab hA;refine JM ?_;intros;exact⟨(k,_,_,_,_),⟨by dsimp only;omega,hn⟩,by dsimp only;omega,av,Ent.refl _⟩
  ·have hn:=lc hD hI (.inl ⟨c1,rfl,rfl⟩) (.inl ⟨ab,rfl,rfl,rfl⟩);obtain⟨_,⟨n3,n4⟩,_,_,_⟩:=lM hn hD hq ab hA;refine JM ?_;intros;exact⟨(k,_,_,_,_),⟨by dsimp only;omega,hn⟩,by dsimp only;omega,av,Ent.refl _⟩
 ·by_cases c2:bit≤a
  ·by_cases c3:(D:Int)≤2*r+(B:Int) % D
   ·have hn:=lc hD hI (.inr ⟨ab,rfl,rfl⟩) (.inr ⟨c2,rfl,.inr ⟨c3,rfl,rfl⟩⟩);obtain⟨_,⟨n3,n4⟩,_,_,_⟩:=lM hn hD hq ab hA;refine JM ?_;intros;exact⟨(k,_,_,_,_),⟨by dsimp only;omega,hn⟩,by dsimp only;omega,av,Ent.refl _⟩
   ·have hn:=lc hD hI (.inr ⟨ab,rfl,rfl⟩) (.inr ⟨c2,rfl,.inl ⟨ab,rfl,rfl⟩⟩);obtain⟨_,⟨n3,n4⟩,_,_,_⟩:=lM hn hD hq ab hA;refine JM ?_;intros;exact⟨(k,_,_,_,_),⟨by dsimp only;omega,hn⟩,by dsimp only;omega,av,Ent.refl _⟩
  ·have hn:=lc hD hI (.inr ⟨ab,rfl,rfl⟩) (.inl ⟨ab,rfl,rfl,rfl⟩);obtain⟨_,⟨n3,n4⟩,_,_,_⟩:=lM hn hD hq ab hA;refine JM ?_;intros;exact⟨(k,_,_,_,_),⟨by dsimp only;omega,hn⟩,by dsimp only;omega,av,Ent.refl _⟩
end
end Go.Proofs.YtommnllbflbdmaaGreatDoor
namespace Go.V
def G.atB{P:Program}{N:Nat}{env:Env}{L:LH}{K:Post}(id:Nat){c y:Code}(h:G P N (.seq (.block id c) y) env L K):G P N (.seq (.block id c) y) env L K:=h
section
variable {P:Program}{env:Env}{L:LH}{ty:TypeId}{t yt:TypeId}{x y:Operand}{a b:Nat}
def Ev.z8(hx:evE env x=some (.int .u64 (a:Int)))(hy:evE env y=some (.int .u64 (b:Int))):Ev P L env (.binOp .add t x y yt) ty (.int .u64 (((a+b) % 18446744073709551616:Nat):Int)):=by
 have h:=Ev.f8 (P:=P) (L:=L) (ty:=ty) (t:=t) (yt:=yt) hx hy;rw[IntKind.wrap_u64,show((a:Int)+(b:Int)) % 18446744073709551616=(((a+b) % 18446744073709551616:Nat):Int) by omega] at h;exact h
def Ev.g8(hs:a+b<18446744073709551616)(hx:evE env x=some (.int .u64 (a:Int)))(hy:evE env y=some (.int .u64 (b:Int))):Ev P L env (.binOp .add t x y yt) ty (.int .u64 ((a+b:Nat):Int)):=by
 have h:=Ev.z8 (P:=P) (L:=L) (ty:=ty) (t:=t) (yt:=yt) hx hy;rw[Nat.mod_eq_of_lt hs] at h;exact h
def Ev.y9(hx:evE env x=some (.int .u64 (a:Int)))(hy:evE env y=some (.int .u64 (b:Int)))(hb:b≤18446744073709551616):Ev P L env (.binOp .sub t x y yt) ty (.int .u64 (((a+18446744073709551616 - b) % 18446744073709551616:Nat):Int)):=by
 have h:=Ev.C9 (P:=P) (L:=L) (ty:=ty) (t:=t) (yt:=yt) hx hy;rw[IntKind.wrap_u64,show((a:Int) - (b:Int)) % 18446744073709551616=(((a+18446744073709551616 - b) % 18446744073709551616:Nat):Int) by omega] at h;exact h
def Ev.l6(hs:b≤a)(ha:a<18446744073709551616)(hx:evE env x=some (.int .u64 (a:Int)))(hy:evE env y=some (.int .u64 (b:Int))):Ev P L env (.binOp .sub t x y yt) ty (.int .u64 ((a - b:Nat):Int)):=by
 have h:=Ev.y9 (P:=P) (L:=L) (ty:=ty) (t:=t) (yt:=yt) hx hy ab;rw[show(a+18446744073709551616 - b) % 18446744073709551616=a - b by omega] at h;exact h
def Ev.n8(hx:evE env x=some (.int .u64 (a:Int)))(hy:evE env y=some (.int .u64 (b:Int))):Ev P L env (.binOp .mul t x y yt) ty (.int .u64 ((a*b % 18446744073709551616:Nat):Int)):=by
 have h:=Ev.D3 (P:=P) (L:=L) (ty:=ty) (t:=t) (yt:=yt) hx hy;have e:((a:Int)*(b:Int)) % 18446744073709551616=((a*b % 18446744073709551616:Nat):Int):=by simp
 rw[IntKind.wrap_u64,e] at h;exact h
def Ev.g7(hs:a*b<18446744073709551616)(hx:evE env x=some (.int .u64 (a:Int)))(hy:evE env y=some (.int .u64 (b:Int))):Ev P L env (.binOp .mul t x y yt) ty (.int .u64 ((a*b:Nat):Int)):=by
 have h:=Ev.n8 (P:=P) (L:=L) (ty:=ty) (t:=t) (yt:=yt) hx hy;rw[Nat.mod_eq_of_lt hs] at h;exact h
def Ev.z7(hx:evE env x=some (.int .u64 (a:Int)))(hy:evE env y=some (.int .u64 (b:Int)))(ha:a<18446744073709551616)(hb:0<b):Ev P L env (.binOp .quo t x y yt) ty (.int .u64 ((a / b:Nat):Int)):=by
 have h:=Ev.C7 (P:=P) (L:=L) (ty:=ty) (t:=t) (yt:=yt) hx hy ab ab ab;rw[show((a:Int) / (b:Int))=((a / b:Nat):Int) from(Int.natCast_ediv a b).symm] at h;exact h
def Ev.r6(hx:evE env x=some (.int .u64 (a:Int)))(hy:evE env y=some (.int .u64 4294967295))(ha:a<18446744073709551616):Ev P L env (.binOp .and t x y yt) ty (.int .u64 ((a % 4294967296:Nat):Int)):=by
 have h:=Ev.C8 (P:=P) (L:=L) (ty:=ty) (t:=t) (yt:=yt) hx hy ab ab ab ab
 have e:((a:Int).toNat &&& (4294967295:Int).toNat)=a % 4294967296:=by
  rw[aC,show(4294967295:Int).toNat=2 ^ 32 - 1 by decide,Nat.and_two_pow_sub_one_eq_mod]
 rw[e] at h;exact h
def Ev.o9{k:IntKind}{c:Int}(n:Nat)(hn:c=n)(a0:n≤64)(hx:evE env x=some (.int .u64 (a:Int)))(hy:evE env y=some (.int k c)):Ev P L env (.binOp .shr t x y yt) ty (.int .u64 ((a / 2 ^ n:Nat):Int)):=by
 have h:=Ev.shr (P:=P) (L:=L) (ty:=ty) (t:=t) (yt:=yt) hx hy ab
 have e:((a:Nat):Int).fdiv (2 ^ min c.toNat IntKind.u64.bits)=((a / 2 ^ n:Nat):Int):=by
  have e2:min c.toNat IntKind.u64.bits=n:=by simp[IntKind.bits];omega
  rw[e2,Int.fdiv_eq_ediv_of_nonneg _ (Int.le_of_lt (Int.pow_pos ae))];simp
 rw[e] at h;exact h
def Ev.l7(hx:evE env x=some (.int .u64 (a:Int)))(hy:evE env y=some (.int .u64 32)):Ev P L env (.binOp .shr t x y yt) ty (.int .u64 ((a / 4294967296:Nat):Int)):=by
 have h:=Ev.o9 (P:=P) (L:=L) (ty:=ty) (t:=t) (yt:=yt) 32 rfl ae hx hy;rw[show(2:Nat) ^ 32=4294967296 by decide] at h;exact h
def Ev.z6{k:IntKind}{c:Int}(n:Nat)(hn:c=n)(a0:n≤64)(hx:evE env x=some (.int .u64 (a:Int)))(hy:evE env y=some (.int k c)):Ev P L env (.binOp .shl t x y yt) ty (.int .u64 ((a*2 ^ n % 18446744073709551616:Nat):Int)):=by
 have h:=Ev.shl (P:=P) (L:=L) (ty:=ty) (t:=t) (yt:=yt) hx hy ab
 have e:IntKind.u64.wrap ((a:Int)*2 ^ min c.toNat IntKind.u64.bits)=((a*2 ^ n % 18446744073709551616:Nat):Int):=by
  have e2:min c.toNat IntKind.u64.bits=n:=by simp[IntKind.bits];omega
  rw[e2,IntKind.wrap_u64];simp
 rw[e] at h;exact h
def Ev.orN(hx:evE env x=some (.int .u64 (a:Int)))(hy:evE env y=some (.int .u64 (b:Int)))(ha:a<18446744073709551616)(hb:b<18446744073709551616):Ev P L env (.binOp .or t x y yt) ty (.int .u64 ((a ||| b:Nat):Int)):=by
 have h:=Ev.D2 (P:=P) (L:=L) (ty:=ty) (t:=t) (yt:=yt) hx hy ab ab ab ab;rw[aC,aC] at h;exact h
end
end Go.V
namespace Go.Proofs.YtommnllbflbdmaaGreatDoor
open Go.V
attribute [local irreducible] G GO GP GPW GPK Ev Ef EfR Ent CB GB Enters
def tN{L:LH}(x y:Nat)(hx:x<18446744073709551616)(hy:y<18446744073709551616) :
  Tri ai 241 #[.int .u64 (x:Int),.int .u64 (y:Int)] L (rtQ (.tuple #[.int .u64 ((x*y / 18446744073709551616:Nat):Int),.int .u64 ((x*y % 18446744073709551616:Nat):Int)]) L):=by
 obtain⟨m1,m2,m3,m4⟩:=Go.Lib.mul64_hi x y hx hy;refine Tri.bd ?_;refine JM ?_;intros;refine GO.ev (Ev.r6 rfl rfl hx) ae ?_;refine JM ?_;intros;refine GO.ev (Ev.l7 rfl rfl) ae ?_;refine JM ?_;intros;refine GO.ev (Ev.r6 rfl rfl hy) ae ?_;refine JM ?_;intros;refine GO.ev (Ev.l7 rfl rfl) ae ?_;have a0:=Go.Lib.half_mul_le (a:=x / 4294967296) (b:=y / 4294967296) ab ab;have a1:=Go.Lib.half_mul_le (a:=x / 4294967296) (b:=y % 4294967296) ab ab;have a2:=Go.Lib.half_mul_le (a:=x % 4294967296) (b:=y / 4294967296) ab ab;refine JM ?_;intros;refine GO.ev (Ev.g7 m1 rfl rfl) ae ?_;refine JM ?_;intros;refine GO.ev (Ev.g7 ab rfl rfl) ae ?_;refine JM ?_;intros;refine GO.ev (Ev.l7 rfl rfl) ae ?_;refine GO.ev (Ev.g8 m2 rfl rfl) ae ?_;refine JM ?_;intros;refine GO.ev (Ev.r6 rfl rfl m2) ae ?_;refine JM ?_;intros;refine GO.ev (Ev.l7 rfl rfl) ae ?_;refine JM ?_;intros;refine GO.ev (Ev.g7 ab rfl rfl) ae ?_;refine GO.ev (Ev.g8 m3 rfl rfl) ae ?_;refine JM ?_;intros;refine GO.ev (Ev.g7 ab rfl rfl) ae ?_;refine JM ?_;intros;refine GO.ev (Ev.g8 ab rfl rfl) ae ?_;refine JM ?_;intros;refine GO.ev (Ev.l7 rfl rfl) ae ?_;refine GO.ev (Ev.g8 ab rfl rfl) ae ?_;rw[m4];refine JM ?_;intros;refine GO.ev (Ev.n8 rfl rfl) ae ?_;refine JM ?_;intros;exact KX.en ⟨rfl,rfl⟩
