/- Lemmas. -/
import Derived.Test.YtommnllbflbdmaaGreatDoorAap
import Derived.Lib.Mul64
set_option linter.all false
set_option maxHeartbeats 2000000
namespace Go.Proofs.YtommnllbflbdmaaGreatDoor
section
open Go.V
attribute [local irreducible] G GO GP GPW GPK Ev Ef EfR Ent CB GB V.Enters
def wV{L:LH}(x:Lot)(h:LotOk x):Tri ai 233 #[aN (aj x)] L (fun v L'=>v=.bool true∧L' = L):=by
 obtain⟨f,a,n⟩:=x;obtain⟨h1,h2,h3,h4,h5⟩:=h;dsimp only at h1 h2 h3 h4 h5;refine Tri.bd (args:=[aN (aj (f,a,n))]) ?_;simp only[aj];refine Jq ?_;intros;exact KX.d7 al ae ⟨by rw[aS (ab:a≤1099511627776 - n)];rfl,rfl⟩
def rq{L:LH}(ad:OA)(n c:Nat)(xs:LL)[Rds L ad Lot aj 3 xs](hn:n=xs.length)(hb:xs.length≤4096)(hx:∀l∈xs,LotOk l) :
  Tri ai 144 #[ah ad n c] L (fun v L'=>v=.bool true∧L' = L):=by
 subst hn;refine Tri.bd ?_;refine Jq ?_;intros;refine G.loop (α:=Nat) (fun i=>i≤xs.length) (fun i=>[(0,ah ad xs.length c),(3,ac (i:Int))]) (fun _=>L) (fun i=>xs.length - i) 0 (aw _) av (Ent.refl _) ?_;intro i hi;by_cases a0:i<xs.length
 case neg =>
  refine Jq ?_;intros;exact KX.d7 al (Ent.refl _) ⟨by rw[aS ab];rfl,rfl⟩
 have a1:(i:Int).toNat=i:=ab;refine Jq ?_;intros;rw[a1];refine GO.ca (wV xs[i]! (hx _ (aI a0))) ?_;rintro _ L ⟨rfl,rfl⟩;refine Jq ?_;intros;refine⟨i+1,ab,ab,?_,Ent.refl _⟩;rw[aV i];exact av
def jQ{L:LH}(ad:OA)(n c:Nat)(xs:LL)[Rds L ad Lot aj 3 xs](hn:n=xs.length)(hb:xs.length≤4096)(hx:∀l∈xs,LotOk l) :
  Tri ai 222 #[ah ad n c] L (fun v L'=>v=ac (lsum xs)∧L' = L):=by
 subst hn;refine Tri.bd ?_;refine Jq ?_;intros;refine GO.ca (rq ad xs.length c xs rfl hb hx) ?_;rintro _ L ⟨rfl,rfl⟩;refine Jq ?_;intros;refine G.loop (α:=Nat) (fun i=>i≤xs.length) (fun i=>[(0,ah ad xs.length c),(3,ac (lsum (xs.take i))),(4,.bool true),(5,ac (i:Int))]) (fun _=>L) (fun i=>xs.length - i) 0 (aw _) av (Ent.refl _) ?_;intro i hi;by_cases a0:i<xs.length
 case neg =>
  rw[aF ab];refine Jq ?_;intros;exact KX.en ⟨rfl,rfl⟩
 have a1:(i:Int).toNat=i:=ab;have a2:=gV hx i hi;have a3:=gV hx (i+1) ab;have hs:=eJ xs a0;refine Jq ?_;intros;rw[a1];refine Jq ?_;intros;refine⟨i+1,ab,ab,?_,Ent.refl _⟩;rw[aV i,hs];exact av
abbrev CG:=ay8 [.ev 17,.ev 18,.ev 19,.ev 20,.ev 21,.ev 22,.ev 23,.ev 24,.ev 25,.ev 26,.ev 27,.ev 28,.ev 29,.ev 30]
abbrev CF:=ay7 [.ev 13,.ef 14]
def Mv{φ ψ:Prop}(k:ψ)(h:Hid ψ→φ:=by intro k;(repeat (first|refine aa ?_|intro zzz|refine G.dr 66 6 CG ?_|refine G.dr 66 7 CF ?_));(repeat revert zzz);exact Hid.out k):φ:=h ⟨k⟩
def lP{L:LH}(ad:OA)(n c:Nat)(xs:LL)(x:Lot)[Rds L ad Lot aj 3 xs](hn:n=xs.length)(hl:xs.length≤100000000)(a7:∀y∈xs,LotW y)(hx:LotW x) :
  Tri ai 140 #[ah ad n c,aN (aj x)] L (fun v L'=>∃a5 a3,v=ah a5 (aY xs x).length a3∧L' = osl aj 3 tLot a5 a3 (aY xs x)::L):=by
 subst hn;obtain⟨f,a,m⟩:=x;obtain⟨x1,x2,x3,x4⟩:=hx;dsimp only at x1 x2 x3 x4;refine Tri.bd (args:=[ah ad xs.length c,aN (aj (f,a,m))]) ?_;simp only[aj];refine Mv ?_;intros;rename_i b3;refine GO.ent (Ent.d8 aj 3 tLot) ?_;refine GO.ef (Ef.g8 (xs:=[]) rfl rfl rfl rfl rfl (fun e _=>co e) fW fW) ag ?_;rintro _ _⟨ad2,a2,rfl,rfl⟩;simp only[an];by_cases h0:m=0
 ·have e:aY xs (f,a,m)=xs:=if_pos h0;rw[e];refine Mv ?_;intros;exact KX.en ⟨ad2,a2,rfl,rfl⟩
 have e0:aY xs (f,a,m)=if xs.length≠0∧kD (f,a,m) xs[xs.length - 1]! then xs.set (xs.length - 1) (xs[xs.length - 1]!.1,xs[xs.length - 1]!.2.1,xs[xs.length - 1]!.2.2+m) else xs++[(f,a,m)]:=if_neg h0;by_cases a6:xs.length=0
 ·rw[if_neg (fun q=>q.1 a6)] at e0;rw[e0];refine Mv ?_;intros;refine GO.ef (Ef.d7 (enc:=aj) (f,a,m) rfl rfl rfl rfl rfl aK (co _) ab ab) ag ?_;rintro _ _⟨a1,a0,rfl,rfl⟩;refine Mv ?_;intros;exact KX.en ⟨a1,a0,rfl,rfl⟩
 obtain⟨i,hi⟩:∃i,((xs.length:Int) - 1).toNat=i:=⟨_,rfl⟩;have a4:i<xs.length:=ab;have a8:xs.length - 1=i:=ab;have hw:=a7 _ (aI a4);rw[←hi] at hw a4;obtain⟨w1,w2,w3,w4⟩:=hw;rw[a8] at e0;by_cases hc:xs[((xs.length:Int) - 1).toNat]!.1=f∧xs[((xs.length:Int) - 1).toNat]!.2.1+xs[((xs.length:Int) - 1).toNat]!.2.2=a
 ·obtain⟨c1,c2⟩:=hc;rw[hi] at c1 c2;rw[if_pos ⟨a6,lcont_iff.2 ⟨c1.symm,c2.symm⟩⟩] at e0;rw[e0];rw[←hi] at c1 c2;refine Mv ?_;intros;refine GPW.efu (Ef.g9 (enc:=aj) (xs[((xs.length:Int) - 1).toNat]!.1,xs[((xs.length:Int) - 1).toNat]!.2.1,xs[((xs.length:Int) - 1).toNat]!.2.2+m) rfl rfl rfl rfl a4 ag) ?_;rintro _ _ rfl;rw[hi];refine Mv ?_;intros;refine KX.d7 al ae ⟨ad2,a2,?_,rfl⟩;rw[cu];rfl
 ·have e1:aY xs (f,a,m)=xs++[(f,a,m)]:=by
   rw[e0,if_neg];rintro⟨_,q⟩;rw[lcont_iff] at q;rw[hi] at hc;exact hc ⟨q.1.symm,q.2.symm⟩
  rw[e1];by_cases c1:xs[((xs.length:Int) - 1).toNat]!.1=f
  ·have c2:¬xs[((xs.length:Int) - 1).toNat]!.2.1+xs[((xs.length:Int) - 1).toNat]!.2.2=a:=fun q=>hc ⟨c1,q⟩;refine Mv ?_;intros;refine GO.ef (Ef.d7 (enc:=aj) (f,a,m) rfl rfl rfl rfl rfl aK (co _) ab ab) ag ?_;rintro _ _⟨a1,a0,rfl,rfl⟩;refine Mv ?_;intros;exact KX.en ⟨a1,a0,rfl,rfl⟩
  ·refine Mv ?_;intros;refine GO.ef (Ef.d7 (enc:=aj) (f,a,m) rfl rfl rfl rfl rfl aK (co _) ab ab) ag ?_;rintro _ _⟨a1,a0,rfl,rfl⟩;refine Mv ?_;intros;exact KX.en ⟨a1,a0,rfl,rfl⟩
def GL(k:Nat):2 ^ (k+1) / 2=2 ^ k:=by
 rw[Nat.pow_succ];omega
structure DivI (A B D k:Nat) (a q r bit:Int):Prop where
 a:a=((A % 2 ^ k:Nat):Int)
 q:q=((A / 2 ^ k*B / D:Nat):Int)
 r:r=((A / 2 ^ k*B % D:Nat):Int)
 bit:bit=((2 ^ k / 2:Nat):Int)
def lg{A B D k:Nat}(hD:0<D){a q r bit:Int}(h:DivI A B D (k+1) a q r bit){q1 r1:Int}(h1:((D:Int)≤2*r∧q1=2*q+1∧r1=2*r - D)∨(2*r<D∧q1=2*q∧r1=2*r)){a' q2 r2:Int}
  (h2:(a<bit∧a' = a∧q2=q1∧r2=r1)∨(bit≤a∧a' = a - bit∧((r1+(B:Int) % D<D∧q2=q1+(B:Int) / D∧r2=r1+(B:Int) % D)∨((D:Int)≤r1+(B:Int) % D∧q2=q1+(B:Int) / D+1∧r2=r1+(B:Int) % D - D)))):DivI A B D k a' q2 r2 (bit / 2):=by
 obtain⟨ha,hq,hr,hb⟩:=h;have hp:0<2 ^ k:=Nat.pos_of_ne_zero bZ;obtain⟨p,a0⟩:∃p,2 ^ k=p:=⟨_,rfl⟩;have a2:2 ^ (k+1)=2*p:=by rw[Nat.pow_succ,a0];omega
 obtain⟨H,hH⟩:∃H,A / (2*p)=H:=⟨_,rfl⟩;obtain⟨m,hm⟩:∃m,A % (2*p)=m:=⟨_,rfl⟩;have hA:m+2*p*H=A:=by rw[←hH,←hm];exact Nat.mod_add_div A (2*p)
 have a5:m<2*p:=by rw[←hm];exact dT _ ab
 rw[a2,hH] at hq hr;rw[a2,hm] at ha;rw[a2] at hb;have a4:bit=(p:Int):=by rw[hb];omega
 rw[a0] at hp;obtain⟨Q,hQ⟩:∃Q,H*B / D=Q:=⟨_,rfl⟩;obtain⟨R,hR⟩:∃R,H*B % D=R:=⟨_,rfl⟩;rw[hQ] at hq;rw[hR] at hr;have a8:R+D*Q=H*B:=by rw[←hQ,←hR];exact Nat.mod_add_div (H*B) D
 have a7:R<D:=by rw[←hR];exact dT _ hD
 obtain⟨bq,a3⟩:∃x,B / D=x:=⟨_,rfl⟩;obtain⟨br,a1⟩:∃x,B % D=x:=⟨_,rfl⟩;have hB:br+D*bq=B:=by rw[←a3,←a1];exact Nat.mod_add_div B D
 have a6:br<D:=by rw[←a1];exact dT _ hD
 have e1:(B:Int) / D=(bq:Int):=by rw[←a3];rfl
 have e2:(B:Int) % D=(br:Int):=by rw[←a1];rfl
 rw[e1,e2] at h2;-- the first half
 obtain⟨Q1,R1,f1,f2,f3,f4⟩:∃Q1 R1:Nat,q1=(Q1:Int)∧r1=(R1:Int)∧R1<D∧R1+D*Q1=2*(H*B):=by
  rcases h1 with⟨c,x,y⟩|⟨c,x,y⟩
  ·refine⟨2*Q+1,2*R - D,ab,ab,ab,?_⟩;rw[ic,Nat.mul_one,Nat.mul_left_comm];omega
  ·refine⟨2*Q,2*R,ab,ab,ab,?_⟩;rw[Nat.mul_left_comm];omega
 rcases h2 with⟨c,x,y,z⟩|⟨c,x,⟨c2,y,z⟩|⟨c2,y,z⟩⟩
 ·have g:A / p=2*H∧A % p=m:=(Nat.div_mod_unique hp).2 ⟨by rw[←hA,fh 2 p,ip],ab⟩;have g2:2*H*B / D=Q1∧2*H*B % D=R1:=(Nat.div_mod_unique hD).2 ⟨by rw[f4,ip],f3⟩;refine⟨by rw[a0,g.2];omega,by rw[a0,g.1,g2.1];omega,by rw[a0,g.1,g2.2];omega,by rw[a0];omega⟩
 all_goals
  have g:A / p=2*H+1∧A % p=m - p:=(Nat.div_mod_unique hp).2 ⟨by
   rw[ic,Nat.mul_one,←hA,fh 2 p,ip];omega,ab⟩
  have g3:(2*H+1)*B=2*(H*B)+B:=by rw[gB,Nat.one_mul,ip]
 ·have g2:(2*H+1)*B / D=Q1+bq∧(2*H+1)*B % D=R1+br:=(Nat.div_mod_unique hD).2 ⟨by rw[g3,ic];omega,ab⟩;refine⟨by rw[a0,g.2];omega,by rw[a0,g.1,g2.1];omega,by rw[a0,g.1,g2.2];omega,by rw[a0];omega⟩
 ·have g2:(2*H+1)*B / D=Q1+bq+1∧(2*H+1)*B % D=R1+br - D:=(Nat.div_mod_unique hD).2 ⟨by rw[g3,ic,ic];omega,ab⟩;refine⟨by rw[a0,g.2];omega,by rw[a0,g.1,g2.1];omega,by rw[a0,g.1,g2.2];omega,by rw[a0];omega⟩
def lL{A B D k:Nat}{a q r bit:Int}(h:DivI A B D k a q r bit)(hD:0<D)(hq:A*B / D≤1099511627776)(hk:k≤61)(hA:A≤1152921504606846976):(0≤a∧a≤1152921504606846976)∧(0≤q∧q≤1099511627776)∧(0≤r∧r<D)∧(0≤bit∧bit≤1152921504606846976):=by
 obtain⟨ha,a0,hr,hb⟩:=h;have h1:A % 2 ^ k≤A:=Nat.mod_le _ _;have h2:A / 2 ^ k*B / D≤A*B / D:=Nat.div_le_div_right (dH _ (Nat.div_le_self _ _));have h3:A / 2 ^ k*B % D<D:=dT _ hD;have h4:2 ^ k≤2 ^ 61:=Nat.pow_le_pow_right ag hk;have h5:(2:Nat) ^ 61=2305843009213693952:=by decide
 rw[h5] at h4;generalize A % 2 ^ k=u1 at *;generalize A / 2 ^ k*B / D=u2 at *;generalize A / 2 ^ k*B % D=u3 at *;generalize A*B / D=u4 at *;generalize 2 ^ k=u5 at *;omega
def xc{L:LH}(A B D:Nat)(hA:A≤1152921504606846976)(hB:B≤1152921504606846976)(hD:0<D)(a4:D≤1152921504606846976)(hq:A*B / D≤1099511627776) :
  Tri ai 307 #[ac (A:Int),ac (B:Int),ac (D:Int)] L (fun v L'=>v=.tuple #[ac ((A*B / D:Nat):Int),ac ((A*B % D:Nat):Int),.bool true]∧L' = L):=by
 have a5:0≤(B:Int) / D∧(B:Int) / D≤1152921504606846976:=by
  have h1:B / D≤B:=Nat.div_le_self _ _;have h2:(B:Int) / D=((B / D:Nat):Int):=rfl;rw[h2];generalize B / D=w at *;omega
 have a2:0≤(B:Int) % D∧(B:Int) % D<D:=by
  have h1:B % D<D:=dT _ hD;have h2:(B:Int) % D=((B % D:Nat):Int):=rfl;rw[h2];generalize B % D=w at *;omega
 have a0:DivI A B D 61 A 0 0 1152921504606846976:=by
  have h5:(2:Nat) ^ 61=2305843009213693952:=by decide
  have e1:A % 2305843009213693952=A:=Nat.mod_eq_of_lt ab;have e0:A / 2305843009213693952=0:=Nat.div_eq_of_lt ab;refine⟨?_,?_,?_,?_⟩
  ·rw[h5,e1]
  ·rw[h5,e0,Nat.zero_mul,Nat.zero_div];rfl
  ·rw[h5,e0,Nat.zero_mul,Nat.zero_mod];rfl
  ·rw[h5];omega
 refine Tri.bd ?_;refine Jq ?_;intros;refine G.loop (α:=Nat×Int×Int×Int×Int) (fun z=>z.1≤61∧DivI A B D z.1 z.2.1 z.2.2.1 z.2.2.2.1 z.2.2.2.2) (fun z=>[(0,ac z.2.1),(1,ac (B:Int)),(2,ac (D:Int)),(9,ac z.2.2.1),(10,ac z.2.2.2.1),(11,ac z.2.2.2.2)]) (fun _=>L) (fun z=>z.1) (61,A,0,0,1152921504606846976) ⟨aB _,a0⟩ av (Ent.refl _) ?_;rintro⟨k,a,q,r,bit⟩ ⟨hk,hI⟩;dsimp only at hk hI ⊢;obtain⟨⟨b1,b2⟩,⟨b3,b4⟩,⟨b5,b6⟩,b7,b8⟩:=lL hI hD hq hk hA;by_cases a1:k=0
 ·subst a1;obtain⟨i1,i2,i3,i4⟩:=hI;have e1:q=((A*B / D:Nat):Int):=by rw[i2,Nat.pow_zero,Nat.div_one]
  have e2:r=((A*B % D:Nat):Int):=by rw[i3,Nat.pow_zero,Nat.div_one]
  have e3:bit=0:=by rw[i4];rfl
  subst e1 e2 e3;refine Jq ?_;intros;exact KX.en ⟨rfl,rfl⟩
 obtain⟨k,rfl⟩:∃j,k=j+1:=⟨k - 1,ab⟩
 have a3:0<bit:=by
  rw[hI.bit,GL];have:0<2 ^ k:=Nat.pos_of_ne_zero bZ;omega
 by_cases c1:(D:Int)≤2*r
 ·by_cases c2:bit≤a
  ·by_cases c3:(D:Int)≤2*r - D+(B:Int) % D
   ·have hn:=lg hD hI (.inl ⟨c1,rfl,rfl⟩) (.inr ⟨c2,rfl,.inr ⟨c3,rfl,rfl⟩⟩);obtain⟨_,⟨n3,n4⟩,_,_,_⟩:=lL hn hD hq ab hA;refine Jq ?_;intros;exact⟨(k,_,_,_,_),⟨by dsimp only;omega,hn⟩,by dsimp only;omega,av,Ent.refl _⟩
   ·have hn:=lg hD hI (.inl ⟨c1,rfl,rfl⟩) (.inr ⟨c2,rfl,.inl ⟨ab,rfl,rfl⟩⟩);obtain⟨_,⟨n3,n4⟩,_,_,_⟩:=lL hn hD hq ab hA;refine Jq ?_;intros;exact⟨(k,_,_,_,_),⟨by dsimp only;omega,hn⟩,by dsimp only;omega,av,Ent.refl _⟩
  ·have hn:=lg hD hI (.inl ⟨c1,rfl,rfl⟩) (.inl ⟨ab,rfl,rfl,rfl⟩);obtain⟨_,⟨n3,n4⟩,_,_,_⟩:=lL hn hD hq ab hA;refine Jq ?_;intros;exact⟨(k,_,_,_,_),⟨by dsimp only;omega,hn⟩,by dsimp only;omega,av,Ent.refl _⟩
 ·by_cases c2:bit≤a
  ·by_cases c3:(D:Int)≤2*r+(B:Int) % D
   ·have hn:=lg hD hI (.inr ⟨ab,rfl,rfl⟩) (.inr ⟨c2,rfl,.inr ⟨c3,rfl,rfl⟩⟩);obtain⟨_,⟨n3,n4⟩,_,_,_⟩:=lL hn hD hq ab hA;refine Jq ?_;intros;exact⟨(k,_,_,_,_),⟨by dsimp only;omega,hn⟩,by dsimp only;omega,av,Ent.refl _⟩
   ·have hn:=lg hD hI (.inr ⟨ab,rfl,rfl⟩) (.inr ⟨c2,rfl,.inl ⟨ab,rfl,rfl⟩⟩);obtain⟨_,⟨n3,n4⟩,_,_,_⟩:=lL hn hD hq ab hA;refine Jq ?_;intros;exact⟨(k,_,_,_,_),⟨by dsimp only;omega,hn⟩,by dsimp only;omega,av,Ent.refl _⟩
  ·have hn:=lg hD hI (.inr ⟨ab,rfl,rfl⟩) (.inl ⟨ab,rfl,rfl,rfl⟩);obtain⟨_,⟨n3,n4⟩,_,_,_⟩:=lL hn hD hq ab hA;refine Jq ?_;intros;exact⟨(k,_,_,_,_),⟨by dsimp only;omega,hn⟩,by dsimp only;omega,av,Ent.refl _⟩
end
end Go.Proofs.YtommnllbflbdmaaGreatDoor
namespace Go.V
def G.atB{P:Program}{N:Nat}{env:Env}{L:LH}{K:Post}(id:Nat){c y:Code}(h:G P N (.seq (.block id c) y) env L K):G P N (.seq (.block id c) y) env L K:=h
section
variable {P:Program}{env:Env}{L:LH}{ty:TypeId}{t yt:TypeId}{x y:Operand}{a b:Nat}
def Ev.x7(hx:evE env x=some (.int .u64 (a:Int)))(hy:evE env y=some (.int .u64 (b:Int))):Ev P L env (.binOp .add t x y yt) ty (.int .u64 (((a+b) % 18446744073709551616:Nat):Int)):=by
 have h:=Ev.C5 (P:=P) (L:=L) (ty:=ty) (t:=t) (yt:=yt) hx hy;rw[IntKind.wrap_u64,show((a:Int)+(b:Int)) % 18446744073709551616=(((a+b) % 18446744073709551616:Nat):Int) by omega] at h;exact h
def Ev.g7(hs:a+b<18446744073709551616)(hx:evE env x=some (.int .u64 (a:Int)))(hy:evE env y=some (.int .u64 (b:Int))):Ev P L env (.binOp .add t x y yt) ty (.int .u64 ((a+b:Nat):Int)):=by
 have h:=Ev.x7 (P:=P) (L:=L) (ty:=ty) (t:=t) (yt:=yt) hx hy;rw[Nat.mod_eq_of_lt hs] at h;exact h
def Ev.v6(hx:evE env x=some (.int .u64 (a:Int)))(hy:evE env y=some (.int .u64 (b:Int)))(hb:b≤18446744073709551616):Ev P L env (.binOp .sub t x y yt) ty (.int .u64 (((a+18446744073709551616 - b) % 18446744073709551616:Nat):Int)):=by
 have h:=Ev.C1 (P:=P) (L:=L) (ty:=ty) (t:=t) (yt:=yt) hx hy;rw[IntKind.wrap_u64,show((a:Int) - (b:Int)) % 18446744073709551616=(((a+18446744073709551616 - b) % 18446744073709551616:Nat):Int) by omega] at h;exact h
def Ev.l5(hs:b≤a)(ha:a<18446744073709551616)(hx:evE env x=some (.int .u64 (a:Int)))(hy:evE env y=some (.int .u64 (b:Int))):Ev P L env (.binOp .sub t x y yt) ty (.int .u64 ((a - b:Nat):Int)):=by
 have h:=Ev.v6 (P:=P) (L:=L) (ty:=ty) (t:=t) (yt:=yt) hx hy ab;rw[show(a+18446744073709551616 - b) % 18446744073709551616=a - b by omega] at h;exact h
def Ev.n5(hx:evE env x=some (.int .u64 (a:Int)))(hy:evE env y=some (.int .u64 (b:Int))):Ev P L env (.binOp .mul t x y yt) ty (.int .u64 ((a*b % 18446744073709551616:Nat):Int)):=by
 have h:=Ev.C3 (P:=P) (L:=L) (ty:=ty) (t:=t) (yt:=yt) hx hy;have e:((a:Int)*(b:Int)) % 18446744073709551616=((a*b % 18446744073709551616:Nat):Int):=by simp
 rw[IntKind.wrap_u64,e] at h;exact h
def Ev.f8(hs:a*b<18446744073709551616)(hx:evE env x=some (.int .u64 (a:Int)))(hy:evE env y=some (.int .u64 (b:Int))):Ev P L env (.binOp .mul t x y yt) ty (.int .u64 ((a*b:Nat):Int)):=by
 have h:=Ev.n5 (P:=P) (L:=L) (ty:=ty) (t:=t) (yt:=yt) hx hy;rw[Nat.mod_eq_of_lt hs] at h;exact h
def Ev.v8(hx:evE env x=some (.int .u64 (a:Int)))(hy:evE env y=some (.int .u64 (b:Int)))(ha:a<18446744073709551616)(hb:0<b):Ev P L env (.binOp .quo t x y yt) ty (.int .u64 ((a / b:Nat):Int)):=by
 have h:=Ev.B9 (P:=P) (L:=L) (ty:=ty) (t:=t) (yt:=yt) hx hy ab ab ab;rw[show((a:Int) / (b:Int))=((a / b:Nat):Int) from(Int.natCast_ediv a b).symm] at h;exact h
def Ev.o8(hx:evE env x=some (.int .u64 (a:Int)))(hy:evE env y=some (.int .u64 4294967295))(ha:a<18446744073709551616):Ev P L env (.binOp .and t x y yt) ty (.int .u64 ((a % 4294967296:Nat):Int)):=by
 have h:=Ev.C0 (P:=P) (L:=L) (ty:=ty) (t:=t) (yt:=yt) hx hy ab ab ab ab
 have e:((a:Int).toNat &&& (4294967295:Int).toNat)=a % 4294967296:=by
  rw[aC,show(4294967295:Int).toNat=2 ^ 32 - 1 by decide,Nat.and_two_pow_sub_one_eq_mod]
 rw[e] at h;exact h
def Ev.o7{k:IntKind}{c:Int}(n:Nat)(hn:c=n)(a0:n≤64)(hx:evE env x=some (.int .u64 (a:Int)))(hy:evE env y=some (.int k c)):Ev P L env (.binOp .shr t x y yt) ty (.int .u64 ((a / 2 ^ n:Nat):Int)):=by
 have h:=Ev.shr (P:=P) (L:=L) (ty:=ty) (t:=t) (yt:=yt) hx hy ab
 have e:((a:Nat):Int).fdiv (2 ^ min c.toNat IntKind.u64.bits)=((a / 2 ^ n:Nat):Int):=by
  have e2:min c.toNat IntKind.u64.bits=n:=by simp[IntKind.bits];omega
  rw[e2,Int.fdiv_eq_ediv_of_nonneg _ (Int.le_of_lt (Int.pow_pos ag))];simp
 rw[e] at h;exact h
def Ev.l6(hx:evE env x=some (.int .u64 (a:Int)))(hy:evE env y=some (.int .u64 32)):Ev P L env (.binOp .shr t x y yt) ty (.int .u64 ((a / 4294967296:Nat):Int)):=by
 have h:=Ev.o7 (P:=P) (L:=L) (ty:=ty) (t:=t) (yt:=yt) 32 rfl ag hx hy;rw[show(2:Nat) ^ 32=4294967296 by decide] at h;exact h
def Ev.v7{k:IntKind}{c:Int}(n:Nat)(hn:c=n)(a0:n≤64)(hx:evE env x=some (.int .u64 (a:Int)))(hy:evE env y=some (.int k c)):Ev P L env (.binOp .shl t x y yt) ty (.int .u64 ((a*2 ^ n % 18446744073709551616:Nat):Int)):=by
 have h:=Ev.shl (P:=P) (L:=L) (ty:=ty) (t:=t) (yt:=yt) hx hy ab
 have e:IntKind.u64.wrap ((a:Int)*2 ^ min c.toNat IntKind.u64.bits)=((a*2 ^ n % 18446744073709551616:Nat):Int):=by
  have e2:min c.toNat IntKind.u64.bits=n:=by simp[IntKind.bits];omega
  rw[e2,IntKind.wrap_u64];simp
 rw[e] at h;exact h
def Ev.orN(hx:evE env x=some (.int .u64 (a:Int)))(hy:evE env y=some (.int .u64 (b:Int)))(ha:a<18446744073709551616)(hb:b<18446744073709551616):Ev P L env (.binOp .or t x y yt) ty (.int .u64 ((a ||| b:Nat):Int)):=by
 have h:=Ev.C2 (P:=P) (L:=L) (ty:=ty) (t:=t) (yt:=yt) hx hy ab ab ab ab;rw[aC,aC] at h;exact h
end
end Go.V
namespace Go.Proofs.YtommnllbflbdmaaGreatDoor
open Go.V
attribute [local irreducible] G GO GP GPW GPK Ev Ef EfR Ent CB GB Enters
def tH{L:LH}(x y:Nat)(hx:x<18446744073709551616)(hy:y<18446744073709551616) :
  Tri ai 241 #[.int .u64 (x:Int),.int .u64 (y:Int)] L (fun v L'=>v=.tuple #[.int .u64 ((x*y / 18446744073709551616:Nat):Int),.int .u64 ((x*y % 18446744073709551616:Nat):Int)]∧L' = L):=by
 obtain⟨m1,m2,m3,m4⟩:=Go.Lib.mul64_hi x y hx hy;refine Tri.bd ?_;refine Jq ?_;intros;refine GO.ev (Ev.o8 rfl rfl hx) ag ?_;refine Jq ?_;intros;refine GO.ev (Ev.l6 rfl rfl) ag ?_;refine Jq ?_;intros;refine GO.ev (Ev.o8 rfl rfl hy) ag ?_;refine Jq ?_;intros;refine GO.ev (Ev.l6 rfl rfl) ag ?_;have a0:=Go.Lib.half_mul_le (a:=x / 4294967296) (b:=y / 4294967296) ab ab;have a2:=Go.Lib.half_mul_le (a:=x / 4294967296) (b:=y % 4294967296) ab ab;have a1:=Go.Lib.half_mul_le (a:=x % 4294967296) (b:=y / 4294967296) ab ab;refine Jq ?_;intros;refine GO.ev (Ev.f8 m1 rfl rfl) ag ?_;refine Jq ?_;intros;refine GO.ev (Ev.f8 ab rfl rfl) ag ?_;refine Jq ?_;intros;refine GO.ev (Ev.l6 rfl rfl) ag ?_;refine GO.ev (Ev.g7 m2 rfl rfl) ag ?_;refine Jq ?_;intros;refine GO.ev (Ev.o8 rfl rfl m2) ag ?_;refine Jq ?_;intros;refine GO.ev (Ev.l6 rfl rfl) ag ?_;refine Jq ?_;intros;refine GO.ev (Ev.f8 ab rfl rfl) ag ?_;refine GO.ev (Ev.g7 m3 rfl rfl) ag ?_;refine Jq ?_;intros;refine GO.ev (Ev.f8 ab rfl rfl) ag ?_;refine Jq ?_;intros;refine GO.ev (Ev.g7 ab rfl rfl) ag ?_;refine Jq ?_;intros;refine GO.ev (Ev.l6 rfl rfl) ag ?_;refine GO.ev (Ev.g7 ab rfl rfl) ag ?_;rw[m4];refine Jq ?_;intros;refine GO.ev (Ev.n5 rfl rfl) ag ?_;refine Jq ?_;intros;exact KX.en ⟨rfl,rfl⟩
