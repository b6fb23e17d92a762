/- Lemmas. -/
import Derived.Test.YtommnllbflbdmaaGreatDoorLap
import Derived.Lib.Mul64
set_option linter.all false
set_option maxHeartbeats 2000000
namespace Go.Proofs.YtommnllbflbdmaaGreatDoor
section
open Go.V
attribute [local irreducible] G GO GP GPW GPK Ev Ef EfR Ent CB GB V.Enters
theorem vA{L:LH}(x:Lot)(h:LotOk x):Tri ah 233 #[.agg (an x).toArray] L (fun v L'=>v=.bool true∧L' = L):=by
 obtain⟨f,a,n⟩:=x;obtain⟨h1,h2,h3,h4,h5⟩:=h;dsimp only at h1 h2 h3 h4 h5;refine Tri.body (args:=[.agg (an (f,a,n)).toArray]) 29 Ff Tryz.func233 rfl rfl rfl (by simp) ?_;simp only[an];repeat first|refine aa ?_|intro
 exact KX.d7 ai ag ⟨by rw[aU (show a≤1099511627776 - n by omega)];rfl,rfl⟩
theorem qb{L:LH}(ad:OA)(n c:Nat)(xs:LL)[Rds L ad Lot an 3 xs](hn:n=xs.length)(hb:xs.length≤4096)(hx:∀l∈xs,LotOk l) :
  Tri ah 144 #[.slice ad n c] L (fun v L'=>v=.bool true∧L' = L):=by
 subst hn;refine Tri.body (args:=[.slice ad xs.length c]) 21 Fg Tryz.func144 rfl rfl rfl (by simp) ?_;repeat first|refine aa ?_|intro
 refine G.loop (α:=Nat) (fun i=>i≤xs.length) (fun i=>[(0,.slice ad xs.length c),(3,ab (i:Int))]) (fun _=>L) (fun i=>xs.length - i) 0 (ao _) aj (Ent.refl _) ?_;intro i hi;by_cases hlt:i<xs.length
 case neg =>
  repeat first|refine aa ?_|intro
  exact KX.d7 ai (Ent.refl _) ⟨by rw[aU ac];rfl,rfl⟩
 have hii:(i:Int).toNat=i:=ac;repeat first|refine aa ?_|intro
 rw[hii];refine GO.ef (Ef.d7 (vA xs[i]! (hx _ (aI hlt))) rfl) ae ?_;rintro _ L ⟨rfl,rfl⟩;repeat first|refine aa ?_|intro
 refine⟨i+1,ac,ac,?_,Ent.refl _⟩;rw[aP i];exact aj
theorem jj{L:LH}(ad:OA)(n c:Nat)(xs:LL)[Rds L ad Lot an 3 xs](hn:n=xs.length)(hb:xs.length≤4096)(hx:∀l∈xs,LotOk l) :
  Tri ah 222 #[.slice ad n c] L (fun v L'=>v=ab (lsum xs)∧L' = L):=by
 subst hn;refine Tri.body (args:=[.slice ad xs.length c]) 25 Io Tryz.func222 rfl rfl rfl (by simp) ?_;repeat first|refine aa ?_|intro
 refine GO.ef (Ef.d7 (qb ad xs.length c xs rfl hb hx) rfl) ae ?_;rintro _ L ⟨rfl,rfl⟩;repeat first|refine aa ?_|intro
 refine G.loop (α:=Nat) (fun i=>i≤xs.length) (fun i=>[(0,.slice ad xs.length c),(3,ab (lsum (xs.take i))),(4,.bool true),(5,ab (i:Int))]) (fun _=>L) (fun i=>xs.length - i) 0 (ao _) aj (Ent.refl _) ?_;intro i hi;by_cases hlt:i<xs.length
 case neg =>
  rw[aD ac];repeat first|refine aa ?_|intro
  exact KX.d7 ai (Ent.refl _) ⟨rfl,rfl⟩
 have hii:(i:Int).toNat=i:=ac;have hb1:=gx hx i hi;have hb2:=gx hx (i+1) ac;have hs:=dV xs hlt;repeat first|refine aa ?_|intro
 rw[hii];repeat first|refine aa ?_|intro
 refine⟨i+1,ac,ac,?_,Ent.refl _⟩;rw[aP i,hs];exact aj
abbrev AB:List Stp:=[.ev 0,.ev 1,.ev 2,.ev 3,.ev 4,.ev 5,.ev 6,.ev 7,.ev 8,.ev 9,.ev 10,.ev 11,.ev 12,.ev 13,.ev 14,.ev 15,.ev 16,.ev 17,.ev 18,.ev 19,.ev 20,.ev 21,.ev 22,.ev 23,.ev 24,.ev 25,.ev 26,.ev 27,.ev 28,.ev 29,.ev 30]
abbrev AA:List Stp:=[.ev 0,.ev 1,.ev 2,.ev 3,.ev 4,.ev 5,.ev 6,.ev 7,.ev 8,.ev 9,.ev 10,.ev 11,.ev 12,.ev 13,.ef 14]
theorem eC{φ ψ:Prop}(k:ψ)(h:Hid ψ→φ:=by intro k;(with_reducible apply G.d8);first|refine G.d7 (N:=66) (id:=6) AB mixed ap (Hid.out k)|refine G.d7 (N:=66) (id:=7) AA mixed ap (Hid.out k)):φ:=h ⟨k⟩
theorem kU{L:LH}(ad:OA)(n c:Nat)(xs:LL)(x:Lot)[Rds L ad Lot an 3 xs](hn:n=xs.length)(hl:xs.length≤100000000)(hxs:∀y∈xs,LotW y)(hx:LotW x) :
  Tri ah 140 #[.slice ad n c,.agg (an x).toArray] L (fun v L'=>∃ad' cap',v=.slice ad' (be xs x).length cap'∧L' = osl an 3 tLot ad' cap' (be xs x)::L):=by
 subst hn;obtain⟨f,a,m⟩:=x;obtain⟨x1,x2,x3,x4⟩:=hx;dsimp only at x1 x2 x3 x4;refine Tri.body (args:=[.slice ad xs.length c,.agg (an (f,a,m)).toArray]) 66 JH Tryz.func140 rfl rfl rfl (by simp) ?_;simp only[an];repeat first|refine aa ?_|intro _|refine eC ?_
 rename_i b3;refine GO.ent (Ent.d8 an 3 tLot) ?_;refine GO.ef (Ef.e7 (xs:=[]) rfl rfl rfl rfl rfl (fun e _=>cx e) (by simp;omega) (by simp;omega)) ae ?_;rintro _ _⟨ad2,cap2,rfl,rfl⟩;simp only[aq];by_cases h0:m=0
 ·have e:be xs (f,a,m)=xs:=if_pos h0;rw[e];repeat first|refine aa ?_|intro _|refine eC ?_
  exact KX.d7 ai ag ⟨ad2,cap2,rfl,rfl⟩
 have e0:be xs (f,a,m)=if xs.length≠0∧kB (f,a,m) xs[xs.length - 1]! then xs.set (xs.length - 1) (xs[xs.length - 1]!.1,xs[xs.length - 1]!.2.1,xs[xs.length - 1]!.2.2+m) else xs++[(f,a,m)]:=if_neg h0;by_cases hl0:xs.length=0
 ·rw[if_neg (fun q=>q.1 hl0)] at e0;rw[e0];repeat first|refine aa ?_|intro _|refine eC ?_
  refine GO.ef (Ef.d8 (enc:=an) (f,a,m) rfl rfl rfl rfl rfl (by rfl) (cx _) ac ac) ae ?_;rintro _ _⟨ad3,cap3,rfl,rfl⟩;repeat first|refine aa ?_|intro _|refine eC ?_
  exact KX.d7 ai ag ⟨ad3,cap3,rfl,rfl⟩
 obtain⟨i,hi⟩:∃i,((xs.length:Int) - 1).toNat=i:=⟨_,rfl⟩;have hil:i<xs.length:=ac;have hie:xs.length - 1=i:=ac;have hw:=hxs _ (aI hil);rw[←hi] at hw hil;obtain⟨w1,w2,w3,w4⟩:=hw;rw[hie] at e0;by_cases hc:xs[((xs.length:Int) - 1).toNat]!.1=f∧xs[((xs.length:Int) - 1).toNat]!.2.1+xs[((xs.length:Int) - 1).toNat]!.2.2=a
 ·obtain⟨c1,c2⟩:=hc;rw[hi] at c1 c2;rw[if_pos ⟨hl0,lcont_iff.2 ⟨c1.symm,c2.symm⟩⟩] at e0;rw[e0];rw[←hi] at c1 c2;repeat first|refine aa ?_|intro _|refine eC ?_
  refine GPW.efu (Ef.e8 (enc:=an) (xs[((xs.length:Int) - 1).toNat]!.1,xs[((xs.length:Int) - 1).toNat]!.2.1,xs[((xs.length:Int) - 1).toNat]!.2.2+m) rfl rfl rfl rfl hil ae) ?_;rintro _ _ rfl;rw[hi];repeat first|refine aa ?_|intro _|refine eC ?_
  refine KX.d7 ai ag ⟨ad2,cap2,?_,rfl⟩;rw[bg];rfl
 ·have e1:be xs (f,a,m)=xs++[(f,a,m)]:=by
   rw[e0,if_neg];rintro⟨_,q⟩;rw[lcont_iff] at q;rw[hi] at hc;exact hc ⟨q.1.symm,q.2.symm⟩
  rw[e1];by_cases c1:xs[((xs.length:Int) - 1).toNat]!.1=f
  ·have c2:¬xs[((xs.length:Int) - 1).toNat]!.2.1+xs[((xs.length:Int) - 1).toNat]!.2.2=a:=fun q=>hc ⟨c1,q⟩;repeat first|refine aa ?_|intro _|refine eC ?_
   refine GO.ef (Ef.d8 (enc:=an) (f,a,m) rfl rfl rfl rfl rfl (by rfl) (cx _) ac ac) ae ?_;rintro _ _⟨ad3,cap3,rfl,rfl⟩;repeat first|refine aa ?_|intro _|refine eC ?_
   exact KX.d7 ai ag ⟨ad3,cap3,rfl,rfl⟩
  ·repeat first|refine aa ?_|intro _|refine eC ?_
   refine GO.ef (Ef.d8 (enc:=an) (f,a,m) rfl rfl rfl rfl rfl (by rfl) (cx _) ac ac) ae ?_;rintro _ _⟨ad3,cap3,rfl,rfl⟩;repeat first|refine aa ?_|intro _|refine eC ?_
   exact KX.d7 ai ag ⟨ad3,cap3,rfl,rfl⟩
theorem Ei(k:Nat):2 ^ (k+1) / 2=2 ^ k:=by
 rw[Nat.pow_succ];omega
structure DivI (A B D k:Nat) (a q r bit:Int):Prop where
 a:a=((A % 2 ^ k:Nat):Int)
 q:q=((A / 2 ^ k*B / D:Nat):Int)
 r:r=((A / 2 ^ k*B % D:Nat):Int)
 bit:bit=((2 ^ k / 2:Nat):Int)
theorem kr{A B D k:Nat}(hD:0<D){a q r bit:Int}(h:DivI A B D (k+1) a q r bit){q1 r1:Int}(h1:((D:Int)≤2*r∧q1=2*q+1∧r1=2*r - D)∨(2*r<D∧q1=2*q∧r1=2*r)){a' q2 r2:Int}
  (h2:(a<bit∧a' = a∧q2=q1∧r2=r1)∨(bit≤a∧a' = a - bit∧((r1+(B:Int) % D<D∧q2=q1+(B:Int) / D∧r2=r1+(B:Int) % D)∨((D:Int)≤r1+(B:Int) % D∧q2=q1+(B:Int) / D+1∧r2=r1+(B:Int) % D - D)))):DivI A B D k a' q2 r2 (bit / 2):=by
 obtain⟨ha,hq,hr,hb⟩:=h;have hp:0<2 ^ k:=Nat.pos_of_ne_zero (by simp);obtain⟨p,hpe⟩:∃p,2 ^ k=p:=⟨_,rfl⟩;have hp2:2 ^ (k+1)=2*p:=by rw[Nat.pow_succ,hpe];omega
 obtain⟨H,hH⟩:∃H,A / (2*p)=H:=⟨_,rfl⟩;obtain⟨m,hm⟩:∃m,A % (2*p)=m:=⟨_,rfl⟩;have hA:m+2*p*H=A:=by rw[←hH,←hm];exact Nat.mod_add_div A (2*p)
 have hml:m<2*p:=by rw[←hm];exact dI _ ac
 rw[hp2,hH] at hq hr;rw[hp2,hm] at ha;rw[hp2] at hb;have hbit:bit=(p:Int):=by rw[hb];omega
 rw[hpe] at hp;obtain⟨Q,hQ⟩:∃Q,H*B / D=Q:=⟨_,rfl⟩;obtain⟨R,hR⟩:∃R,H*B % D=R:=⟨_,rfl⟩;rw[hQ] at hq;rw[hR] at hr;have hQR:R+D*Q=H*B:=by rw[←hQ,←hR];exact Nat.mod_add_div (H*B) D
 have hRl:R<D:=by rw[←hR];exact dI _ hD
 obtain⟨bq,hbq⟩:∃x,B / D=x:=⟨_,rfl⟩;obtain⟨br,hbr⟩:∃x,B % D=x:=⟨_,rfl⟩;have hB:br+D*bq=B:=by rw[←hbq,←hbr];exact Nat.mod_add_div B D
 have hbl:br<D:=by rw[←hbr];exact dI _ hD
 have e1:(B:Int) / D=(bq:Int):=by rw[←hbq];rfl
 have e2:(B:Int) % D=(br:Int):=by rw[←hbr];rfl
 rw[e1,e2] at h2;-- the first half
 obtain⟨Q1,R1,f1,f2,f3,f4⟩:∃Q1 R1:Nat,q1=(Q1:Int)∧r1=(R1:Int)∧R1<D∧R1+D*Q1=2*(H*B):=by
  rcases h1 with⟨c,x,y⟩|⟨c,x,y⟩
  ·refine⟨2*Q+1,2*R - D,ac,ac,ac,?_⟩;rw[ie,Nat.mul_one,Nat.mul_left_comm];omega
  ·refine⟨2*Q,2*R,ac,ac,ac,?_⟩;rw[Nat.mul_left_comm];omega
 rcases h2 with⟨c,x,y,z⟩|⟨c,x,⟨c2,y,z⟩|⟨c2,y,z⟩⟩
 ·have g:A / p=2*H∧A % p=m:=(Nat.div_mod_unique hp).2 ⟨by rw[←hA,ee 2 p,gL],ac⟩;have g2:2*H*B / D=Q1∧2*H*B % D=R1:=(Nat.div_mod_unique hD).2 ⟨by rw[f4,gL],f3⟩;refine⟨by rw[hpe,g.2];omega,by rw[hpe,g.1,g2.1];omega,by rw[hpe,g.1,g2.2];omega,by rw[hpe];omega⟩
 all_goals
  have g:A / p=2*H+1∧A % p=m - p:=(Nat.div_mod_unique hp).2 ⟨by
   rw[ie,Nat.mul_one,←hA,ee 2 p,gL];omega,ac⟩
  have g3:(2*H+1)*B=2*(H*B)+B:=by rw[fX,Nat.one_mul,gL]
 ·have g2:(2*H+1)*B / D=Q1+bq∧(2*H+1)*B % D=R1+br:=(Nat.div_mod_unique hD).2 ⟨by rw[g3,ie];omega,ac⟩;refine⟨by rw[hpe,g.2];omega,by rw[hpe,g.1,g2.1];omega,by rw[hpe,g.1,g2.2];omega,by rw[hpe];omega⟩
 ·have g2:(2*H+1)*B / D=Q1+bq+1∧(2*H+1)*B % D=R1+br - D:=(Nat.div_mod_unique hD).2 ⟨by rw[g3,ie,ie];omega,ac⟩;refine⟨by rw[hpe,g.2];omega,by rw[hpe,g.1,g2.1];omega,by rw[hpe,g.1,g2.2];omega,by rw[hpe];omega⟩
theorem kR{A B D k:Nat}{a q r bit:Int}(h:DivI A B D k a q r bit)(hD:0<D)(hq:A*B / D≤1099511627776)(hk:k≤61)(hA:A≤1152921504606846976):(0≤a∧a≤1152921504606846976)∧(0≤q∧q≤1099511627776)∧(0≤r∧r<D)∧(0≤bit∧bit≤1152921504606846976):=by
 obtain⟨ha,hq2,hr,hb⟩:=h;have h1:A % 2 ^ k≤A:=Nat.mod_le _ _;have h2:A / 2 ^ k*B / D≤A*B / D:=Nat.div_le_div_right (dz _ (Nat.div_le_self _ _));have h3:A / 2 ^ k*B % D<D:=dI _ hD;have h4:2 ^ k≤2 ^ 61:=Nat.pow_le_pow_right ae hk;have h5:(2:Nat) ^ 61=2305843009213693952:=by decide
 rw[h5] at h4;generalize A % 2 ^ k=u1 at *;generalize A / 2 ^ k*B / D=u2 at *;generalize A / 2 ^ k*B % D=u3 at *;generalize A*B / D=u4 at *;generalize 2 ^ k=u5 at *;omega
theorem vG{L:LH}(A B D:Nat)(hA:A≤1152921504606846976)(hB:B≤1152921504606846976)(hD:0<D)(hD2:D≤1152921504606846976)(hq:A*B / D≤1099511627776) :
  Tri ah 307 #[ab (A:Int),ab (B:Int),ab (D:Int)] L (fun v L'=>v=.tuple #[ab ((A*B / D:Nat):Int),ab ((A*B % D:Nat):Int),.bool true]∧L' = L):=by
 have hbq:0≤(B:Int) / D∧(B:Int) / D≤1152921504606846976:=by
  have h1:B / D≤B:=Nat.div_le_self _ _;have h2:(B:Int) / D=((B / D:Nat):Int):=rfl;rw[h2];generalize B / D=w at *;omega
 have hbr:0≤(B:Int) % D∧(B:Int) % D<D:=by
  have h1:B % D<D:=dI _ hD;have h2:(B:Int) % D=((B % D:Nat):Int):=rfl;rw[h2];generalize B % D=w at *;omega
 have hst:DivI A B D 61 A 0 0 1152921504606846976:=by
  have h5:(2:Nat) ^ 61=2305843009213693952:=by decide
  have e1:A % 2305843009213693952=A:=Nat.mod_eq_of_lt ac;have e0:A / 2305843009213693952=0:=Nat.div_eq_of_lt ac;refine⟨?_,?_,?_,?_⟩
  ·rw[h5,e1]
  ·rw[h5,e0,Nat.zero_mul,Nat.zero_div];rfl
  ·rw[h5,e0,Nat.zero_mul,Nat.zero_mod];rfl
  ·rw[h5];omega
 refine Tri.body (args:=[ab (A:Int),ab (B:Int),ab (D:Int)]) 56 Hi Tryz.func307 rfl rfl rfl (by simp) ?_;repeat first|refine aa ?_|intro
 refine G.loop (α:=Nat×Int×Int×Int×Int) (fun z=>z.1≤61∧DivI A B D z.1 z.2.1 z.2.2.1 z.2.2.2.1 z.2.2.2.2) (fun z=>[(0,ab z.2.1),(1,ab (B:Int)),(2,ab (D:Int)),(9,ab z.2.2.1),(10,ab z.2.2.2.1),(11,ab z.2.2.2.2)]) (fun _=>L) (fun z=>z.1) (61,A,0,0,1152921504606846976) ⟨aB _,hst⟩ aj (Ent.refl _) ?_;rintro⟨k,a,q,r,bit⟩ ⟨hk,hI⟩;dsimp only at hk hI ⊢;obtain⟨⟨b1,b2⟩,⟨b3,b4⟩,⟨b5,b6⟩,b7,b8⟩:=kR hI hD hq hk hA;by_cases hk0:k=0
 ·subst hk0;obtain⟨i1,i2,i3,i4⟩:=hI;have e1:q=((A*B / D:Nat):Int):=by rw[i2,Nat.pow_zero,Nat.div_one]
  have e2:r=((A*B % D:Nat):Int):=by rw[i3,Nat.pow_zero,Nat.div_one]
  have e3:bit=0:=by rw[i4];rfl
  subst e1 e2 e3;repeat first|refine aa ?_|intro
  exact KX.d7 ai (Ent.refl _) ⟨rfl,rfl⟩
 obtain⟨k,rfl⟩:∃j,k=j+1:=⟨k - 1,ac⟩
 have hbp:0<bit:=by
  rw[hI.bit,Ei];have:0<2 ^ k:=Nat.pos_of_ne_zero (by simp);omega
 by_cases c1:(D:Int)≤2*r
 ·by_cases c2:bit≤a
  ·by_cases c3:(D:Int)≤2*r - D+(B:Int) % D
   ·have hn:=kr hD hI (.inl ⟨c1,rfl,rfl⟩) (.inr ⟨c2,rfl,.inr ⟨c3,rfl,rfl⟩⟩);obtain⟨_,⟨n3,n4⟩,_,_,_⟩:=kR hn hD hq ac hA;repeat first|refine aa ?_|intro
    exact⟨(k,_,_,_,_),⟨by dsimp only;omega,hn⟩,by dsimp only;omega,aj,Ent.refl _⟩
   ·have hn:=kr hD hI (.inl ⟨c1,rfl,rfl⟩) (.inr ⟨c2,rfl,.inl ⟨ac,rfl,rfl⟩⟩);obtain⟨_,⟨n3,n4⟩,_,_,_⟩:=kR hn hD hq ac hA;repeat first|refine aa ?_|intro
    exact⟨(k,_,_,_,_),⟨by dsimp only;omega,hn⟩,by dsimp only;omega,aj,Ent.refl _⟩
  ·have hn:=kr hD hI (.inl ⟨c1,rfl,rfl⟩) (.inl ⟨ac,rfl,rfl,rfl⟩);obtain⟨_,⟨n3,n4⟩,_,_,_⟩:=kR hn hD hq ac hA;repeat first|refine aa ?_|intro
   exact⟨(k,_,_,_,_),⟨by dsimp only;omega,hn⟩,by dsimp only;omega,aj,Ent.refl _⟩
 ·by_cases c2:bit≤a
  ·by_cases c3:(D:Int)≤2*r+(B:Int) % D
   ·have hn:=kr hD hI (.inr ⟨ac,rfl,rfl⟩) (.inr ⟨c2,rfl,.inr ⟨c3,rfl,rfl⟩⟩);obtain⟨_,⟨n3,n4⟩,_,_,_⟩:=kR hn hD hq ac hA;repeat first|refine aa ?_|intro
    exact⟨(k,_,_,_,_),⟨by dsimp only;omega,hn⟩,by dsimp only;omega,aj,Ent.refl _⟩
   ·have hn:=kr hD hI (.inr ⟨ac,rfl,rfl⟩) (.inr ⟨c2,rfl,.inl ⟨ac,rfl,rfl⟩⟩);obtain⟨_,⟨n3,n4⟩,_,_,_⟩:=kR hn hD hq ac hA;repeat first|refine aa ?_|intro
    exact⟨(k,_,_,_,_),⟨by dsimp only;omega,hn⟩,by dsimp only;omega,aj,Ent.refl _⟩
  ·have hn:=kr hD hI (.inr ⟨ac,rfl,rfl⟩) (.inl ⟨ac,rfl,rfl,rfl⟩);obtain⟨_,⟨n3,n4⟩,_,_,_⟩:=kR hn hD hq ac hA;repeat first|refine aa ?_|intro
   exact⟨(k,_,_,_,_),⟨by dsimp only;omega,hn⟩,by dsimp only;omega,aj,Ent.refl _⟩
end
end Go.Proofs.YtommnllbflbdmaaGreatDoor
namespace Go.V
theorem G.atB{P:Program}{N:Nat}{env:Env}{L:LH}{K:Post}(id:Nat){c y:Code}(h:G P N (.seq (.block id c) y) env L K):G P N (.seq (.block id c) y) env L K:=h
section
variable {P:Program}{env:Env}{L:LH}{ty:TypeId}{t yt:TypeId}{x y:Operand}{a b:Nat}
theorem Ev.z8(hx:evE env x=some (.int .u64 (a:Int)))(hy:evE env y=some (.int .u64 (b:Int))):Ev P L env (.binOp .add t x y yt) ty (.int .u64 (((a+b) % 18446744073709551616:Nat):Int)):=by
 have h:=Ev.f8 (P:=P) (L:=L) (ty:=ty) (t:=t) (yt:=yt) hx hy;rw[IntKind.wrap_u64,show((a:Int)+(b:Int)) % 18446744073709551616=(((a+b) % 18446744073709551616:Nat):Int) by omega] at h;exact h
theorem Ev.g7(hs:a+b<18446744073709551616)(hx:evE env x=some (.int .u64 (a:Int)))(hy:evE env y=some (.int .u64 (b:Int))):Ev P L env (.binOp .add t x y yt) ty (.int .u64 ((a+b:Nat):Int)):=by
 have h:=Ev.z8 (P:=P) (L:=L) (ty:=ty) (t:=t) (yt:=yt) hx hy;rw[Nat.mod_eq_of_lt hs] at h;exact h
theorem Ev.y9(hx:evE env x=some (.int .u64 (a:Int)))(hy:evE env y=some (.int .u64 (b:Int)))(hb:b≤18446744073709551616):Ev P L env (.binOp .sub t x y yt) ty (.int .u64 (((a+18446744073709551616 - b) % 18446744073709551616:Nat):Int)):=by
 have h:=Ev.D0 (P:=P) (L:=L) (ty:=ty) (t:=t) (yt:=yt) hx hy;rw[IntKind.wrap_u64,show((a:Int) - (b:Int)) % 18446744073709551616=(((a+18446744073709551616 - b) % 18446744073709551616:Nat):Int) by omega] at h;exact h
theorem Ev.l5(hs:b≤a)(ha:a<18446744073709551616)(hx:evE env x=some (.int .u64 (a:Int)))(hy:evE env y=some (.int .u64 (b:Int))):Ev P L env (.binOp .sub t x y yt) ty (.int .u64 ((a - b:Nat):Int)):=by
 have h:=Ev.y9 (P:=P) (L:=L) (ty:=ty) (t:=t) (yt:=yt) hx hy ac;rw[show(a+18446744073709551616 - b) % 18446744073709551616=a - b by omega] at h;exact h
theorem Ev.m7(hx:evE env x=some (.int .u64 (a:Int)))(hy:evE env y=some (.int .u64 (b:Int))):Ev P L env (.binOp .mul t x y yt) ty (.int .u64 ((a*b % 18446744073709551616:Nat):Int)):=by
 have h:=Ev.D2 (P:=P) (L:=L) (ty:=ty) (t:=t) (yt:=yt) hx hy;have e:((a:Int)*(b:Int)) % 18446744073709551616=((a*b % 18446744073709551616:Nat):Int):=by simp
 rw[IntKind.wrap_u64,e] at h;exact h
theorem Ev.f9(hs:a*b<18446744073709551616)(hx:evE env x=some (.int .u64 (a:Int)))(hy:evE env y=some (.int .u64 (b:Int))):Ev P L env (.binOp .mul t x y yt) ty (.int .u64 ((a*b:Nat):Int)):=by
 have h:=Ev.m7 (P:=P) (L:=L) (ty:=ty) (t:=t) (yt:=yt) hx hy;rw[Nat.mod_eq_of_lt hs] at h;exact h
theorem Ev.z7(hx:evE env x=some (.int .u64 (a:Int)))(hy:evE env y=some (.int .u64 (b:Int)))(ha:a<18446744073709551616)(hb:0<b):Ev P L env (.binOp .quo t x y yt) ty (.int .u64 ((a / b:Nat):Int)):=by
 have h:=Ev.C8 (P:=P) (L:=L) (ty:=ty) (t:=t) (yt:=yt) hx hy ac ac ac;rw[show((a:Int) / (b:Int))=((a / b:Nat):Int) from(Int.natCast_ediv a b).symm] at h;exact h
theorem Ev.o8(hx:evE env x=some (.int .u64 (a:Int)))(hy:evE env y=some (.int .u64 4294967295))(ha:a<18446744073709551616):Ev P L env (.binOp .and t x y yt) ty (.int .u64 ((a % 4294967296:Nat):Int)):=by
 have h:=Ev.C9 (P:=P) (L:=L) (ty:=ty) (t:=t) (yt:=yt) hx hy ac ac ac ac
 have e:((a:Int).toNat &&& (4294967295:Int).toNat)=a % 4294967296:=by
  rw[aA,show(4294967295:Int).toNat=2 ^ 32 - 1 by decide,Nat.and_two_pow_sub_one_eq_mod]
 rw[e] at h;exact h
theorem Ev.o7{k:IntKind}{c:Int}(n:Nat)(hn:c=n)(h64:n≤64)(hx:evE env x=some (.int .u64 (a:Int)))(hy:evE env y=some (.int k c)):Ev P L env (.binOp .shr t x y yt) ty (.int .u64 ((a / 2 ^ n:Nat):Int)):=by
 have h:=Ev.shr (P:=P) (L:=L) (ty:=ty) (t:=t) (yt:=yt) hx hy ac
 have e:((a:Nat):Int).fdiv (2 ^ min c.toNat IntKind.u64.bits)=((a / 2 ^ n:Nat):Int):=by
  have e2:min c.toNat IntKind.u64.bits=n:=by simp[IntKind.bits];omega
  rw[e2,Int.fdiv_eq_ediv_of_nonneg _ (Int.le_of_lt (Int.pow_pos ae))];simp
 rw[e] at h;exact h
theorem Ev.l6(hx:evE env x=some (.int .u64 (a:Int)))(hy:evE env y=some (.int .u64 32)):Ev P L env (.binOp .shr t x y yt) ty (.int .u64 ((a / 4294967296:Nat):Int)):=by
 have h:=Ev.o7 (P:=P) (L:=L) (ty:=ty) (t:=t) (yt:=yt) 32 rfl ae hx hy;rw[show(2:Nat) ^ 32=4294967296 by decide] at h;exact h
theorem Ev.z6{k:IntKind}{c:Int}(n:Nat)(hn:c=n)(h64:n≤64)(hx:evE env x=some (.int .u64 (a:Int)))(hy:evE env y=some (.int k c)):Ev P L env (.binOp .shl t x y yt) ty (.int .u64 ((a*2 ^ n % 18446744073709551616:Nat):Int)):=by
 have h:=Ev.shl (P:=P) (L:=L) (ty:=ty) (t:=t) (yt:=yt) hx hy ac
 have e:IntKind.u64.wrap ((a:Int)*2 ^ min c.toNat IntKind.u64.bits)=((a*2 ^ n % 18446744073709551616:Nat):Int):=by
  have e2:min c.toNat IntKind.u64.bits=n:=by simp[IntKind.bits];omega
  rw[e2,IntKind.wrap_u64];simp
 rw[e] at h;exact h
theorem Ev.orN(hx:evE env x=some (.int .u64 (a:Int)))(hy:evE env y=some (.int .u64 (b:Int)))(ha:a<18446744073709551616)(hb:b<18446744073709551616):Ev P L env (.binOp .or t x y yt) ty (.int .u64 ((a ||| b:Nat):Int)):=by
 have h:=Ev.D1 (P:=P) (L:=L) (ty:=ty) (t:=t) (yt:=yt) hx hy ac ac ac ac;rw[aA,aA] at h;exact h
end
end Go.V
namespace Go.Proofs.YtommnllbflbdmaaGreatDoor
open Go.V
attribute [local irreducible] G GO GP GPW GPK Ev Ef EfR Ent CB GB Enters
theorem sa{L:LH}(x y:Nat)(hx:x<18446744073709551616)(hy:y<18446744073709551616) :
  Tri ah 241 #[.int .u64 (x:Int),.int .u64 (y:Int)] L (fun v L'=>v=.tuple #[.int .u64 ((x*y / 18446744073709551616:Nat):Int),.int .u64 ((x*y % 18446744073709551616:Nat):Int)]∧L' = L):=by
 obtain⟨m1,m2,m3,m4⟩:=Go.Lib.mul64_hi x y hx hy;refine Tri.body (args:=[.int .u64 (x:Int),.int .u64 (y:Int)]) 51 HW Tryz.func241 rfl rfl rfl (by simp) ?_;repeat first|refine aa ?_|intro
 refine GO.ev (Ev.o8 rfl rfl hx) ae ?_;repeat first|refine aa ?_|intro
 refine GO.ev (Ev.l6 rfl rfl) ae ?_;repeat first|refine aa ?_|intro
 refine GO.ev (Ev.o8 rfl rfl hy) ae ?_;repeat first|refine aa ?_|intro
 refine GO.ev (Ev.l6 rfl rfl) ae ?_;have hb1:=Go.Lib.half_mul_le (a:=x / 4294967296) (b:=y / 4294967296) ac ac;have hb2:=Go.Lib.half_mul_le (a:=x / 4294967296) (b:=y % 4294967296) ac ac;have hb3:=Go.Lib.half_mul_le (a:=x % 4294967296) (b:=y / 4294967296) ac ac;repeat first|refine aa ?_|intro
 refine GO.ev (Ev.f9 m1 rfl rfl) ae ?_;repeat first|refine aa ?_|intro
 refine GO.ev (Ev.f9 ac rfl rfl) ae ?_;repeat first|refine aa ?_|intro
 refine GO.ev (Ev.l6 rfl rfl) ae ?_;refine GO.ev (Ev.g7 m2 rfl rfl) ae ?_;repeat first|refine aa ?_|intro
 refine GO.ev (Ev.o8 rfl rfl m2) ae ?_;repeat first|refine aa ?_|intro
 refine GO.ev (Ev.l6 rfl rfl) ae ?_;repeat first|refine aa ?_|intro
 refine GO.ev (Ev.f9 ac rfl rfl) ae ?_;refine GO.ev (Ev.g7 m3 rfl rfl) ae ?_;repeat first|refine aa ?_|intro
 refine GO.ev (Ev.f9 ac rfl rfl) ae ?_;repeat first|refine aa ?_|intro
 refine GO.ev (Ev.g7 ac rfl rfl) ae ?_;repeat first|refine aa ?_|intro
 refine GO.ev (Ev.l6 rfl rfl) ae ?_;refine GO.ev (Ev.g7 ac rfl rfl) ae ?_;rw[m4];repeat first|refine aa ?_|intro
 refine GO.ev (Ev.m7 rfl rfl) ae ?_;repeat first|refine aa ?_|intro
 exact KX.d7 ai (Ent.refl _) ⟨rfl,rfl⟩
