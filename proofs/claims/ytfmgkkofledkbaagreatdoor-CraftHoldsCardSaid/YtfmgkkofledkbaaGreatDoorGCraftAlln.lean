/- Lemmas and contracts of functions, in the order: Z1, Z2. -/
import Derived.Test.YtfmgkkofledkbaaGreatDoorGCraftAllf
set_option linter.all false
set_option maxHeartbeats 2000000
namespace Go.Proofs.YtfmgkkofledkbaaGreatDoor
open Go.V
attribute [local irreducible] G GO GP GPW GPK Ev Ef EfR Ent CB GB V.Enters
section
theorem uo {L:List HP} (x:Lot) (h:LotOk x):Tri Tryz.prog 274 #[.agg (av x).toArray] L (fun v L'=>v=.bool true∧L' = L):=by
 obtain ⟨f,a,n⟩:=x
 obtain ⟨h1,h2,h3,h4,h5⟩:=h
 dsimp only at h1 h2 h3 h4 h5
 refine Tri.body (args:=[.agg (av (f,a,n)).toArray]) 29 Hb Tryz.func274 rfl rfl rfl (by simp) ?_
 simp only [av]
 repeat first|refine aa ?_|intro _
 exact KX.a6 ai ae ⟨by rw [aw (show a≤1099511627776 - n by omega)];rfl,rfl⟩
theorem oS {L:List HP} (ad:Option Addr) (n c:Nat) (xs:List Lot) [Rds L ad Lot av 3 xs] (hn:n=xs.length) (hb:xs.length≤4096) (hx:∀ l∈xs,LotOk l) :
  Tri Tryz.prog 199 #[.slice ad n c] L (fun v L'=>v=.bool true∧L' = L):=by
 subst hn
 refine Tri.body (args:=[.slice ad xs.length c]) 21 Ik Tryz.func199 rfl rfl rfl (by simp) ?_
 repeat first|refine aa ?_|intro _
 refine G.loop (α:=Nat) (fun i=>i≤xs.length) (fun i=>[(0,.slice ad xs.length c),(3,.int .i64 (i:Int))]) (fun _=>L) (fun i=>xs.length - i) 0 (Nat.zero_le _) aj (Ent.refl _) ?_
 intro i hi
 by_cases hlt:i<xs.length
 case neg =>
  repeat first|refine aa ?_|intro _
  exact KX.a6 ai (Ent.refl _) ⟨by rw [aw ab];rfl,rfl⟩
 have hii:(i:Int).toNat=i:=ab
 repeat first|refine aa ?_|intro _
 rw [hii]
 refine GO.ef (Ef.a6 (uo xs[i]! (hx _ (ap hlt))) rfl) ac ?_
 rintro _ L ⟨rfl,rfl⟩
 repeat first|refine aa ?_|intro _
 refine ⟨i+1,ab,ab,?_,Ent.refl _⟩
 rw [show ((i+1:Nat):Int)=(i:Int)+1 by omega]
 exact aj
theorem gj {L:List HP} (ad:Option Addr) (n c:Nat) (xs:List Lot) [Rds L ad Lot av 3 xs] (hn:n=xs.length) (hb:xs.length≤4096) (hx:∀ l∈xs,LotOk l) :
  Tri Tryz.prog 136 #[.slice ad n c] L (fun v L'=>v=.int .i64 (lsum xs)∧L' = L):=by
 subst hn
 refine Tri.body (args:=[.slice ad xs.length c]) 25 Jb Tryz.func136 rfl rfl rfl (by simp) ?_
 repeat first|refine aa ?_|intro _
 refine GO.ef (Ef.a6 (oS ad xs.length c xs rfl hb hx) rfl) ac ?_
 rintro _ L ⟨rfl,rfl⟩
 repeat first|refine aa ?_|intro _
 refine G.loop (α:=Nat) (fun i=>i≤xs.length) (fun i=>[(0,.slice ad xs.length c),(3,.int .i64 (lsum (xs.take i))),(4,.bool true),(5,.int .i64 (i:Int))]) (fun _=>L) (fun i=>xs.length - i) 0 (Nat.zero_le _) aj (Ent.refl _) ?_
 intro i hi
 by_cases hlt:i<xs.length
 case neg =>
  rw [List.take_of_length_le ab]
  repeat first|refine aa ?_|intro _
  exact KX.a6 ai (Ent.refl _) ⟨rfl,rfl⟩
 have hii:(i:Int).toNat=i:=ab
 have hb1:=fg hx i hi
 have hb2:=fg hx (i+1) ab
 have hs:=dL xs hlt
 repeat first|refine aa ?_|intro _
 rw [hii]
 repeat first|refine aa ?_|intro _
 refine ⟨i+1,ab,ab,?_,Ent.refl _⟩
 rw [show ((i+1:Nat):Int)=(i:Int)+1 by omega,hs]
 exact aj
abbrev zO:List Stp:=[.ev 0,.ev 1,.ev 2,.ev 3,.ev 4,.ev 5,.ev 6,.ev 7,.ev 8,.ev 9,.ev 10,.ev 11,.ev 12,.ev 13,.ev 14,.ev 15,.ev 16,.ev 17,.ev 18,.ev 19,.ev 20,.ev 21,.ev 22,.ev 23,.ev 24,.ev 25,.ev 26,.ev 27,.ev 28,.ev 29,.ev 30]
abbrev zN:List Stp:=[.ev 0,.ev 1,.ev 2,.ev 3,.ev 4,.ev 5,.ev 6,.ev 7,.ev 8,.ev 9,.ev 10,.ev 11,.ev 12,.ev 13,.ef 14]
theorem dU {φ ψ:Prop} (k:ψ) (h:Hid ψ→φ:=by intro k;(with_reducible apply G.a7);first|refine G.a6 (N:=66) (id:=6) zO mixed ah (Hid.out k)|refine G.a6 (N:=66) (id:=7) zN mixed ah (Hid.out k)):φ:=h ⟨k⟩
theorem lj {L:List HP} (ad:Option Addr) (n c:Nat) (xs:List Lot) (x:Lot) [Rds L ad Lot av 3 xs] (hn:n=xs.length) (hl:xs.length≤100000000) (hxs:∀ y∈xs,LotW y) (hx:LotW x) :
  Tri Tryz.prog 194 #[.slice ad n c,.agg (av x).toArray] L (fun v L'=>∃ ad' cap',v=.slice ad' (bR xs x).length cap'∧L' = osl av 3 tLot ad' cap' (bR xs x)::L):=by
 subst hn
 obtain ⟨f,a,m⟩:=x
 obtain ⟨x1,x2,x3,x4⟩:=hx
 dsimp only at x1 x2 x3 x4
 refine Tri.body (args:=[.slice ad xs.length c,.agg (av (f,a,m)).toArray]) 66 Ip Tryz.func194 rfl rfl rfl (by simp) ?_
 simp only [av]
 repeat first|refine aa ?_|intro _|refine dU ?_
 rename_i b3
 refine GO.ent (Ent.a7 av 3 tLot) ?_
 refine GO.ef (Ef.c6 (xs:=[]) rfl rfl rfl rfl rfl (fun e _=>fI e) (by simp;omega) (by simp;omega)) ac ?_
 rintro _ _ ⟨ad2,cap2,rfl,rfl⟩
 simp only [List.nil_append]
 by_cases h0:m=0
 ·have e:bR xs (f,a,m)=xs:=if_pos h0
  rw [e]
  repeat first|refine aa ?_|intro _|refine dU ?_
  exact KX.a6 ai ae ⟨ad2,cap2,rfl,rfl⟩
 have e0:bR xs (f,a,m)=if xs.length≠0∧kR (f,a,m) xs[xs.length - 1]! then xs.set (xs.length - 1) (xs[xs.length - 1]!.1,xs[xs.length - 1]!.2.1,xs[xs.length - 1]!.2.2+m) else xs++[(f,a,m)]:=if_neg h0
 by_cases hl0:xs.length=0
 ·rw [if_neg (fun q=>q.1 hl0)] at e0
  rw [e0]
  repeat first|refine aa ?_|intro _|refine dU ?_
  refine GO.ef (Ef.a7 (enc:=av) (f,a,m) rfl rfl rfl rfl rfl (by rfl) (fI _) ab ab) ac ?_
  rintro _ _ ⟨ad3,cap3,rfl,rfl⟩
  repeat first|refine aa ?_|intro _|refine dU ?_
  exact KX.a6 ai ae ⟨ad3,cap3,rfl,rfl⟩
 obtain ⟨i,hi⟩:∃ i,((xs.length:Int) - 1).toNat=i:=⟨_,rfl⟩
 have hil:i<xs.length:=ab
 have hie:xs.length - 1=i:=ab
 have hw:=hxs _ (ap hil)
 rw [← hi] at hw hil
 obtain ⟨w1,w2,w3,w4⟩:=hw
 rw [hie] at e0
 by_cases hc:xs[((xs.length:Int) - 1).toNat]!.1=f∧xs[((xs.length:Int) - 1).toNat]!.2.1+xs[((xs.length:Int) - 1).toNat]!.2.2=a
 ·obtain ⟨c1,c2⟩:=hc
  rw [hi] at c1 c2
  rw [if_pos ⟨hl0,lcont_iff.2 ⟨c1.symm,c2.symm⟩⟩] at e0
  rw [e0]
  rw [← hi] at c1 c2
  repeat first|refine aa ?_|intro _|refine dU ?_
  refine GPW.efu (Ef.f8 (enc:=av) (xs[((xs.length:Int) - 1).toNat]!.1,xs[((xs.length:Int) - 1).toNat]!.2.1,xs[((xs.length:Int) - 1).toNat]!.2.2+m) rfl rfl rfl rfl hil ac) ?_
  rintro _ _ rfl
  rw [hi]
  repeat first|refine aa ?_|intro _|refine dU ?_
  refine KX.a6 ai ae ⟨ad2,cap2,?_,rfl⟩
  rw [List.length_set]
  rfl
 ·have e1:bR xs (f,a,m)=xs++[(f,a,m)]:=by
   rw [e0,if_neg]
   rintro ⟨_,q⟩
   rw [lcont_iff] at q
   rw [hi] at hc
   exact hc ⟨q.1.symm,q.2.symm⟩
  rw [e1]
  by_cases c1:xs[((xs.length:Int) - 1).toNat]!.1=f
  ·have c2:¬xs[((xs.length:Int) - 1).toNat]!.2.1+xs[((xs.length:Int) - 1).toNat]!.2.2=a:=fun q=>hc ⟨c1,q⟩
   repeat first|refine aa ?_|intro _|refine dU ?_
   refine GO.ef (Ef.a7 (enc:=av) (f,a,m) rfl rfl rfl rfl rfl (by rfl) (fI _) ab ab) ac ?_
   rintro _ _ ⟨ad3,cap3,rfl,rfl⟩
   repeat first|refine aa ?_|intro _|refine dU ?_
   exact KX.a6 ai ae ⟨ad3,cap3,rfl,rfl⟩
  ·repeat first|refine aa ?_|intro _|refine dU ?_
   refine GO.ef (Ef.a7 (enc:=av) (f,a,m) rfl rfl rfl rfl rfl (by rfl) (fI _) ab ab) ac ?_
   rintro _ _ ⟨ad3,cap3,rfl,rfl⟩
   repeat first|refine aa ?_|intro _|refine dU ?_
   exact KX.a6 ai ae ⟨ad3,cap3,rfl,rfl⟩
end
section
theorem Dw (k:Nat):2 ^ (k+1) / 2=2 ^ k:=by
 rw [Nat.pow_succ]
 omega
structure DivI (A B D k:Nat) (a q r bit:Int):Prop where
 a:a=((A % 2 ^ k:Nat):Int)
 q:q=((A / 2 ^ k*B / D:Nat):Int)
 r:r=((A / 2 ^ k*B % D:Nat):Int)
 bit:bit=((2 ^ k / 2:Nat):Int)
theorem iM {A B D k:Nat} (hD:0<D) {a q r bit:Int} (h:DivI A B D (k+1) a q r bit) {q1 r1:Int} (h1:((D:Int)≤2*r∧q1=2*q+1∧r1=2*r - D)∨(2*r<D∧q1=2*q∧r1=2*r)) {a' q2 r2:Int}
  (h2:(a<bit∧a' = a∧q2=q1∧r2=r1)∨(bit≤a∧a' = a - bit∧((r1+(B:Int) % D<D∧q2=q1+(B:Int) / D∧r2=r1+(B:Int) % D)∨((D:Int)≤r1+(B:Int) % D∧q2=q1+(B:Int) / D+1∧r2=r1+(B:Int) % D - D)))):DivI A B D k a' q2 r2 (bit / 2):=by
 obtain ⟨ha,hq,hr,hb⟩:=h
 have hp:0<2 ^ k:=Nat.pos_of_ne_zero (by simp)
 obtain ⟨p,hpe⟩:∃ p,2 ^ k=p:=⟨_,rfl⟩
 have hp2:2 ^ (k+1)=2*p:=by rw [Nat.pow_succ,hpe];omega
 obtain ⟨H,hH⟩:∃ H,A / (2*p)=H:=⟨_,rfl⟩
 obtain ⟨m,hm⟩:∃ m,A % (2*p)=m:=⟨_,rfl⟩
 have hA:m+2*p*H=A:=by rw [← hH,← hm];exact Nat.mod_add_div A (2*p)
 have hml:m<2*p:=by rw [← hm];exact Nat.mod_lt _ ab
 rw [hp2,hH] at hq hr
 rw [hp2,hm] at ha
 rw [hp2] at hb
 have hbit:bit=(p:Int):=by rw [hb];omega
 rw [hpe] at hp
 obtain ⟨Q,hQ⟩:∃ Q,H*B / D=Q:=⟨_,rfl⟩
 obtain ⟨R,hR⟩:∃ R,H*B % D=R:=⟨_,rfl⟩
 rw [hQ] at hq
 rw [hR] at hr
 have hQR:R+D*Q=H*B:=by rw [← hQ,← hR];exact Nat.mod_add_div (H*B) D
 have hRl:R<D:=by rw [← hR];exact Nat.mod_lt _ hD
 obtain ⟨bq,hbq⟩:∃ x,B / D=x:=⟨_,rfl⟩
 obtain ⟨br,hbr⟩:∃ x,B % D=x:=⟨_,rfl⟩
 have hB:br+D*bq=B:=by rw [← hbq,← hbr];exact Nat.mod_add_div B D
 have hbl:br<D:=by rw [← hbr];exact Nat.mod_lt _ hD
 have e1:(B:Int) / D=(bq:Int):=by rw [← hbq];rfl
 have e2:(B:Int) % D=(br:Int):=by rw [← hbr];rfl
 rw [e1,e2] at h2
 -- the first half
 obtain ⟨Q1,R1,f1,f2,f3,f4⟩:∃ Q1 R1:Nat,q1=(Q1:Int)∧r1=(R1:Int)∧R1<D∧R1+D*Q1=2*(H*B):=by
  rcases h1 with ⟨c,x,y⟩|⟨c,x,y⟩
  ·refine ⟨2*Q+1,2*R - D,ab,ab,ab,?_⟩
   rw [Nat.mul_add,Nat.mul_one,Nat.mul_left_comm]
   omega
  ·refine ⟨2*Q,2*R,ab,ab,ab,?_⟩
   rw [Nat.mul_left_comm]
   omega
 rcases h2 with ⟨c,x,y,z⟩|⟨c,x,⟨c2,y,z⟩|⟨c2,y,z⟩⟩
 ·have g:A / p=2*H∧A % p=m:=(Nat.div_mod_unique hp).2 ⟨by rw [← hA,Nat.mul_comm 2 p,Nat.mul_assoc],ab⟩
  have g2:2*H*B / D=Q1∧2*H*B % D=R1:=(Nat.div_mod_unique hD).2 ⟨by rw [f4,Nat.mul_assoc],f3⟩
  refine ⟨by rw [hpe,g.2];omega,by rw [hpe,g.1,g2.1];omega,by rw [hpe,g.1,g2.2];omega,by rw [hpe];omega⟩
 all_goals
  have g:A / p=2*H+1∧A % p=m - p:=(Nat.div_mod_unique hp).2 ⟨by
   rw [Nat.mul_add,Nat.mul_one,← hA,Nat.mul_comm 2 p,Nat.mul_assoc]
   omega,ab⟩
  have g3:(2*H+1)*B=2*(H*B)+B:=by rw [Nat.add_mul,Nat.one_mul,Nat.mul_assoc]
 ·have g2:(2*H+1)*B / D=Q1+bq∧(2*H+1)*B % D=R1+br:=(Nat.div_mod_unique hD).2 ⟨by rw [g3,Nat.mul_add];omega,ab⟩
  refine ⟨by rw [hpe,g.2];omega,by rw [hpe,g.1,g2.1];omega,by rw [hpe,g.1,g2.2];omega,by rw [hpe];omega⟩
 ·have g2:(2*H+1)*B / D=Q1+bq+1∧(2*H+1)*B % D=R1+br - D:=(Nat.div_mod_unique hD).2 ⟨by rw [g3,Nat.mul_add,Nat.mul_add];omega,ab⟩
  refine ⟨by rw [hpe,g.2];omega,by rw [hpe,g.1,g2.1];omega,by rw [hpe,g.1,g2.2];omega,by rw [hpe];omega⟩
theorem jp {A B D k:Nat} {a q r bit:Int} (h:DivI A B D k a q r bit) (hD:0<D) (hq:A*B / D≤1099511627776) (hk:k≤61) (hA:A≤1152921504606846976):(0≤a∧a≤1152921504606846976)∧(0≤q∧q≤1099511627776)∧(0≤r∧r<D)∧(0≤bit∧bit≤1152921504606846976):=by
 obtain ⟨ha,hq2,hr,hb⟩:=h
 have h1:A % 2 ^ k≤A:=Nat.mod_le _ _
 have h2:A / 2 ^ k*B / D≤A*B / D:=Nat.div_le_div_right (Nat.mul_le_mul_right _ (Nat.div_le_self _ _))
 have h3:A / 2 ^ k*B % D<D:=Nat.mod_lt _ hD
 have h4:2 ^ k≤2 ^ 61:=Nat.pow_le_pow_right ac hk
 have h5:(2:Nat) ^ 61=2305843009213693952:=by decide
 rw [h5] at h4
 generalize A % 2 ^ k=u1 at *
 generalize A / 2 ^ k*B / D=u2 at *
 generalize A / 2 ^ k*B % D=u3 at *
 generalize A*B / D=u4 at *
 generalize 2 ^ k=u5 at *
 omega
theorem uw {L:List HP} (A B D:Nat) (hA:A≤1152921504606846976) (hB:B≤1152921504606846976) (hD:0<D) (hD2:D≤1152921504606846976) (hq:A*B / D≤1099511627776) :
  Tri Tryz.prog 338 #[.int .i64 (A:Int),.int .i64 (B:Int),.int .i64 (D:Int)] L (fun v L'=>v=.tuple #[.int .i64 ((A*B / D:Nat):Int),.int .i64 ((A*B % D:Nat):Int),.bool true]∧L' = L):=by
 have hbq:0≤(B:Int) / D∧(B:Int) / D≤1152921504606846976:=by
  have h1:B / D≤B:=Nat.div_le_self _ _
  have h2:(B:Int) / D=((B / D:Nat):Int):=rfl
  rw [h2]
  generalize B / D=w at *
  omega
 have hbr:0≤(B:Int) % D∧(B:Int) % D<D:=by
  have h1:B % D<D:=Nat.mod_lt _ hD
  have h2:(B:Int) % D=((B % D:Nat):Int):=rfl
  rw [h2]
  generalize B % D=w at *
  omega
 have hst:DivI A B D 61 A 0 0 1152921504606846976:=by
  have h5:(2:Nat) ^ 61=2305843009213693952:=by decide
  have e1:A % 2305843009213693952=A:=Nat.mod_eq_of_lt ab
  have e0:A / 2305843009213693952=0:=Nat.div_eq_of_lt ab
  refine ⟨?_,?_,?_,?_⟩
  ·rw [h5,e1]
  ·rw [h5,e0,Nat.zero_mul,Nat.zero_div];rfl
  ·rw [h5,e0,Nat.zero_mul,Nat.zero_mod];rfl
  ·rw [h5];omega
 refine Tri.body (args:=[.int .i64 (A:Int),.int .i64 (B:Int),.int .i64 (D:Int)]) 56 Gq Tryz.func338 rfl rfl rfl (by simp) ?_
 repeat first|refine aa ?_|intro _
 refine G.loop (α:=Nat×Int×Int×Int×Int) (fun z=>z.1≤61∧DivI A B D z.1 z.2.1 z.2.2.1 z.2.2.2.1 z.2.2.2.2) (fun z=>[(0,.int .i64 z.2.1),(1,.int .i64 (B:Int)),(2,.int .i64 (D:Int)),(9,.int .i64 z.2.2.1),(10,.int .i64 z.2.2.2.1),(11,.int .i64 z.2.2.2.2)]) (fun _=>L) (fun z=>z.1) (61,A,0,0,1152921504606846976) ⟨Nat.le_refl _,hst⟩ aj (Ent.refl _) ?_
 rintro ⟨k,a,q,r,bit⟩ ⟨hk,hI⟩
 dsimp only at hk hI ⊢
 obtain ⟨⟨b1,b2⟩,⟨b3,b4⟩,⟨b5,b6⟩,b7,b8⟩:=jp hI hD hq hk hA
 by_cases hk0:k=0
 ·subst hk0
  obtain ⟨i1,i2,i3,i4⟩:=hI
  have e1:q=((A*B / D:Nat):Int):=by rw [i2,Nat.pow_zero,Nat.div_one]
  have e2:r=((A*B % D:Nat):Int):=by rw [i3,Nat.pow_zero,Nat.div_one]
  have e3:bit=0:=by rw [i4];rfl
  subst e1 e2 e3
  repeat first|refine aa ?_|intro _
  exact KX.a6 ai (Ent.refl _) ⟨rfl,rfl⟩
 obtain ⟨k,rfl⟩:∃ j,k=j+1:=⟨k - 1,ab⟩
 have hbp:0<bit:=by
  rw [hI.bit,Dw]
  have:0<2 ^ k:=Nat.pos_of_ne_zero (by simp)
  omega
 by_cases c1:(D:Int)≤2*r
 ·by_cases c2:bit≤a
  ·by_cases c3:(D:Int)≤2*r - D+(B:Int) % D
   ·have hn:=iM hD hI (.inl ⟨c1,rfl,rfl⟩) (.inr ⟨c2,rfl,.inr ⟨c3,rfl,rfl⟩⟩)
    obtain ⟨_,⟨n3,n4⟩,_,_,_⟩:=jp hn hD hq ab hA
    repeat first|refine aa ?_|intro _
    exact ⟨(k,_,_,_,_),⟨by dsimp only;omega,hn⟩,by dsimp only;omega,aj,Ent.refl _⟩
   ·have hn:=iM hD hI (.inl ⟨c1,rfl,rfl⟩) (.inr ⟨c2,rfl,.inl ⟨ab,rfl,rfl⟩⟩)
    obtain ⟨_,⟨n3,n4⟩,_,_,_⟩:=jp hn hD hq ab hA
    repeat first|refine aa ?_|intro _
    exact ⟨(k,_,_,_,_),⟨by dsimp only;omega,hn⟩,by dsimp only;omega,aj,Ent.refl _⟩
  ·have hn:=iM hD hI (.inl ⟨c1,rfl,rfl⟩) (.inl ⟨ab,rfl,rfl,rfl⟩)
   obtain ⟨_,⟨n3,n4⟩,_,_,_⟩:=jp hn hD hq ab hA
   repeat first|refine aa ?_|intro _
   exact ⟨(k,_,_,_,_),⟨by dsimp only;omega,hn⟩,by dsimp only;omega,aj,Ent.refl _⟩
 ·by_cases c2:bit≤a
  ·by_cases c3:(D:Int)≤2*r+(B:Int) % D
   ·have hn:=iM hD hI (.inr ⟨ab,rfl,rfl⟩) (.inr ⟨c2,rfl,.inr ⟨c3,rfl,rfl⟩⟩)
    obtain ⟨_,⟨n3,n4⟩,_,_,_⟩:=jp hn hD hq ab hA
    repeat first|refine aa ?_|intro _
    exact ⟨(k,_,_,_,_),⟨by dsimp only;omega,hn⟩,by dsimp only;omega,aj,Ent.refl _⟩
   ·have hn:=iM hD hI (.inr ⟨ab,rfl,rfl⟩) (.inr ⟨c2,rfl,.inl ⟨ab,rfl,rfl⟩⟩)
    obtain ⟨_,⟨n3,n4⟩,_,_,_⟩:=jp hn hD hq ab hA
    repeat first|refine aa ?_|intro _
    exact ⟨(k,_,_,_,_),⟨by dsimp only;omega,hn⟩,by dsimp only;omega,aj,Ent.refl _⟩
  ·have hn:=iM hD hI (.inr ⟨ab,rfl,rfl⟩) (.inl ⟨ab,rfl,rfl,rfl⟩)
   obtain ⟨_,⟨n3,n4⟩,_,_,_⟩:=jp hn hD hq ab hA
   repeat first|refine aa ?_|intro _
   exact ⟨(k,_,_,_,_),⟨by dsimp only;omega,hn⟩,by dsimp only;omega,aj,Ent.refl _⟩
end
end Go.Proofs.YtfmgkkofledkbaaGreatDoor
