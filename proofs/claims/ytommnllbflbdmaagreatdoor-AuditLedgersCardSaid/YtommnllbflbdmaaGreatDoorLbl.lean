/- Lemmas. -/
import Derived.Test.YtommnllbflbdmaaGreatDoorLbk
set_option linter.all false
set_option maxHeartbeats 8000000
namespace Go.Proofs.YtommnllbflbdmaaGreatDoor
section
open Go.V
attribute [local irreducible] G GO GP GPW GPK Ev Ef EfR Ent CB GB V.Enters
def mvAP(k:Nat)(kind:Int)(m:MvM):Prop:=(0≤m.item∧m.item<k)∧(1≤m.n∧m.n≤1099511627776)∧accP m.frm∧accP m.to∧m.frm≠m.to∧fg kind m
theorem nO{k:Nat}{kind:Int}{m:MvM}(h:0≤kind∧kind≤10):mvAP k kind m↔jc k (gi kind) m∧(kind≠4→kind≠10→iJ kind m):=by
 have e:gi kind=true↔kind=5∨kind=7∨kind=9:=by unfold gi;rw[fN,decide_eq_true_iff]
 have hp:=@partsA_iff m.parts m.n;unfold mvAP jc pS accP;by_cases h5:kind=5
 ·subst h5;rw[if_pos (e.2 (.inl rfl)),←hp,show iJ 5 m↔m.frm=0 from Iff.rfl,show fg 5 m↔m.frm=0∧gj m.parts m.n from Iff.rfl];constructor
  ·rintro⟨a,b,c,d,f,g1,g2⟩;exact⟨⟨⟨a,b,f,ac⟩,g2⟩,fun _ _=>g1⟩
  ·rintro⟨⟨⟨a,b,f,c⟩,g2⟩,g1⟩;exact⟨a,b,ac,ac,f,g1 ae ae,g2⟩
 by_cases h7:kind=7
 ·subst h7;rw[if_pos (e.2 (.inr (.inl rfl))),←hp,show iJ 7 m↔0<m.frm from Iff.rfl,show fg 7 m↔m.frm≠0∧gj m.parts m.n from Iff.rfl];constructor
  ·rintro⟨a,b,c,d,f,g1,g2⟩;exact⟨⟨⟨a,b,f,ac⟩,g2⟩,fun _ _=>by omega⟩
  ·rintro⟨⟨⟨a,b,f,c⟩,g2⟩,g1⟩;have:=g1 ae ae
   exact⟨a,b,ac,ac,f,ac,g2⟩
 by_cases h9:kind=9
 ·subst h9;rw[if_pos (e.2 (.inr (.inr rfl))),←hp,show iJ 9 m↔0<m.to from Iff.rfl,show fg 9 m↔m.to≠0∧gj m.parts m.n from Iff.rfl];constructor
  ·rintro⟨a,b,c,d,f,g1,g2⟩;exact⟨⟨⟨a,b,f,ac⟩,g2⟩,fun _ _=>by omega⟩
  ·rintro⟨⟨⟨a,b,f,c⟩,g2⟩,g1⟩;have:=g1 ae ae
   exact⟨a,b,ac,ac,f,ac,g2⟩
 rw[if_neg (fun q=>by rcases e.1 q with q|q|q<;>omega)];unfold iJ fg;by_cases h0:kind=0
 ·rw[if_pos h0,if_pos (.inl h0)];constructor
  ·rintro⟨a,b,c,d,f,g1,g2⟩;exact⟨⟨⟨a,b,f,ac⟩,g2⟩,fun _ _=>g1⟩
  ·rintro⟨⟨⟨a,b,f,c⟩,g2⟩,g1⟩;exact⟨a,b,ac,ac,f,g1 ac ac,g2⟩
 rw[if_neg h0,if_neg (show ¬(kind=0∨kind=5) from fun q=>q.elim h0 h5)];by_cases h1:kind=1∨kind=6
 ·rw[if_pos h1,if_pos h1];constructor
  ·rintro⟨a,b,c,d,f,g1,g2⟩;exact⟨⟨⟨a,b,f,ac⟩,g2⟩,fun _ _=>g1⟩
  ·rintro⟨⟨⟨a,b,f,c⟩,g2⟩,g1⟩;exact⟨a,b,ac,ac,f,g1 ac ac,g2⟩
 simp only[if_neg h1,if_neg h7,if_neg h9,if_neg h5];by_cases h2:kind=2∨kind=3∨kind=8
 ·rw[if_pos h2];constructor
  ·rintro⟨a,b,c,d,f,g1,g3,g2⟩;exact⟨⟨⟨a,b,f,ac⟩,g2⟩,fun _ _=>by omega⟩
  ·rintro⟨⟨⟨a,b,f,c⟩,g2⟩,g1⟩;have:=g1 ac ac
   exact⟨a,b,ac,ac,f,ac,ac,g2⟩
 rw[if_neg h2];constructor
 ·rintro⟨a,b,c,d,f,g2⟩;exact⟨⟨⟨a,b,f,ac⟩,g2⟩,fun _ _=>by omega⟩
 ·rintro⟨⟨⟨a,b,f,c⟩,g2⟩,g1⟩;exact⟨a,b,ac,ac,f,g2⟩
def uO(rules:List RuM)(s:StM):Prop:=if s.kind=4 then fw rules s.rule s.times s.moves else if s.kind=10 then je s else s.rule = -1∧s.times=0
theorem possG_A{c:CatM}{now:Int}{s:StM}:fL c now s↔(0≤s.kind∧s.kind≤10)∧accP s.actor∧(now≤s.tick∧s.tick≤1099511627776)∧(1≤s.moves.length∧s.moves.length≤64)∧(∀m∈s.moves,mvAP c.items.length s.kind m)∧uO c.rules s:=by
 unfold fL kw uO;constructor
 ·rintro⟨h1,h2,h3,h4,h5,h6⟩;refine⟨h1,h2,h3,h4,fun m hm=>(nO h1).2 ⟨h5 m hm,fun g4 g10=>?_⟩,?_⟩
  ·rw[if_neg g4,if_neg g10] at h6;exact h6.1 m hm
  ·by_cases g4:s.kind=4
   ·rw[if_pos g4] at h6 ⊢;exact h6
   ·rw[if_neg g4] at h6 ⊢;by_cases g10:s.kind=10
    ·rw[if_pos g10] at h6 ⊢;exact h6
    ·rw[if_neg g10] at h6 ⊢;exact h6.2
 ·rintro⟨h1,h2,h3,h4,h5,h6⟩;refine⟨h1,h2,h3,h4,fun m hm=>((nO h1).1 (h5 m hm)).1,?_⟩;by_cases g4:s.kind=4
  ·rw[if_pos g4] at h6 ⊢;exact h6
  ·rw[if_neg g4] at h6 ⊢;by_cases g10:s.kind=10
   ·rw[if_pos g10] at h6 ⊢;exact h6
   ·rw[if_neg g10] at h6 ⊢;exact⟨fun m hm=>((nO h1).1 (h5 m hm)).2 g4 g10,h6⟩
theorem mS{L:LH}(n:Int):Tri ah 147 #[ab n] L (fun v L'=>v=.bool (dB (accP n))∧L' = L):=by
 refine Tri.body (args:=[ab n]) 9 JB Tryz.func147 rfl rfl rfl (by simp) ?_;by_cases h1:0≤n
 ·repeat first|refine aa ?_|intro
  exact KX.d7 ai (Ent.refl _) ⟨by rw[fQ (show accP n↔n≤1073741824 from⟨fun q=>q.2,fun q=>⟨h1,q⟩⟩)];rfl,rfl⟩
 ·repeat first|refine aa ?_|intro
  exact KX.d7 ai (Ent.refl _) ⟨by rw[aF (show ¬accP n from fun q=>h1 q.1)];rfl,rfl⟩
abbrev yF:List Stp:=[.ev 0,.ev 1,.ev 2,.ev 3,.ev 4,.ev 5,.ev 6,.ev 7,.ev 8,.ev 9,.ev 10,.ev 11,.ef 12,.ev 13,.ev 14,.ev 15,.ev 16,.ev 17,.ev 18,.ev 19,.ev 20,.ev 21,.ev 22,.ev 23,.ev 24,.ev 25,.ev 26,.ev 27,.ev 28,.ev 29,.ev 30,.ev 31,.ev 32,.ev 33,.ev 34,.ev 35,.ev 36,.ev 37,.ev 38,.ev 39,.ev 40]
abbrev yE:List Stp:=[.ev 0,.ev 1,.ev 2,.ev 3,.ev 4,.ev 5,.ev 6,.ev 7,.ev 8,.ev 9,.ev 10,.ev 11,.ev 12,.ev 13,.ev 14,.ev 15,.ev 16,.ev 17,.ev 18,.ev 19,.ev 20,.ev 21,.ev 22,.ev 23,.ev 24,.ev 25,.ev 26,.ev 27,.ef 28,.ev 29,.ev 30,.ev 31,.ev 32,.ev 33,.ev 34,.ef 35,.ev 36,.ev 37,.ev 38,.ev 39,.ev 40,.ev 41,.ev 42,.ev 43,.ev 44,.ev 45,.ev 46,.ev 47,.ev 48,.ef 49,.ev 50,.ev 51]
theorem bU{φ ψ:Prop}(k:ψ)(h:Hid ψ→φ:=by intro k;(with_reducible apply G.d8);first|refine G.d7 (N:=128) (id:=2) yF mixed ap (Hid.out k)|refine G.d7 (N:=128) (id:=7) yE mixed ap (Hid.out k)):φ:=h ⟨k⟩
theorem BW{L R:LH}{b:Nat}{sh:Int}{x:BkX}[hp:PickObj L b tBk (bJ sh x) R](s:StV)[hrm:Rds L s.mad MvV aM 5 s.moves](hc:x.cat.m.Ok)(hB:x.cat.B)(hml:s.moves.length≤1000000)(hcap:s.moves.length≤s.mcap)(hpl:∀m∈s.moves,m.m.parts.length≤9223372036854775807)(hI:I64 s.rule) :
  Tri ah 101 #[au b,.agg (aJ s).toArray] (catP x.cat::stP s::L) (fun v L'=>v=.bool (dB (fL x.cat.m x.tick s.m))∧L' = catP x.cat::stP s::L):=by
 have hil:x.cat.m.items.length=x.cat.items.length:=by simp[CatV.m]
 have hi64:=hB.items;have hmm:s.m.moves=s.moves.map MvV.m:=rfl;have hmj:∀{i:Nat},i<s.moves.length→s.moves[i]!.m∈s.m.moves:=fun hi=>by rw[hmm];exact alStd0List_mem_map_of_mem (aI hi)
 have hl:s.m.moves.length=s.moves.length:=by rw[hmm,aG]
 have hA:=possG_A (c:=x.cat.m) (now:=x.tick) (s:=s.m);rw[hil,hl] at hA;have hno:∀{p:Prop},¬p→(fL x.cat.m x.tick s.m→p)→dB (fL x.cat.m x.tick s.m)=false:=fun h q=>aF (fun r=>h (q r));refine Tri.body (args:=[au b,.agg (aJ s).toArray]) 128 Kn Tryz.func101 rfl rfl rfl (by simp) ?_;by_cases h01:0≤s.kind
 case neg =>
  repeat first|refine aa ?_|intro _|refine bU ?_
  exact KX.d7 ai ag ⟨by rw[hno h01 (fun h=>(hA.1 h).1.1)];rfl,rfl⟩
 by_cases h02:s.kind≤10
 case neg =>
  repeat first|refine aa ?_|intro _|refine bU ?_
  exact KX.d7 ai ag ⟨by rw[hno h02 (fun h=>(hA.1 h).1.2)];rfl,rfl⟩
 repeat first|refine aa ?_|intro _|refine bU ?_
 refine GPW.ef (Ef.d9 rfl rfl (mS s.actor)) ae ?_;rintro _ _⟨rfl,rfl⟩;by_cases h2:accP s.actor
 case neg =>
  rw[aF h2];repeat first|refine aa ?_|intro _|refine bU ?_
  exact KX.d7 ai ag ⟨by rw[hno h2 (fun h=>(hA.1 h).2.1)];rfl,rfl⟩
 rw[aU h2];by_cases h3:x.tick≤s.tick
 case neg =>
  repeat first|refine aa ?_|intro _|refine bU ?_
  exact KX.d7 ai ag ⟨by rw[hno h3 (fun h=>(hA.1 h).2.2.1.1)];rfl,rfl⟩
 by_cases h4:s.tick≤1099511627776
 case neg =>
  repeat first|refine aa ?_|intro _|refine bU ?_
  exact KX.d7 ai ag ⟨by rw[hno h4 (fun h=>(hA.1 h).2.2.1.2)];rfl,rfl⟩
 by_cases h5:1≤s.moves.length
 case neg =>
  repeat first|refine aa ?_|intro _|refine bU ?_
  exact KX.d7 ai ag ⟨by rw[hno h5 (fun h=>(hA.1 h).2.2.2.1.1)];rfl,rfl⟩
 by_cases h6:s.moves.length≤64
 case neg =>
  repeat first|refine aa ?_|intro _|refine bU ?_
  exact KX.d7 ai ag ⟨by rw[hno h6 (fun h=>(hA.1 h).2.2.2.1.2)];rfl,rfl⟩
 repeat first|refine aa ?_|intro _|refine bU ?_
 rename_i b3;refine G.loop (α:=Nat) (fun i=>i≤s.moves.length∧∀j,j<i→mvAP x.cat.items.length s.kind s.moves[j]!.m) (fun i=>[(0,au b),(3,au b3),(5,.func (.func 147) #[] #[]),(50,.slice s.mad s.moves.length s.mcap),(51,ab s.moves.length),(52,ab (i:Int))]) (fun _=>obj b3 bh (aJ s)::catP x.cat::stP s::L) (fun i=>s.moves.length - i) 0 ⟨ao _,fun j hj=>absurd hj (cd j)⟩ aj ag ?_;rintro i ⟨hi,hfit⟩;by_cases hlt:i<s.moves.length
 case pos =>
  have hii:(i:Int).toNat=i:=aA i;have hlt' : (i:Int).toNat<s.moves.length:=ac;have hpm:=hpl _ (aI hlt');have hnm:∀{p:Prop},¬p→(mvAP x.cat.items.length s.kind s.moves[(i:Int).toNat]!.m→p)→dB (fL x.cat.m x.tick s.m)=false:=fun h q=>hno h (fun r=>q ((hA.1 r).2.2.2.2.1 _ (hmj hlt')));refine G.ent (L':=isl an 3 s.moves[(i:Int).toNat]!.pad s.moves[(i:Int).toNat]!.m.parts::obj b3 bh (aJ s)::catP x.cat::stP s::L) ((Ent.at (A:=stP s) (pH hlt')).trans ag) ?_;by_cases c1:0≤s.moves[(i:Int).toNat]!.m.item
  case neg =>
   repeat first|refine aa ?_|intro _|refine bU ?_
   exact KX.d7 ai ag ⟨by rw[hnm c1 (fun q=>q.1.1)];rfl,rfl⟩
  by_cases c2:s.moves[(i:Int).toNat]!.m.item<x.cat.items.length
  case neg =>
   repeat first|refine aa ?_|intro _|refine bU ?_
   exact KX.d7 ai ag ⟨by rw[hnm c2 (fun q=>q.1.2)];rfl,rfl⟩
  by_cases c3:1≤s.moves[(i:Int).toNat]!.m.n
  case neg =>
   repeat first|refine aa ?_|intro _|refine bU ?_
   exact KX.d7 ai ag ⟨by rw[hnm c3 (fun q=>q.2.1.1)];rfl,rfl⟩
  by_cases c4:s.moves[(i:Int).toNat]!.m.n≤1099511627776
  case neg =>
   repeat first|refine aa ?_|intro _|refine bU ?_
   exact KX.d7 ai ag ⟨by rw[hnm c4 (fun q=>q.2.1.2)];rfl,rfl⟩
  repeat first|refine aa ?_|intro _|refine bU ?_
  refine GPW.ef (Ef.d9 rfl rfl (mS s.moves[(i:Int).toNat]!.m.frm)) ae ?_;rintro _ _⟨rfl,rfl⟩;by_cases c5:accP s.moves[(i:Int).toNat]!.m.frm
  case neg =>
   rw[aF c5];repeat first|refine aa ?_|intro _|refine bU ?_
   exact KX.d7 ai ag ⟨by rw[hnm c5 (fun q=>q.2.2.1)];rfl,rfl⟩
  rw[aU c5];repeat first|refine aa ?_|intro _|refine bU ?_
  refine GPW.ef (Ef.d9 rfl rfl (mS s.moves[(i:Int).toNat]!.m.to)) ae ?_;rintro _ _⟨rfl,rfl⟩;by_cases c6:accP s.moves[(i:Int).toNat]!.m.to
  case neg =>
   rw[aF c6];repeat first|refine aa ?_|intro _|refine bU ?_
   exact KX.d7 ai ag ⟨by rw[hnm c6 (fun q=>q.2.2.2.1)];rfl,rfl⟩
  rw[aU c6];by_cases c7:s.moves[(i:Int).toNat]!.m.frm=s.moves[(i:Int).toNat]!.m.to
  case pos =>
   repeat first|refine aa ?_|intro _|refine bU ?_
   exact KX.d7 ai ag ⟨by rw[hnm (p:=¬s.moves[(i:Int).toNat]!.m.frm=s.moves[(i:Int).toNat]!.m.to) (fun q=>q c7) (fun q=>q.2.2.2.2.1)];rfl,rfl⟩
  repeat first|refine aa ?_|intro _|refine bU ?_
  refine GPW.ef (Ef.d7 (BY s.kind s.moves[(i:Int).toNat]! hpm) rfl) ae ?_;rintro _ _⟨rfl,rfl⟩;by_cases c8:fg s.kind s.moves[(i:Int).toNat]!.m
  case neg =>
   rw[aF c8];repeat first|refine aa ?_|intro _|refine bU ?_
   exact KX.d7 ai ag ⟨by rw[hnm c8 (fun q=>q.2.2.2.2.2)];rfl,rfl⟩
  rw[aU c8];repeat first|refine aa ?_|intro _|refine bU ?_
  refine⟨i+1,⟨ac,fun j hj=>?_⟩,ac,?_,by exact ag⟩
  ·rcases cg j i with h|h
   ·exact hfit j h
   ·obtain rfl:j=i:=ac;rw[hii] at c1 c2 c3 c4 c5 c6 c7 c8;exact⟨⟨c1,c2⟩,⟨c3,c4⟩,c5,c6,c7,c8⟩
  ·rw[aP i];exact aj
 obtain rfl:i=s.moves.length:=ac
 have hall:∀m∈s.m.moves,mvAP x.cat.items.length s.m.kind m:=fun m hm=>by
  rw[hmm] at hm;obtain⟨u,hu,rfl⟩:=List.mem_map.1 hm;obtain⟨j,hj,rfl⟩:=List.mem_iff_getElem.1 hu;have:=hfit j hj
  rw[getElem!_of hj] at this;exact this
 have hB2:fL x.cat.m x.tick s.m↔uO x.cat.m.rules s.m:=⟨fun h=>(hA.1 h).2.2.2.2.2,fun h=>hA.2 ⟨⟨h01,h02⟩,h2,⟨h3,h4⟩,⟨h5,h6⟩,hall,h⟩⟩;unfold uO at hB2;by_cases hk4:s.kind=4
 ·rw[if_pos (show s.m.kind=4 from hk4)] at hB2;repeat first|refine aa ?_|intro _|refine bU ?_
  refine GO.ent (Ent.at (A:=catP x.cat) (Ent.refl _)) ?_;refine GO.ef (Ef.d7 (uM (b:=b) (sh:=sh) (x:=x) s hc hB h6 hcap hI) rfl) ae ?_;rintro _ _⟨rfl,rfl⟩;repeat first|refine aa ?_|intro _|refine bU ?_
  exact KX.d7 ai ag ⟨by rw[fQ hB2];rfl,rfl⟩
 rw[if_neg (show ¬s.m.kind=4 from hk4)] at hB2;by_cases hk10:s.kind=10
 ·rw[if_pos (show s.m.kind=10 from hk10)] at hB2
  have hn0:∀m∈s.moves,0≤m.m.n:=fun m hm=>by
   have:=(hall m.m (alStd0List_mem_map_of_mem hm)).2.1.1
   omega
  repeat first|refine aa ?_|intro _|refine bU ?_
  refine GO.ef (Ef.d7 (pV s hn0 hml) rfl) ae ?_;rintro _ _⟨rfl,rfl⟩;repeat first|refine aa ?_|intro _|refine bU ?_
  exact KX.d7 ai ag ⟨by rw[fQ hB2];rfl,rfl⟩
 rw[if_neg (show ¬s.m.kind=10 from hk10)] at hB2;by_cases h7:s.rule = -1
 ·repeat first|refine aa ?_|intro _|refine bU ?_
  exact KX.d7 ai ag ⟨by rw[fQ (hB2.trans ⟨fun q=>q.2,fun q=>⟨h7,q⟩⟩)];rfl,rfl⟩
 ·repeat first|refine aa ?_|intro _|refine bU ?_
  exact KX.d7 ai ag ⟨by rw[aF (fun q=>h7 (hB2.1 q).1)];rfl,rfl⟩
end
section
open Go.V
structure MvA (kind:Int) (m:MvM):Prop where
 g:MvG m
 imp:kind=5→m.frm=0
 st:kind=5∨kind=7∨kind=9→gj m.parts m.n
theorem tM{m:MvM}{kind:Int}{k:Nat}(hk:0≤kind∧kind≤10)(h:mvAP k kind m):MvA kind m:=by
 obtain⟨h1,h2⟩:=(nO hk).1 h;obtain⟨h3,h4⟩:=h1;have e:gi kind=true↔kind=5∨kind=7∨kind=9:=by unfold gi;rw[fN,decide_eq_true_iff]
 refine⟨⟨h3.2.1,h3.2.2.1,?_⟩,fun h5=>?_,fun hs=>?_⟩
 ·split at h4
  ·exact .inr h4
  ·exact .inl (aW h4)
 ·have:=h2 ac ac
  unfold iJ at this;rwa [if_pos (.inr h5)] at this
 ·rw[if_pos (e.2 hs)] at h4;exact partsA_iff.2 h4
theorem qm(fl:List FlM)(f:FlM):fO (fl++[f])=fO fl++(if f.kind=5 then f.parts else[]):=by
 unfold fO;rw[dJ,cM];by_cases h:f.kind=5
 ·rw[if_pos h,cu (by simpa using h)];simp
 ·rw[if_neg h,cv (by simpa using h)];simp
theorem qh(fl:List FlM)(f:FlM):fu (fl++[f])=fu fl++(if f.kind=9∧f.frm=0 then f.parts else[]):=by
 unfold fu;rw[dJ,cM];by_cases h:f.kind=9∧f.frm=0
 ·rw[if_pos h,cu (by simpa using h)];simp
 ·rw[if_neg h,cv (by simpa using h)];simp
structure WkA (sh:Int) (fl:List FlM) (k:Nat) (W:Wk):Prop where
 g:WkG sh fl k W
 fa:FlA (fl++W.flows)
 fn:FlN sh (fl++W.flows)
 il:(fO (fl++W.flows)).length≤k
 rl:(fu (fl++W.flows)).length≤k
theorem oZ{mix:Int→Bool}{s:StM}{W:Wk}{m:MvM}(hm:MvA s.kind m)(h:s.kind=5∨(s.kind=9∧m.frm=0)):gPts mix s W m=m.parts:=by
 have h0:m.frm=0:=by
  rcases h with h|h
  ·exact hm.imp h
  ·exact h.2
 unfold gPts;rw[if_pos h0,if_pos ac]
theorem zH{sh:Int}{fl:List FlM}{mix:Int→Bool}{s:StM}{W:Wk}{k:Nat}{m:MvM}(hsh:0≤sh)(h:WkA sh fl k W)(hm:MvA s.kind m)(hk:k+m.parts.length≤2000)(he:(dq sh fl mix s W m).1=0):WkA sh fl (k+m.parts.length+1) (dq sh fl mix s W m).2:=by
 obtain⟨g1,g2⟩:=qW hsh h.g hm.g hk he
 have herr:gErr sh (fl++W.flows) s W m=0:=by
  unfold dq at he;by_cases h1:gErr sh (fl++W.flows) s W m≠0
  ·rw[if_pos h1] at he;exact absurd he h1
  ·exact Classical.not_not.1 h1
 obtain⟨p1,_⟩:=Dr (mix:=mix) h.g hm.g hk herr;have il:=h.il;have rl:=h.rl;refine⟨g1,?_,?_,?_,?_⟩
 ·rw[g2,←aH];intro f hf;rcases List.mem_append.1 hf with hf|hf
  ·exact h.fa f hf
  ·rw[List.mem_singleton.1 hf];refine⟨p1,fun hq=>?_⟩;show Apart (gPts mix s W m);rw[oZ hm hq];exact(hm.st (by rcases hq with hq|hq;exact .inl hq;exact .inr (.inr hq.1))).2.1
 ·rw[g2,←aH];intro j hj;rw[az,bC] at hj;by_cases hj2:j<(fl++W.flows).length
  ·have:=h.fn j hj2
   rw[getElem!_of hj2] at this;rw[getElem!_of (by rw[az,bC];omega),List.getElem_append_left hj2];exact this
  ·obtain rfl:j=(fl++W.flows).length:=ac;rw[getElem!_of (by simp only[az,bC];omega),List.getElem_append_right (aB _)];simp only[Nat.sub_self,List.getElem_cons_zero];refine⟨?_,hm.g.n⟩;show cN sh fl.length W=_;unfold cN;rw[az];omega
 ·rw[g2,←aH,qm,az]
  have e:(if(fq sh fl.length mix s W m).kind=5 then(fq sh fl.length mix s W m).parts else[]).length≤m.parts.length:=by
   split
   ·rename_i hq;show(gPts mix s W m).length≤_;rw[oZ hm (.inl hq)];exact aB _
   ·exact ao _
  omega
 ·rw[g2,←aH,qh,az]
  have e:(if(fq sh fl.length mix s W m).kind=9∧(fq sh fl.length mix s W m).frm=0 then(fq sh fl.length mix s W m).parts else[]).length≤m.parts.length:=by
   split
   ·rename_i hq;show(gPts mix s W m).length≤_;rw[oZ hm (.inr hq)];exact aB _
   ·exact ao _
  omega
def lotsIn(a i:Int):List MvM→Nat
 | []=>0
 | m::ms=>((if m.to=a∧m.item=i then 1 else 0)+(if m.frm=a∧m.item=i then m.parts.length else 0))+lotsIn a i ms
theorem lv(a i:Int):∀x y:List MvM,lotsIn a i (x++y)=lotsIn a i x+lotsIn a i y
 | [],y=>by show lotsIn a i y=0+lotsIn a i y;omega
 | m::x,y=>by
  have:=lv a i x y
  show((if m.to=a∧m.item=i then 1 else 0)+(if m.frm=a∧m.item=i then m.parts.length else 0))+lotsIn a i (x++y)=((if m.to=a∧m.item=i then 1 else 0)+(if m.frm=a∧m.item=i then m.parts.length else 0))+lotsIn a i x+lotsIn a i y;omega
theorem oS(a i:Int):∀ms:List MvM,lotsIn a i ms≤mvK ms
 | []=>aB _
 | m::ms=>by
  have:=oS a i ms
  show((if m.to=a∧m.item=i then 1 else 0)+(if m.frm=a∧m.item=i then m.parts.length else 0))+lotsIn a i ms≤(m.parts.length+1)+mvK ms;split<;>split<;>omega
theorem EC{sh:Int}{fl:List FlM}{mix:Int→Bool}{W:Wk}{k:Nat}{m:MvM}(h:WkG sh fl k W)(hm:MvG m)(a i:Int):(gStk mix W m a i).length≤(W.stk a i).length+(if m.frm=a∧m.item=i then m.parts.length else 0):=by
 unfold gStk;by_cases h0:m.frm=0
 ·rw[if_pos h0];exact dQ _ _
 rw[if_neg h0];unfold upd2;by_cases ha:a=m.frm∧i=m.item
 case neg =>
  rw[if_neg ha];exact dQ _ _
 rw[if_pos ha,if_pos ⟨ha.1.symm,ha.2.symm⟩];obtain⟨rfl,rfl⟩:=ha;unfold kY;by_cases hp:m.parts=[]
 ·rw[if_pos hp];exact cB (jF _ _ _).2 (dQ _ _)
 ·rw[if_neg hp];have hs:=h.stk m.frm m.item;exact(sF (⟨aB _,hs.ok,hs.apt⟩:StkG (W.stk m.frm m.item).length _ _) hm.lots).len
theorem tZ{sh:Int}{fl:List FlM}{mix:Int→Bool}{s:StM}{W:Wk}{k:Nat}{m:MvM}(h:WkG sh fl k W)(hm:MvG m)(he:(dq sh fl mix s W m).1=0)(a i:Int):((dq sh fl mix s W m).2.stk a i).length≤(W.stk a i).length+lotsIn a i [m]:=by
 have h9:=EC (mix:=mix) h hm a i;have e1:lotsIn a i [m]=((if m.to=a∧m.item=i then 1 else 0)+(if m.frm=a∧m.item=i then m.parts.length else 0))+0:=rfl;rw[e1];unfold dq at he ⊢;by_cases h1:gErr sh (fl++W.flows) s W m≠0
 ·rw[if_pos h1] at he;exact absurd he h1
 rw[if_neg h1] at he ⊢;by_cases h2:dd W m>1099511627776
 ·rw[if_pos h2] at he;exact absurd (show(4:Int)=0 from he) ae
 rw[if_neg h2] at he ⊢;by_cases h3:m.to=0
 ·rw[if_pos h3];dsimp only;omega
 rw[if_neg h3] at he ⊢;by_cases h4:4096≤(gStk mix W m m.to m.item).length
 ·rw[if_pos h4] at he;exact absurd (show(4:Int)=0 from he) ae
 rw[if_neg h4];dsimp only;unfold upd2;by_cases ha:a=m.to∧i=m.item
 ·rw[if_pos ha,if_pos ⟨ha.1.symm,ha.2.symm⟩];obtain⟨rfl,rfl⟩:=ha;have:=kj (gStk mix W m m.to m.item) (cN sh fl.length W,0,m.n)
  omega
 ·rw[if_neg ha];omega
structure LedA (k:Nat) (S:LedM):Prop where
 g:LedG k S
 fa:FlA S.flows
 fn:FlN S.shard S.flows
 il:(fO S.flows).length≤k
 rl:(fu S.flows).length≤k
theorem ER{k:Nat}{S:LedM}(h:LedA k S):WkA S.shard S.flows k (wk0 S):=by
 have e:S.flows++(wk0 S).flows=S.flows:=ba _;refine⟨zZ h.g,?_,?_,?_,?_⟩
 ·rw[e];exact h.fa
 ·rw[e];exact h.fn
 ·rw[e];exact h.il
 ·rw[e];exact h.rl
theorem wA{sh:Int}{fl:List FlM}{mix:Int→Bool}{s:StM}(hsh:0≤sh):∀{ms:List MvM} {W:Wk} {k:Nat},WkA sh fl k W→(∀m∈ms,MvA s.kind m)→k+mvK ms≤2000→(dN sh fl mix s W ms).1=0→WkA sh fl (k+mvK ms) (dN sh fl mix s W ms).2∧∀a i,((dN sh fl mix s W ms).2.stk a i).length≤(W.stk a i).length+lotsIn a i ms
 | [],_,_,h,_,_,_=>⟨h,fun _ _=>aB _⟩
 | m::ms,W,k,h,hm,hk,he=>by
  have e:dN sh fl mix s W (m::ms)=if(dq sh fl mix s W m).1=0 then dN sh fl mix s (dq sh fl mix s W m).2 ms else((dq sh fl mix s W m).1,W):=rfl;have ek:mvK (m::ms)=(m.parts.length+1)+mvK ms:=rfl;rw[e] at he ⊢;by_cases h1:(dq sh fl mix s W m).1=0
  ·rw[if_pos h1] at he ⊢;have hm1:=hm m aw;obtain⟨i1,i2⟩:=wA hsh (ms:=ms) (zH hsh h hm1 ac h1) (fun x hx=>hm x (av _ hx)) ac he;refine⟨by rw[ek,←dH,←dH];exact i1,fun a i=>?_⟩;have g1:=i2 a i;have g2:=tZ h.g hm1.g h1 a i;have g3:lotsIn a i (m::ms)=lotsIn a i [m]+lotsIn a i ms:=lv a i [m] ms;omega
  ·rw[if_neg h1] at he;exact absurd he h1
theorem Aw{c:CatM}{now:Int}{s:StM}(h:fL c now s):∀m∈s.moves,MvA s.kind m:=fun m hm=>tM h.1 ((possG_A.1 h).2.2.2.2.1 m hm)
theorem tg{k:Nat}{S:LedM}{s:StM}(h:LedA k S)(hk:k+mvK s.moves≤2000):LedA (k+mvK s.moves) (cT S s)∧∀a i,((cT S s).stk a i).length≤(S.stk a i).length+lotsIn a i s.moves:=by
 have g0:=FY h.g hk;have il:=h.il;have rl:=h.rl;by_cases he:(gTry S s).1=0
 case neg =>
  have e:cT S s=S:=if_neg he;rw[e] at g0 ⊢;exact⟨⟨g0,h.fa,h.fn,ac,ac⟩,fun a i=>dQ _ _⟩
 have e:cT S s=gJ S s:=if_pos he;rw[e] at g0 ⊢;by_cases h1:65536≤S.steps.length
 ·have e:gTry S s=(4,wk0 S):=by unfold gTry;rw[if_pos h1]
  rw[e] at he;exact absurd (show(4:Int)=0 from he) ae
 by_cases h2:fL S.cat S.now s
 case neg =>
  have e:gTry S s=(1,wk0 S):=by unfold gTry;rw[if_neg h1,if_pos h2]
  rw[e] at he;exact absurd (show(1:Int)=0 from he) ae
 have e:gTry S s=dN S.shard S.flows (bK S.cat) (s.at (aR S)) (wk0 S) s.moves:=by unfold gTry;rw[if_neg h1,if_neg (fun q=>q h2)]
 rw[e] at he;obtain⟨g1,g2⟩:=wA (ms:=s.moves) (s:=s.at (aR S)) h.g.shard.1 (ER h) (Aw h2) hk he;rw[←e] at g1 g2;exact⟨⟨g0,g1.fa,g1.fn,g1.il,g1.rl⟩,g2⟩
