/- Lemmas. -/
import Derived.Test.YtommnllbflbdmaaGreatDoorAbk
set_option linter.all false
set_option maxHeartbeats 8000000
namespace Go.Proofs.YtommnllbflbdmaaGreatDoor
section
open Go.V
attribute [local irreducible] G GO GP GPW GPK Ev Ef EfR Ent CB GB V.Enters
def mvAP(k:Nat)(kind:Int)(m:MvM):Prop:=(0≤m.item∧m.item<k)∧(1≤m.n∧m.n≤1099511627776)∧accP m.frm∧accP m.to∧m.frm≠m.to∧fO kind m
def oU{k:Nat}{kind:Int}{m:MvM}(h:0≤kind∧kind≤10):mvAP k kind m↔jK k (gN kind) m∧(kind≠4→kind≠10→jm kind m):=by
 have e:gN kind=true↔kind=5∨kind=7∨kind=9:=by unfold gN;rw[fE,decide_eq_true_iff]
 have hp:=@partsA_iff m.parts m.n;unfold mvAP jK rg accP;by_cases h5:kind=5
 ·subst h5;rw[if_pos (e.2 (.inl rfl)),←hp,show jm 5 m↔m.frm=0 from Iff.rfl,show fO 5 m↔m.frm=0∧fY m.parts m.n from Iff.rfl];constructor
  ·rintro⟨a,b,c,d,f,g1,g2⟩;exact⟨⟨⟨a,b,f,ab⟩,g2⟩,fun _ _=>g1⟩
  ·rintro⟨⟨⟨a,b,f,c⟩,g2⟩,g1⟩;exact⟨a,b,ab,ab,f,g1 ag ag,g2⟩
 by_cases h7:kind=7
 ·subst h7;rw[if_pos (e.2 (.inr (.inl rfl))),←hp,show jm 7 m↔0<m.frm from Iff.rfl,show fO 7 m↔m.frm≠0∧fY m.parts m.n from Iff.rfl];constructor
  ·rintro⟨a,b,c,d,f,g1,g2⟩;exact⟨⟨⟨a,b,f,ab⟩,g2⟩,fun _ _=>by omega⟩
  ·rintro⟨⟨⟨a,b,f,c⟩,g2⟩,g1⟩;have:=g1 ag ag
   exact⟨a,b,ab,ab,f,ab,g2⟩
 by_cases h9:kind=9
 ·subst h9;rw[if_pos (e.2 (.inr (.inr rfl))),←hp,show jm 9 m↔0<m.to from Iff.rfl,show fO 9 m↔m.to≠0∧fY m.parts m.n from Iff.rfl];constructor
  ·rintro⟨a,b,c,d,f,g1,g2⟩;exact⟨⟨⟨a,b,f,ab⟩,g2⟩,fun _ _=>by omega⟩
  ·rintro⟨⟨⟨a,b,f,c⟩,g2⟩,g1⟩;have:=g1 ag ag
   exact⟨a,b,ab,ab,f,ab,g2⟩
 rw[if_neg (fun q=>by rcases e.1 q with q|q|q<;>omega)];unfold jm fO;by_cases h0:kind=0
 ·rw[if_pos h0,if_pos (.inl h0)];constructor
  ·rintro⟨a,b,c,d,f,g1,g2⟩;exact⟨⟨⟨a,b,f,ab⟩,g2⟩,fun _ _=>g1⟩
  ·rintro⟨⟨⟨a,b,f,c⟩,g2⟩,g1⟩;exact⟨a,b,ab,ab,f,g1 ab ab,g2⟩
 rw[if_neg h0,if_neg (show ¬(kind=0∨kind=5) from fun q=>q.elim h0 h5)];by_cases h1:kind=1∨kind=6
 ·rw[if_pos h1,if_pos h1];constructor
  ·rintro⟨a,b,c,d,f,g1,g2⟩;exact⟨⟨⟨a,b,f,ab⟩,g2⟩,fun _ _=>g1⟩
  ·rintro⟨⟨⟨a,b,f,c⟩,g2⟩,g1⟩;exact⟨a,b,ab,ab,f,g1 ab ab,g2⟩
 simp only[if_neg h1,if_neg h7,if_neg h9,if_neg h5];by_cases h2:kind=2∨kind=3∨kind=8
 ·rw[if_pos h2];constructor
  ·rintro⟨a,b,c,d,f,g1,g3,g2⟩;exact⟨⟨⟨a,b,f,ab⟩,g2⟩,fun _ _=>by omega⟩
  ·rintro⟨⟨⟨a,b,f,c⟩,g2⟩,g1⟩;have:=g1 ab ab
   exact⟨a,b,ab,ab,f,ab,ab,g2⟩
 rw[if_neg h2];constructor
 ·rintro⟨a,b,c,d,f,g2⟩;exact⟨⟨⟨a,b,f,ab⟩,g2⟩,fun _ _=>by omega⟩
 ·rintro⟨⟨⟨a,b,f,c⟩,g2⟩,g1⟩;exact⟨a,b,ab,ab,f,g2⟩
def jl(rules:List RuM)(s:StM):Prop:=if s.kind=4 then fP rules s.rule s.times s.moves else if s.kind=10 then gO s else s.rule = -1∧s.times=0
def possG_A{c:CatM}{now:Int}{s:StM}:fN c now s↔(0≤s.kind∧s.kind≤10)∧accP s.actor∧(now≤s.tick∧s.tick≤1099511627776)∧(1≤s.moves.length∧s.moves.length≤64)∧(∀m∈s.moves,mvAP c.items.length s.kind m)∧jl c.rules s:=by
 unfold fN lj jl;constructor
 ·rintro⟨h1,h2,h3,h4,h5,h6⟩;refine⟨h1,h2,h3,h4,fun m hm=>(oU h1).2 ⟨h5 m hm,fun g4 a0=>?_⟩,?_⟩
  ·rw[if_neg g4,if_neg a0] at h6;exact h6.1 m hm
  ·by_cases g4:s.kind=4
   ·rw[if_pos g4] at h6 ⊢;exact h6
   ·rw[if_neg g4] at h6 ⊢;by_cases a0:s.kind=10
    ·rw[if_pos a0] at h6 ⊢;exact h6
    ·rw[if_neg a0] at h6 ⊢;exact h6.2
 ·rintro⟨h1,h2,h3,h4,h5,h6⟩;refine⟨h1,h2,h3,h4,fun m hm=>((oU h1).1 (h5 m hm)).1,?_⟩;by_cases g4:s.kind=4
  ·rw[if_pos g4] at h6 ⊢;exact h6
  ·rw[if_neg g4] at h6 ⊢;by_cases a0:s.kind=10
   ·rw[if_pos a0] at h6 ⊢;exact h6
   ·rw[if_neg a0] at h6 ⊢;exact⟨fun m hm=>((oU h1).1 (h5 m hm)).2 g4 a0,h6⟩
def nP{L:LH}(n:Int):Tri ai 147 #[ac n] L (fun v L'=>v=.bool (dB (accP n))∧L' = L):=by
 refine Tri.bd ?_;by_cases h1:0≤n
 ·refine Jq ?_;intros;exact KX.d7 al (Ent.refl _) ⟨by rw[gh (show accP n↔n≤1073741824 from⟨fun q=>q.2,fun q=>⟨h1,q⟩⟩)];rfl,rfl⟩
 ·refine Jq ?_;intros;exact KX.d7 al (Ent.refl _) ⟨by rw[aG (show ¬accP n from fun q=>h1 q.1)];rfl,rfl⟩
abbrev AG:=ay6 [.ev 10,.ev 11,.ef 12,.ev 13,.ev 14,.ev 15,.ev 16,.ev 17,.ev 18,.ev 19,.ev 20,.ev 21,.ev 22,.ev 23,.ev 24,.ev 25,.ev 26,.ev 27,.ev 28,.ev 29,.ev 30,.ev 31,.ev 32,.ev 33,.ev 34,.ev 35,.ev 36,.ev 37,.ev 38,.ev 39,.ev 40]
abbrev AF:=ay8 [.ev 17,.ev 18,.ev 19,.ev 20,.ev 21,.ev 22,.ev 23,.ev 24,.ev 25,.ev 26,.ev 27,.ef 28,.ev 29,.ev 30,.ev 31,.ev 32,.ev 33,.ev 34,.ef 35,.ev 36,.ev 37,.ev 38,.ev 39,.ev 40,.ev 41,.ev 42,.ev 43,.ev 44,.ev 45,.ev 46,.ev 47,.ev 48,.ef 49,.ev 50,.ev 51]
def Wb{φ ψ:Prop}(k:ψ)(h:Hid ψ→φ:=by intro k;(repeat (first|refine aa ?_|intro zzz|refine G.dr 128 2 AG ?_|refine G.dr 128 7 AF ?_));(repeat revert zzz);exact Hid.out k):φ:=h ⟨k⟩
def Eu{L R:LH}{b:Nat}{sh:Int}{x:BkX}[hp:PickObj L b tBk (bP sh x) R](s:StV)[d0:Rds L s.mad MvV aM 5 s.moves](hc:x.cat.m.Ok)(hB:x.cat.B)(b2:s.moves.length≤1000000)(a7:s.moves.length≤s.mcap)(b6:∀m∈s.moves,m.m.parts.length≤9223372036854775807)(hI:I64 s.rule) :
  Tri ai 101 #[ax b,aN (aT s)] (catP x.cat::stP s::L) (fun v L'=>v=.bool (dB (fN x.cat.m x.tick s.m))∧L' = catP x.cat::stP s::L):=by
 have b4:x.cat.m.items.length=x.cat.items.length:=by simp[CatV.m]
 have b7:=hB.items;have a8:s.m.moves=s.moves.map MvV.m:=rfl;have b8:∀{i:Nat},i<s.moves.length→s.moves[i]!.m∈s.m.moves:=fun hi=>by rw[a8];exact alStd0List_mem_map_of_mem (aI hi)
 have hl:s.m.moves.length=s.moves.length:=by rw[a8,aA]
 have hA:=possG_A (c:=x.cat.m) (now:=x.tick) (s:=s.m);rw[b4,hl] at hA;have a2:∀{p:Prop},¬p→(fN x.cat.m x.tick s.m→p)→dB (fN x.cat.m x.tick s.m)=false:=fun h q=>aG (fun r=>h (q r));refine Tri.bd ?_;by_cases b1:0≤s.kind
 case neg =>
  refine Wb ?_;intros;exact KX.d7 al ae ⟨by rw[a2 b1 (fun h=>(hA.1 h).1.1)];rfl,rfl⟩
 by_cases b0:s.kind≤10
 case neg =>
  refine Wb ?_;intros;exact KX.d7 al ae ⟨by rw[a2 b0 (fun h=>(hA.1 h).1.2)];rfl,rfl⟩
 refine Wb ?_;intros;refine GPW.ef (Ef.d8 rfl rfl (nP s.actor)) ag ?_;rintro _ _⟨rfl,rfl⟩;by_cases h2:accP s.actor
 case neg =>
  rw[aG h2];refine Wb ?_;intros;exact KX.d7 al ae ⟨by rw[a2 h2 (fun h=>(hA.1 h).2.1)];rfl,rfl⟩
 rw[aS h2];by_cases h3:x.tick≤s.tick
 case neg =>
  refine Wb ?_;intros;exact KX.d7 al ae ⟨by rw[a2 h3 (fun h=>(hA.1 h).2.2.1.1)];rfl,rfl⟩
 by_cases h4:s.tick≤1099511627776
 case neg =>
  refine Wb ?_;intros;exact KX.d7 al ae ⟨by rw[a2 h4 (fun h=>(hA.1 h).2.2.1.2)];rfl,rfl⟩
 by_cases h5:1≤s.moves.length
 case neg =>
  refine Wb ?_;intros;exact KX.d7 al ae ⟨by rw[a2 h5 (fun h=>(hA.1 h).2.2.2.1.1)];rfl,rfl⟩
 by_cases h6:s.moves.length≤64
 case neg =>
  refine Wb ?_;intros;exact KX.d7 al ae ⟨by rw[a2 h6 (fun h=>(hA.1 h).2.2.2.1.2)];rfl,rfl⟩
 refine Wb ?_;intros;rename_i b3;refine G.loop (α:=Nat) (fun i=>i≤s.moves.length∧∀j,j<i→mvAP x.cat.items.length s.kind s.moves[j]!.m) (fun i=>[(0,ax b),(3,ax b3),(5,.func (.func 147) #[] #[]),(50,ah s.mad s.moves.length s.mcap),(51,ac s.moves.length),(52,ac (i:Int))]) (fun _=>obj b3 be (aT s)::catP x.cat::stP s::L) (fun i=>s.moves.length - i) 0 ⟨aw _,fun j hj=>absurd hj (cl j)⟩ av ae ?_;rintro i ⟨hi,a5⟩;by_cases c9:i<s.moves.length
 case pos =>
  have c0:(i:Int).toNat=i:=aC i;have a3 : (i:Int).toNat<s.moves.length:=ab;have b9:=b6 _ (aI a3);have a1:∀{p:Prop},¬p→(mvAP x.cat.items.length s.kind s.moves[(i:Int).toNat]!.m→p)→dB (fN x.cat.m x.tick s.m)=false:=fun h q=>a2 h (fun r=>q ((hA.1 r).2.2.2.2.1 _ (b8 a3)));refine G.ent (L':=isl aj 3 s.moves[(i:Int).toNat]!.pad s.moves[(i:Int).toNat]!.m.parts::obj b3 be (aT s)::catP x.cat::stP s::L) ((Ent.at (A:=stP s) (ob a3)).trans ae) ?_;by_cases c1:0≤s.moves[(i:Int).toNat]!.m.item
  case neg =>
   refine Wb ?_;intros;exact KX.d7 al ae ⟨by rw[a1 c1 (fun q=>q.1.1)];rfl,rfl⟩
  by_cases c2:s.moves[(i:Int).toNat]!.m.item<x.cat.items.length
  case neg =>
   refine Wb ?_;intros;exact KX.d7 al ae ⟨by rw[a1 c2 (fun q=>q.1.2)];rfl,rfl⟩
  by_cases c3:1≤s.moves[(i:Int).toNat]!.m.n
  case neg =>
   refine Wb ?_;intros;exact KX.d7 al ae ⟨by rw[a1 c3 (fun q=>q.2.1.1)];rfl,rfl⟩
  by_cases c4:s.moves[(i:Int).toNat]!.m.n≤1099511627776
  case neg =>
   refine Wb ?_;intros;exact KX.d7 al ae ⟨by rw[a1 c4 (fun q=>q.2.1.2)];rfl,rfl⟩
  refine Wb ?_;intros;refine GPW.ef (Ef.d8 rfl rfl (nP s.moves[(i:Int).toNat]!.m.frm)) ag ?_;rintro _ _⟨rfl,rfl⟩;by_cases c5:accP s.moves[(i:Int).toNat]!.m.frm
  case neg =>
   rw[aG c5];refine Wb ?_;intros;exact KX.d7 al ae ⟨by rw[a1 c5 (fun q=>q.2.2.1)];rfl,rfl⟩
  rw[aS c5];refine Wb ?_;intros;refine GPW.ef (Ef.d8 rfl rfl (nP s.moves[(i:Int).toNat]!.m.to)) ag ?_;rintro _ _⟨rfl,rfl⟩;by_cases c6:accP s.moves[(i:Int).toNat]!.m.to
  case neg =>
   rw[aG c6];refine Wb ?_;intros;exact KX.d7 al ae ⟨by rw[a1 c6 (fun q=>q.2.2.2.1)];rfl,rfl⟩
  rw[aS c6];by_cases c7:s.moves[(i:Int).toNat]!.m.frm=s.moves[(i:Int).toNat]!.m.to
  case pos =>
   refine Wb ?_;intros;exact KX.d7 al ae ⟨by rw[a1 (p:=¬s.moves[(i:Int).toNat]!.m.frm=s.moves[(i:Int).toNat]!.m.to) (fun q=>q c7) (fun q=>q.2.2.2.2.1)];rfl,rfl⟩
  refine Wb ?_;intros;refine GPW.cr (Ex s.kind s.moves[(i:Int).toNat]! b9) ?_;by_cases c8:fO s.kind s.moves[(i:Int).toNat]!.m
  case neg =>
   rw[aG c8];refine Wb ?_;intros;exact KX.d7 al ae ⟨by rw[a1 c8 (fun q=>q.2.2.2.2.2)];rfl,rfl⟩
  rw[aS c8];refine Wb ?_;intros;refine⟨i+1,⟨ab,fun j hj=>?_⟩,ab,?_,by exact ae⟩
  ·rcases cc j i with h|h
   ·exact a5 j h
   ·obtain rfl:j=i:=ab;rw[c0] at c1 c2 c3 c4 c5 c6 c7 c8;exact⟨⟨c1,c2⟩,⟨c3,c4⟩,c5,c6,c7,c8⟩
  ·rw[aV i];exact av
 obtain rfl:i=s.moves.length:=ab
 have a4:∀m∈s.m.moves,mvAP x.cat.items.length s.m.kind m:=fun m hm=>by
  rw[a8] at hm;obtain⟨u,hu,rfl⟩:=List.mem_map.1 hm;obtain⟨j,hj,rfl⟩:=List.mem_iff_getElem.1 hu;have:=a5 j hj
  rw[getElem!_of hj] at this;exact this
 have a0:fN x.cat.m x.tick s.m↔jl x.cat.m.rules s.m:=⟨fun h=>(hA.1 h).2.2.2.2.2,fun h=>hA.2 ⟨⟨b1,b0⟩,h2,⟨h3,h4⟩,⟨h5,h6⟩,a4,h⟩⟩;unfold jl at a0;by_cases a9:s.kind=4
 ·rw[if_pos (show s.m.kind=4 from a9)] at a0;refine Wb ?_;intros;refine GO.ent (Ent.at (A:=catP x.cat) (Ent.refl _)) ?_;refine GO.cr (wc (b:=b) (sh:=sh) (x:=x) s hc hB h6 a7 hI) ?_;refine Wb ?_;intros;exact KX.d7 al ae ⟨by rw[gh a0];rfl,rfl⟩
 rw[if_neg (show ¬s.m.kind=4 from a9)] at a0;by_cases a6:s.kind=10
 ·rw[if_pos (show s.m.kind=10 from a6)] at a0
  have b5:∀m∈s.moves,0≤m.m.n:=fun m hm=>by
   have:=(a4 m.m (alStd0List_mem_map_of_mem hm)).2.1.1
   omega
  refine Wb ?_;intros;refine GO.cr (rk s b5 b2) ?_;refine Wb ?_;intros;exact KX.d7 al ae ⟨by rw[gh a0];rfl,rfl⟩
 rw[if_neg (show ¬s.m.kind=10 from a6)] at a0;by_cases h7:s.rule = -1
 ·refine Wb ?_;intros;exact KX.d7 al ae ⟨by rw[gh (a0.trans ⟨fun q=>q.2,fun q=>⟨h7,q⟩⟩)];rfl,rfl⟩
 ·refine Wb ?_;intros;exact KX.d7 al ae ⟨by rw[aG (fun q=>h7 (a0.1 q).1)];rfl,rfl⟩
end
section
open Go.V
structure MvA (kind:Int) (m:MvM):Prop where
 g:MvG m
 imp:kind=5→m.frm=0
 st:kind=5∨kind=7∨kind=9→fY m.parts m.n
def vb{m:MvM}{kind:Int}{k:Nat}(hk:0≤kind∧kind≤10)(h:mvAP k kind m):MvA kind m:=by
 obtain⟨h1,h2⟩:=(oU hk).1 h;obtain⟨h3,h4⟩:=h1;have e:gN kind=true↔kind=5∨kind=7∨kind=9:=by unfold gN;rw[fE,decide_eq_true_iff]
 refine⟨⟨h3.2.1,h3.2.2.1,?_⟩,fun h5=>?_,fun hs=>?_⟩
 ·split at h4
  ·exact .inr h4
  ·exact .inl (aX h4)
 ·have:=h2 ab ab
  unfold jm at this;rwa [if_pos (.inr h5)] at this
 ·rw[if_pos (e.2 hs)] at h4;exact partsA_iff.2 h4
def rC(fl:List FlM)(f:FlM):fC (fl++[f])=fC fl++(if f.kind=5 then f.parts else[]):=by
 unfold fC;rw[du,dd];by_cases h:f.kind=5
 ·rw[if_pos h,cF (by simpa using h)];simp
 ·rw[if_neg h,cG (by simpa using h)];simp
def rx(fl:List FlM)(f:FlM):fe (fl++[f])=fe fl++(if f.kind=9∧f.frm=0 then f.parts else[]):=by
 unfold fe;rw[du,dd];by_cases h:f.kind=9∧f.frm=0
 ·rw[if_pos h,cF (by simpa using h)];simp
 ·rw[if_neg h,cG (by simpa using h)];simp
structure WkA (sh:Int) (fl:List FlM) (k:Nat) (W:Wk):Prop where
 g:WkG sh fl k W
 fa:FlA (fl++W.flows)
 fn:FlN sh (fl++W.flows)
 il:(fC (fl++W.flows)).length≤k
 rl:(fe (fl++W.flows)).length≤k
def qw{mix:Int→Bool}{s:StM}{W:Wk}{m:MvM}(hm:MvA s.kind m)(h:s.kind=5∨(s.kind=9∧m.frm=0)):gPts mix s W m=m.parts:=by
 have h0:m.frm=0:=by
  rcases h with h|h
  ·exact hm.imp h
  ·exact h.2
 unfold gPts;rw[if_pos h0,if_pos ab]
def uB{sh:Int}{fl:List FlM}{mix:Int→Bool}{s:StM}{W:Wk}{k:Nat}{m:MvM}(a2:0≤sh)(h:WkA sh fl k W)(hm:MvA s.kind m)(hk:k+m.parts.length≤2000)(he:(cm sh fl mix s W m).1=0):WkA sh fl (k+m.parts.length+1) (cm sh fl mix s W m).2:=by
 obtain⟨g1,g2⟩:=nh a2 h.g hm.g hk he
 have a1:gErr sh (fl++W.flows) s W m=0:=by
  unfold cm at he;by_cases h1:gErr sh (fl++W.flows) s W m≠0
  ·rw[if_pos h1] at he;exact absurd he h1
  ·exact Classical.not_not.1 h1
 obtain⟨p1,_⟩:=FO (mix:=mix) h.g hm.g hk a1;have il:=h.il;have rl:=h.rl;refine⟨g1,?_,?_,?_,?_⟩
 ·rw[g2,←aH];intro f hf;rcases List.mem_append.1 hf with hf|hf
  ·exact h.fa f hf
  ·rw[List.mem_singleton.1 hf];refine⟨p1,fun hq=>?_⟩;show Apart (gPts mix s W m);rw[qw hm hq];exact(hm.st (by rcases hq with hq|hq;exact .inl hq;exact .inr (.inr hq.1))).2.1
 ·rw[g2,←aH];intro j hj;rw[ay,aJ] at hj;by_cases a0:j<(fl++W.flows).length
  ·have:=h.fn j a0
   rw[getElem!_of a0] at this;rw[getElem!_of (by rw[ay,aJ];omega),List.getElem_append_left a0];exact this
  ·obtain rfl:j=(fl++W.flows).length:=ab;rw[getElem!_of (by simp only[ay,aJ];omega),List.getElem_append_right (aB _)];simp only[Nat.sub_self,List.getElem_cons_zero];refine⟨?_,hm.g.n⟩;show cB sh fl.length W=_;unfold cB;rw[ay];omega
 ·rw[g2,←aH,rC,ay]
  have e:(if(eY sh fl.length mix s W m).kind=5 then(eY sh fl.length mix s W m).parts else[]).length≤m.parts.length:=by
   split
   ·rename_i hq;show(gPts mix s W m).length≤_;rw[qw hm (.inl hq)];exact aB _
   ·exact aw _
  omega
 ·rw[g2,←aH,rx,ay]
  have e:(if(eY sh fl.length mix s W m).kind=9∧(eY sh fl.length mix s W m).frm=0 then(eY sh fl.length mix s W m).parts else[]).length≤m.parts.length:=by
   split
   ·rename_i hq;show(gPts mix s W m).length≤_;rw[qw hm (.inr hq)];exact aB _
   ·exact aw _
  omega
def lotsIn(a i:Int):List MvM→Nat
 | []=>0
 | m::ms=>((if m.to=a∧m.item=i then 1 else 0)+(if m.frm=a∧m.item=i then m.parts.length else 0))+lotsIn a i ms
def mu(a i:Int):∀x y:List MvM,lotsIn a i (x++y)=lotsIn a i x+lotsIn a i y
 | [],y=>by show lotsIn a i y=0+lotsIn a i y;omega
 | m::x,y=>by
  have:=mu a i x y
  show((if m.to=a∧m.item=i then 1 else 0)+(if m.frm=a∧m.item=i then m.parts.length else 0))+lotsIn a i (x++y)=((if m.to=a∧m.item=i then 1 else 0)+(if m.frm=a∧m.item=i then m.parts.length else 0))+lotsIn a i x+lotsIn a i y;omega
def vi(a i:Int):∀ms:List MvM,lotsIn a i ms≤mvK ms
 | []=>aB _
 | m::ms=>by
  have:=vi a i ms
  show((if m.to=a∧m.item=i then 1 else 0)+(if m.frm=a∧m.item=i then m.parts.length else 0))+lotsIn a i ms≤(m.parts.length+1)+mvK ms;split<;>split<;>omega
def Hj{sh:Int}{fl:List FlM}{mix:Int→Bool}{W:Wk}{k:Nat}{m:MvM}(h:WkG sh fl k W)(hm:MvG m)(a i:Int):(gStk mix W m a i).length≤(W.stk a i).length+(if m.frm=a∧m.item=i then m.parts.length else 0):=by
 unfold gStk;by_cases h0:m.frm=0
 ·rw[if_pos h0];exact dZ _ _
 rw[if_neg h0];unfold upd2;by_cases ha:a=m.frm∧i=m.item
 case neg =>
  rw[if_neg ha];exact dZ _ _
 rw[if_pos ha,if_pos ⟨ha.1.symm,ha.2.symm⟩];obtain⟨rfl,rfl⟩:=ha;unfold lu;by_cases hp:m.parts=[]
 ·rw[if_pos hp];exact cK (kq _ _ _).2 (dZ _ _)
 ·rw[if_neg hp];have hs:=h.stk m.frm m.item;exact(uh (⟨aB _,hs.ok,hs.apt⟩:StkG (W.stk m.frm m.item).length _ _) hm.lots).len
def vw{sh:Int}{fl:List FlM}{mix:Int→Bool}{s:StM}{W:Wk}{k:Nat}{m:MvM}(h:WkG sh fl k W)(hm:MvG m)(he:(cm sh fl mix s W m).1=0)(a i:Int):((cm sh fl mix s W m).2.stk a i).length≤(W.stk a i).length+lotsIn a i [m]:=by
 have h9:=Hj (mix:=mix) h hm a i;have e1:lotsIn a i [m]=((if m.to=a∧m.item=i then 1 else 0)+(if m.frm=a∧m.item=i then m.parts.length else 0))+0:=rfl;rw[e1];unfold cm at he ⊢;by_cases h1:gErr sh (fl++W.flows) s W m≠0
 ·rw[if_pos h1] at he;exact absurd he h1
 rw[if_neg h1] at he ⊢;by_cases h2:cq W m>1099511627776
 ·rw[if_pos h2] at he;exact absurd (show(4:Int)=0 from he) ag
 rw[if_neg h2] at he ⊢;by_cases h3:m.to=0
 ·rw[if_pos h3];dsimp only;omega
 rw[if_neg h3] at he ⊢;by_cases h4:4096≤(gStk mix W m m.to m.item).length
 ·rw[if_pos h4] at he;exact absurd (show(4:Int)=0 from he) ag
 rw[if_neg h4];dsimp only;unfold upd2;by_cases ha:a=m.to∧i=m.item
 ·rw[if_pos ha,if_pos ⟨ha.1.symm,ha.2.symm⟩];obtain⟨rfl,rfl⟩:=ha;have:=kY (gStk mix W m m.to m.item) (cB sh fl.length W,0,m.n)
  omega
 ·rw[if_neg ha];omega
structure LedA (k:Nat) (S:LedM):Prop where
 g:LedG k S
 fa:FlA S.flows
 fn:FlN S.shard S.flows
 il:(fC S.flows).length≤k
 rl:(fe S.flows).length≤k
def sL{k:Nat}{S:LedM}(h:LedA k S):WkA S.shard S.flows k (wk0 S):=by
 have e:S.flows++(wk0 S).flows=S.flows:=aQ _;refine⟨Cb h.g,?_,?_,?_,?_⟩
 ·rw[e];exact h.fa
 ·rw[e];exact h.fn
 ·rw[e];exact h.il
 ·rw[e];exact h.rl
def ye{sh:Int}{fl:List FlM}{mix:Int→Bool}{s:StM}(a0:0≤sh):∀{ms:List MvM} {W:Wk} {k:Nat},WkA sh fl k W→(∀m∈ms,MvA s.kind m)→k+mvK ms≤2000→(cZ sh fl mix s W ms).1=0→WkA sh fl (k+mvK ms) (cZ sh fl mix s W ms).2∧∀a i,((cZ sh fl mix s W ms).2.stk a i).length≤(W.stk a i).length+lotsIn a i ms
 | [],_,_,h,_,_,_=>⟨h,fun _ _=>aB _⟩
 | m::ms,W,k,h,hm,hk,he=>by
  have e:cZ sh fl mix s W (m::ms)=if(cm sh fl mix s W m).1=0 then cZ sh fl mix s (cm sh fl mix s W m).2 ms else((cm sh fl mix s W m).1,W):=rfl;have ek:mvK (m::ms)=(m.parts.length+1)+mvK ms:=rfl;rw[e] at he ⊢;by_cases h1:(cm sh fl mix s W m).1=0
  ·rw[if_pos h1] at he ⊢;have a1:=hm m aq;obtain⟨i1,i2⟩:=ye a0 (ms:=ms) (uB a0 h a1 ab h1) (fun x hx=>hm x (au _ hx)) ab he;refine⟨by rw[ek,←dy,←dy];exact i1,fun a i=>?_⟩;have g1:=i2 a i;have g2:=vw h.g a1.g h1 a i;have g3:lotsIn a i (m::ms)=lotsIn a i [m]+lotsIn a i ms:=mu a i [m] ms;omega
  ·rw[if_neg h1] at he;exact absurd he h1
def mJ{c:CatM}{now:Int}{s:StM}(h:fN c now s):∀m∈s.moves,MvA s.kind m:=fun m hm=>vb h.1 ((possG_A.1 h).2.2.2.2.1 m hm)
def rb{k:Nat}{S:LedM}{s:StM}(h:LedA k S)(hk:k+mvK s.moves≤2000):LedA (k+mvK s.moves) (cS S s)∧∀a i,((cS S s).stk a i).length≤(S.stk a i).length+lotsIn a i s.moves:=by
 have g0:=Ir h.g hk;have il:=h.il;have rl:=h.rl;by_cases he:(gTry S s).1=0
 case neg =>
  have e:cS S s=S:=if_neg he;rw[e] at g0 ⊢;exact⟨⟨g0,h.fa,h.fn,ab,ab⟩,fun a i=>dZ _ _⟩
 have e:cS S s=gt S s:=if_pos he;rw[e] at g0 ⊢;by_cases h1:65536≤S.steps.length
 ·have e:gTry S s=(4,wk0 S):=by unfold gTry;rw[if_pos h1]
  rw[e] at he;exact absurd (show(4:Int)=0 from he) ag
 by_cases h2:fN S.cat S.now s
 case neg =>
  have e:gTry S s=(1,wk0 S):=by unfold gTry;rw[if_neg h1,if_pos h2]
  rw[e] at he;exact absurd (show(1:Int)=0 from he) ag
 have e:gTry S s=cZ S.shard S.flows (bA S.cat) (s.at (aO S)) (wk0 S) s.moves:=by unfold gTry;rw[if_neg h1,if_neg (fun q=>q h2)]
 rw[e] at he;obtain⟨g1,g2⟩:=ye (ms:=s.moves) (s:=s.at (aO S)) h.g.shard.1 (sL h) (mJ h2) hk he;rw[←e] at g1 g2;exact⟨⟨g0,g1.fa,g1.fn,g1.il,g1.rl⟩,g2⟩
