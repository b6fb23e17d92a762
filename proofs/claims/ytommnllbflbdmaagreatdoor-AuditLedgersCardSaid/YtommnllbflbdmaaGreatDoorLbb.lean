/- Lemmas. -/
import Derived.Test.YtommnllbflbdmaaGreatDoorLav
import Derived.Test.YtommnllbflbdmaaGreatDoorLba
set_option linter.all false
set_option maxHeartbeats 4000000
namespace Go.Proofs.YtommnllbflbdmaaGreatDoor
section
open Go.V
attribute [local irreducible] G GO GP GPW GPK Ev Ef EfR Ent CB GB V.Enters
def nk(ps:LL)(n:Int):Prop:=eZ ps∧lsum ps=n∧lsum (setL ps)=n
instance (ps:LL)(n:Int):Decidable (nk ps n):=by unfold nk;infer_instance
def pS(k:Nat)(m:MvM):Prop:=(0≤m.item∧m.item<k)∧(1≤m.n∧m.n≤1099511627776)∧m.frm≠m.to∧(0≤m.frm∧0≤m.to∧m.frm≤1073741824∧m.to≤1073741824)
def jc(k:Nat)(st:Bool)(m:MvM):Prop:=pS k m∧(if st=true then nk m.parts m.n else m.parts.length=0)
instance (k:Nat)(st:Bool)(m:MvM):Decidable (jc k st m):=by unfold jc pS;infer_instance
theorem moveP_fitR{k:Nat}{m:MvM}:jc k false m↔fitR k m:=by
 unfold jc fitR pS;rw[if_neg ae];constructor
 ·rintro⟨⟨h1,h2,h3,h4⟩,h5⟩;exact⟨h1,h2,h3,h4,h5⟩
 ·rintro⟨h1,h2,h3,h4,h5⟩;exact⟨⟨h1,h2,h3,h4⟩,h5⟩
abbrev Bc:List Stp:=[.ev 0,.ev 1,.ev 2,.ev 3,.ev 4,.ev 5,.ev 6,.ev 7,.ev 8,.ev 9,.ev 10,.ev 11,.ev 12,.ev 13,.ev 14,.ev 15,.ev 16,.ev 17,.ev 18,.ev 19,.ev 20,.ev 21,.ev 22,.ev 23,.ev 24,.ev 25,.ev 26,.ev 27,.ev 28,.ev 29,.ev 30,.ev 31,.ev 32,.ev 33,.ev 34,.ev 35,.ev 36,.ev 37,.ev 38,.ev 39,.ev 40,.ev 41,.ev 42,.ev 43,.ev 44,.ev 45,.ev 46,.ev 47,.ev 48,.ev 49,.ev 50]
abbrev Bb:List Stp:=[.ev 0,.ev 1,.ev 2,.ev 3,.ev 5,.ev 6,.ef 4,.ev 7,.ev 8,.ev 9,.ev 10,.ev 11,.ev 14,.ev 15,.ef 12,.ef 13,.ev 16,.ev 17,.ev 18]
theorem cX{φ ψ:Prop}(k:ψ)(h:Hid ψ→φ:=by intro k;(with_reducible apply G.d8);first|refine G.d7 (N:=86) (id:=1) Bc mixed ap (Hid.out k)|refine G.d7 (N:=86) (id:=6) Bb mixed ap (Hid.out k)):φ:=h ⟨k⟩
theorem xr{L R:LH}{b:Nat}{sh:Int}{x:RLX}[hp:PickObj L b tRL (aK sh x) R](m:MvV)(st:Bool)[hr:Rds L m.pad Lot an 3 m.m.parts](hm:m.m.parts.length≤9223372036854775807) :
  Tri ah 135 #[au b,.agg (aM m).toArray,.bool st] L (fun v L'=>v=.bool (dB (jc x.cat.items.length st m.m))∧L' = L):=by
 cases st with
 | false =>
  refine(Aq (b:=b) (sh:=sh) (x:=x) m).mono ?_;rintro _ _⟨rfl,rfl⟩;refine⟨?_,rfl⟩;by_cases h:fitR x.cat.items.length m.m
  ·rw[aU h,aU (moveP_fitR.2 h)]
  ·rw[aF h,aF (fun q=>h (moveP_fitR.1 q))]
 | true =>
  obtain⟨⟨frm,to,item,n,parts⟩,pad,pcap⟩:=m;dsimp only at hr hm;have hno:∀{p:Prop},¬p→(jc x.cat.items.length true ⟨frm,to,item,n,parts⟩→p)→dB (jc x.cat.items.length true ⟨frm,to,item,n,parts⟩)=false:=fun h q=>aF (fun r=>h (q r));refine Tri.body (args:=[au b,.agg (aM ⟨⟨frm,to,item,n,parts⟩,pad,pcap⟩).toArray,.bool true]) 86 Fh Tryz.func135 rfl rfl rfl (by simp) ?_;simp only[aM];by_cases h1:0≤item
  case neg =>
   repeat first|refine aa ?_|intro _|refine cX ?_
   exact KX.d7 ai ag ⟨by rw[hno h1 (fun h=>h.1.1.1)];rfl,rfl⟩
  by_cases h2:item<x.cat.items.length
  case neg =>
   repeat first|refine aa ?_|intro _|refine cX ?_
   exact KX.d7 ai ag ⟨by rw[hno h2 (fun h=>h.1.1.2)];rfl,rfl⟩
  by_cases h3:1≤n
  case neg =>
   repeat first|refine aa ?_|intro _|refine cX ?_
   exact KX.d7 ai ag ⟨by rw[hno h3 (fun h=>h.1.2.1.1)];rfl,rfl⟩
  by_cases h4:n≤1099511627776
  case neg =>
   repeat first|refine aa ?_|intro _|refine cX ?_
   exact KX.d7 ai ag ⟨by rw[hno h4 (fun h=>h.1.2.1.2)];rfl,rfl⟩
  by_cases h5:frm=to
  case pos =>
   repeat first|refine aa ?_|intro _|refine cX ?_
   exact KX.d7 ai ag ⟨by rw[hno (fun q=>q h5) (fun h=>h.1.2.2.1)];rfl,rfl⟩
  by_cases h6:0≤frm
  case neg =>
   repeat first|refine aa ?_|intro _|refine cX ?_
   exact KX.d7 ai ag ⟨by rw[hno h6 (fun h=>h.1.2.2.2.1)];rfl,rfl⟩
  by_cases h7:0≤to
  case neg =>
   repeat first|refine aa ?_|intro _|refine cX ?_
   exact KX.d7 ai ag ⟨by rw[hno h7 (fun h=>h.1.2.2.2.2.1)];rfl,rfl⟩
  by_cases h8:frm≤1073741824
  case neg =>
   repeat first|refine aa ?_|intro _|refine cX ?_
   exact KX.d7 ai ag ⟨by rw[hno h8 (fun h=>h.1.2.2.2.2.2.1)];rfl,rfl⟩
  by_cases h9:to≤1073741824
  case neg =>
   repeat first|refine aa ?_|intro _|refine cX ?_
   exact KX.d7 ai ag ⟨by rw[hno h9 (fun h=>h.1.2.2.2.2.2.2)];rfl,rfl⟩
  have hpp:∀{p:Prop},¬p→(nk parts n→p)→dB (jc x.cat.items.length true ⟨frm,to,item,n,parts⟩)=false:=fun h q=>hno h (fun r=>q (by have:=r.2;rwa [if_pos rfl] at this));repeat first|refine aa ?_|intro _|refine cX ?_
  refine GO.ef (Ef.d7 (ip pad parts.length pcap parts rfl hm) rfl) ae ?_;rintro _ _⟨rfl,rfl⟩;by_cases hv:eZ parts
  case neg =>
   rw[aF hv];repeat first|refine aa ?_|intro _|refine cX ?_
   exact KX.d7 ai ag ⟨by rw[hpp hv (fun q=>q.1)];rfl,rfl⟩
  rw[aU hv];have hso:=kL hv.1;have hv2:=hv.2;repeat first|refine aa ?_|intro _|refine cX ?_
  refine GPW.ef (Ef.d7 (jj pad parts.length pcap parts rfl hv.2 hv.1) rfl) ae ?_;rintro _ _⟨rfl,rfl⟩;by_cases hs:lsum parts=n
  case neg =>
   repeat first|refine aa ?_|intro _|refine cX ?_
   exact KX.d7 ai ag ⟨by rw[hpp hs (fun q=>q.2.1)];rfl,rfl⟩
  repeat first|refine aa ?_|intro _|refine cX ?_
  refine GPW.ef (Ef.d7 (qe pad parts.length pcap parts rfl hv) rfl) ae ?_;rintro _ _⟨ad2,c2,rfl,rfl⟩;repeat first|refine aa ?_|intro _|refine cX ?_
  refine GPW.ef (Ef.d7 (jj ad2 (setL parts).length c2 (setL parts) rfl ac hso.2) rfl) ae ?_;rintro _ _⟨rfl,rfl⟩;repeat first|refine aa ?_|intro _|refine cX ?_
  refine KX.d7 ai ag ⟨?_,rfl⟩;by_cases ht:lsum (setL parts)=n
  ·rw[aU ht,aU (show jc x.cat.items.length true ⟨frm,to,item,n,parts⟩ from⟨⟨⟨h1,h2⟩,⟨h3,h4⟩,h5,⟨h6,h7,h8,h9⟩⟩,by rw[if_pos rfl];exact⟨hv,hs,ht⟩⟩)];rfl
  ·rw[aF ht,hpp ht (fun q=>q.2.2)];rfl
def gi(k:Int):Bool:=dB (k=5∨k=7∨k=9)
theorem uz{L:LH}(k:Int):Tri ah 134 #[ab k] L (fun v L'=>v=.bool (gi k)∧L' = L):=by
 unfold gi;refine Tri.body (args:=[ab k]) 13 JM Tryz.func134 rfl rfl rfl (by simp) ?_;by_cases h5:k=5
 ·repeat first|refine aa ?_|intro
  exact KX.d7 ai (Ent.refl _) ⟨by rw[aU (.inl h5)];rfl,rfl⟩
 by_cases h7:k=7
 ·repeat first|refine aa ?_|intro
  exact KX.d7 ai (Ent.refl _) ⟨by rw[aU (.inr (.inl h7))];rfl,rfl⟩
 repeat first|refine aa ?_|intro
 refine KX.d7 ai (Ent.refl _) ⟨?_,rfl⟩;by_cases h9:k=9
 ·rw[aU h9,aU (.inr (.inr h9))];rfl
 ·rw[aF h9,aF ac];rfl
def iJ(k:Int)(m:MvM):Prop:=if k=0∨k=5 then m.frm=0 else if k=1∨k=6 then m.to=0 else if k=7 then 0<m.frm else if k=9 then 0<m.to else 0<m.frm∧0<m.to
instance (k:Int)(m:MvM):Decidable (iJ k m):=by unfold iJ;infer_instance
theorem xv{L:LH}(k:Int)(m:MvV):Tri ah 137 #[ab k,.agg (aM m).toArray] L (fun v L'=>v=.bool (dB (iJ k m.m))∧L' = L):=by
 obtain⟨⟨frm,to,item,n,parts⟩,pad,pcap⟩:=m;refine Tri.body (args:=[ab k,.agg (aM ⟨⟨frm,to,item,n,parts⟩,pad,pcap⟩).toArray]) 36 JK Tryz.func137 rfl rfl rfl (by simp) ?_;simp only[aM];by_cases h0:k=0
 ·subst h0;repeat first|refine aa ?_|intro
  exact KX.d7 ai ag ⟨rfl,rfl⟩
 by_cases h5:k=5
 ·subst h5;repeat first|refine aa ?_|intro
  exact KX.d7 ai ag ⟨rfl,rfl⟩
 by_cases h1:k=1
 ·subst h1;repeat first|refine aa ?_|intro
  exact KX.d7 ai ag ⟨rfl,rfl⟩
 by_cases h6:k=6
 ·subst h6;repeat first|refine aa ?_|intro
  exact KX.d7 ai ag ⟨rfl,rfl⟩
 by_cases h7:k=7
 ·subst h7;repeat first|refine aa ?_|intro
  exact KX.d7 ai ag ⟨rfl,rfl⟩
 by_cases h9:k=9
 ·subst h9;repeat first|refine aa ?_|intro
  exact KX.d7 ai ag ⟨rfl,rfl⟩
 have e:iJ k ⟨frm,to,item,n,parts⟩↔0<frm∧0<to:=by
  unfold iJ;rw[if_neg ac,if_neg ac,if_neg h7,if_neg h9]
 by_cases h7:0<frm
 ·repeat first|refine aa ?_|intro
  refine KX.d7 ai ag ⟨?_,rfl⟩;by_cases h8:0<to
  ·rw[aU h8,aU (e.2 ⟨h7,h8⟩)];rfl
  ·rw[aF h8,aF (fun q=>h8 (e.1 q).2)];rfl
 ·repeat first|refine aa ?_|intro
  refine KX.d7 ai ag ⟨?_,rfl⟩;rw[aF (fun q=>h7 (e.1 q).1)];rfl
def je(s:StM):Prop:=s.rule = -1∧(1≤s.times∧s.times≤1048576)∧s.moves.length=2∧s.moves[0]!.to=0∧s.moves[1]!.frm=0∧s.moves[1]!.to=s.moves[0]!.frm∧s.moves[0]!.n % s.times=0∧s.moves[1]!.n % s.times=0
def kw(rules:List RuM)(s:StM):Prop:=if s.kind=4 then fw rules s.rule s.times s.moves else if s.kind=10 then je s else(∀m∈s.moves,iJ s.kind m)∧s.rule = -1∧s.times=0
def fL(c:CatM)(now:Int)(s:StM):Prop :=
 (0≤s.kind∧s.kind≤10)∧accP s.actor∧(now≤s.tick∧s.tick≤1099511627776)∧(1≤s.moves.length∧s.moves.length≤64)∧(∀m∈s.moves,jc c.items.length (gi s.kind) m)∧kw c.rules s
noncomputable instance (a b c):Decidable (fL a b c):=Classical.propDecidable _
theorem pH{s:StV}{i:Nat}(h:i<s.moves.length){L:LH}:Ent (stP s::L) (isl an 3 s.moves[i]!.pad s.moves[i]!.m.parts::stP s::L):=Ent.d9 (f:=mvP) (aI h)
abbrev CJ:List Stp:=[.ev 0,.ev 1,.ev 2,.ev 3,.ev 4,.ev 5,.ev 6,.ev 7,.ev 8,.ev 9,.ev 10,.ev 11,.ev 12,.ev 13,.ev 14,.ev 15,.ev 16,.ev 17,.ev 18,.ev 19,.ev 20,.ev 21,.ef 22,.ev 23,.ev 24,.ev 25,.ev 26,.ev 27,.ev 28,.ev 29,.ev 30,.ev 31,.ev 32,.ev 33,.ev 34,.ev 35,.ev 36,.ev 37,.ev 38,.ev 39,.ev 40,.ev 41]
abbrev Ba:List Stp:=[.ev 0,.ev 1,.ev 2,.ev 3,.ev 4,.ev 5,.ev 6,.ef 7,.ev 8]
theorem bI{φ ψ:Prop}(k:ψ)(h:Hid ψ→φ:=by intro k;(with_reducible apply G.d8);first|refine G.d7 (N:=166) (id:=1) CJ mixed ap (Hid.out k)|refine G.d7 (N:=166) (id:=21) Ba mixed ap (Hid.out k)):φ:=h ⟨k⟩
theorem xp{L R:LH}{b:Nat}{sh:Int}{x:RLX}[hp:PickObj L b tRL (aK sh x) R][hr:Rds L x.tad StV aJ 7 x.steps](s:StV)[hrm:Rds L s.mad MvV aM 5 s.moves](hg:CatGood x.cat.m)(hc:x.cat.m.Ok)(hB:x.cat.B)(hsl:x.steps.length≤65536)(hml:s.moves.length≤1000000)(hpl:∀m∈s.moves,m.m.parts.length≤9223372036854775807)(hI:I64 s.rule) :
  Tri ah 92 #[au b,.agg (aJ s).toArray] (catP x.cat::stP s::L) (fun v L'=>v=.bool (dB (fL x.cat.m (rnow x) s.m))∧L' = catP x.cat::stP s::L):=by
 have hil:x.cat.m.items.length=x.cat.items.length:=rfl;have hmm:s.m.moves=s.moves.map MvV.m:=rfl;have hno:∀{p:Prop},¬p→(fL x.cat.m (rnow x) s.m→p)→dB (fL x.cat.m (rnow x) s.m)=false:=fun h q=>aF (fun r=>h (q r));have hl:s.m.moves.length=s.moves.length:=by rw[hmm,aG]
 have hgm:∀{i:Nat},i<s.moves.length→s.m.moves[i]! = s.moves[i]!.m:=fun hi=>eo MvV.m hi;refine Tri.body (args:=[au b,.agg (aJ s).toArray]) 166 en92 Tryz.func92 rfl rfl rfl (by simp) ?_;by_cases h01:0≤s.kind
 case neg =>
  repeat first|refine aa ?_|intro _|refine bI ?_
  exact KX.d7 ai ag ⟨by rw[hno h01 (fun h=>h.1.1)];rfl,rfl⟩
 by_cases h02:s.kind≤10
 case neg =>
  repeat first|refine aa ?_|intro _|refine bI ?_
  exact KX.d7 ai ag ⟨by rw[hno h02 (fun h=>h.1.2)];rfl,rfl⟩
 by_cases h1:0≤s.actor
 case neg =>
  repeat first|refine aa ?_|intro _|refine bI ?_
  exact KX.d7 ai ag ⟨by rw[hno h1 (fun h=>h.2.1.1)];rfl,rfl⟩
 by_cases h2:s.actor≤1073741824
 case neg =>
  repeat first|refine aa ?_|intro _|refine bI ?_
  exact KX.d7 ai ag ⟨by rw[hno h2 (fun h=>h.2.1.2)];rfl,rfl⟩
 repeat first|refine aa ?_|intro _|refine bI ?_
 refine GPW.ef (Ef.d7 (Ar (b:=b) (sh:=sh) (x:=x) ac) rfl) ae ?_;rintro _ _⟨rfl,rfl⟩;rw[show(x.steps.getLast?.map (·.tick)).getD 0=rnow x from rfl];by_cases h3:rnow x≤s.tick
 case neg =>
  repeat first|refine aa ?_|intro _|refine bI ?_
  exact KX.d7 ai ag ⟨by rw[hno h3 (fun h=>h.2.2.1.1)];rfl,rfl⟩
 by_cases h4:s.tick≤1099511627776
 case neg =>
  repeat first|refine aa ?_|intro _|refine bI ?_
  exact KX.d7 ai ag ⟨by rw[hno h4 (fun h=>h.2.2.1.2)];rfl,rfl⟩
 by_cases h5:1≤s.moves.length
 case neg =>
  repeat first|refine aa ?_|intro _|refine bI ?_
  exact KX.d7 ai ag ⟨by rw[hno h5 (fun h=>by have:=h.2.2.2.1.1;omega)];rfl,rfl⟩
 by_cases h6:s.moves.length≤64
 case neg =>
  repeat first|refine aa ?_|intro _|refine bI ?_
  exact KX.d7 ai ag ⟨by rw[hno h6 (fun h=>by have:=h.2.2.2.1.2;omega)];rfl,rfl⟩
 repeat first|refine aa ?_|intro _|refine bI ?_
 rename_i b3;refine GO.ef (Ef.d7 (uz s.kind) rfl) ae ?_;rintro _ _⟨rfl,rfl⟩;repeat first|refine aa ?_|intro _|refine bI ?_
 refine G.loop (α:=Nat) (fun i=>i≤s.moves.length∧∀j,j<i→jc x.cat.items.length (gi s.kind) s.moves[j]!.m) (fun i=>[(0,au b),(3,au b3),(5,.bool (gi s.kind)),(6,ab (i:Int))]) (fun _=>obj b3 bh (aJ s)::catP x.cat::stP s::L) (fun i=>s.moves.length - i) 0 ⟨ao _,fun j hj=>absurd hj (cd j)⟩ aj ag ?_;rintro i ⟨hi,hfit⟩;by_cases hlt:i<s.moves.length
 case pos =>
  have hii:(i:Int).toNat=i:=aA i;have hlt' : (i:Int).toNat<s.moves.length:=ac;have hpm:=hpl _ (aI hlt);repeat first|refine aa ?_|intro _|refine bI ?_
  rw[hii];refine GO.ent (L':=isl an 3 s.moves[i]!.pad s.moves[i]!.m.parts::obj b3 bh (aJ s)::catP x.cat::stP s::L) ((Ent.at (A:=stP s) (pH hlt)).trans ag) ?_;refine GO.ef (Ef.d7 (xr (b:=b) (sh:=sh) (x:=x) s.moves[i]! (gi s.kind) hpm) rfl) ae ?_;rintro _ _⟨rfl,rfl⟩;by_cases hft:jc x.cat.items.length (gi s.kind) s.moves[i]!.m
  ·rw[aU hft];repeat first|refine aa ?_|intro _|refine bI ?_
   refine⟨i+1,⟨ac,fun j hj=>?_⟩,ac,?_,by exact ag⟩
   ·rcases cg j i with h|h
    ·exact hfit j h
    ·obtain rfl:j=i:=ac;exact hft
   ·rw[aP i];exact aj
  ·rw[aF hft];repeat first|refine aa ?_|intro _|refine bI ?_
   exact KX.d7 ai ag ⟨by rw[hno hft (fun h=>by have h9:=h.2.2.2.2.1 s.moves[i]!.m (by rw[hmm];exact alStd0List_mem_map_of_mem (aI hlt));rwa [hil] at h9)];rfl,rfl⟩
 obtain rfl:i=s.moves.length:=ac
 have hall:∀m∈s.moves,jc x.cat.items.length (gi s.kind) m.m:=fun m hm=>by
  obtain⟨j,hj,rfl⟩:=List.mem_iff_getElem.1 hm;have:=hfit j hj
  rw[getElem!_of hj] at this;exact this
 have hbase:fL x.cat.m (rnow x) s.m↔kw x.cat.m.rules s.m:=by
  constructor
  ·intro h;exact h.2.2.2.2.2
  ·intro g2;refine⟨⟨h01,h02⟩,⟨h1,h2⟩,⟨h3,h4⟩,⟨ac,ac⟩,?_,g2⟩;intro m hm;rw[hmm] at hm;obtain⟨u,hu,rfl⟩:=List.mem_map.1 hm;exact hall u hu
 clear hno;by_cases hk4:s.kind=4
 ·have hw:kw x.cat.m.rules s.m↔fw x.cat.m.rules s.rule s.times (s.moves.map MvV.m):=by
   unfold kw;rw[if_pos (show s.m.kind=4 from hk4)];exact Iff.rfl
  have hall2:∀m∈s.moves,fitR x.cat.items.length m.m:=fun m hm=>moveP_fitR.1 (by
   have h:=hall m hm;rwa [show gi s.kind=false by unfold gi;exact aF ac] at h)
  repeat first|refine aa ?_|intro _|refine bI ?_
  refine GO.ent (L':=catP x.cat::catP x.cat::stP s::L) (Ent.trans (B:=catP x.cat::stP s::L) ag (Ent.dup (jQ x.cat).1)) ?_;refine GO.ef (Ef.d7 (xx (b:=b) (sh:=sh) (x:=x) s hg hc hB ⟨h5,h6⟩ hI hall2) rfl) ae ?_;rintro _ _⟨rfl,rfl⟩;repeat first|refine aa ?_|intro _|refine bI ?_
  refine KX.d7 ai ag ⟨?_,rfl⟩;by_cases q:fw x.cat.m.rules s.rule s.times (s.moves.map MvV.m)
  ·rw[aU q,aU (hbase.2 (hw.2 q))];rfl
  ·rw[aF q,aF (fun w=>q (hw.1 (hbase.1 w)))];rfl
 by_cases hk10:s.kind=10
 ·have hw:kw x.cat.m.rules s.m↔je s.m:=by
   unfold kw;rw[if_neg (show ¬s.m.kind=4 from hk4),if_pos (show s.m.kind=10 from hk10)]
  have hno:∀{p:Prop},¬p→(je s.m→p)→dB (fL x.cat.m (rnow x) s.m)=false:=fun h q=>aF (fun r=>h (q (hw.1 (hbase.1 r))));by_cases c1:s.rule = -1
  case neg =>
   repeat first|refine aa ?_|intro _|refine bI ?_
   exact KX.d7 ai ag ⟨by rw[hno c1 (fun h=>h.1)];rfl,rfl⟩
  by_cases c2:1≤s.times
  case neg =>
   repeat first|refine aa ?_|intro _|refine bI ?_
   exact KX.d7 ai ag ⟨by rw[hno c2 (fun h=>h.2.1.1)];rfl,rfl⟩
  by_cases c3:s.times≤1048576
  case neg =>
   repeat first|refine aa ?_|intro _|refine bI ?_
   exact KX.d7 ai ag ⟨by rw[hno c3 (fun h=>h.2.1.2)];rfl,rfl⟩
  by_cases c4:s.moves.length=2
  case neg =>
   repeat first|refine aa ?_|intro _|refine bI ?_
   exact KX.d7 ai ag ⟨by rw[hno c4 (fun h=>by have:=h.2.2.1;omega)];rfl,rfl⟩
  have i0:(0:Int).toNat<s.moves.length:=ac;have i1:(1:Int).toNat<s.moves.length:=ac;have e0:s.m.moves[0]! = s.moves[(0:Int).toNat]!.m:=hgm i0;have e1:s.m.moves[1]! = s.moves[(1:Int).toNat]!.m:=hgm i1;have hn0:=(hall _ (aI i0)).1.2.1;have hn1:=(hall _ (aI i1)).1.2.1
  have hcv:je s.m↔s.moves[(0:Int).toNat]!.m.to=0∧s.moves[(1:Int).toNat]!.m.frm=0∧s.moves[(1:Int).toNat]!.m.to=s.moves[(0:Int).toNat]!.m.frm∧s.moves[(0:Int).toNat]!.m.n % s.times=0∧s.moves[(1:Int).toNat]!.m.n % s.times=0:=by
   unfold je;rw[e0,e1];exact⟨fun h=>h.2.2.2,fun h=>⟨c1,⟨c2,c3⟩,ac,h⟩⟩
  clear hno;have hno:∀{p:Prop},¬p→(je s.m→p)→dB (fL x.cat.m (rnow x) s.m)=false:=fun h q=>aF (fun r=>h (q (hw.1 (hbase.1 r))));repeat first|refine aa ?_|intro _|refine bI ?_
  generalize s.moves[(0:Int).toNat]! = m0 at *;generalize s.moves[(1:Int).toNat]! = m1 at *;simp only[aM];by_cases d1:m0.m.to=0
  case neg =>
   repeat first|refine aa ?_|intro _|refine bI ?_
   exact KX.d7 ai ag ⟨by rw[hno d1 (fun h=>(hcv.1 h).1)];rfl,rfl⟩
  by_cases d2:m1.m.frm=0
  case neg =>
   repeat first|refine aa ?_|intro _|refine bI ?_
   exact KX.d7 ai ag ⟨by rw[hno d2 (fun h=>(hcv.1 h).2.1)];rfl,rfl⟩
  by_cases d3:m1.m.to=m0.m.frm
  case neg =>
   repeat first|refine aa ?_|intro _|refine bI ?_
   exact KX.d7 ai ag ⟨by rw[hno d3 (fun h=>(hcv.1 h).2.2.1)];rfl,rfl⟩
  by_cases d4:m0.m.n % s.times=0
  case neg =>
   repeat first|refine aa ?_|intro _|refine bI ?_
   exact KX.d7 ai ag ⟨by rw[hno d4 (fun h=>(hcv.1 h).2.2.2.1)];rfl,rfl⟩
  repeat first|refine aa ?_|intro _|refine bI ?_
  refine KX.d7 ai ag ⟨?_,rfl⟩;by_cases d5:m1.m.n % s.times=0
  ·rw[aU d5,aU (hbase.2 (hw.2 (hcv.2 ⟨d1,d2,d3,d4,d5⟩)))];rfl
  ·rw[aF d5,hno d5 (fun h=>(hcv.1 h).2.2.2.2)];rfl
 have hw:kw x.cat.m.rules s.m↔(∀m∈s.m.moves,iJ s.kind m)∧s.rule = -1∧s.times=0:=by
  unfold kw;rw[if_neg (show ¬s.m.kind=4 from hk4),if_neg (show ¬s.m.kind=10 from hk10)];exact Iff.rfl
 repeat first|refine aa ?_|intro _|refine bI ?_
 refine G.loop (α:=Nat) (fun i=>i≤s.moves.length∧∀j,j<i→iJ s.kind s.moves[j]!.m) (fun i=>[(0,au b),(3,au b3),(10,ab (i:Int))]) (fun _=>obj b3 bh (aJ s)::catP x.cat::stP s::L) (fun i=>s.moves.length - i) 0 ⟨ao _,fun j hj=>absurd hj (cd j)⟩ aj ag ?_;rintro i ⟨hi2,hends⟩;by_cases hlt2:i<s.moves.length
 case pos =>
  have hii:(i:Int).toNat=i:=aA i;have hlt' : (i:Int).toNat<s.moves.length:=ac;repeat first|refine aa ?_|intro _|refine bI ?_
  refine GPW.ef (Ef.d7 (xv s.kind s.moves[(i:Int).toNat]!) rfl) ae ?_;rintro _ _⟨rfl,rfl⟩;by_cases hft:iJ s.kind s.moves[(i:Int).toNat]!.m
  ·rw[aU hft];repeat first|refine aa ?_|intro _|refine bI ?_
   rw[hii] at hft;refine⟨i+1,⟨ac,fun j hj=>?_⟩,ac,?_,by exact ag⟩
   ·rcases cg j i with h|h
    ·exact hends j h
    ·obtain rfl:j=i:=ac;exact hft
   ·rw[aP i];exact aj
  ·rw[aF hft];repeat first|refine aa ?_|intro _|refine bI ?_
   rw[hii] at hft;exact KX.d7 ai ag ⟨by rw[aF (fun h=>hft ((hw.1 (hbase.1 h)).1 _ (by rw[hmm];exact alStd0List_mem_map_of_mem (aI hlt2))))];rfl,rfl⟩
 obtain rfl:i=s.moves.length:=ac
 have hkf:∀m∈s.m.moves,iJ s.kind m:=fun m hm=>by
  rw[hmm] at hm;obtain⟨u,hu,rfl⟩:=List.mem_map.1 hm;obtain⟨j,hj,rfl⟩:=List.mem_iff_getElem.1 hu;have:=hends j hj
  rw[getElem!_of hj] at this;exact this
 by_cases h7:s.rule = -1
 ·repeat first|refine aa ?_|intro _|refine bI ?_
  refine KX.d7 ai ag ⟨?_,rfl⟩;by_cases h8:s.times=0
  ·rw[aU h8,aU (hbase.2 (hw.2 ⟨hkf,h7,h8⟩))];rfl
  ·rw[aF h8,aF (fun w=>h8 (hw.1 (hbase.1 w)).2.2)];rfl
 ·repeat first|refine aa ?_|intro _|refine bI ?_
  exact KX.d7 ai ag ⟨by rw[aF (fun w=>h7 (hw.1 (hbase.1 w)).2.1)];rfl,rfl⟩
def mixR(x:RLX)(i:Int):Bool:=x.cat.items[i.toNat]!.mixed
def jC(l:List RStk):Prop:=(l.map (fun s=>(s.acc,s.item))).Nodup
theorem vy{k:Int×Int}:∀{l:List RStk} {a i:Int} {t:Stk},k∈(rset l a i t).map (fun s=>(s.acc,s.item))→k=(a,i)∨k∈l.map (fun s=>(s.acc,s.item))
 | [],_,_,_,h=>.inl (List.mem_singleton.1 h)
 | s::l,a,i,t,h=>by
  unfold rset at h;split at h
  ·exact .inr h
  ·rw[bO] at h ⊢;rcases List.mem_cons.1 h with h|h
   ·exact .inr (h▸aw)
   ·exact(vy h).imp id (av _)
theorem oK:∀{l:List RStk} {a i:Int} {t:Stk},jC l→jC (rset l a i t)
 | [],_,_,_,_=>by
  unfold jC rset;simp
 | s::l,a,i,t,h=>by
  unfold jC at h ⊢;rw[bO,dM] at h;unfold rset;split
  ·rw[bO,dM];exact h
  ·rename_i hn;rw[bO,dM];refine⟨fun q=>?_,oK h.2⟩;rcases vy q with e|e
   ·simp only[Prod.mk.injEq] at e;exact hn e
   ·exact h.1 e
structure TkF (x:RLX) (m:MvM) (st:List RStk):Prop where
 lots:∀a i,(dG st a i).lots=if m.frm=0 then(dG x.stks a i).lots else upd2 (fun a i=>(dG x.stks a i).lots) m.frm m.item (eJ (mixR x m.item) (dG x.stks m.frm m.item).lots m.n) a i
 sum:∀i,rsum st i=rsum x.stks i - (if m.frm≠0∧i=m.item then m.n else 0)
 ok:rOk st
 len:st.length≤x.stks.length+1
 dist:jC x.stks→jC st
theorem nS{l:LL}{f n:Int}(h:∀x∈l,LotOk x)(hn:1≤n):be l (f,0,n)=l++[(f,0,n)]:=by
 unfold be;rw[if_neg (by dsimp only;omega),if_neg];rintro⟨h1,h2⟩;rw[lcont_iff] at h2;have:=h _ (aI (show l.length - 1<l.length by omega))
 unfold LotOk at this;dsimp only at h2;omega
def uP(sid:Int)(f:FlV):Bool:=dB (f.m.step=sid∧f.m.to=0)
def gu(sid:Int)(l:List FlV):List Int:=(l.filter (uP sid)).map (fun f=>f.m.id)
theorem rB(sid:Int)(l:List FlV)(f:FlV):gu sid (l++[f])=if f.m.step=sid∧f.m.to=0 then gu sid l++[f.m.id] else gu sid l:=by
 unfold gu;rw[dJ];by_cases h:f.m.step=sid∧f.m.to=0
 ·rw[if_pos h,gc,if_pos (by unfold uP;rw[aU h]),aZ];rfl
 ·rw[if_neg h,gc,if_neg (by unfold uP;rw[aF h];decide),aZ];simp
theorem tC(sid:Int)(l:List FlV):(gu sid l).length≤l.length:=by
 unfold gu;rw[aG];exact List.length_filter_le _ _
theorem rA(sid:Int)(l:List FlV){i:Nat}(h:i<l.length):gu sid (l.take (i+1))=if l[i]!.m.step=sid∧l[i]!.m.to=0 then gu sid (l.take i)++[l[i]!.m.id] else gu sid (l.take i):=by
 rw[←rB];congr 1;rw[List.take_add_one,List.getElem?_eq_getElem h,getElem!_of h];rfl
structure RW (S:LedM) (y:RLX) (W:Wk):Prop where
 cat:y.cat.m=S.cat
 catB:y.cat.B
 steps:y.steps.map StV.m=S.steps
 flows:y.flows.map FlV.m=S.flows++W.flows
 lots:∀a i,(dG y.stks a i).lots=W.stk a i
 sum:∀i,rsum y.stks i=W.tot i
 ok:rOk y.stks
 len:y.stks.length≤2*y.flows.length
 dist:jC y.stks
 sunk:gu (aR S) y.flows=W.sunk
structure MvFitR (k:Nat) (m:MvM):Prop where
 item:0≤m.item∧m.item<k
 n:1≤m.n∧m.n≤1099511627776
 frm:accP m.frm
 to:accP m.to
 ne:m.frm≠m.to
 parts:m.parts.length=0
structure RF (S:LedM) (x:RLX):Prop where
 cat:x.cat.m=S.cat
 catB:x.cat.B
 steps:x.steps.map StV.m=S.steps
 flows:x.flows.map FlV.m=S.flows
 lots:∀a i,(dG x.stks a i).lots=S.stk a i
 sum:∀i,rsum x.stks i=S.tot i
 ok:rOk x.stks
 len:x.stks.length≤2*x.flows.length
 dist:jC x.stks
 fstep:∀f∈S.flows,f.step<aR S
 now:0≤S.now
theorem FD{S:LedM}{x:RLX}(h:RF S x):rnow x=S.now:=by
 unfold LedM.now rnow;rw[←h.steps,List.getLast?_map,Option.map_map];rfl
theorem Ck{sid:Int}{l:List FlV}(h:∀f∈l,f.m.step<sid):gu sid l=[]:=by
 unfold gu;rw[List.filter_eq_nil_iff.2,gm];intro f hf;unfold uP;rw[aF (fun q=>by have:=h f hf;omega)];decide
