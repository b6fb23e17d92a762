/- Lemmas. -/
import Derived.Test.YtommnllbflbdmaaGreatDoorAav
import Derived.Test.YtommnllbflbdmaaGreatDoorAba
set_option linter.all false
set_option maxHeartbeats 4000000
namespace Go.Proofs.YtommnllbflbdmaaGreatDoor
section
open Go.V
attribute [local irreducible] G GO GP GPW GPK Ev Ef EfR Ent CB GB V.Enters
def om(ps:LL)(n:Int):Prop:=dM ps∧lsum ps=n∧lsum (setL ps)=n
instance (ps:LL)(n:Int):Decidable (om ps n):=by unfold om;infer_instance
def rg(k:Nat)(m:MvM):Prop:=(0≤m.item∧m.item<k)∧(1≤m.n∧m.n≤1099511627776)∧m.frm≠m.to∧(0≤m.frm∧0≤m.to∧m.frm≤1073741824∧m.to≤1073741824)
def jK(k:Nat)(st:Bool)(m:MvM):Prop:=rg k m∧(if st=true then om m.parts m.n else m.parts.length=0)
instance (k:Nat)(st:Bool)(m:MvM):Decidable (jK k st m):=by unfold jK rg;infer_instance
def moveP_fitR{k:Nat}{m:MvM}:jK k false m↔fitR k m:=by
 unfold jK fitR rg;rw[if_neg ag];constructor
 ·rintro⟨⟨h1,h2,h3,h4⟩,h5⟩;exact⟨h1,h2,h3,h4,h5⟩
 ·rintro⟨h1,h2,h3,h4,h5⟩;exact⟨⟨h1,h2,h3,h4⟩,h5⟩
abbrev Df:=ay8 [.ev 17,.ev 18,.ev 19,.ev 20,.ev 21,.ev 22,.ev 23,.ev 24,.ev 25,.ev 26,.ev 27,.ev 28,.ev 29,.ev 30,.ev 31,.ev 32,.ev 33,.ev 34,.ev 35,.ev 36,.ev 37,.ev 38,.ev 39,.ev 40,.ev 41,.ev 42,.ev 43,.ev 44,.ev 45,.ev 46,.ev 47,.ev 48,.ev 49,.ev 50]
abbrev De:=ay3 [.ev 5,.ev 6,.ef 4,.ev 7,.ev 8,.ev 9,.ev 10,.ev 11,.ev 14,.ev 15,.ef 12,.ef 13,.ev 16,.ev 17,.ev 18]
def PV{φ ψ:Prop}(k:ψ)(h:Hid ψ→φ:=by intro k;(repeat (first|refine aa ?_|intro zzz|refine G.dr 86 1 Df ?_|refine G.dr 86 6 De ?_));(repeat revert zzz);exact Hid.out k):φ:=h ⟨k⟩
def zj{L R:LH}{b:Nat}{sh:Int}{x:RLX}[hp:PickObj L b tRL (aL sh x) R](m:MvV)(st:Bool)[hr:Rds L m.pad Lot aj 3 m.m.parts](hm:m.m.parts.length≤9223372036854775807) :
  Tri ai 135 #[ax b,aN (aM m),.bool st] L (fun v L'=>v=.bool (dB (jK x.cat.items.length st m.m))∧L' = L):=by
 cases st with
 | false =>
  refine(Cu (b:=b) (sh:=sh) (x:=x) m).mono ?_;rintro _ _⟨rfl,rfl⟩;refine⟨?_,rfl⟩;by_cases h:fitR x.cat.items.length m.m
  ·rw[aS h,aS (moveP_fitR.2 h)]
  ·rw[aG h,aG (fun q=>h (moveP_fitR.1 q))]
 | true =>
  obtain⟨⟨frm,to,item,n,parts⟩,pad,pcap⟩:=m;dsimp only at hr hm;have a0:∀{p:Prop},¬p→(jK x.cat.items.length true ⟨frm,to,item,n,parts⟩→p)→dB (jK x.cat.items.length true ⟨frm,to,item,n,parts⟩)=false:=fun h q=>aG (fun r=>h (q r));refine Tri.bd (args:=[ax b,aN (aM ⟨⟨frm,to,item,n,parts⟩,pad,pcap⟩),.bool true]) ?_;simp only[aM];by_cases h1:0≤item
  case neg =>
   refine PV ?_;intros;exact KX.d7 al ae ⟨by rw[a0 h1 (fun h=>h.1.1.1)];rfl,rfl⟩
  by_cases h2:item<x.cat.items.length
  case neg =>
   refine PV ?_;intros;exact KX.d7 al ae ⟨by rw[a0 h2 (fun h=>h.1.1.2)];rfl,rfl⟩
  by_cases h3:1≤n
  case neg =>
   refine PV ?_;intros;exact KX.d7 al ae ⟨by rw[a0 h3 (fun h=>h.1.2.1.1)];rfl,rfl⟩
  by_cases h4:n≤1099511627776
  case neg =>
   refine PV ?_;intros;exact KX.d7 al ae ⟨by rw[a0 h4 (fun h=>h.1.2.1.2)];rfl,rfl⟩
  by_cases h5:frm=to
  case pos =>
   refine PV ?_;intros;exact KX.d7 al ae ⟨by rw[a0 (fun q=>q h5) (fun h=>h.1.2.2.1)];rfl,rfl⟩
  by_cases h6:0≤frm
  case neg =>
   refine PV ?_;intros;exact KX.d7 al ae ⟨by rw[a0 h6 (fun h=>h.1.2.2.2.1)];rfl,rfl⟩
  by_cases h7:0≤to
  case neg =>
   refine PV ?_;intros;exact KX.d7 al ae ⟨by rw[a0 h7 (fun h=>h.1.2.2.2.2.1)];rfl,rfl⟩
  by_cases h8:frm≤1073741824
  case neg =>
   refine PV ?_;intros;exact KX.d7 al ae ⟨by rw[a0 h8 (fun h=>h.1.2.2.2.2.2.1)];rfl,rfl⟩
  by_cases h9:to≤1073741824
  case neg =>
   refine PV ?_;intros;exact KX.d7 al ae ⟨by rw[a0 h9 (fun h=>h.1.2.2.2.2.2.2)];rfl,rfl⟩
  have a1:∀{p:Prop},¬p→(om parts n→p)→dB (jK x.cat.items.length true ⟨frm,to,item,n,parts⟩)=false:=fun h q=>a0 h (fun r=>q (by have:=r.2;rwa [if_pos rfl] at this));refine PV ?_;intros;refine GO.cr (iU pad parts.length pcap parts rfl hm) ?_;by_cases hv:dM parts
  case neg =>
   rw[aG hv];refine PV ?_;intros;exact KX.d7 al ae ⟨by rw[a1 hv (fun q=>q.1)];rfl,rfl⟩
  rw[aS hv];have a2:=lD hv.1;have a3:=hv.2;refine PV ?_;intros;refine GPW.cr (jQ pad parts.length pcap parts rfl hv.2 hv.1) ?_;by_cases hs:lsum parts=n
  case neg =>
   refine PV ?_;intros;exact KX.d7 al ae ⟨by rw[a1 hs (fun q=>q.2.1)];rfl,rfl⟩
  refine PV ?_;intros;refine GPW.ca (rt pad parts.length pcap parts rfl hv) ?_;rintro _ _⟨ad2,c2,rfl,rfl⟩;refine PV ?_;intros;refine GPW.cr (jQ ad2 (setL parts).length c2 (setL parts) rfl ab a2.2) ?_;refine PV ?_;intros;refine KX.d7 al ae ⟨?_,rfl⟩;by_cases ht:lsum (setL parts)=n
  ·rw[aS ht,aS (show jK x.cat.items.length true ⟨frm,to,item,n,parts⟩ from⟨⟨⟨h1,h2⟩,⟨h3,h4⟩,h5,⟨h6,h7,h8,h9⟩⟩,by rw[if_pos rfl];exact⟨hv,hs,ht⟩⟩)];rfl
  ·rw[aG ht,a1 ht (fun q=>q.2.2)];rfl
def gN(k:Int):Bool:=dB (k=5∨k=7∨k=9)
def vR{L:LH}(k:Int):Tri ai 134 #[ac k] L (fun v L'=>v=.bool (gN k)∧L' = L):=by
 unfold gN;refine Tri.bd ?_;by_cases h5:k=5
 ·refine Jq ?_;intros;exact KX.d7 al (Ent.refl _) ⟨by rw[aS (.inl h5)];rfl,rfl⟩
 by_cases h7:k=7
 ·refine Jq ?_;intros;exact KX.d7 al (Ent.refl _) ⟨by rw[aS (.inr (.inl h7))];rfl,rfl⟩
 refine Jq ?_;intros;refine KX.d7 al (Ent.refl _) ⟨?_,rfl⟩;by_cases h9:k=9
 ·rw[aS h9,aS (.inr (.inr h9))];rfl
 ·rw[aG h9,aG ab];rfl
def jm(k:Int)(m:MvM):Prop:=if k=0∨k=5 then m.frm=0 else if k=1∨k=6 then m.to=0 else if k=7 then 0<m.frm else if k=9 then 0<m.to else 0<m.frm∧0<m.to
instance (k:Int)(m:MvM):Decidable (jm k m):=by unfold jm;infer_instance
def zl{L:LH}(k:Int)(m:MvV):Tri ai 137 #[ac k,aN (aM m)] L (fun v L'=>v=.bool (dB (jm k m.m))∧L' = L):=by
 obtain⟨⟨frm,to,item,n,parts⟩,pad,pcap⟩:=m;refine Tri.bd (args:=[ac k,aN (aM ⟨⟨frm,to,item,n,parts⟩,pad,pcap⟩)]) ?_;simp only[aM];by_cases h0:k=0
 ·subst h0;refine Jq ?_;intros;exact KX.en ⟨rfl,rfl⟩
 by_cases h5:k=5
 ·subst h5;refine Jq ?_;intros;exact KX.en ⟨rfl,rfl⟩
 by_cases h1:k=1
 ·subst h1;refine Jq ?_;intros;exact KX.en ⟨rfl,rfl⟩
 by_cases h6:k=6
 ·subst h6;refine Jq ?_;intros;exact KX.en ⟨rfl,rfl⟩
 by_cases h7:k=7
 ·subst h7;refine Jq ?_;intros;exact KX.en ⟨rfl,rfl⟩
 by_cases h9:k=9
 ·subst h9;refine Jq ?_;intros;exact KX.en ⟨rfl,rfl⟩
 have e:jm k ⟨frm,to,item,n,parts⟩↔0<frm∧0<to:=by
  unfold jm;rw[if_neg ab,if_neg ab,if_neg h7,if_neg h9]
 by_cases h7:0<frm
 ·refine Jq ?_;intros;refine KX.d7 al ae ⟨?_,rfl⟩;by_cases h8:0<to
  ·rw[aS h8,aS (e.2 ⟨h7,h8⟩)];rfl
  ·rw[aG h8,aG (fun q=>h8 (e.1 q).2)];rfl
 ·refine Jq ?_;intros;refine KX.d7 al ae ⟨?_,rfl⟩;rw[aG (fun q=>h7 (e.1 q).1)];rfl
def gO(s:StM):Prop:=s.rule = -1∧(1≤s.times∧s.times≤1048576)∧s.moves.length=2∧s.moves[0]!.to=0∧s.moves[1]!.frm=0∧s.moves[1]!.to=s.moves[0]!.frm∧s.moves[0]!.n % s.times=0∧s.moves[1]!.n % s.times=0
def lj(rules:List RuM)(s:StM):Prop:=if s.kind=4 then fP rules s.rule s.times s.moves else if s.kind=10 then gO s else(∀m∈s.moves,jm s.kind m)∧s.rule = -1∧s.times=0
def fN(c:CatM)(now:Int)(s:StM):Prop :=
 (0≤s.kind∧s.kind≤10)∧accP s.actor∧(now≤s.tick∧s.tick≤1099511627776)∧(1≤s.moves.length∧s.moves.length≤64)∧(∀m∈s.moves,jK c.items.length (gN s.kind) m)∧lj c.rules s
noncomputable instance (a b c):Decidable (fN a b c):=Classical.propDecidable _
def ob{s:StV}{i:Nat}(h:i<s.moves.length){L:LH}:Ent (stP s::L) (isl aj 3 s.moves[i]!.pad s.moves[i]!.m.parts::stP s::L):=Ent.e7 (f:=mvP) (aI h)
abbrev Fl:=ay8 [.ev 17,.ev 18,.ev 19,.ev 20,.ev 21,.ef 22,.ev 23,.ev 24,.ev 25,.ev 26,.ev 27,.ev 28,.ev 29,.ev 30,.ev 31,.ev 32,.ev 33,.ev 34,.ev 35,.ev 36,.ev 37,.ev 38,.ev 39,.ev 40,.ev 41]
abbrev Dd:=ay4 [.ev 6,.ef 7,.ev 8]
def Ql{φ ψ:Prop}(k:ψ)(h:Hid ψ→φ:=by intro k;(repeat (first|refine aa ?_|intro zzz|refine G.dr 166 1 Fl ?_|refine G.dr 166 21 Dd ?_));(repeat revert zzz);exact Hid.out k):φ:=h ⟨k⟩
def zh{L R:LH}{b:Nat}{sh:Int}{x:RLX}[hp:PickObj L b tRL (aL sh x) R][hr:Rds L x.tad StV aT 7 x.steps](s:StV)[c8:Rds L s.mad MvV aM 5 s.moves](hg:CatGood x.cat.m)(hc:x.cat.m.Ok)(hB:x.cat.B)(d0:x.steps.length≤65536)(e2:s.moves.length≤1000000)(c0:∀m∈s.moves,m.m.parts.length≤9223372036854775807)(hI:I64 s.rule) :
  Tri ai 92 #[ax b,aN (aT s)] (catP x.cat::stP s::L) (fun v L'=>v=.bool (dB (fN x.cat.m (rnow x) s.m))∧L' = catP x.cat::stP s::L):=by
 have b9:x.cat.m.items.length=x.cat.items.length:=rfl;have a7:s.m.moves=s.moves.map MvV.m:=rfl;have a1:∀{p:Prop},¬p→(fN x.cat.m (rnow x) s.m→p)→dB (fN x.cat.m (rnow x) s.m)=false:=fun h q=>aG (fun r=>h (q r));have hl:s.m.moves.length=s.moves.length:=by rw[a7,aA]
 have b6:∀{i:Nat},i<s.moves.length→s.m.moves[i]! = s.moves[i]!.m:=fun hi=>el MvV.m hi;refine Tri.bd ?_;by_cases b8:0≤s.kind
 case neg =>
  refine Ql ?_;intros;exact KX.d7 al ae ⟨by rw[a1 b8 (fun h=>h.1.1)];rfl,rfl⟩
 by_cases b7:s.kind≤10
 case neg =>
  refine Ql ?_;intros;exact KX.d7 al ae ⟨by rw[a1 b7 (fun h=>h.1.2)];rfl,rfl⟩
 by_cases h1:0≤s.actor
 case neg =>
  refine Ql ?_;intros;exact KX.d7 al ae ⟨by rw[a1 h1 (fun h=>h.2.1.1)];rfl,rfl⟩
 by_cases h2:s.actor≤1073741824
 case neg =>
  refine Ql ?_;intros;exact KX.d7 al ae ⟨by rw[a1 h2 (fun h=>h.2.1.2)];rfl,rfl⟩
 refine Ql ?_;intros;refine GPW.cr (Cv (b:=b) (sh:=sh) (x:=x) ab) ?_;rw[show(x.steps.getLast?.map (·.tick)).getD 0=rnow x from rfl];by_cases h3:rnow x≤s.tick
 case neg =>
  refine Ql ?_;intros;exact KX.d7 al ae ⟨by rw[a1 h3 (fun h=>h.2.2.1.1)];rfl,rfl⟩
 by_cases h4:s.tick≤1099511627776
 case neg =>
  refine Ql ?_;intros;exact KX.d7 al ae ⟨by rw[a1 h4 (fun h=>h.2.2.1.2)];rfl,rfl⟩
 by_cases h5:1≤s.moves.length
 case neg =>
  refine Ql ?_;intros;exact KX.d7 al ae ⟨by rw[a1 h5 (fun h=>by have:=h.2.2.2.1.1;omega)];rfl,rfl⟩
 by_cases h6:s.moves.length≤64
 case neg =>
  refine Ql ?_;intros;exact KX.d7 al ae ⟨by rw[a1 h6 (fun h=>by have:=h.2.2.2.1.2;omega)];rfl,rfl⟩
 refine Ql ?_;intros;rename_i b3;refine GO.cr (vR s.kind) ?_;refine Ql ?_;intros;refine G.loop (α:=Nat) (fun i=>i≤s.moves.length∧∀j,j<i→jK x.cat.items.length (gN s.kind) s.moves[j]!.m) (fun i=>[(0,ax b),(3,ax b3),(5,.bool (gN s.kind)),(6,ac (i:Int))]) (fun _=>obj b3 be (aT s)::catP x.cat::stP s::L) (fun i=>s.moves.length - i) 0 ⟨aw _,fun j hj=>absurd hj (cl j)⟩ av ae ?_;rintro i ⟨hi,a9⟩;by_cases b5:i<s.moves.length
 case pos =>
  have b0:(i:Int).toNat=i:=aC i;have b4 : (i:Int).toNat<s.moves.length:=ab;have c5:=c0 _ (aI b5);refine Ql ?_;intros;rw[b0];refine GO.ent (L':=isl aj 3 s.moves[i]!.pad s.moves[i]!.m.parts::obj b3 be (aT s)::catP x.cat::stP s::L) ((Ent.at (A:=stP s) (ob b5)).trans ae) ?_;refine GO.cr (zj (b:=b) (sh:=sh) (x:=x) s.moves[i]! (gN s.kind) c5) ?_;by_cases a2:jK x.cat.items.length (gN s.kind) s.moves[i]!.m
  ·rw[aS a2];refine Ql ?_;intros;refine⟨i+1,⟨ab,fun j hj=>?_⟩,ab,?_,by exact ae⟩
   ·rcases cc j i with h|h
    ·exact a9 j h
    ·obtain rfl:j=i:=ab;exact a2
   ·rw[aV i];exact av
  ·rw[aG a2];refine Ql ?_;intros;exact KX.d7 al ae ⟨by rw[a1 a2 (fun h=>by have h9:=h.2.2.2.2.1 s.moves[i]!.m (by rw[a7];exact alStd0List_mem_map_of_mem (aI b5));rwa [b9] at h9)];rfl,rfl⟩
 obtain rfl:i=s.moves.length:=ab
 have a3:∀m∈s.moves,jK x.cat.items.length (gN s.kind) m.m:=fun m hm=>by
  obtain⟨j,hj,rfl⟩:=List.mem_iff_getElem.1 hm;have:=a9 j hj
  rw[getElem!_of hj] at this;exact this
 have a0:fN x.cat.m (rnow x) s.m↔lj x.cat.m.rules s.m:=by
  constructor
  ·intro h;exact h.2.2.2.2.2
  ·intro g2;refine⟨⟨b8,b7⟩,⟨h1,h2⟩,⟨h3,h4⟩,⟨ab,ab⟩,?_,g2⟩;intro m hm;rw[a7] at hm;obtain⟨u,hu,rfl⟩:=List.mem_map.1 hm;exact a3 u hu
 clear a1;by_cases b2:s.kind=4
 ·have hw:lj x.cat.m.rules s.m↔fP x.cat.m.rules s.rule s.times (s.moves.map MvV.m):=by
   unfold lj;rw[if_pos (show s.m.kind=4 from b2)];exact Iff.rfl
  have a8:∀m∈s.moves,fitR x.cat.items.length m.m:=fun m hm=>moveP_fitR.1 (by
   have h:=a3 m hm;rwa [show gN s.kind=false by unfold gN;exact aG ab] at h)
  refine Ql ?_;intros;refine GO.ent (L':=catP x.cat::catP x.cat::stP s::L) (Ent.trans (B:=catP x.cat::stP s::L) ae (Ent.dup (mo x.cat).1)) ?_;refine GO.cr (zm (b:=b) (sh:=sh) (x:=x) s hg hc hB ⟨h5,h6⟩ hI a8) ?_;refine Ql ?_;intros;refine KX.d7 al ae ⟨?_,rfl⟩;by_cases q:fP x.cat.m.rules s.rule s.times (s.moves.map MvV.m)
  ·rw[aS q,aS (a0.2 (hw.2 q))];rfl
  ·rw[aG q,aG (fun w=>q (hw.1 (a0.1 w)))];rfl
 by_cases a6:s.kind=10
 ·have hw:lj x.cat.m.rules s.m↔gO s.m:=by
   unfold lj;rw[if_neg (show ¬s.m.kind=4 from b2),if_pos (show s.m.kind=10 from a6)]
  have a1:∀{p:Prop},¬p→(gO s.m→p)→dB (fN x.cat.m (rnow x) s.m)=false:=fun h q=>aG (fun r=>h (q (hw.1 (a0.1 r))));by_cases c1:s.rule = -1
  case neg =>
   refine Ql ?_;intros;exact KX.d7 al ae ⟨by rw[a1 c1 (fun h=>h.1)];rfl,rfl⟩
  by_cases c2:1≤s.times
  case neg =>
   refine Ql ?_;intros;exact KX.d7 al ae ⟨by rw[a1 c2 (fun h=>h.2.1.1)];rfl,rfl⟩
  by_cases c3:s.times≤1048576
  case neg =>
   refine Ql ?_;intros;exact KX.d7 al ae ⟨by rw[a1 c3 (fun h=>h.2.1.2)];rfl,rfl⟩
  by_cases c4:s.moves.length=2
  case neg =>
   refine Ql ?_;intros;exact KX.d7 al ae ⟨by rw[a1 c4 (fun h=>by have:=h.2.2.1;omega)];rfl,rfl⟩
  have i0:(0:Int).toNat<s.moves.length:=ab;have i1:(1:Int).toNat<s.moves.length:=ab;have e0:s.m.moves[0]! = s.moves[(0:Int).toNat]!.m:=b6 i0;have e1:s.m.moves[1]! = s.moves[(1:Int).toNat]!.m:=b6 i1;have c7:=(a3 _ (aI i0)).1.2.1;have c9:=(a3 _ (aI i1)).1.2.1
  have a5:gO s.m↔s.moves[(0:Int).toNat]!.m.to=0∧s.moves[(1:Int).toNat]!.m.frm=0∧s.moves[(1:Int).toNat]!.m.to=s.moves[(0:Int).toNat]!.m.frm∧s.moves[(0:Int).toNat]!.m.n % s.times=0∧s.moves[(1:Int).toNat]!.m.n % s.times=0:=by
   unfold gO;rw[e0,e1];exact⟨fun h=>h.2.2.2,fun h=>⟨c1,⟨c2,c3⟩,ab,h⟩⟩
  clear a1;have a1:∀{p:Prop},¬p→(gO s.m→p)→dB (fN x.cat.m (rnow x) s.m)=false:=fun h q=>aG (fun r=>h (q (hw.1 (a0.1 r))));refine Ql ?_;intros;generalize s.moves[(0:Int).toNat]! = m0 at *;generalize s.moves[(1:Int).toNat]! = m1 at *;simp only[aM];by_cases d1:m0.m.to=0
  case neg =>
   refine Ql ?_;intros;exact KX.d7 al ae ⟨by rw[a1 d1 (fun h=>(a5.1 h).1)];rfl,rfl⟩
  by_cases d2:m1.m.frm=0
  case neg =>
   refine Ql ?_;intros;exact KX.d7 al ae ⟨by rw[a1 d2 (fun h=>(a5.1 h).2.1)];rfl,rfl⟩
  by_cases d3:m1.m.to=m0.m.frm
  case neg =>
   refine Ql ?_;intros;exact KX.d7 al ae ⟨by rw[a1 d3 (fun h=>(a5.1 h).2.2.1)];rfl,rfl⟩
  by_cases d4:m0.m.n % s.times=0
  case neg =>
   refine Ql ?_;intros;exact KX.d7 al ae ⟨by rw[a1 d4 (fun h=>(a5.1 h).2.2.2.1)];rfl,rfl⟩
  refine Ql ?_;intros;refine KX.d7 al ae ⟨?_,rfl⟩;by_cases d5:m1.m.n % s.times=0
  ·rw[aS d5,aS (a0.2 (hw.2 (a5.2 ⟨d1,d2,d3,d4,d5⟩)))];rfl
  ·rw[aG d5,a1 d5 (fun h=>(a5.1 h).2.2.2.2)];rfl
 have hw:lj x.cat.m.rules s.m↔(∀m∈s.m.moves,jm s.kind m)∧s.rule = -1∧s.times=0:=by
  unfold lj;rw[if_neg (show ¬s.m.kind=4 from b2),if_neg (show ¬s.m.kind=10 from a6)];exact Iff.rfl
 refine Ql ?_;intros;refine G.loop (α:=Nat) (fun i=>i≤s.moves.length∧∀j,j<i→jm s.kind s.moves[j]!.m) (fun i=>[(0,ax b),(3,ax b3),(10,ac (i:Int))]) (fun _=>obj b3 be (aT s)::catP x.cat::stP s::L) (fun i=>s.moves.length - i) 0 ⟨aw _,fun j hj=>absurd hj (cl j)⟩ av ae ?_;rintro i ⟨d6,a4⟩;by_cases b1:i<s.moves.length
 case pos =>
  have b0:(i:Int).toNat=i:=aC i;have b4 : (i:Int).toNat<s.moves.length:=ab;refine Ql ?_;intros;refine GPW.cr (zl s.kind s.moves[(i:Int).toNat]!) ?_;by_cases a2:jm s.kind s.moves[(i:Int).toNat]!.m
  ·rw[aS a2];refine Ql ?_;intros;rw[b0] at a2;refine⟨i+1,⟨ab,fun j hj=>?_⟩,ab,?_,by exact ae⟩
   ·rcases cc j i with h|h
    ·exact a4 j h
    ·obtain rfl:j=i:=ab;exact a2
   ·rw[aV i];exact av
  ·rw[aG a2];refine Ql ?_;intros;rw[b0] at a2;exact KX.d7 al ae ⟨by rw[aG (fun h=>a2 ((hw.1 (a0.1 h)).1 _ (by rw[a7];exact alStd0List_mem_map_of_mem (aI b1))))];rfl,rfl⟩
 obtain rfl:i=s.moves.length:=ab
 have c6:∀m∈s.m.moves,jm s.kind m:=fun m hm=>by
  rw[a7] at hm;obtain⟨u,hu,rfl⟩:=List.mem_map.1 hm;obtain⟨j,hj,rfl⟩:=List.mem_iff_getElem.1 hu;have:=a4 j hj
  rw[getElem!_of hj] at this;exact this
 by_cases h7:s.rule = -1
 ·refine Ql ?_;intros;refine KX.d7 al ae ⟨?_,rfl⟩;by_cases h8:s.times=0
  ·rw[aS h8,aS (a0.2 (hw.2 ⟨c6,h7,h8⟩))];rfl
  ·rw[aG h8,aG (fun w=>h8 (hw.1 (a0.1 w)).2.2)];rfl
 ·refine Ql ?_;intros;exact KX.d7 al ae ⟨by rw[aG (fun w=>h7 (hw.1 (a0.1 w)).2.1)];rfl,rfl⟩
def mixR(x:RLX)(i:Int):Bool:=x.cat.items[i.toNat]!.mixed
def kj(l:List RStk):Prop:=(l.map (fun s=>(s.acc,s.item))).Nodup
def wT{k:Int×Int}:∀{l:List RStk} {a i:Int} {t:Stk},k∈(rset l a i t).map (fun s=>(s.acc,s.item))→k=(a,i)∨k∈l.map (fun s=>(s.acc,s.item))
 | [],_,_,_,h=>.inl (List.mem_singleton.1 h)
 | s::l,a,i,t,h=>by
  unfold rset at h;split at h
  ·exact .inr h
  ·rw[bM] at h ⊢;rcases List.mem_cons.1 h with h|h
   ·exact .inr (h▸aq)
   ·exact(wT h).imp id (au _)
def pW:∀{l:List RStk} {a i:Int} {t:Stk},kj l→kj (rset l a i t)
 | [],_,_,_,_=>by
  unfold kj rset;simp
 | s::l,a,i,t,h=>by
  unfold kj at h ⊢;rw[bM,dN] at h;unfold rset;split
  ·rw[bM,dN];exact h
  ·rename_i hn;rw[bM,dN];refine⟨fun q=>?_,pW h.2⟩;rcases wT q with e|e
   ·simp only[Prod.mk.injEq] at e;exact hn e
   ·exact h.1 e
structure TkF (x:RLX) (m:MvM) (st:List RStk):Prop where
 lots:∀a i,(dO st a i).lots=if m.frm=0 then(dO x.stks a i).lots else upd2 (fun a i=>(dO x.stks a i).lots) m.frm m.item (eN (mixR x m.item) (dO x.stks m.frm m.item).lots m.n) a i
 sum:∀i,rsum st i=rsum x.stks i - (if m.frm≠0∧i=m.item then m.n else 0)
 ok:rOk st
 len:st.length≤x.stks.length+1
 dist:kj x.stks→kj st
def oX{l:LL}{f n:Int}(h:∀x∈l,LotOk x)(hn:1≤n):aY l (f,0,n)=l++[(f,0,n)]:=by
 unfold aY;rw[if_neg fm,if_neg];rintro⟨h1,h2⟩;rw[lcont_iff] at h2;have:=h _ (aI (ab:l.length - 1<l.length))
 unfold LotOk at this;dsimp only at h2;omega
def wg(a0:Int)(f:FlV):Bool:=dB (f.m.step=a0∧f.m.to=0)
def gT(a0:Int)(l:List FlV):List Int:=(l.filter (wg a0)).map (fun f=>f.m.id)
def sY(a0:Int)(l:List FlV)(f:FlV):gT a0 (l++[f])=if f.m.step=a0∧f.m.to=0 then gT a0 l++[f.m.id] else gT a0 l:=by
 unfold gT;rw[du];by_cases h:f.m.step=a0∧f.m.to=0
 ·rw[if_pos h,gI,if_pos (by unfold wg;rw[aS h]),aW];rfl
 ·rw[if_neg h,gI,if_neg (by unfold wg;rw[aG h];decide),aW];simp
def uS(a0:Int)(l:List FlV):(gT a0 l).length≤l.length:=by
 unfold gT;rw[aA];exact gc _ _
def sW(a0:Int)(l:List FlV){i:Nat}(h:i<l.length):gT a0 (l.take (i+1))=if l[i]!.m.step=a0∧l[i]!.m.to=0 then gT a0 (l.take i)++[l[i]!.m.id] else gT a0 (l.take i):=by
 rw[←sY];congr 1;rw[List.take_add_one,List.getElem?_eq_getElem h,getElem!_of h];rfl
structure RW (S:LedM) (y:RLX) (W:Wk):Prop where
 cat:y.cat.m=S.cat
 catB:y.cat.B
 steps:y.steps.map StV.m=S.steps
 flows:y.flows.map FlV.m=S.flows++W.flows
 lots:∀a i,(dO y.stks a i).lots=W.stk a i
 sum:∀i,rsum y.stks i=W.tot i
 ok:rOk y.stks
 len:y.stks.length≤2*y.flows.length
 dist:kj y.stks
 sunk:gT (aO S) y.flows=W.sunk
structure MvFitR (k:Nat) (m:MvM):Prop where
 item:0≤m.item∧m.item<k
 n:1≤m.n∧m.n≤1099511627776
 frm:accP m.frm
 to:accP m.to
 ne:m.frm≠m.to
 parts:m.parts.length=0
structure RF (S:LedM) (x:RLX):Prop where
 cat:x.cat.m=S.cat
 catB:x.cat.B
 steps:x.steps.map StV.m=S.steps
 flows:x.flows.map FlV.m=S.flows
 lots:∀a i,(dO x.stks a i).lots=S.stk a i
 sum:∀i,rsum x.stks i=S.tot i
 ok:rOk x.stks
 len:x.stks.length≤2*x.flows.length
 dist:kj x.stks
 fstep:∀f∈S.flows,f.step<aO S
 now:0≤S.now
def Id{S:LedM}{x:RLX}(h:RF S x):rnow x=S.now:=by
 unfold LedM.now rnow;rw[←h.steps,List.getLast?_map,Option.map_map];rfl
def EO{a0:Int}{l:List FlV}(h:∀f∈l,f.m.step<a0):gT a0 l=[]:=by
 unfold gT;rw[List.filter_eq_nil_iff.2,ga];intro f hf;unfold wg;rw[aG (fun q=>by have:=h f hf;omega)];decide
