/- Lemmas. -/
import Derived.Test.YtommnllbflbdmaaGreatDoorIav
import Derived.Test.YtommnllbflbdmaaGreatDoorIba
set_option linter.all false
set_option maxHeartbeats 4000000
namespace Go.Proofs.YtommnllbflbdmaaGreatDoor
section
open Go.V
attribute [local irreducible] G GO GP GPW GPK Ev Ef EfR Ent CB GB V.Enters
def nI(ps:LL)(n:Int):Prop:=fg ps∧lsum ps=n∧lsum (setL ps)=n
instance (ps:LL)(n:Int):Decidable (nI ps n):=by unfold nI;infer_instance
def qk(k:Nat)(m:MvM):Prop:=(0≤m.item∧m.item<k)∧(1≤m.n∧m.n≤1099511627776)∧m.frm≠m.to∧(0≤m.frm∧0≤m.to∧m.frm≤1073741824∧m.to≤1073741824)
def jl(k:Nat)(st:Bool)(m:MvM):Prop:=qk k m∧(if st=true then nI m.parts m.n else m.parts.length=0)
instance (k:Nat)(st:Bool)(m:MvM):Decidable (jl k st m):=by unfold jl qk;infer_instance
def moveP_fitR{k:Nat}{m:MvM}:jl k false m↔fitR k m:=by
 unfold jl fitR qk;rw[if_neg ah];constructor
 ·rintro⟨⟨h1,h2,h3,h4⟩,h5⟩;exact⟨h1,h2,h3,h4,h5⟩
 ·rintro⟨h1,h2,h3,h4,h5⟩;exact⟨⟨h1,h2,h3,h4⟩,h5⟩
abbrev BA:List Stp:=[.ev 0,.ev 1,.ev 2,.ev 3,.ev 4,.ev 5,.ev 6,.ev 7,.ev 8,.ev 9,.ev 10,.ev 11,.ev 12,.ev 13,.ev 14,.ev 15,.ev 16,.ev 17,.ev 18,.ev 19,.ev 20,.ev 21,.ev 22,.ev 23,.ev 24,.ev 25,.ev 26,.ev 27,.ev 28,.ev 29,.ev 30,.ev 31,.ev 32,.ev 33,.ev 34,.ev 35,.ev 36,.ev 37,.ev 38,.ev 39,.ev 40,.ev 41,.ev 42,.ev 43,.ev 44,.ev 45,.ev 46,.ev 47,.ev 48,.ev 49,.ev 50]
abbrev Bz:List Stp:=[.ev 0,.ev 1,.ev 2,.ev 3,.ev 5,.ev 6,.ef 4,.ev 7,.ev 8,.ev 9,.ev 10,.ev 11,.ev 14,.ev 15,.ef 12,.ef 13,.ev 16,.ev 17,.ev 18]
def Px{φ ψ:Prop}(k:ψ)(h:Hid ψ→φ:=by intro k;(repeat (first|refine aa ?_|intro zzz|((with_reducible apply G.d8);first|refine G.d7 (N:=86) (id:=1) BA mixed aw ?_|refine G.d7 (N:=86) (id:=6) Bz mixed aw ?_)));(repeat revert zzz);exact Hid.out k):φ:=h ⟨k⟩
def xT{L R:LH}{b:Nat}{sh:Int}{x:RLX}[hp:PickObj L b tRL (aI sh x) R](m:MvV)(st:Bool)[hr:Rds L m.pad Lot ao 3 m.m.parts](hm:m.m.parts.length≤9223372036854775807) :
  Tri ag 135 #[av b,.agg (aQ m).toArray,.bool st] L (fun v L'=>v=.bool (dB (jl x.cat.items.length st m.m))∧L' = L):=by
 cases st with
 | false =>
  refine(AQ (b:=b) (sh:=sh) (x:=x) m).mono ?_;rintro _ _⟨rfl,rfl⟩;refine⟨?_,rfl⟩;by_cases h:fitR x.cat.items.length m.m
  ·rw[aT h,aT (moveP_fitR.2 h)]
  ·rw[aH h,aH (fun q=>h (moveP_fitR.1 q))]
 | true =>
  obtain⟨⟨frm,to,item,n,parts⟩,pad,pcap⟩:=m;dsimp only at hr hm;have a0:∀{p:Prop},¬p→(jl x.cat.items.length true ⟨frm,to,item,n,parts⟩→p)→dB (jl x.cat.items.length true ⟨frm,to,item,n,parts⟩)=false:=fun h q=>aH (fun r=>h (q r));refine Tri.bd (args:=[av b,.agg (aQ ⟨⟨frm,to,item,n,parts⟩,pad,pcap⟩).toArray,.bool true]) ?_;simp only[aQ];by_cases h1:0≤item
  case neg =>
   refine Px ?_;intros;exact KX.d7 an ae ⟨by rw[a0 h1 (fun h=>h.1.1.1)];rfl,rfl⟩
  by_cases h2:item<x.cat.items.length
  case neg =>
   refine Px ?_;intros;exact KX.d7 an ae ⟨by rw[a0 h2 (fun h=>h.1.1.2)];rfl,rfl⟩
  by_cases h3:1≤n
  case neg =>
   refine Px ?_;intros;exact KX.d7 an ae ⟨by rw[a0 h3 (fun h=>h.1.2.1.1)];rfl,rfl⟩
  by_cases h4:n≤1099511627776
  case neg =>
   refine Px ?_;intros;exact KX.d7 an ae ⟨by rw[a0 h4 (fun h=>h.1.2.1.2)];rfl,rfl⟩
  by_cases h5:frm=to
  case pos =>
   refine Px ?_;intros;exact KX.d7 an ae ⟨by rw[a0 (fun q=>q h5) (fun h=>h.1.2.2.1)];rfl,rfl⟩
  by_cases h6:0≤frm
  case neg =>
   refine Px ?_;intros;exact KX.d7 an ae ⟨by rw[a0 h6 (fun h=>h.1.2.2.2.1)];rfl,rfl⟩
  by_cases h7:0≤to
  case neg =>
   refine Px ?_;intros;exact KX.d7 an ae ⟨by rw[a0 h7 (fun h=>h.1.2.2.2.2.1)];rfl,rfl⟩
  by_cases h8:frm≤1073741824
  case neg =>
   refine Px ?_;intros;exact KX.d7 an ae ⟨by rw[a0 h8 (fun h=>h.1.2.2.2.2.2.1)];rfl,rfl⟩
  by_cases h9:to≤1073741824
  case neg =>
   refine Px ?_;intros;exact KX.d7 an ae ⟨by rw[a0 h9 (fun h=>h.1.2.2.2.2.2.2)];rfl,rfl⟩
  have a1:∀{p:Prop},¬p→(nI parts n→p)→dB (jl x.cat.items.length true ⟨frm,to,item,n,parts⟩)=false:=fun h q=>a0 h (fun r=>q (by have:=r.2;rwa [if_pos rfl] at this));refine Px ?_;intros;refine GO.cr (iz pad parts.length pcap parts rfl hm) ?_;by_cases hv:fg parts
  case neg =>
   rw[aH hv];refine Px ?_;intros;exact KX.d7 an ae ⟨by rw[a1 hv (fun q=>q.1)];rfl,rfl⟩
  rw[aT hv];have a2:=la hv.1;have a3:=hv.2;refine Px ?_;intros;refine GPW.cr (ju pad parts.length pcap parts rfl hv.2 hv.1) ?_;by_cases hs:lsum parts=n
  case neg =>
   refine Px ?_;intros;exact KX.d7 an ae ⟨by rw[a1 hs (fun q=>q.2.1)];rfl,rfl⟩
  refine Px ?_;intros;refine GPW.ca (qw pad parts.length pcap parts rfl hv) ?_;rintro _ _⟨ad2,c2,rfl,rfl⟩;refine Px ?_;intros;refine GPW.cr (ju ad2 (setL parts).length c2 (setL parts) rfl ab a2.2) ?_;refine Px ?_;intros;refine KX.d7 an ae ⟨?_,rfl⟩;by_cases ht:lsum (setL parts)=n
  ·rw[aT ht,aT (show jl x.cat.items.length true ⟨frm,to,item,n,parts⟩ from⟨⟨⟨h1,h2⟩,⟨h3,h4⟩,h5,⟨h6,h7,h8,h9⟩⟩,by rw[if_pos rfl];exact⟨hv,hs,ht⟩⟩)];rfl
  ·rw[aH ht,a1 ht (fun q=>q.2.2)];rfl
def gr(k:Int):Bool:=dB (k=5∨k=7∨k=9)
def uX{L:LH}(k:Int):Tri ag 134 #[ac k] L (fun v L'=>v=.bool (gr k)∧L' = L):=by
 unfold gr;refine Tri.bd ?_;by_cases h5:k=5
 ·refine Hz ?_;intros;exact KX.d7 an (Ent.refl _) ⟨by rw[aT (.inl h5)];rfl,rfl⟩
 by_cases h7:k=7
 ·refine Hz ?_;intros;exact KX.d7 an (Ent.refl _) ⟨by rw[aT (.inr (.inl h7))];rfl,rfl⟩
 refine Hz ?_;intros;refine KX.d7 an (Ent.refl _) ⟨?_,rfl⟩;by_cases h9:k=9
 ·rw[aT h9,aT (.inr (.inr h9))];rfl
 ·rw[aH h9,aH ab];rfl
def iQ(k:Int)(m:MvM):Prop:=if k=0∨k=5 then m.frm=0 else if k=1∨k=6 then m.to=0 else if k=7 then 0<m.frm else if k=9 then 0<m.to else 0<m.frm∧0<m.to
instance (k:Int)(m:MvM):Decidable (iQ k m):=by unfold iQ;infer_instance
def xV{L:LH}(k:Int)(m:MvV):Tri ag 137 #[ac k,.agg (aQ m).toArray] L (fun v L'=>v=.bool (dB (iQ k m.m))∧L' = L):=by
 obtain⟨⟨frm,to,item,n,parts⟩,pad,pcap⟩:=m;refine Tri.bd (args:=[ac k,.agg (aQ ⟨⟨frm,to,item,n,parts⟩,pad,pcap⟩).toArray]) ?_;simp only[aQ];by_cases h0:k=0
 ·subst h0;refine Hz ?_;intros;exact KX.en ⟨rfl,rfl⟩
 by_cases h5:k=5
 ·subst h5;refine Hz ?_;intros;exact KX.en ⟨rfl,rfl⟩
 by_cases h1:k=1
 ·subst h1;refine Hz ?_;intros;exact KX.en ⟨rfl,rfl⟩
 by_cases h6:k=6
 ·subst h6;refine Hz ?_;intros;exact KX.en ⟨rfl,rfl⟩
 by_cases h7:k=7
 ·subst h7;refine Hz ?_;intros;exact KX.en ⟨rfl,rfl⟩
 by_cases h9:k=9
 ·subst h9;refine Hz ?_;intros;exact KX.en ⟨rfl,rfl⟩
 have e:iQ k ⟨frm,to,item,n,parts⟩↔0<frm∧0<to:=by
  unfold iQ;rw[if_neg ab,if_neg ab,if_neg h7,if_neg h9]
 by_cases h7:0<frm
 ·refine Hz ?_;intros;refine KX.d7 an ae ⟨?_,rfl⟩;by_cases h8:0<to
  ·rw[aT h8,aT (e.2 ⟨h7,h8⟩)];rfl
  ·rw[aH h8,aH (fun q=>h8 (e.1 q).2)];rfl
 ·refine Hz ?_;intros;refine KX.d7 an ae ⟨?_,rfl⟩;rw[aH (fun q=>h7 (e.1 q).1)];rfl
def jn(s:StM):Prop:=s.rule = -1∧(1≤s.times∧s.times≤1048576)∧s.moves.length=2∧s.moves[0]!.to=0∧s.moves[1]!.frm=0∧s.moves[1]!.to=s.moves[0]!.frm∧s.moves[0]!.n % s.times=0∧s.moves[1]!.n % s.times=0
def kM(rules:List RuM)(s:StM):Prop:=if s.kind=4 then fC rules s.rule s.times s.moves else if s.kind=10 then jn s else(∀m∈s.moves,iQ s.kind m)∧s.rule = -1∧s.times=0
def fP(c:CatM)(now:Int)(s:StM):Prop :=
 (0≤s.kind∧s.kind≤10)∧accP s.actor∧(now≤s.tick∧s.tick≤1099511627776)∧(1≤s.moves.length∧s.moves.length≤64)∧(∀m∈s.moves,jl c.items.length (gr s.kind) m)∧kM c.rules s
noncomputable instance (a b c):Decidable (fP a b c):=Classical.propDecidable _
def qb{s:StV}{i:Nat}(h:i<s.moves.length){L:LH}:Ent (stP s::L) (isl ao 3 s.moves[i]!.pad s.moves[i]!.m.parts::stP s::L):=Ent.d8 (f:=mvP) (aG h)
abbrev Dl:List Stp:=[.ev 0,.ev 1,.ev 2,.ev 3,.ev 4,.ev 5,.ev 6,.ev 7,.ev 8,.ev 9,.ev 10,.ev 11,.ev 12,.ev 13,.ev 14,.ev 15,.ev 16,.ev 17,.ev 18,.ev 19,.ev 20,.ev 21,.ef 22,.ev 23,.ev 24,.ev 25,.ev 26,.ev 27,.ev 28,.ev 29,.ev 30,.ev 31,.ev 32,.ev 33,.ev 34,.ev 35,.ev 36,.ev 37,.ev 38,.ev 39,.ev 40,.ev 41]
abbrev By:List Stp:=[.ev 0,.ev 1,.ev 2,.ev 3,.ev 4,.ev 5,.ev 6,.ef 7,.ev 8]
def PO{φ ψ:Prop}(k:ψ)(h:Hid ψ→φ:=by intro k;(repeat (first|refine aa ?_|intro zzz|((with_reducible apply G.d8);first|refine G.d7 (N:=166) (id:=1) Dl mixed aw ?_|refine G.d7 (N:=166) (id:=21) By mixed aw ?_)));(repeat revert zzz);exact Hid.out k):φ:=h ⟨k⟩
def xR{L R:LH}{b:Nat}{sh:Int}{x:RLX}[hp:PickObj L b tRL (aI sh x) R][hr:Rds L x.tad StV aL 7 x.steps](s:StV)[c9:Rds L s.mad MvV aQ 5 s.moves](hg:CatGood x.cat.m)(hc:x.cat.m.Ok)(hB:x.cat.B)(e2:x.steps.length≤65536)(c7:s.moves.length≤1000000)(c0:∀m∈s.moves,m.m.parts.length≤9223372036854775807)(hI:I64 s.rule) :
  Tri ag 92 #[av b,.agg (aL s).toArray] (catP x.cat::stP s::L) (fun v L'=>v=.bool (dB (fP x.cat.m (rnow x) s.m))∧L' = catP x.cat::stP s::L):=by
 have c6:x.cat.m.items.length=x.cat.items.length:=rfl;have a8:s.m.moves=s.moves.map MvV.m:=rfl;have a1:∀{p:Prop},¬p→(fP x.cat.m (rnow x) s.m→p)→dB (fP x.cat.m (rnow x) s.m)=false:=fun h q=>aH (fun r=>h (q r));have hl:s.m.moves.length=s.moves.length:=by rw[a8,aA]
 have b7:∀{i:Nat},i<s.moves.length→s.m.moves[i]! = s.moves[i]!.m:=fun hi=>dP MvV.m hi;refine Tri.bd ?_;by_cases b6:0≤s.kind
 case neg =>
  refine PO ?_;intros;exact KX.d7 an ae ⟨by rw[a1 b6 (fun h=>h.1.1)];rfl,rfl⟩
 by_cases b8:s.kind≤10
 case neg =>
  refine PO ?_;intros;exact KX.d7 an ae ⟨by rw[a1 b8 (fun h=>h.1.2)];rfl,rfl⟩
 by_cases h1:0≤s.actor
 case neg =>
  refine PO ?_;intros;exact KX.d7 an ae ⟨by rw[a1 h1 (fun h=>h.2.1.1)];rfl,rfl⟩
 by_cases h2:s.actor≤1073741824
 case neg =>
  refine PO ?_;intros;exact KX.d7 an ae ⟨by rw[a1 h2 (fun h=>h.2.1.2)];rfl,rfl⟩
 refine PO ?_;intros;refine GPW.cr (AR (b:=b) (sh:=sh) (x:=x) ab) ?_;rw[show(x.steps.getLast?.map (·.tick)).getD 0=rnow x from rfl];by_cases h3:rnow x≤s.tick
 case neg =>
  refine PO ?_;intros;exact KX.d7 an ae ⟨by rw[a1 h3 (fun h=>h.2.2.1.1)];rfl,rfl⟩
 by_cases h4:s.tick≤1099511627776
 case neg =>
  refine PO ?_;intros;exact KX.d7 an ae ⟨by rw[a1 h4 (fun h=>h.2.2.1.2)];rfl,rfl⟩
 by_cases h5:1≤s.moves.length
 case neg =>
  refine PO ?_;intros;exact KX.d7 an ae ⟨by rw[a1 h5 (fun h=>by have:=h.2.2.2.1.1;omega)];rfl,rfl⟩
 by_cases h6:s.moves.length≤64
 case neg =>
  refine PO ?_;intros;exact KX.d7 an ae ⟨by rw[a1 h6 (fun h=>by have:=h.2.2.2.1.2;omega)];rfl,rfl⟩
 refine PO ?_;intros;rename_i b3;refine GO.cr (uX s.kind) ?_;refine PO ?_;intros;refine G.loop (α:=Nat) (fun i=>i≤s.moves.length∧∀j,j<i→jl x.cat.items.length (gr s.kind) s.moves[j]!.m) (fun i=>[(0,av b),(3,av b3),(5,.bool (gr s.kind)),(6,ac (i:Int))]) (fun _=>obj b3 bB (aL s)::catP x.cat::stP s::L) (fun i=>s.moves.length - i) 0 ⟨aj _,fun j hj=>absurd hj (bJ j)⟩ ai ae ?_;rintro i ⟨hi,a9⟩;by_cases b2:i<s.moves.length
 case pos =>
  have b0:(i:Int).toNat=i:=ay i;have b5 : (i:Int).toNat<s.moves.length:=ab;have c5:=c0 _ (aG b2);refine PO ?_;intros;rw[b0];refine GO.ent (L':=isl ao 3 s.moves[i]!.pad s.moves[i]!.m.parts::obj b3 bB (aL s)::catP x.cat::stP s::L) ((Ent.at (A:=stP s) (qb b2)).trans ae) ?_;refine GO.cr (xT (b:=b) (sh:=sh) (x:=x) s.moves[i]! (gr s.kind) c5) ?_;by_cases a2:jl x.cat.items.length (gr s.kind) s.moves[i]!.m
  ·rw[aT a2];refine PO ?_;intros;refine⟨i+1,⟨ab,fun j hj=>?_⟩,ab,?_,by exact ae⟩
   ·rcases ce j i with h|h
    ·exact a9 j h
    ·obtain rfl:j=i:=ab;exact a2
   ·rw[aK i];exact ai
  ·rw[aH a2];refine PO ?_;intros;exact KX.d7 an ae ⟨by rw[a1 a2 (fun h=>by have h9:=h.2.2.2.2.1 s.moves[i]!.m (by rw[a8];exact alStd0List_mem_map_of_mem (aG b2));rwa [c6] at h9)];rfl,rfl⟩
 obtain rfl:i=s.moves.length:=ab
 have a3:∀m∈s.moves,jl x.cat.items.length (gr s.kind) m.m:=fun m hm=>by
  obtain⟨j,hj,rfl⟩:=List.mem_iff_getElem.1 hm;have:=a9 j hj
  rw[getElem!_of hj] at this;exact this
 have a0:fP x.cat.m (rnow x) s.m↔kM x.cat.m.rules s.m:=by
  constructor
  ·intro h;exact h.2.2.2.2.2
  ·intro g2;refine⟨⟨b6,b8⟩,⟨h1,h2⟩,⟨h3,h4⟩,⟨ab,ab⟩,?_,g2⟩;intro m hm;rw[a8] at hm;obtain⟨u,hu,rfl⟩:=List.mem_map.1 hm;exact a3 u hu
 clear a1;by_cases b4:s.kind=4
 ·have hw:kM x.cat.m.rules s.m↔fC x.cat.m.rules s.rule s.times (s.moves.map MvV.m):=by
   unfold kM;rw[if_pos (show s.m.kind=4 from b4)];exact Iff.rfl
  have a7:∀m∈s.moves,fitR x.cat.items.length m.m:=fun m hm=>moveP_fitR.1 (by
   have h:=a3 m hm;rwa [show gr s.kind=false by unfold gr;exact aH ab] at h)
  refine PO ?_;intros;refine GO.ent (L':=catP x.cat::catP x.cat::stP s::L) (Ent.trans (B:=catP x.cat::stP s::L) ae (Ent.dup (gQ x.cat).1)) ?_;refine GO.cr (xW (b:=b) (sh:=sh) (x:=x) s hg hc hB ⟨h5,h6⟩ hI a7) ?_;refine PO ?_;intros;refine KX.d7 an ae ⟨?_,rfl⟩;by_cases q:fC x.cat.m.rules s.rule s.times (s.moves.map MvV.m)
  ·rw[aT q,aT (a0.2 (hw.2 q))];rfl
  ·rw[aH q,aH (fun w=>q (hw.1 (a0.1 w)))];rfl
 by_cases a6:s.kind=10
 ·have hw:kM x.cat.m.rules s.m↔jn s.m:=by
   unfold kM;rw[if_neg (show ¬s.m.kind=4 from b4),if_pos (show s.m.kind=10 from a6)]
  have a1:∀{p:Prop},¬p→(jn s.m→p)→dB (fP x.cat.m (rnow x) s.m)=false:=fun h q=>aH (fun r=>h (q (hw.1 (a0.1 r))));by_cases c1:s.rule = -1
  case neg =>
   refine PO ?_;intros;exact KX.d7 an ae ⟨by rw[a1 c1 (fun h=>h.1)];rfl,rfl⟩
  by_cases c2:1≤s.times
  case neg =>
   refine PO ?_;intros;exact KX.d7 an ae ⟨by rw[a1 c2 (fun h=>h.2.1.1)];rfl,rfl⟩
  by_cases c3:s.times≤1048576
  case neg =>
   refine PO ?_;intros;exact KX.d7 an ae ⟨by rw[a1 c3 (fun h=>h.2.1.2)];rfl,rfl⟩
  by_cases c4:s.moves.length=2
  case neg =>
   refine PO ?_;intros;exact KX.d7 an ae ⟨by rw[a1 c4 (fun h=>by have:=h.2.2.1;omega)];rfl,rfl⟩
  have i0:(0:Int).toNat<s.moves.length:=ab;have i1:(1:Int).toNat<s.moves.length:=ab;have e0:s.m.moves[0]! = s.moves[(0:Int).toNat]!.m:=b7 i0;have e1:s.m.moves[1]! = s.moves[(1:Int).toNat]!.m:=b7 i1;have d0:=(a3 _ (aG i0)).1.2.1;have c8:=(a3 _ (aG i1)).1.2.1
  have a5:jn s.m↔s.moves[(0:Int).toNat]!.m.to=0∧s.moves[(1:Int).toNat]!.m.frm=0∧s.moves[(1:Int).toNat]!.m.to=s.moves[(0:Int).toNat]!.m.frm∧s.moves[(0:Int).toNat]!.m.n % s.times=0∧s.moves[(1:Int).toNat]!.m.n % s.times=0:=by
   unfold jn;rw[e0,e1];exact⟨fun h=>h.2.2.2,fun h=>⟨c1,⟨c2,c3⟩,ab,h⟩⟩
  clear a1;have a1:∀{p:Prop},¬p→(jn s.m→p)→dB (fP x.cat.m (rnow x) s.m)=false:=fun h q=>aH (fun r=>h (q (hw.1 (a0.1 r))));refine PO ?_;intros;generalize s.moves[(0:Int).toNat]! = m0 at *;generalize s.moves[(1:Int).toNat]! = m1 at *;simp only[aQ];by_cases d1:m0.m.to=0
  case neg =>
   refine PO ?_;intros;exact KX.d7 an ae ⟨by rw[a1 d1 (fun h=>(a5.1 h).1)];rfl,rfl⟩
  by_cases d2:m1.m.frm=0
  case neg =>
   refine PO ?_;intros;exact KX.d7 an ae ⟨by rw[a1 d2 (fun h=>(a5.1 h).2.1)];rfl,rfl⟩
  by_cases d3:m1.m.to=m0.m.frm
  case neg =>
   refine PO ?_;intros;exact KX.d7 an ae ⟨by rw[a1 d3 (fun h=>(a5.1 h).2.2.1)];rfl,rfl⟩
  by_cases d4:m0.m.n % s.times=0
  case neg =>
   refine PO ?_;intros;exact KX.d7 an ae ⟨by rw[a1 d4 (fun h=>(a5.1 h).2.2.2.1)];rfl,rfl⟩
  refine PO ?_;intros;refine KX.d7 an ae ⟨?_,rfl⟩;by_cases d5:m1.m.n % s.times=0
  ·rw[aT d5,aT (a0.2 (hw.2 (a5.2 ⟨d1,d2,d3,d4,d5⟩)))];rfl
  ·rw[aH d5,a1 d5 (fun h=>(a5.1 h).2.2.2.2)];rfl
 have hw:kM x.cat.m.rules s.m↔(∀m∈s.m.moves,iQ s.kind m)∧s.rule = -1∧s.times=0:=by
  unfold kM;rw[if_neg (show ¬s.m.kind=4 from b4),if_neg (show ¬s.m.kind=10 from a6)];exact Iff.rfl
 refine PO ?_;intros;refine G.loop (α:=Nat) (fun i=>i≤s.moves.length∧∀j,j<i→iQ s.kind s.moves[j]!.m) (fun i=>[(0,av b),(3,av b3),(10,ac (i:Int))]) (fun _=>obj b3 bB (aL s)::catP x.cat::stP s::L) (fun i=>s.moves.length - i) 0 ⟨aj _,fun j hj=>absurd hj (bJ j)⟩ ai ae ?_;rintro i ⟨d6,a4⟩;by_cases b1:i<s.moves.length
 case pos =>
  have b0:(i:Int).toNat=i:=ay i;have b5 : (i:Int).toNat<s.moves.length:=ab;refine PO ?_;intros;refine GPW.cr (xV s.kind s.moves[(i:Int).toNat]!) ?_;by_cases a2:iQ s.kind s.moves[(i:Int).toNat]!.m
  ·rw[aT a2];refine PO ?_;intros;rw[b0] at a2;refine⟨i+1,⟨ab,fun j hj=>?_⟩,ab,?_,by exact ae⟩
   ·rcases ce j i with h|h
    ·exact a4 j h
    ·obtain rfl:j=i:=ab;exact a2
   ·rw[aK i];exact ai
  ·rw[aH a2];refine PO ?_;intros;rw[b0] at a2;exact KX.d7 an ae ⟨by rw[aH (fun h=>a2 ((hw.1 (a0.1 h)).1 _ (by rw[a8];exact alStd0List_mem_map_of_mem (aG b1))))];rfl,rfl⟩
 obtain rfl:i=s.moves.length:=ab
 have b9:∀m∈s.m.moves,iQ s.kind m:=fun m hm=>by
  rw[a8] at hm;obtain⟨u,hu,rfl⟩:=List.mem_map.1 hm;obtain⟨j,hj,rfl⟩:=List.mem_iff_getElem.1 hu;have:=a4 j hj
  rw[getElem!_of hj] at this;exact this
 by_cases h7:s.rule = -1
 ·refine PO ?_;intros;refine KX.d7 an ae ⟨?_,rfl⟩;by_cases h8:s.times=0
  ·rw[aT h8,aT (a0.2 (hw.2 ⟨b9,h7,h8⟩))];rfl
  ·rw[aH h8,aH (fun w=>h8 (hw.1 (a0.1 w)).2.2)];rfl
 ·refine PO ?_;intros;exact KX.d7 an ae ⟨by rw[aH (fun w=>h7 (hw.1 (a0.1 w)).2.1)];rfl,rfl⟩
def mixR(x:RLX)(i:Int):Bool:=x.cat.items[i.toNat]!.mixed
def jO(l:List RStk):Prop:=(l.map (fun s=>(s.acc,s.item))).Nodup
def vS{k:Int×Int}:∀{l:List RStk} {a i:Int} {t:Stk},k∈(rset l a i t).map (fun s=>(s.acc,s.item))→k=(a,i)∨k∈l.map (fun s=>(s.acc,s.item))
 | [],_,_,_,h=>.inl (List.mem_singleton.1 h)
 | s::l,a,i,t,h=>by
  unfold rset at h;split at h
  ·exact .inr h
  ·rw[bO] at h ⊢;rcases List.mem_cons.1 h with h|h
   ·exact .inr (h▸au)
   ·exact(vS h).imp id (aq _)
def pj:∀{l:List RStk} {a i:Int} {t:Stk},jO l→jO (rset l a i t)
 | [],_,_,_,_=>by
  unfold jO rset;simp
 | s::l,a,i,t,h=>by
  unfold jO at h ⊢;rw[bO,dQ] at h;unfold rset;split
  ·rw[bO,dQ];exact h
  ·rename_i hn;rw[bO,dQ];refine⟨fun q=>?_,pj h.2⟩;rcases vS q with e|e
   ·simp only[Prod.mk.injEq] at e;exact hn e
   ·exact h.1 e
structure TkF (x:RLX) (m:MvM) (st:List RStk):Prop where
 lots:∀a i,(dE st a i).lots=if m.frm=0 then(dE x.stks a i).lots else upd2 (fun a i=>(dE x.stks a i).lots) m.frm m.item (eM (mixR x m.item) (dE x.stks m.frm m.item).lots m.n) a i
 sum:∀i,rsum st i=rsum x.stks i - (if m.frm≠0∧i=m.item then m.n else 0)
 ok:rOk st
 len:st.length≤x.stks.length+1
 dist:jO x.stks→jO st
def oC{l:LL}{f n:Int}(h:∀x∈l,LotOk x)(hn:1≤n):ba l (f,0,n)=l++[(f,0,n)]:=by
 unfold ba;rw[if_neg (by dsimp only;omega),if_neg];rintro⟨h1,h2⟩;rw[lcont_iff] at h2;have:=h _ (aG (show l.length - 1<l.length by omega))
 unfold LotOk at this;dsimp only at h2;omega
def vn(a0:Int)(f:FlV):Bool:=dB (f.m.step=a0∧f.m.to=0)
def gB(a0:Int)(l:List FlV):List Int:=(l.filter (vn a0)).map (fun f=>f.m.id)
def rR(a0:Int)(l:List FlV)(f:FlV):gB a0 (l++[f])=if f.m.step=a0∧f.m.to=0 then gB a0 l++[f.m.id] else gB a0 l:=by
 unfold gB;rw[dK];by_cases h:f.m.step=a0∧f.m.to=0
 ·rw[if_pos h,gi,if_pos (by unfold vn;rw[aT h]),aZ];rfl
 ·rw[if_neg h,gi,if_neg (by unfold vn;rw[aH h];decide),aZ];simp
def tV(a0:Int)(l:List FlV):(gB a0 l).length≤l.length:=by
 unfold gB;rw[aA];exact List.length_filter_le _ _
def rQ(a0:Int)(l:List FlV){i:Nat}(h:i<l.length):gB a0 (l.take (i+1))=if l[i]!.m.step=a0∧l[i]!.m.to=0 then gB a0 (l.take i)++[l[i]!.m.id] else gB a0 (l.take i):=by
 rw[←rR];congr 1;rw[List.take_add_one,List.getElem?_eq_getElem h,getElem!_of h];rfl
structure RW (S:LedM) (y:RLX) (W:Wk):Prop where
 cat:y.cat.m=S.cat
 catB:y.cat.B
 steps:y.steps.map StV.m=S.steps
 flows:y.flows.map FlV.m=S.flows++W.flows
 lots:∀a i,(dE y.stks a i).lots=W.stk a i
 sum:∀i,rsum y.stks i=W.tot i
 ok:rOk y.stks
 len:y.stks.length≤2*y.flows.length
 dist:jO y.stks
 sunk:gB (aR S) y.flows=W.sunk
structure MvFitR (k:Nat) (m:MvM):Prop where
 item:0≤m.item∧m.item<k
 n:1≤m.n∧m.n≤1099511627776
 frm:accP m.frm
 to:accP m.to
 ne:m.frm≠m.to
 parts:m.parts.length=0
structure RF (S:LedM) (x:RLX):Prop where
 cat:x.cat.m=S.cat
 catB:x.cat.B
 steps:x.steps.map StV.m=S.steps
 flows:x.flows.map FlV.m=S.flows
 lots:∀a i,(dE x.stks a i).lots=S.stk a i
 sum:∀i,rsum x.stks i=S.tot i
 ok:rOk x.stks
 len:x.stks.length≤2*x.flows.length
 dist:jO x.stks
 fstep:∀f∈S.flows,f.step<aR S
 now:0≤S.now
def FX{S:LedM}{x:RLX}(h:RF S x):rnow x=S.now:=by
 unfold LedM.now rnow;rw[←h.steps,List.getLast?_map,Option.map_map];rfl
def CN{a0:Int}{l:List FlV}(h:∀f∈l,f.m.step<a0):gB a0 l=[]:=by
 unfold gB;rw[List.filter_eq_nil_iff.2,gw];intro f hf;unfold vn;rw[aH (fun q=>by have:=h f hf;omega)];decide
