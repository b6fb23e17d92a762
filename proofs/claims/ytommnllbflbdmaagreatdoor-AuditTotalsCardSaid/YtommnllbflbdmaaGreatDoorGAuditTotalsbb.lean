/- Lemmas and contracts of functions. -/
import Derived.Test.YtommnllbflbdmaaGreatDoorGAuditTotalsav
import Derived.Test.YtommnllbflbdmaaGreatDoorGAuditTotalsba
set_option linter.all false
set_option maxHeartbeats 4000000
namespace Go.Proofs.YtommnllbflbdmaaGreatDoor
section
open Go.V
attribute [local irreducible] G GO GP GPW GPK Ev Ef EfR Ent CB GB V.Enters
def mJ (ps:List Lot) (n:Int):Prop:=ey ps∧lsum ps=n∧lsum (setL ps)=n
instance (ps:List Lot) (n:Int):Decidable (mJ ps n):=by unfold mJ;infer_instance
def pj (k:Nat) (m:MvM):Prop:=(0≤m.item∧m.item<k)∧(1≤m.n∧m.n≤1099511627776)∧m.frm≠m.to∧(0≤m.frm∧0≤m.to∧m.frm≤1073741824∧m.to≤1073741824)
def iA (k:Nat) (st:Bool) (m:MvM):Prop:=pj k m∧(if st=true then mJ m.parts m.n else m.parts.length=0)
instance (k:Nat) (st:Bool) (m:MvM):Decidable (iA k st m):=by unfold iA pj;infer_instance
theorem moveP_fitR {k:Nat} {m:MvM}:iA k false m↔fitR k m:=by
 unfold iA fitR pj
 rw [if_neg ac]
 constructor
 ·rintro ⟨⟨h1,h2,h3,h4⟩,h5⟩
  exact ⟨h1,h2,h3,h4,h5⟩
 ·rintro ⟨h1,h2,h3,h4,h5⟩
  exact ⟨⟨h1,h2,h3,h4⟩,h5⟩
abbrev Ac:List Stp:=[.ev 0,.ev 1,.ev 2,.ev 3,.ev 4,.ev 5,.ev 6,.ev 7,.ev 8,.ev 9,.ev 10,.ev 11,.ev 12,.ev 13,.ev 14,.ev 15,.ev 16,.ev 17,.ev 18,.ev 19,.ev 20,.ev 21,.ev 22,.ev 23,.ev 24,.ev 25,.ev 26,.ev 27,.ev 28,.ev 29,.ev 30,.ev 31,.ev 32,.ev 33,.ev 34,.ev 35,.ev 36,.ev 37,.ev 38,.ev 39,.ev 40,.ev 41,.ev 42,.ev 43,.ev 44,.ev 45,.ev 46,.ev 47,.ev 48,.ev 49,.ev 50]
abbrev Ab:List Stp:=[.ev 0,.ev 1,.ev 2,.ev 3,.ev 5,.ev 6,.ef 4,.ev 7,.ev 8,.ev 9,.ev 10,.ev 11,.ev 14,.ev 15,.ef 12,.ef 13,.ev 16,.ev 17,.ev 18]
theorem cO {φ ψ:Prop} (k:ψ) (h:Hid ψ→φ:=by intro k;(with_reducible apply G.d8);first|refine G.d7 (N:=86) (id:=1) Ac mixed an (Hid.out k)|refine G.d7 (N:=86) (id:=6) Ab mixed an (Hid.out k)):φ:=h ⟨k⟩
theorem wE {L R:List HP} {b:Nat} {sh:Int} {x:RLX} [hp:PickObj L b tRL (aJ sh x) R] (m:MvV) (st:Bool) [hr:Rds L m.pad Lot ah 3 m.m.parts] (hm:m.m.parts.length≤9223372036854775807) :
  Tri Tryz.prog 135 #[.pointer (some ⟨b,0,none⟩),.agg (aF m).toArray,.bool st] L (fun v L'=>v=.bool (dB (iA x.cat.items.length st m.m))∧L' = L):=by
 cases st with
 | false =>
  refine (zq (b:=b) (sh:=sh) (x:=x) m).mono ?_
  rintro _ _ ⟨rfl,rfl⟩
  refine ⟨?_,rfl⟩
  by_cases h:fitR x.cat.items.length m.m
  ·rw [aL h,aL (moveP_fitR.2 h)]
  ·rw [aC h,aC (fun q=>h (moveP_fitR.1 q))]
 | true =>
  obtain ⟨⟨frm,to,item,n,parts⟩,pad,pcap⟩:=m
  dsimp only at hr hm
  have hno:∀ {p:Prop},¬p→(iA x.cat.items.length true ⟨frm,to,item,n,parts⟩→p)→dB (iA x.cat.items.length true ⟨frm,to,item,n,parts⟩)=false:=fun h q=>aC (fun r=>h (q r))
  refine Tri.body (args:=[.pointer (some ⟨b,0,none⟩),.agg (aF ⟨⟨frm,to,item,n,parts⟩,pad,pcap⟩).toArray,.bool true]) 86 DT Tryz.func135 rfl rfl rfl (by simp) ?_
  simp only [aF]
  by_cases h1:0≤item
  case neg =>
   repeat first|refine aa ?_|intro _|refine cO ?_
   exact KX.d7 ag ae ⟨by rw [hno h1 (fun h=>h.1.1.1)];rfl,rfl⟩
  by_cases h2:item<x.cat.items.length
  case neg =>
   repeat first|refine aa ?_|intro _|refine cO ?_
   exact KX.d7 ag ae ⟨by rw [hno h2 (fun h=>h.1.1.2)];rfl,rfl⟩
  by_cases h3:1≤n
  case neg =>
   repeat first|refine aa ?_|intro _|refine cO ?_
   exact KX.d7 ag ae ⟨by rw [hno h3 (fun h=>h.1.2.1.1)];rfl,rfl⟩
  by_cases h4:n≤1099511627776
  case neg =>
   repeat first|refine aa ?_|intro _|refine cO ?_
   exact KX.d7 ag ae ⟨by rw [hno h4 (fun h=>h.1.2.1.2)];rfl,rfl⟩
  by_cases h5:frm=to
  case pos =>
   repeat first|refine aa ?_|intro _|refine cO ?_
   exact KX.d7 ag ae ⟨by rw [hno (fun q=>q h5) (fun h=>h.1.2.2.1)];rfl,rfl⟩
  by_cases h6:0≤frm
  case neg =>
   repeat first|refine aa ?_|intro _|refine cO ?_
   exact KX.d7 ag ae ⟨by rw [hno h6 (fun h=>h.1.2.2.2.1)];rfl,rfl⟩
  by_cases h7:0≤to
  case neg =>
   repeat first|refine aa ?_|intro _|refine cO ?_
   exact KX.d7 ag ae ⟨by rw [hno h7 (fun h=>h.1.2.2.2.2.1)];rfl,rfl⟩
  by_cases h8:frm≤1073741824
  case neg =>
   repeat first|refine aa ?_|intro _|refine cO ?_
   exact KX.d7 ag ae ⟨by rw [hno h8 (fun h=>h.1.2.2.2.2.2.1)];rfl,rfl⟩
  by_cases h9:to≤1073741824
  case neg =>
   repeat first|refine aa ?_|intro _|refine cO ?_
   exact KX.d7 ag ae ⟨by rw [hno h9 (fun h=>h.1.2.2.2.2.2.2)];rfl,rfl⟩
  have hpp:∀ {p:Prop},¬p→(mJ parts n→p)→dB (iA x.cat.items.length true ⟨frm,to,item,n,parts⟩)=false:=fun h q=>hno h (fun r=>q (by have:=r.2;rwa [if_pos rfl] at this))
  repeat first|refine aa ?_|intro _|refine cO ?_
  refine GO.ef (Ef.d7 (gI pad parts.length pcap parts rfl hm) rfl) ac ?_
  rintro _ _ ⟨rfl,rfl⟩
  by_cases hv:ey parts
  case neg =>
   rw [aC hv]
   repeat first|refine aa ?_|intro _|refine cO ?_
   exact KX.d7 ag ae ⟨by rw [hpp hv (fun q=>q.1)];rfl,rfl⟩
  rw [aL hv]
  have hso:=kj hv.1
  have hv2:=hv.2
  repeat first|refine aa ?_|intro _|refine cO ?_
  refine GPW.ef (Ef.d7 (iN pad parts.length pcap parts rfl hv.2 hv.1) rfl) ac ?_
  rintro _ _ ⟨rfl,rfl⟩
  by_cases hs:lsum parts=n
  case neg =>
   repeat first|refine aa ?_|intro _|refine cO ?_
   exact KX.d7 ag ae ⟨by rw [hpp hs (fun q=>q.2.1)];rfl,rfl⟩
  repeat first|refine aa ?_|intro _|refine cO ?_
  refine GPW.ef (Ef.d7 (pB pad parts.length pcap parts rfl hv) rfl) ac ?_
  rintro _ _ ⟨ad2,c2,rfl,rfl⟩
  repeat first|refine aa ?_|intro _|refine cO ?_
  refine GPW.ef (Ef.d7 (iN ad2 (setL parts).length c2 (setL parts) rfl ab hso.2) rfl) ac ?_
  rintro _ _ ⟨rfl,rfl⟩
  repeat first|refine aa ?_|intro _|refine cO ?_
  refine KX.d7 ag ae ⟨?_,rfl⟩
  by_cases ht:lsum (setL parts)=n
  ·rw [aL ht,aL (show iA x.cat.items.length true ⟨frm,to,item,n,parts⟩ from ⟨⟨⟨h1,h2⟩,⟨h3,h4⟩,h5,⟨h6,h7,h8,h9⟩⟩,by rw [if_pos rfl];exact ⟨hv,hs,ht⟩⟩)]
   rfl
  ·rw [aC ht,hpp ht (fun q=>q.2.2)]
   rfl
def fN (k:Int):Bool:=dB (k=5∨k=7∨k=9)
theorem tI {L:List HP} (k:Int):Tri Tryz.prog 134 #[.int .i64 k] L (fun v L'=>v=.bool (fN k)∧L' = L):=by
 unfold fN
 refine Tri.body (args:=[.int .i64 k]) 13 Iq Tryz.func134 rfl rfl rfl (by simp) ?_
 by_cases h5:k=5
 ·repeat first|refine aa ?_|intro
  exact KX.d7 ag (Ent.refl _) ⟨by rw [aL (.inl h5)];rfl,rfl⟩
 by_cases h7:k=7
 ·repeat first|refine aa ?_|intro
  exact KX.d7 ag (Ent.refl _) ⟨by rw [aL (.inr (.inl h7))];rfl,rfl⟩
 repeat first|refine aa ?_|intro
 refine KX.d7 ag (Ent.refl _) ⟨?_,rfl⟩
 by_cases h9:k=9
 ·rw [aL h9,aL (.inr (.inr h9))];rfl
 ·rw [aC h9,aC ab];rfl
def ip (k:Int) (m:MvM):Prop:=if k=0∨k=5 then m.frm=0 else if k=1∨k=6 then m.to=0 else if k=7 then 0<m.frm else if k=9 then 0<m.to else 0<m.frm∧0<m.to
instance (k:Int) (m:MvM):Decidable (ip k m):=by unfold ip;infer_instance
theorem wG {L:List HP} (k:Int) (m:MvV):Tri Tryz.prog 137 #[.int .i64 k,.agg (aF m).toArray] L (fun v L'=>v=.bool (dB (ip k m.m))∧L' = L):=by
 obtain ⟨⟨frm,to,item,n,parts⟩,pad,pcap⟩:=m
 refine Tri.body (args:=[.int .i64 k,.agg (aF ⟨⟨frm,to,item,n,parts⟩,pad,pcap⟩).toArray]) 36 Io Tryz.func137 rfl rfl rfl (by simp) ?_
 simp only [aF]
 by_cases h0:k=0
 ·subst h0
  repeat first|refine aa ?_|intro
  exact KX.d7 ag ae ⟨rfl,rfl⟩
 by_cases h5:k=5
 ·subst h5
  repeat first|refine aa ?_|intro
  exact KX.d7 ag ae ⟨rfl,rfl⟩
 by_cases h1:k=1
 ·subst h1
  repeat first|refine aa ?_|intro
  exact KX.d7 ag ae ⟨rfl,rfl⟩
 by_cases h6:k=6
 ·subst h6
  repeat first|refine aa ?_|intro
  exact KX.d7 ag ae ⟨rfl,rfl⟩
 by_cases h7:k=7
 ·subst h7
  repeat first|refine aa ?_|intro
  exact KX.d7 ag ae ⟨rfl,rfl⟩
 by_cases h9:k=9
 ·subst h9
  repeat first|refine aa ?_|intro
  exact KX.d7 ag ae ⟨rfl,rfl⟩
 have e:ip k ⟨frm,to,item,n,parts⟩↔0<frm∧0<to:=by
  unfold ip
  rw [if_neg ab,if_neg ab,if_neg h7,if_neg h9]
 by_cases h7:0<frm
 ·repeat first|refine aa ?_|intro
  refine KX.d7 ag ae ⟨?_,rfl⟩
  by_cases h8:0<to
  ·rw [aL h8,aL (e.2 ⟨h7,h8⟩)];rfl
  ·rw [aC h8,aC (fun q=>h8 (e.1 q).2)];rfl
 ·repeat first|refine aa ?_|intro
  refine KX.d7 ag ae ⟨?_,rfl⟩
  rw [aC (fun q=>h7 (e.1 q).1)];rfl
end
section
open Go.V
attribute [local irreducible] G GO GP GPW GPK Ev Ef EfR Ent CB GB V.Enters
def iK (s:StM):Prop:=s.rule = -1∧(1≤s.times∧s.times≤1048576)∧s.moves.length=2∧s.moves[0]!.to=0∧s.moves[1]!.frm=0∧s.moves[1]!.to=s.moves[0]!.frm∧s.moves[0]!.n % s.times=0∧s.moves[1]!.n % s.times=0
def jU (rules:List RuM) (s:StM):Prop:=if s.kind=4 then eW rules s.rule s.times s.moves else if s.kind=10 then iK s else (∀ m∈s.moves,ip s.kind m)∧s.rule = -1∧s.times=0
def fm (c:CatM) (now:Int) (s:StM):Prop :=
 (0≤s.kind∧s.kind≤10)∧accP s.actor∧(now≤s.tick∧s.tick≤1099511627776)∧(1≤s.moves.length∧s.moves.length≤64)∧(∀ m∈s.moves,iA c.items.length (fN s.kind) m)∧jU c.rules s
noncomputable instance (a b c):Decidable (fm a b c):=Classical.propDecidable _
theorem oW {s:StV} {i:Nat} (h:i<s.moves.length) {L:List HP}:Ent (stP s::L) (isl ah 3 s.moves[i]!.pad s.moves[i]!.m.parts::stP s::L):=Ent.e7 (f:=mvP) (aG h)
abbrev BB:List Stp:=[.ev 0,.ev 1,.ev 2,.ev 3,.ev 4,.ev 5,.ev 6,.ev 7,.ev 8,.ev 9,.ev 10,.ev 11,.ev 12,.ev 13,.ev 14,.ev 15,.ev 16,.ev 17,.ev 18,.ev 19,.ev 20,.ev 21,.ef 22,.ev 23,.ev 24,.ev 25,.ev 26,.ev 27,.ev 28,.ev 29,.ev 30,.ev 31,.ev 32,.ev 33,.ev 34,.ev 35,.ev 36,.ev 37,.ev 38,.ev 39,.ev 40,.ev 41]
abbrev Aa:List Stp:=[.ev 0,.ev 1,.ev 2,.ev 3,.ev 4,.ev 5,.ev 6,.ef 7,.ev 8]
theorem bD {φ ψ:Prop} (k:ψ) (h:Hid ψ→φ:=by intro k;(with_reducible apply G.d8);first|refine G.d7 (N:=166) (id:=1) BB mixed an (Hid.out k)|refine G.d7 (N:=166) (id:=21) Aa mixed an (Hid.out k)):φ:=h ⟨k⟩
theorem wC {L R:List HP} {b:Nat} {sh:Int} {x:RLX} [hp:PickObj L b tRL (aJ sh x) R] [hr:Rds L x.tad StV aB 7 x.steps] (s:StV) [hrm:Rds L s.mad MvV aF 5 s.moves] (hg:CatGood x.cat.m) (hc:x.cat.m.Ok) (hB:x.cat.B) (hsl:x.steps.length≤65536) (hml:s.moves.length≤1000000) (hpl:∀ m∈s.moves,m.m.parts.length≤9223372036854775807) (hI:I64 s.rule) :
  Tri Tryz.prog 92 #[.pointer (some ⟨b,0,none⟩),.agg (aB s).toArray] (catP x.cat::stP s::L) (fun v L'=>v=.bool (dB (fm x.cat.m (rnow x) s.m))∧L' = catP x.cat::stP s::L):=by
 have hil:x.cat.m.items.length=x.cat.items.length:=rfl
 have hmm:s.m.moves=s.moves.map MvV.m:=rfl
 have hno:∀ {p:Prop},¬p→(fm x.cat.m (rnow x) s.m→p)→dB (fm x.cat.m (rnow x) s.m)=false:=fun h q=>aC (fun r=>h (q r))
 have hl:s.m.moves.length=s.moves.length:=by rw [hmm,aD]
 have hgm:∀ {i:Nat},i<s.moves.length→s.m.moves[i]! = s.moves[i]!.m:=fun hi=>ez MvV.m hi
 refine Tri.body (args:=[.pointer (some ⟨b,0,none⟩),.agg (aB s).toArray]) 166 en92 Tryz.func92 rfl rfl rfl (by simp) ?_
 by_cases h01:0≤s.kind
 case neg =>
  repeat first|refine aa ?_|intro _|refine bD ?_
  exact KX.d7 ag ae ⟨by rw [hno h01 (fun h=>h.1.1)];rfl,rfl⟩
 by_cases h02:s.kind≤10
 case neg =>
  repeat first|refine aa ?_|intro _|refine bD ?_
  exact KX.d7 ag ae ⟨by rw [hno h02 (fun h=>h.1.2)];rfl,rfl⟩
 by_cases h1:0≤s.actor
 case neg =>
  repeat first|refine aa ?_|intro _|refine bD ?_
  exact KX.d7 ag ae ⟨by rw [hno h1 (fun h=>h.2.1.1)];rfl,rfl⟩
 by_cases h2:s.actor≤1073741824
 case neg =>
  repeat first|refine aa ?_|intro _|refine bD ?_
  exact KX.d7 ag ae ⟨by rw [hno h2 (fun h=>h.2.1.2)];rfl,rfl⟩
 repeat first|refine aa ?_|intro _|refine bD ?_
 refine GPW.ef (Ef.d7 (zr (b:=b) (sh:=sh) (x:=x) ab) rfl) ac ?_
 rintro _ _ ⟨rfl,rfl⟩
 rw [show (x.steps.getLast?.map (·.tick)).getD 0=rnow x from rfl]
 by_cases h3:rnow x≤s.tick
 case neg =>
  repeat first|refine aa ?_|intro _|refine bD ?_
  exact KX.d7 ag ae ⟨by rw [hno h3 (fun h=>h.2.2.1.1)];rfl,rfl⟩
 by_cases h4:s.tick≤1099511627776
 case neg =>
  repeat first|refine aa ?_|intro _|refine bD ?_
  exact KX.d7 ag ae ⟨by rw [hno h4 (fun h=>h.2.2.1.2)];rfl,rfl⟩
 by_cases h5:1≤s.moves.length
 case neg =>
  repeat first|refine aa ?_|intro _|refine bD ?_
  exact KX.d7 ag ae ⟨by rw [hno h5 (fun h=>by have:=h.2.2.2.1.1;omega)];rfl,rfl⟩
 by_cases h6:s.moves.length≤64
 case neg =>
  repeat first|refine aa ?_|intro _|refine bD ?_
  exact KX.d7 ag ae ⟨by rw [hno h6 (fun h=>by have:=h.2.2.2.1.2;omega)];rfl,rfl⟩
 repeat first|refine aa ?_|intro _|refine bD ?_
 rename_i b3
 refine GO.ef (Ef.d7 (tI s.kind) rfl) ac ?_
 rintro _ _ ⟨rfl,rfl⟩
 repeat first|refine aa ?_|intro _|refine bD ?_
 refine G.loop (α:=Nat) (fun i=>i≤s.moves.length∧∀ j,j<i→iA x.cat.items.length (fN s.kind) s.moves[j]!.m) (fun i=>[(0,.pointer (some ⟨b,0,none⟩)),(3,.pointer (some ⟨b3,0,none⟩)),(5,.bool (fN s.kind)),(6,.int .i64 (i:Int))]) (fun _=>obj b3 aU (aB s)::catP x.cat::stP s::L) (fun i=>s.moves.length - i) 0 ⟨al _,fun j hj=>absurd hj (bI j)⟩ ai ae ?_
 rintro i ⟨hi,hfit⟩
 by_cases hlt:i<s.moves.length
 case pos =>
  have hii:(i:Int).toNat=i:=av i
  have hlt' : (i:Int).toNat<s.moves.length:=ab
  have hpm:=hpl _ (aG hlt)
  repeat first|refine aa ?_|intro _|refine bD ?_
  rw [hii]
  refine GO.ent (L':=isl ah 3 s.moves[i]!.pad s.moves[i]!.m.parts::obj b3 aU (aB s)::catP x.cat::stP s::L) ((Ent.at (A:=stP s) (oW hlt)).trans ae) ?_
  refine GO.ef (Ef.d7 (wE (b:=b) (sh:=sh) (x:=x) s.moves[i]! (fN s.kind) hpm) rfl) ac ?_
  rintro _ _ ⟨rfl,rfl⟩
  by_cases hft:iA x.cat.items.length (fN s.kind) s.moves[i]!.m
  ·rw [aL hft]
   repeat first|refine aa ?_|intro _|refine bD ?_
   refine ⟨i+1,⟨ab,fun j hj=>?_⟩,ab,?_,by exact ae⟩
   ·rcases bG j i with h|h
    ·exact hfit j h
    ·obtain rfl:j=i:=ab
     exact hft
   ·rw [aM i]
    exact ai
  ·rw [aC hft]
   repeat first|refine aa ?_|intro _|refine bD ?_
   exact KX.d7 ag ae ⟨by rw [hno hft (fun h=>by have h9:=h.2.2.2.2.1 s.moves[i]!.m (by rw [hmm];exact alStd0List_mem_map_of_mem (aG hlt));rwa [hil] at h9)];rfl,rfl⟩
 obtain rfl:i=s.moves.length:=ab
 have hall:∀ m∈s.moves,iA x.cat.items.length (fN s.kind) m.m:=fun m hm=>by
  obtain ⟨j,hj,rfl⟩:=List.mem_iff_getElem.1 hm
  have:=hfit j hj
  rw [getElem!_of hj] at this
  exact this
 have hbase:fm x.cat.m (rnow x) s.m↔jU x.cat.m.rules s.m:=by
  constructor
  ·intro h
   exact h.2.2.2.2.2
  ·intro g2
   refine ⟨⟨h01,h02⟩,⟨h1,h2⟩,⟨h3,h4⟩,⟨ab,ab⟩,?_,g2⟩
   intro m hm
   rw [hmm] at hm
   obtain ⟨u,hu,rfl⟩:=List.mem_map.1 hm
   exact hall u hu
 clear hno
 by_cases hk4:s.kind=4
 ·have hw:jU x.cat.m.rules s.m↔eW x.cat.m.rules s.rule s.times (s.moves.map MvV.m):=by
   unfold jU
   rw [if_pos (show s.m.kind=4 from hk4)]
   exact Iff.rfl
  have hall2:∀ m∈s.moves,fitR x.cat.items.length m.m:=fun m hm=>moveP_fitR.1 (by
   have h:=hall m hm
   rwa [show fN s.kind=false by unfold fN;exact aC ab] at h)
  repeat first|refine aa ?_|intro _|refine bD ?_
  refine GO.ent (L':=catP x.cat::catP x.cat::stP s::L) (Ent.trans (B:=catP x.cat::stP s::L) ae (Ent.dup (lL x.cat).1)) ?_
  refine GO.ef (Ef.d7 (wH (b:=b) (sh:=sh) (x:=x) s hg hc hB ⟨h5,h6⟩ hI hall2) rfl) ac ?_
  rintro _ _ ⟨rfl,rfl⟩
  repeat first|refine aa ?_|intro _|refine bD ?_
  refine KX.d7 ag ae ⟨?_,rfl⟩
  by_cases q:eW x.cat.m.rules s.rule s.times (s.moves.map MvV.m)
  ·rw [aL q,aL (hbase.2 (hw.2 q))];rfl
  ·rw [aC q,aC (fun w=>q (hw.1 (hbase.1 w)))];rfl
 by_cases hk10:s.kind=10
 ·have hw:jU x.cat.m.rules s.m↔iK s.m:=by
   unfold jU
   rw [if_neg (show ¬s.m.kind=4 from hk4),if_pos (show s.m.kind=10 from hk10)]
  have hno:∀ {p:Prop},¬p→(iK s.m→p)→dB (fm x.cat.m (rnow x) s.m)=false:=fun h q=>aC (fun r=>h (q (hw.1 (hbase.1 r))))
  by_cases c1:s.rule = -1
  case neg =>
   repeat first|refine aa ?_|intro _|refine bD ?_
   exact KX.d7 ag ae ⟨by rw [hno c1 (fun h=>h.1)];rfl,rfl⟩
  by_cases c2:1≤s.times
  case neg =>
   repeat first|refine aa ?_|intro _|refine bD ?_
   exact KX.d7 ag ae ⟨by rw [hno c2 (fun h=>h.2.1.1)];rfl,rfl⟩
  by_cases c3:s.times≤1048576
  case neg =>
   repeat first|refine aa ?_|intro _|refine bD ?_
   exact KX.d7 ag ae ⟨by rw [hno c3 (fun h=>h.2.1.2)];rfl,rfl⟩
  by_cases c4:s.moves.length=2
  case neg =>
   repeat first|refine aa ?_|intro _|refine bD ?_
   exact KX.d7 ag ae ⟨by rw [hno c4 (fun h=>by have:=h.2.2.1;omega)];rfl,rfl⟩
  have i0:(0:Int).toNat<s.moves.length:=ab
  have i1:(1:Int).toNat<s.moves.length:=ab
  have e0:s.m.moves[0]! = s.moves[(0:Int).toNat]!.m:=hgm i0
  have e1:s.m.moves[1]! = s.moves[(1:Int).toNat]!.m:=hgm i1
  have hn0:=(hall _ (aG i0)).1.2.1
  have hn1:=(hall _ (aG i1)).1.2.1
  have hcv:iK s.m↔s.moves[(0:Int).toNat]!.m.to=0∧s.moves[(1:Int).toNat]!.m.frm=0∧s.moves[(1:Int).toNat]!.m.to=s.moves[(0:Int).toNat]!.m.frm∧s.moves[(0:Int).toNat]!.m.n % s.times=0∧s.moves[(1:Int).toNat]!.m.n % s.times=0:=by
   unfold iK
   rw [e0,e1]
   exact ⟨fun h=>h.2.2.2,fun h=>⟨c1,⟨c2,c3⟩,ab,h⟩⟩
  clear hno
  have hno:∀ {p:Prop},¬p→(iK s.m→p)→dB (fm x.cat.m (rnow x) s.m)=false:=fun h q=>aC (fun r=>h (q (hw.1 (hbase.1 r))))
  repeat first|refine aa ?_|intro _|refine bD ?_
  generalize s.moves[(0:Int).toNat]! = m0 at *
  generalize s.moves[(1:Int).toNat]! = m1 at *
  simp only [aF]
  by_cases d1:m0.m.to=0
  case neg =>
   repeat first|refine aa ?_|intro _|refine bD ?_
   exact KX.d7 ag ae ⟨by rw [hno d1 (fun h=>(hcv.1 h).1)];rfl,rfl⟩
  by_cases d2:m1.m.frm=0
  case neg =>
   repeat first|refine aa ?_|intro _|refine bD ?_
   exact KX.d7 ag ae ⟨by rw [hno d2 (fun h=>(hcv.1 h).2.1)];rfl,rfl⟩
  by_cases d3:m1.m.to=m0.m.frm
  case neg =>
   repeat first|refine aa ?_|intro _|refine bD ?_
   exact KX.d7 ag ae ⟨by rw [hno d3 (fun h=>(hcv.1 h).2.2.1)];rfl,rfl⟩
  by_cases d4:m0.m.n % s.times=0
  case neg =>
   repeat first|refine aa ?_|intro _|refine bD ?_
   exact KX.d7 ag ae ⟨by rw [hno d4 (fun h=>(hcv.1 h).2.2.2.1)];rfl,rfl⟩
  repeat first|refine aa ?_|intro _|refine bD ?_
  refine KX.d7 ag ae ⟨?_,rfl⟩
  by_cases d5:m1.m.n % s.times=0
  ·rw [aL d5,aL (hbase.2 (hw.2 (hcv.2 ⟨d1,d2,d3,d4,d5⟩)))];rfl
  ·rw [aC d5,hno d5 (fun h=>(hcv.1 h).2.2.2.2)];rfl
 have hw:jU x.cat.m.rules s.m↔(∀ m∈s.m.moves,ip s.kind m)∧s.rule = -1∧s.times=0:=by
  unfold jU
  rw [if_neg (show ¬s.m.kind=4 from hk4),if_neg (show ¬s.m.kind=10 from hk10)]
  exact Iff.rfl
 repeat first|refine aa ?_|intro _|refine bD ?_
 refine G.loop (α:=Nat) (fun i=>i≤s.moves.length∧∀ j,j<i→ip s.kind s.moves[j]!.m) (fun i=>[(0,.pointer (some ⟨b,0,none⟩)),(3,.pointer (some ⟨b3,0,none⟩)),(10,.int .i64 (i:Int))]) (fun _=>obj b3 aU (aB s)::catP x.cat::stP s::L) (fun i=>s.moves.length - i) 0 ⟨al _,fun j hj=>absurd hj (bI j)⟩ ai ae ?_
 rintro i ⟨hi2,hends⟩
 by_cases hlt2:i<s.moves.length
 case pos =>
  have hii:(i:Int).toNat=i:=av i
  have hlt' : (i:Int).toNat<s.moves.length:=ab
  repeat first|refine aa ?_|intro _|refine bD ?_
  refine GPW.ef (Ef.d7 (wG s.kind s.moves[(i:Int).toNat]!) rfl) ac ?_
  rintro _ _ ⟨rfl,rfl⟩
  by_cases hft:ip s.kind s.moves[(i:Int).toNat]!.m
  ·rw [aL hft]
   repeat first|refine aa ?_|intro _|refine bD ?_
   rw [hii] at hft
   refine ⟨i+1,⟨ab,fun j hj=>?_⟩,ab,?_,by exact ae⟩
   ·rcases bG j i with h|h
    ·exact hends j h
    ·obtain rfl:j=i:=ab
     exact hft
   ·rw [aM i]
    exact ai
  ·rw [aC hft]
   repeat first|refine aa ?_|intro _|refine bD ?_
   rw [hii] at hft
   exact KX.d7 ag ae ⟨by rw [aC (fun h=>hft ((hw.1 (hbase.1 h)).1 _ (by rw [hmm];exact alStd0List_mem_map_of_mem (aG hlt2))))];rfl,rfl⟩
 obtain rfl:i=s.moves.length:=ab
 have hkf:∀ m∈s.m.moves,ip s.kind m:=fun m hm=>by
  rw [hmm] at hm
  obtain ⟨u,hu,rfl⟩:=List.mem_map.1 hm
  obtain ⟨j,hj,rfl⟩:=List.mem_iff_getElem.1 hu
  have:=hends j hj
  rw [getElem!_of hj] at this
  exact this
 by_cases h7:s.rule = -1
 ·repeat first|refine aa ?_|intro _|refine bD ?_
  refine KX.d7 ag ae ⟨?_,rfl⟩
  by_cases h8:s.times=0
  ·rw [aL h8,aL (hbase.2 (hw.2 ⟨hkf,h7,h8⟩))];rfl
  ·rw [aC h8,aC (fun w=>h8 (hw.1 (hbase.1 w)).2.2)];rfl
 ·repeat first|refine aa ?_|intro _|refine bD ?_
  exact KX.d7 ag ae ⟨by rw [aC (fun w=>h7 (hw.1 (hbase.1 w)).2.1)];rfl,rfl⟩
end
section
open Go.V
attribute [local irreducible] G GO GP GPW GPK Ev Ef EfR Ent CB GB V.Enters
def mixR (x:RLX) (i:Int):Bool:=x.cat.items[i.toNat]!.mixed
def jn (l:List RStk):Prop:=(l.map (fun s=>(s.acc,s.item))).Nodup
theorem uG {k:Int×Int}:∀ {l:List RStk} {a i:Int} {t:Stk},k∈(rset l a i t).map (fun s=>(s.acc,s.item))→k=(a,i)∨k∈l.map (fun s=>(s.acc,s.item))
 | [],_,_,_,h=>.inl (List.mem_singleton.1 h)
 | s::l,a,i,t,h=>by
  unfold rset at h
  split at h
  ·exact .inr h
  ·rw [bE] at h ⊢
   rcases List.mem_cons.1 h with h|h
   ·exact .inr (h▸ap)
   ·exact (uG h).imp id (ao _)
theorem oh:∀ {l:List RStk} {a i:Int} {t:Stk},jn l→jn (rset l a i t)
 | [],_,_,_,_=>by
  unfold jn rset
  simp
 | s::l,a,i,t,h=>by
  unfold jn at h ⊢
  rw [bE,dv] at h
  unfold rset
  split
  ·rw [bE,dv]
   exact h
  ·rename_i hn
   rw [bE,dv]
   refine ⟨fun q=>?_,oh h.2⟩
   rcases uG q with e|e
   ·simp only [Prod.mk.injEq] at e
    exact hn e
   ·exact h.1 e
structure TkF (x:RLX) (m:MvM) (st:List RStk):Prop where
 lots:∀ a i,(df st a i).lots=if m.frm=0 then (df x.stks a i).lots else upd2 (fun a i=>(df x.stks a i).lots) m.frm m.item (dW (mixR x m.item) (df x.stks m.frm m.item).lots m.n) a i
 sum:∀ i,rsum st i=rsum x.stks i - (if m.frm≠0∧i=m.item then m.n else 0)
 ok:rOk st
 len:st.length≤x.stks.length+1
 dist:jn x.stks→jn st
end
section
open Go.V
attribute [local irreducible] G GO GP GPW GPK Ev Ef EfR Ent CB GB V.Enters
theorem ns {l:List Lot} {f n:Int} (h:∀ x∈l,LotOk x) (hn:1≤n):aR l (f,0,n)=l++[(f,0,n)]:=by
 unfold aR
 rw [if_neg (by dsimp only;omega),if_neg]
 rintro ⟨h1,h2⟩
 rw [lcont_iff] at h2
 have:=h _ (aG (show l.length - 1<l.length by omega))
 unfold LotOk at this
 dsimp only at h2
 omega
def tX (sid:Int) (f:FlV):Bool:=dB (f.m.step=sid∧f.m.to=0)
def fW (sid:Int) (l:List FlV):List Int:=(l.filter (tX sid)).map (fun f=>f.m.id)
theorem qN (sid:Int) (l:List FlV) (f:FlV):fW sid (l++[f])=if f.m.step=sid∧f.m.to=0 then fW sid l++[f.m.id] else fW sid l:=by
 unfold fW
 rw [cJ]
 by_cases h:f.m.step=sid∧f.m.to=0
 ·rw [if_pos h,fI,if_pos (by unfold tX;rw [aL h]),aS]
  rfl
 ·rw [if_neg h,fI,if_neg (by unfold tX;rw [aC h];decide),aS]
  simp
theorem sB (sid:Int) (l:List FlV):(fW sid l).length≤l.length:=by
 unfold fW
 rw [aD]
 exact List.length_filter_le _ _
theorem qM (sid:Int) (l:List FlV) {i:Nat} (h:i<l.length):fW sid (l.take (i+1))=if l[i]!.m.step=sid∧l[i]!.m.to=0 then fW sid (l.take i)++[l[i]!.m.id] else fW sid (l.take i):=by
 rw [← qN]
 congr 1
 rw [List.take_add_one,List.getElem?_eq_getElem h,getElem!_of h]
 rfl
structure RW (S:LedM) (y:RLX) (W:Wk):Prop where
 cat:y.cat.m=S.cat
 catB:y.cat.B
 steps:y.steps.map StV.m=S.steps
 flows:y.flows.map FlV.m=S.flows++W.flows
 lots:∀ a i,(df y.stks a i).lots=W.stk a i
 sum:∀ i,rsum y.stks i=W.tot i
 ok:rOk y.stks
 len:y.stks.length≤2*y.flows.length
 dist:jn y.stks
 sunk:fW (aK S) y.flows=W.sunk
structure MvFitR (k:Nat) (m:MvM):Prop where
 item:0≤m.item∧m.item<k
 n:1≤m.n∧m.n≤1099511627776
 frm:accP m.frm
 to:accP m.to
 ne:m.frm≠m.to
 parts:m.parts.length=0
end
section
open Go.V
attribute [local irreducible] G GO GP GPW GPK Ev Ef EfR Ent CB GB V.Enters
structure RF (S:LedM) (x:RLX):Prop where
 cat:x.cat.m=S.cat
 catB:x.cat.B
 steps:x.steps.map StV.m=S.steps
 flows:x.flows.map FlV.m=S.flows
 lots:∀ a i,(df x.stks a i).lots=S.stk a i
 sum:∀ i,rsum x.stks i=S.tot i
 ok:rOk x.stks
 len:x.stks.length≤2*x.flows.length
 dist:jn x.stks
 fstep:∀ f∈S.flows,f.step<aK S
 now:0≤S.now
theorem Ep {S:LedM} {x:RLX} (h:RF S x):rnow x=S.now:=by
 unfold LedM.now rnow
 rw [← h.steps,List.getLast?_map,Option.map_map]
 rfl
theorem Bh {sid:Int} {l:List FlV} (h:∀ f∈l,f.m.step<sid):fW sid l=[]:=by
 unfold fW
 rw [List.filter_eq_nil_iff.2,fQ]
 intro f hf
 unfold tX
 rw [aC (fun q=>by have:=h f hf;omega)]
 decide
end
end Go.Proofs.YtommnllbflbdmaaGreatDoor
