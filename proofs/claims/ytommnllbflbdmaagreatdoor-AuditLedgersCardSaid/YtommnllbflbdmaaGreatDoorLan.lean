/- Lemmas. -/
import Derived.Test.YtommnllbflbdmaaGreatDoorLam
set_option linter.all false
set_option maxHeartbeats 2000000
namespace Go.Proofs.YtommnllbflbdmaaGreatDoor
section
open Go.V
attribute [local irreducible] G GO GP GPW GPK Ev Ef EfR Ent CB GB Enters
def kC(k:Int):Prop:=k=0∨k=1∨k=6∨k=2∨k=3∨k=8∨k=4
def mA(k:Int):Int→Bool:=if k=0 then(fun n=>dB (n=0)) else if k=4 then(fun _=>true) else(fun n=>dB (¬n=0))
def kTo(k:Int):Int→Bool:=if k=1∨k=6 then(fun n=>dB (n=0)) else if k=4 then(fun _=>true) else(fun n=>dB (¬n=0))
def mg(k:Int):FuncId:=if k=4 then 259 else 257
abbrev GV(ff tf wf:FuncId):Value:=.agg #[.func (.func ff) #[] #[],.func (.func tf) #[] #[],.bool false,.func (.func wf) #[] #[]]
theorem zc{L:LH}(k:Int)(hk:kC k):Tri ah 211 #[ab k] L (fun v L'=>∃ff tf,v=.tuple #[GV ff tf (mg k),.bool true]∧(Asks ff (mA k)∧Asks tf (kTo k))∧L' = L):=by
 rcases hk with rfl|rfl|rfl|rfl|rfl|rfl|rfl
 ·refine Tri.body (args:=[ab 0]) 33 nZ Tryz.func211 rfl rfl rfl (by simp) ?_;repeat first|refine aa ?_|intro
  exact KX.d7 (by exact ResOk.cell rfl (by rfl) (ResOk.tmp rfl (ResOk.nil))) ag ⟨_,_,rfl,⟨pE,iF⟩,rfl⟩
 ·refine Tri.body (args:=[ab 1]) 33 nZ Tryz.func211 rfl rfl rfl (by simp) ?_;repeat first|refine aa ?_|intro
  exact KX.d7 (by exact ResOk.cell rfl (by rfl) (ResOk.tmp rfl (ResOk.nil))) ag ⟨_,_,rfl,⟨iF,pE⟩,rfl⟩
 ·refine Tri.body (args:=[ab 6]) 33 nZ Tryz.func211 rfl rfl rfl (by simp) ?_;repeat first|refine aa ?_|intro
  exact KX.d7 (by exact ResOk.cell rfl (by rfl) (ResOk.tmp rfl (ResOk.nil))) ag ⟨_,_,rfl,⟨iF,pE⟩,rfl⟩
 ·refine Tri.body (args:=[ab 2]) 33 nZ Tryz.func211 rfl rfl rfl (by simp) ?_;repeat first|refine aa ?_|intro
  exact KX.d7 (by exact ResOk.cell rfl (by rfl) (ResOk.tmp rfl (ResOk.nil))) ag ⟨_,_,rfl,⟨iF,iF⟩,rfl⟩
 ·refine Tri.body (args:=[ab 3]) 33 nZ Tryz.func211 rfl rfl rfl (by simp) ?_;repeat first|refine aa ?_|intro
  exact KX.d7 (by exact ResOk.cell rfl (by rfl) (ResOk.tmp rfl (ResOk.nil))) ag ⟨_,_,rfl,⟨iF,iF⟩,rfl⟩
 ·refine Tri.body (args:=[ab 8]) 33 nZ Tryz.func211 rfl rfl rfl (by simp) ?_;repeat first|refine aa ?_|intro
  exact KX.d7 (by exact ResOk.cell rfl (by rfl) (ResOk.tmp rfl (ResOk.nil))) ag ⟨_,_,rfl,⟨iF,iF⟩,rfl⟩
 ·refine Tri.body (args:=[ab 4]) 33 nZ Tryz.func211 rfl rfl rfl (by simp) ?_;repeat first|refine aa ?_|intro
  exact KX.d7 (by exact ResOk.cell rfl (by rfl) (ResOk.tmp rfl (ResOk.nil))) ag ⟨_,_,rfl,⟨zR,zR⟩,rfl⟩
def jh(rules:List RuM)(s:StM):Prop:=if s.kind=4 then fw rules s.rule s.times s.moves else jN s.rule s.times
noncomputable instance (a b):Decidable (jh a b):=Classical.propDecidable _
def lI(c:CatM)(now:Int)(s:StM):Prop :=
 accP s.actor∧(0≤s.tick∧s.tick≤1099511627776∧now≤s.tick)∧(1≤s.moves.length∧s.moves.length≤64) ∧
 (∀m∈s.moves,iz c.items.length (mA s.kind) (kTo s.kind) m=true)∧jh c.rules s
noncomputable instance (a b c):Decidable (lI a b c):=Classical.propDecidable _
def xnow(x:LedX):Int:=(x.steps.getLast?.map (·.tick)).getD 0
abbrev GM:Nat:=267
abbrev AJ:List Stp:=[.ev 0,.ev 1,.ev 2,.ev 3,.ev 4,.ef 5,.ev 6,.ev 7,.ev 8,.ev 9,.ev 10,.ev 11,.ev 12,.ev 13,.ev 14,.ev 15,.ev 16,.ev 17,.ev 18,.ev 19,.ev 20,.ev 21,.ef 22,.ev 23,.ev 24,.ev 25,.ev 26,.ev 27,.ev 28,.ev 29,.ev 30,.ev 31,.ev 32,.ev 33,.ev 34,.ev 35,.ev 36]
theorem dc{φ ψ:Prop}(k:ψ)(h:Hid ψ→φ:=by intro k;(with_reducible apply G.d8);first|refine G.d7 (N:=70) (id:=2) AJ mixed ap (Hid.out k)):φ:=h ⟨k⟩
theorem Cy{L R:LH}{b:Nat}{sh:Int}{x:LedX}[hp:PickObj L b tLed (fm sh x) R][hr:Rds L x.sad StV aJ 7 x.steps](s:StV)[hrm:Rds L s.mad MvV aM 5 s.moves](hk:kC s.kind)(hc:x.cat.m.Ok)(hB:x.cat.B)(hsl:x.steps.length≤65536)(hml:s.moves.length≤1000000)(hcap:s.moves.length≤s.mcap)(hI:I64 s.rule) :
  Tri ah 123 #[au b,.agg (aJ s).toArray] (catP x.cat::L) (fun v L'=>v=.bool (dB (lI x.cat.m (xnow x) s.m))∧L' = catP x.cat::L):=by
 have hil:=hB.items;have hmm:s.m.moves.length=s.moves.length:=by simp[StV.m]
 refine Tri.body (args:=[au b,.agg (aJ s).toArray]) 70 JU Tryz.func123 rfl rfl rfl (by simp) ?_;repeat first|refine aa ?_|intro _|refine dc ?_
 rename_i b3;refine GO.ef (Ef.d7 (zc s.kind hk) rfl) ae ?_;rintro _ _⟨ff,tf,rfl,⟨hff,htf⟩,rfl⟩;repeat first|refine aa ?_|intro _|refine dc ?_
 rename_i b5;refine GPW.ef (Ef.d7 (nT s.actor) rfl) ae ?_;rintro _ _⟨rfl,rfl⟩;by_cases h1:accP s.actor
 case neg =>
  rw[aF h1];repeat first|refine aa ?_|intro _|refine dc ?_
  exact KX.d7 ai ag ⟨by rw[aF (fun h=>h1 h.1)];rfl,rfl⟩
 rw[aU h1];by_cases h2:0≤s.tick
 case neg =>
  repeat first|refine aa ?_|intro _|refine dc ?_
  exact KX.d7 ai ag ⟨by rw[aF (fun h=>h2 h.2.1.1)];rfl,rfl⟩
 by_cases h3:s.tick≤1099511627776
 case neg =>
  repeat first|refine aa ?_|intro _|refine dc ?_
  exact KX.d7 ai ag ⟨by rw[aF (fun h=>h3 h.2.1.2.1)];rfl,rfl⟩
 repeat first|refine aa ?_|intro _|refine dc ?_
 refine GPW.ef (Ef.d7 (CX (b:=b) (sh:=sh) (x:=x) ac) rfl) ae ?_;rintro _ _⟨rfl,rfl⟩;rw[show(x.steps.getLast?.map (·.tick)).getD 0=xnow x from rfl];by_cases h4:xnow x≤s.tick
 case neg =>
  repeat first|refine aa ?_|intro _|refine dc ?_
  exact KX.d7 ai ag ⟨by rw[aF (fun h=>h4 h.2.1.2.2)];rfl,rfl⟩
 by_cases h5:1≤s.moves.length
 case neg =>
  repeat first|refine aa ?_|intro _|refine dc ?_
  exact KX.d7 ai ag ⟨by rw[aF (fun h=>h5 (by have:=h.2.2.1.1;omega))];rfl,rfl⟩
 by_cases h6:s.moves.length≤64
 case neg =>
  repeat first|refine aa ?_|intro _|refine dc ?_
  exact KX.d7 ai ag ⟨by rw[aF (fun h=>h6 (by have:=h.2.2.1.2;omega))];rfl,rfl⟩
 repeat first|refine aa ?_|intro _|refine dc ?_
 refine G.loop (α:=Nat) (fun i=>i≤s.moves.length∧∀j:Nat,j<i→iz x.cat.items.length (mA s.kind) (kTo s.kind) s.moves[j]!.m=true) (fun i=>[(0,au b),(3,au b3),(4,.bool false),(5,au b5),(53,.slice s.mad s.moves.length s.mcap),(54,ab (s.moves.length:Int)),(55,ab (i:Int))]) (fun _=>obj b5 GM [.func (.func ff) #[] #[],.func (.func tf) #[] #[],.bool false,.func (.func (mg s.kind)) #[] #[]]::obj b3 bh (aJ s)::catP x.cat::L) (fun i=>s.moves.length - i) 0 ⟨ao _,fun j h=>absurd h ac⟩ aj (Ent.refl _) ?_;rintro i ⟨hi,hdo⟩;by_cases hlt:i<s.moves.length
 case neg =>
  have hie:i=s.moves.length:=ac;subst hie
  have hall:∀m∈s.m.moves,iz x.cat.m.items.length (mA s.m.kind) (kTo s.m.kind) m=true:=by
   intro m hm;obtain⟨v,hv,rfl⟩:=List.mem_map.1 (show m∈s.moves.map MvV.m from hm);obtain⟨j,hj,rfl⟩:=List.mem_iff_getElem.1 hv;have:=hdo j hj
   rw[getElem!_of hj] at this;exact this
  have hfin:dB (lI x.cat.m (xnow x) s.m)=dB (jh x.cat.m.rules s.m):=by
   by_cases hw:jh x.cat.m.rules s.m
   ·rw[aU hw,aU ⟨h1,⟨h2,h3,h4⟩,⟨ac,ac⟩,hall,hw⟩]
   ·rw[aF hw,aF (fun h=>hw h.2.2.2.2)]
  rw[hfin];repeat first|refine aa ?_|intro _|refine dc ?_
  by_cases h4k:s.kind=4
  ·have e1:mg s.kind=259:=by unfold mg;rw[if_pos h4k]
   have e2:dB (jh x.cat.m.rules s.m)=dB (fw x.cat.m.rules s.rule s.times (s.moves.map MvV.m)):=by
    have e:jh x.cat.m.rules s.m=fw x.cat.m.rules s.rule s.times (s.moves.map MvV.m):=by unfold jh;exact if_pos h4k
    by_cases hw:fw x.cat.m.rules s.rule s.times (s.moves.map MvV.m)
    ·rw[aU hw,aU (e▸hw)]
    ·rw[aF hw,aF (e▸hw)]
   rw[e1,e2];refine GO.ent (Ent.at (A:=catP x.cat) (Ent.refl _)) ?_;refine GO.ef (Ef.d9 rfl rfl (wr (b:=b) (sh:=sh) (x:=x) s hc hB h6 hcap hI)) ae ?_;rintro _ _⟨rfl,rfl⟩;repeat first|refine aa ?_|intro _|refine dc ?_
   exact KX.d7 ai ag ⟨rfl,rfl⟩
  ·have e1:mg s.kind=257:=by unfold mg;rw[if_neg h4k]
   have e2:dB (jh x.cat.m.rules s.m)=dB (jN s.rule s.times):=by
    have e:jh x.cat.m.rules s.m=jN s.rule s.times:=by unfold jh;exact if_neg h4k
    by_cases hw:jN s.rule s.times
    ·rw[aU hw,aU (e▸hw)]
    ·rw[aF hw,aF (e▸hw)]
   rw[e1,e2];refine GO.ef (Ef.d9 rfl rfl (wq b s)) ae ?_;rintro _ _⟨rfl,rfl⟩;repeat first|refine aa ?_|intro _|refine dc ?_
   exact KX.d7 ai ag ⟨rfl,rfl⟩
 have hii:(i:Int).toNat=i:=ac;repeat first|refine aa ?_|intro _|refine dc ?_
 rw[hii];refine GO.ef (Ef.d7 (Du (b:=b) (sh:=sh) (x:=x) ff tf (mg s.kind) (mA s.kind) (kTo s.kind) hff htf s.moves[i]! hil) rfl) ae ?_;rintro _ _⟨rfl,rfl⟩;cases h7:iz x.cat.items.length (mA s.kind) (kTo s.kind) s.moves[i]!.m with
 | false =>
  repeat first|refine aa ?_|intro _|refine dc ?_
  refine KX.d7 ai ag ⟨?_,rfl⟩;rw[aF]
  ·rfl
  intro h;have h8:=h.2.2.2.1 s.moves[i]!.m (alStd0List_mem_map_of_mem (aI hlt));rw[show iz x.cat.m.items.length (mA s.m.kind) (kTo s.m.kind) s.moves[i]!.m=false from h7] at h8;cases h8
 | true =>
  repeat first|refine aa ?_|intro _|refine dc ?_
  refine⟨i+1,⟨ac,?_⟩,ac,?_,by exact ag⟩
  ·intro j hj;rcases cg j i with h|h
   ·exact hdo j h
   ·obtain rfl:j=i:=ac;exact h7
  ·rw[aP i];exact aj
theorem nR{l:LL}{x:Lot}(h:∀y∈l,LotOk y)(hx:LotW x):∀y∈be l x,LotOk y:=by
 intro y hy;unfold be at hy;unfold LotW at hx;split at hy
 ·exact h y hy
 rename_i h0;split at hy
 ·rename_i h1;obtain⟨h1,h2⟩:=h1;rcases cK hy with hy|rfl
  ·exact h y hy
  ·have h3:=lcont_iff.1 h2;have h4:=h _ (aI (show l.length - 1<l.length by omega));unfold LotOk at h4 ⊢;dsimp only;omega
 ·rcases List.mem_append.1 hy with hy|hy
  ·exact h y hy
  ·simp at hy;subst hy;unfold LotOk;omega
theorem kP{xs:LL}:∀{l:LL},(∀y∈l,LotOk y)→(∀y∈xs,LotW y)→∀y∈xs.foldl be l,LotOk y:=by
 induction xs with
 | nil=>intro l h _;exact h
 | cons x xs ih=>intro l h hx;exact ih (nR h (hx x (aw ..))) (fun y hy=>hx y (av _ hy))
theorem sw{l:LL}{cs:Nat→Int}(hw:∀x∈l,LotOk x)(hc:∀k,k<l.length→0≤cs k∧cs k≤l[k]!.2.2):(∀x∈divF l cs l.length,LotOk x)∧∀x∈divR l cs l.length,LotOk x:=by
 refine⟨kP (by simp) ?_,kP (by simp) ?_⟩
 all_goals
  intro y hy
  obtain⟨k,hk,rfl⟩:=List.mem_map.1 hy
  have hk:=List.mem_range.1 hk
 ·exact(pc_w hk (fun x h=>(hw x h).w) (hc k hk)).1
 ·exact(pc_w hk (fun x h=>(hw x h).w) (hc k hk)).2
abbrev AG:List Stp:=[.ev 0,.ev 2,.ef 1,.ef 3,.ev 4]
theorem hJ{φ ψ:Prop}(k:ψ)(h:Hid ψ→φ:=by intro k;first|((with_reducible apply GO.d7);refine GO.e7 mI Tryz.func267 rfl rfl rfl rfl (by simp) ae (Hid.out k))|((with_reducible apply GPW.d7);refine GPW.e7 mI Tryz.func267 rfl rfl rfl rfl (by simp) ae (Hid.out k))|((with_reducible apply GO.d7);refine GO.d8 rfl mI Tryz.func267 rfl rfl rfl rfl (by simp) ae (Hid.out k))|((with_reducible apply GPW.d7);refine GPW.d8 rfl mI Tryz.func267 rfl rfl rfl rfl (by simp) ae (Hid.out k))|((with_reducible apply KX.f7);first|refine KX.in0 (.inl rfl) (Hid.out k)|refine KX.in0 (.inr rfl) (Hid.out k)|refine KX.in1 (.inl rfl) rfl (Hid.out k)|refine KX.in2 (.inl rfl) rfl rfl (Hid.out k)|refine KX.in3 (.inl rfl) rfl rfl rfl (Hid.out k)|refine KX.inC (.inl rfl) rfl (by rfl) (Hid.out k)|refine KX.e9 (.inl rfl) rfl (by rfl) rfl (Hid.out k))):φ:=h ⟨k⟩
theorem gZ{φ ψ:Prop}(k:ψ)(h:Hid ψ→φ:=by intro k;(with_reducible apply G.d8);first|refine G.d7 (N:=17) (id:=3) AG mixed ap (Hid.out k)):φ:=h ⟨k⟩
theorem Da{L:LH}(ad:OA)(cap:Nat)(xs:LL)(x:Lot)(hl:xs.length≤4096)(hxs:∀l∈xs,LotOk l)(hx:LotOk x) :
  Tri ah 217 #[.slice ad xs.length cap,.agg (an x).toArray] (isl an 3 ad xs::L) (fun v L'=>∃ad' cap',v=.slice ad' (be xs x).length cap'∧L' = osl an 3 tLot ad' cap' (be xs x)::isl an 3 ad xs::L):=by
 have hx0:=hx;obtain⟨o1,o2,o3,o4,o5⟩:=hx0;refine Tri.body (args:=[.slice ad xs.length cap,.agg (an x).toArray]) 17 Is Tryz.func217 rfl rfl rfl (by simp) ?_;repeat first|refine aa ?_|intro _|refine gZ ?_|refine hJ ?_
 refine GO.ef (Ef.d7 (jO ad xs.length cap xs rfl hl hxs) rfl) ae ?_;rintro _ _⟨rfl,rfl⟩;repeat first|refine aa ?_|intro _|refine gZ ?_|refine hJ ?_
 rw[aU o5];repeat first|refine aa ?_|intro _|refine gZ ?_|refine hJ ?_
 refine GPW.ef (Ef.d7 (ly ad xs.length cap xs rfl ac) rfl) ae ?_;rintro _ _⟨ad1,cap1,rfl,rfl⟩;repeat first|refine aa ?_|intro _|refine gZ ?_|refine hJ ?_
 refine GPW.ef (Ef.d7 (oV ad1 cap1 xs x ac (fun y h=>(hxs y h).w) hx.w) rfl) ae ?_;rintro _ _⟨ad2,cap2,rfl,rfl⟩;repeat first|refine aa ?_|intro _|refine gZ ?_|refine hJ ?_
 exact KX.d7 ai ag ⟨ad2,cap2,rfl,rfl⟩
def shQ(l:LL)(n:Int)(k:Nat):Int:=n*l[k]!.2.2 / lsum l
def shR(l:LL)(n:Int)(k:Nat):Int:=n*l[k]!.2.2 % lsum l
def ET(l:LL)(n:Int)(k:Nat):Nat:=((List.range l.length).filter (fun j=>decide (shR l n k<shR l n j∨(shR l n j=shR l n k∧j<k)))).length
def ft(l:LL)(n:Int):Int:=n - (List.range l.length).foldl (fun s k=>s+shQ l n k) 0
def shC(l:LL)(n:Int)(k:Nat):Int:=shQ l n k+(if(ET l n k:Int)<ft l n then 1 else 0)
def tkC(mixed:Bool)(l:LL)(n:Int):Nat→Int:=if mixed=true∧0<n then shC l n else fuC l n
def gN(mixed:Bool)(l:LL)(n:Int):LL:=divF l (tkC mixed l n) l.length
def eJ(mixed:Bool)(l:LL)(n:Int):LL:=divR l (tkC mixed l n) l.length
structure TakeC (mixed:Bool):Prop where
 bd:∀(l:LL) (n:Int),(∀x∈l,LotOk x)→0≤n→n≤lsum l→∀k,k<l.length→0≤tkC mixed l n k∧tkC mixed l n k≤l[k]!.2.2
 tri:∀(L:LH) (ad:OA) (c:Nat) (xs:LL) (n:Int),xs.length≤4096→(∀l∈xs,LotOk l)→0≤n→n≤1099511627776 →
  Tri ah 284 #[.slice ad xs.length c,ab n,.bool mixed] (isl an 3 ad xs::L) (fun v L' =>
   (lsum xs<n∧v=.tuple #[.slice none 0 0,.slice none 0 0,ab 10]∧L' = isl an 3 ad xs::L) ∨
   (n≤lsum xs∧∃ad1 c1 ad2 c2,v=.tuple #[.slice ad1 (gN mixed xs n).length c1,.slice ad2 (eJ mixed xs n).length c2,ab 0]∧L' = osl an 3 tLot ad1 c1 (gN mixed xs n)::osl an 3 tLot ad2 c2 (eJ mixed xs n)::isl an 3 ad xs::L))
theorem xg:TakeC false where
 bd:=fun l n hl h0 _ k hk=>nr h0 (fun x h=>(hl x h).w) k hk
 tri:=fun _ ad c xs n h1 h2 h3 h4=>Aj ad c xs n false rfl h1 h2 h3 h4
structure ChX where
 cs:Nat
 ct:Nat
 ci:Nat
 cr:Nat
 stk:List ((Int×Int)×Stk)
 tot:List (Int×Int)
 flows:List FlV
 fad:OA
 fcap:Nat
 sunk:List Int
 kad:OA
 kcap:Nat
abbrev tCh:Nat:=131
abbrev fy(b:Nat)(s:StV)(z:ChX):LV:=[au b,ab s.id,ab s.kind,ab s.actor,ab s.tick,ab s.rule,ab s.times,.slice s.mad s.moves.length s.mcap,.map (some z.cs),.map (some z.ct),.map (some z.ci),.map (some z.cr),.slice z.fad z.flows.length z.fcap,.slice z.kad z.sunk.length z.kcap]
abbrev chL(b bc:Nat)(s:StV)(z:ChX)(L:LH):LH :=
 obj bc tCh (fy b s z)::gmap kvP Stk.v z.cs z.stk::gmap kvI encN z.ct z.tot::gmap kvI Stk.v z.ci []::gmap kvI Stk.v z.cr []::osl aL 11 bz z.fad z.fcap z.flows::osl (encZ .i64) 1 tInt z.kad z.kcap z.sunk::allP (fun p:(Int×Int)×Stk=>stkP p.2) z.stk::allP flP z.flows::L
def curS(x:LedX)(z:ChX)(k:Int×Int):Stk:=(glk z.stk k).getD (fU x.stk k)
theorem sI{κ:Type}[DecidableEq κ](m:List (κ×Stk))(k:κ):((@List.lookup _ _ instBEqOfDecidableEq k m).map Stk.v).getD (.slice none 0 0)=(fU m k).v:=by
 unfold fU glk;cases @List.lookup _ _ instBEqOfDecidableEq k m<;>rfl
theorem oF{κ:Type}[DecidableEq κ]{m:List (κ×Stk)}(k:κ){L:LH}:Ent (allP (fun p:κ×Stk=>stkP p.2) m::L) (stkP (fU m k)::allP (fun p:κ×Stk=>stkP p.2) m::L):=by
 unfold fU;cases h:glk m k with
 | none=>exact Ent.e9 an 3 none
 | some s=>exact Ent.d9 (f:=fun p:κ×Stk=>stkP p.2) (x:=(k,s)) (jp h)
abbrev AI:List Stp:=[.ev 0,.ev 1,.ev 2,.ev 3,.ev 4,.ev 5,.ev 6,.ev 7,.ev 8,.ev 9,.ev 10]
abbrev AH:List Stp:=[.ev 0,.ev 1,.ev 2,.ev 3,.ev 4,.ev 5,.ev 6,.ev 7,.ev 8,.ev 9]
theorem iP{φ ψ:Prop}(k:ψ)(h:Hid ψ→φ:=by intro k;(with_reducible apply G.d8);first|refine G.d7 (N:=33) (id:=2) AI mixed ap (Hid.out k)|refine G.d7 (N:=33) (id:=5) AH mixed ap (Hid.out k)):φ:=h ⟨k⟩
theorem px{L R1 R2 R3 R4:LH}{b bc:Nat}{sh:Int}{x:LedX}{s:StV}{z:ChX}[hp1:PickObj L b tLed (fm sh x) R1][hp2:PickObj L bc tCh (fy b s z) R2][hp3:PickG L z.cs (Int×Int) Stk kvP Stk.v z.stk R3][hp4:PickG L x.ms (Int×Int) Stk kvP Stk.v x.stk R4](a i:Int) :
  Tri ah 216 #[au bc,ab a,ab i] L (fun v L'=>v=(curS x z (a,i)).v∧L' = L):=by
 refine Tri.body (args:=[au bc,ab a,ab i]) 33 It Tryz.func216 rfl rfl rfl (by simp) ?_;repeat first|refine aa ?_|intro _|refine iP ?_
 refine GPW.evL (Ev.A2 rfl rfl) ae ?_;cases h:@List.lookup _ _ instBEqOfDecidableEq (a,i) z.stk with
 | some k =>
  simp only[gk,Option.getD_some,Option.isSome_some];repeat first|refine aa ?_|intro _|refine iP ?_
  refine KX.d7 ai ag ⟨?_,rfl⟩;unfold curS glk;rw[h];rfl
 | none =>
  simp only[fJ,fA,Option.isSome_none];repeat first|refine aa ?_|intro _|refine iP ?_
  refine GPW.evL (Ev.e8 rfl rfl) ae ?_;rw[sI];repeat first|refine aa ?_|intro _|refine iP ?_
  refine KX.d7 ai ag ⟨?_,rfl⟩;unfold curS glk;rw[h];rfl
theorem wQ{x:LedX}{z:ChX}(k:Int×Int){L:LH}:Ent (allP (fun p:(Int×Int)×Stk=>stkP p.2) z.stk::allP (fun p:(Int×Int)×Stk=>stkP p.2) x.stk::L) (stkP (curS x z k)::allP (fun p:(Int×Int)×Stk=>stkP p.2) z.stk::allP (fun p:(Int×Int)×Stk=>stkP p.2) x.stk::L):=by
 unfold curS;cases h:glk z.stk k with
 | none=>exact(Ent.d7 (oF k)).trans Ent.swap
 | some s=>exact Ent.d9 (f:=fun p:(Int×Int)×Stk=>stkP p.2) (x:=(k,s)) (jp h)
theorem iH{m:List ((Int×Int)×Stk)}{k:Int×Int}{s:Stk}{L:LH}:Ent (stkP s::allP (fun p:(Int×Int)×Stk=>stkP p.2) m::L) (allP (fun p:(Int×Int)×Stk=>stkP p.2) (gins m k s)::L) :=
 (Ent.f8 (f:=fun p:(Int×Int)×Stk=>stkP p.2) (fun p=>vp p.2) (x:=(k,s)) (l:=m)).trans (Ent.g9 (l':=gins m k s) wx)
theorem wP{x:LedX}{z:ChX}{k q:Int×Int}{s:Stk}:curS x { z with stk:=gins z.stk k s } q=if q=k then s else curS x z q:=by
 unfold curS glk;dsimp only;have h:=im (m:=z.stk) (k:=k) (q:=q) (a:=s);by_cases hq:q=k
 ·rw[if_pos hq] at h ⊢;exact(congrArg (fun o:Option Stk=>o.getD (fU x.stk q)) h)
 ·rw[if_neg hq] at h ⊢;exact(congrArg (fun o:Option Stk=>o.getD (fU x.stk q)) h)
structure WdOk (x:LedX) (z:ChX) (m:MvM):Prop where
 item:0≤m.item∧m.item<x.cat.items.length
 n:0≤m.n∧m.n≤1099511627776
 parts:m.parts.length=0
 len:(curS x z (m.frm,m.item)).lots.length≤4096
 lots:∀l∈(curS x z (m.frm,m.item)).lots,LotOk l
def dK(x:LedX)(i:Int):Bool:=x.cat.items[i.toNat]!.mixed
abbrev AF:List Stp:=[.ev 0,.ev 1,.ev 2,.ev 3,.ev 4,.ev 5,.ev 6,.ev 7,.ev 8,.ev 9,.ev 10,.ev 11,.ev 12,.ev 13,.ev 14,.ev 15,.ef 16,.ev 17,.ev 18,.ev 19,.ev 20,.ev 21,.ev 22,.ev 23]
abbrev AE:List Stp:=[.ev 0,.ev 1,.ev 2,.ev 3,.ev 4,.ev 5,.ef 6]
abbrev xE:List Stp:=[.ev 0,.ev 1,.ev 2,.ev 3,.ev 4,.ev 5,.ev 6,.ev 7,.ef 8,.ef 9]
theorem gY{φ ψ:Prop}(k:ψ)(h:Hid ψ→φ:=by intro k;(with_reducible apply G.d8);first|refine G.d7 (N:=73) (id:=4) AF mixed ap (Hid.out k)|refine G.d7 (N:=73) (id:=7) AE mixed ap (Hid.out k)|refine G.d7 (N:=73) (id:=11) xE mixed ap (Hid.out k)):φ:=h ⟨k⟩
theorem uo{L:LH}(b bc:Nat)(sh:Int)(x:LedX)(s:StV)(z:ChX)(m:MvV)(h:WdOk x z m.m)(hT:TakeC (dK x m.m.item))(hil:x.cat.items.length≤64) :
  Tri ah 264 #[au bc,.agg (aM m).toArray] (chL b bc s z (ledL b sh x L)) (fun v L' =>
   (lsum (curS x z (m.m.frm,m.m.item)).lots<m.m.n∧v=.tuple #[.slice none 0 0,ab 10]∧L' = chL b bc s z (ledL b sh x L)) ∨
   (m.m.n≤lsum (curS x z (m.m.frm,m.m.item)).lots∧∃pad pcap sk,v=.tuple #[.slice pad (gN (dK x m.m.item) (curS x z (m.m.frm,m.m.item)).lots m.m.n).length pcap,ab 0]∧sk.lots=eJ (dK x m.m.item) (curS x z (m.m.frm,m.m.item)).lots m.m.n ∧
    L' = isl an 3 pad (gN (dK x m.m.item) (curS x z (m.m.frm,m.m.item)).lots m.m.n)::chL b bc s { z with stk:=gins z.stk (m.m.frm,m.m.item) sk } (ledL b sh x L))):=by
 obtain⟨⟨hi1,hi2⟩,⟨hn1,hn2⟩,hp,hl,hok⟩:=h;refine Tri.body (args:=[au bc,.agg (aM m).toArray]) 73 HF Tryz.func264 rfl rfl rfl (by simp) ?_;refine G.ent (L':=stkP (curS x z (m.m.frm,m.m.item))::isl bS 7 x.cat.iad x.cat.items::chL b bc s z (ledL b sh x L)) ?_ ?_
 ·simp only[chL,ledL];refine(Ent.at (A:=catP x.cat) rg).trans ?_;refine(Ent.at (A:=allP (fun p:(Int×Int)×Stk=>stkP p.2) z.stk) (Ent.refl _)).trans ?_;refine(Ent.d7 (Ent.at (A:=allP (fun p:(Int×Int)×Stk=>stkP p.2) x.stk) (Ent.refl _))).trans ?_;refine(wQ (m.m.frm,m.m.item)).trans ?_;exact ag
 simp only[chL,ledL];repeat first|refine aa ?_|intro _|refine gY ?_
 refine GO.ef (Ef.d7 (px (b:=b) (sh:=sh) (x:=x) (s:=s) (z:=z) m.m.frm m.m.item) rfl) ae ?_;rintro _ _⟨rfl,rfl⟩;generalize hsk:curS x z (m.m.frm,m.m.item)=sk at *;simp only[Stk.v];repeat first|refine aa ?_|intro _|refine gY ?_
 refine GPW.ent (Ent.at (A:=stkP sk) (Ent.refl _)) ?_;refine GPW.ef (Ef.d7 (hT.tri _ sk.ad sk.cap sk.lots m.m.n hl hok hn1 hn2) rfl) ae ?_;rintro _ _ (⟨h1,rfl,rfl⟩|⟨h1,ad1,c1,ad2,c2,rfl,rfl⟩)
 ·repeat first|refine aa ?_|intro _|refine gY ?_
  exact KX.d7 ai ag (.inl ⟨h1,rfl,rfl⟩)
 ·repeat first|refine aa ?_|intro _|refine gY ?_
  refine GPW.efu (Ef.f8 (enc:=Stk.v) (e:=(⟨ad2,c2,eJ (dK x m.m.item) sk.lots m.m.n⟩:Stk)) rfl rfl rfl rfl) ?_;rintro _ _ rfl;repeat first|refine aa ?_|intro _|refine gY ?_
  refine KX.d7 ai ?_ (.inr ⟨h1,ad1,c1,⟨ad2,c2,eJ (dK x m.m.item) sk.lots m.m.n⟩,rfl,rfl,rfl⟩);refine(Ent.frz ad1).trans ((Ent.frz ad2).trans ?_);refine(Ent.at (A:=allP (fun p:(Int×Int)×Stk=>stkP p.2) z.stk) (Ent.refl _)).trans ?_;refine(Ent.at (A:=stkP ⟨ad2,c2,eJ (dK x m.m.item) sk.lots m.m.n⟩) (iH (k:=(m.m.frm,m.m.item)))).trans ?_;exact ag
structure Wk where
 stk:Int→Int→LL
 tot:Int→Int
 flows:List FlM
 sunk:List Int
def upd2{α:Type}(f:Int→Int→α)(a i:Int)(v:α):Int→Int→α:=fun a' i'=>if a' = a∧i' = i then v else f a' i'
def ga(mix:Int→Bool)(W:Wk)(m:MvM):Int→Int→LL:=if m.frm=0 then W.stk else upd2 W.stk m.frm m.item (eJ (mix m.item) (W.stk m.frm m.item) m.n)
def iT(mix:Int→Bool)(W:Wk)(m:MvM):LL:=if m.frm=0 then[] else gN (mix m.item) (W.stk m.frm m.item) m.n
def dd(W:Wk)(m:MvM):Int:=W.tot m.item+(if m.frm=0 then m.n else 0) - (if m.to=0 then m.n else 0)
def cN(sh:Int)(nf:Nat)(W:Wk):Int:=sh*4294967296+nf+W.flows.length
def du(s:StM)(W:Wk)(m:MvM):List Int:=if m.frm=0∧(s.kind=4∨s.kind=10) then W.sunk else[]
def kh(sh:Int)(nf:Nat)(mix:Int→Bool)(s:StM)(W:Wk)(m:MvM):FlM:=⟨cN sh nf W,s.id,s.kind,s.tick,s.actor,m.frm,m.to,m.item,m.n,iT mix W m,du s W m⟩
def gG(sh:Int)(nf:Nat)(mix:Int→Bool)(s:StM)(W:Wk)(m:MvM):Int×Wk :=
 if m.frm≠0∧lsum (W.stk m.frm m.item)<m.n then(10,W)
 else if dd W m>1099511627776 then(4,W)
 else if m.to=0 then(0,⟨ga mix W m,upd W.tot m.item (dd W m),W.flows++[kh sh nf mix s W m],W.sunk++[cN sh nf W]⟩)
 else if 4096≤(ga mix W m m.to m.item).length then(4,W)
 else(0,⟨upd2 (ga mix W m) m.to m.item (be (ga mix W m m.to m.item) (cN sh nf W,0,m.n)),upd W.tot m.item (dd W m),W.flows++[kh sh nf mix s W m],W.sunk⟩)
structure WkF (x:LedX) (z:ChX) (W:Wk):Prop where
 stk:∀a i,(curS x z (a,i)).lots=W.stk a i
 tot:∀i,(glk z.tot i).getD ((glk x.tot i).getD 0)=W.tot i
 flows:z.flows.map FlV.m=W.flows
 sunk:z.sunk=W.sunk
structure Wk.Ok (nf:Nat) (W:Wk):Prop where
 stk:∀a i,(W.stk a i).length≤4096∧∀l∈W.stk a i,LotOk l
 tot:∀i,-(((nf:Int)+W.flows.length)*1099511627776)≤W.tot i∧W.tot i≤1099511627776
 sunk:W.sunk.length≤W.flows.length
theorem jV{L:LH}(ad:OA)(n c:Nat)(xs:List Int)[Rds L ad Int (encZ .i64) 1 xs](hn:n=xs.length)(hb:n≤1000000) :
  Tri ah 103 #[.slice ad n c] L (fun v L'=>∃ad' cap',v=.slice ad' xs.length cap'∧L' = osl (encZ .i64) 1 tInt ad' cap' xs::L):=by
 refine Tri.body (args:=[.slice ad n c]) 8 Kl Tryz.func103 rfl rfl rfl (by simp) ?_;repeat' first|refine aa ?_|intro _|with_reducible refine CB.dec (fun _=>?_) (fun _=>?_)|with_reducible refine GB.dec (fun _=>?_) (fun _=>?_)|with_reducible refine CB.bool (fun _=>?_) (fun _=>?_)|with_reducible refine GB.bool (fun _=>?_) (fun _=>?_)
 ·have h:ad=none:=by assumption
  subst h;refine KX.f9 (.inl rfl) (ni (L:=L) (xs:=xs)) ?_;intro hx;subst hx;refine KX.d7 ai (Ent.d8 (encZ .i64) 1 tInt) ⟨_,_,rfl,rfl⟩
 ·refine GO.ent (Ent.e8 (enc:=encZ .i64) (sz:=1) (xs:=[]) rfl rfl (by simp) (by simp)) ?_;refine GO.ef (Ef.e7 rfl rfl rfl rfl hn (fun e _=>by simp[encZ,Value.oneCell']) (by simp;omega) (by simp;omega)) ae ?_;rintro _ _⟨ad',cap',rfl,rfl⟩;repeat first|refine aa ?_|intro
  refine KX.d7 ai (Ent.refl _) ⟨ad',cap',rfl,rfl⟩
structure MvFit (x:LedX) (m:MvM):Prop where
 item:0≤m.item∧m.item<x.cat.items.length
 n:1≤m.n∧m.n≤1099511627776
 frm:accP m.frm
 to:accP m.to
 ne:m.frm≠m.to
 parts:m.parts.length=0
abbrev xR:List Stp:=[.ev 0,.ev 1,.ev 3,.ev 4,.ef 2,.ef 5,.ev 6,.ev 7]
abbrev xQ:List Stp:=[.ev 0,.ev 1,.ev 3,.ev 4,.ef 2,.ef 5,.ev 6,.ev 7]
theorem iO{φ ψ:Prop}(k:ψ)(h:Hid ψ→φ:=by intro k;(with_reducible apply G.d8);first|refine G.d7 (N:=35) (id:=5) xR mixed ap (Hid.out k)|refine G.d7 (N:=35) (id:=7) xQ mixed ap (Hid.out k)):φ:=h ⟨k⟩
theorem zo{L:LH}(b bc:Nat)(sh:Int)(x:LedX)(s:StV)(z:ChX)(m:MvV)(W:Wk)(hW:WkF x z W)(hO:W.Ok x.flows.length)(h:MvFit x m.m)(hk:kC s.kind)(hT:∀mx,TakeC mx)(hil:x.cat.items.length≤64) :
  Tri ah 215 #[au bc,.agg (aM m).toArray] (chL b bc s z (ledL b sh x L)) (fun v L' =>
   ((m.m.frm≠0∧lsum (W.stk m.m.frm m.m.item)<m.m.n)∧v=.tuple #[.slice none 0 0,ab 10]∧L' = chL b bc s z (ledL b sh x L)) ∨
   (¬(m.m.frm≠0∧lsum (W.stk m.m.frm m.m.item)<m.m.n)∧∃pad pcap stk',v=.tuple #[.slice pad (iT (dK x) W m.m).length pcap,ab 0]∧(∀a i,(curS x { z with stk:=stk' } (a,i)).lots=ga (dK x) W m.m a i) ∧
    L' = isl an 3 pad (iT (dK x) W m.m)::chL b bc s { z with stk:=stk' } (ledL b sh x L))):=by
 have hk5:s.kind≠5:=by unfold kC at hk;omega
 have hk9:s.kind≠9:=by unfold kC at hk;omega
 have hcur:=hW.stk m.m.frm m.m.item;refine Tri.body (args:=[au bc,.agg (aM m).toArray]) 35 Iu Tryz.func215 rfl rfl rfl (by simp) ?_;by_cases h0:m.m.frm=0
 ·simp only[chL,ledL];repeat first|refine aa ?_|intro _|refine iO ?_
  refine KX.d7 ai ?_ (.inr ⟨fun h=>h.1 h0,none,0,z.stk,?_,?_,rfl⟩)
  ·rw[show iT (dK x) W m.m=[] by unfold iT;rw[if_pos h0]];refine Ent.trans ?_ (Ent.e9 an 3 none);exact ag
  ·rw[show iT (dK x) W m.m=[] by unfold iT;rw[if_pos h0]];rfl
  ·intro a i;unfold ga;rw[if_pos h0];exact hW.stk a i
 ·repeat first|refine aa ?_|intro _|refine iO ?_
  refine GO.ent Ent.drop ?_;refine GO.ef (Ef.d7 (uo b bc sh x s z m ⟨h.item,⟨by have:=h.n;omega,h.n.2⟩,h.parts,by rw[hcur];exact(hO.stk _ _).1,by rw[hcur];exact(hO.stk _ _).2⟩ (hT _) hil) rfl) ae ?_;rw[hcur];rintro _ _ (⟨h1,rfl,rfl⟩|⟨h1,pad,pcap,sk,rfl,hsk,rfl⟩)
  ·repeat first|refine aa ?_|intro _|refine iO ?_
   exact KX.d7 ai (Ent.refl _) (.inl ⟨⟨h0,h1⟩,rfl,rfl⟩)
  ·have e:iT (dK x) W m.m=gN (dK x m.m.item) (W.stk m.m.frm m.m.item) m.m.n:=by unfold iT;rw[if_neg h0]
   rw[e];repeat first|refine aa ?_|intro _|refine iO ?_
   refine KX.d7 ai (Ent.refl _) (.inr ⟨fun h=>by omega,pad,pcap,gins z.stk (m.m.frm,m.m.item) sk,rfl,?_,rfl⟩);intro a i;rw[wP];unfold ga upd2;rw[if_neg h0];by_cases hq:a=m.m.frm∧i=m.m.item
   ·obtain⟨rfl,rfl⟩:=hq;rw[if_pos rfl,if_pos ⟨rfl,rfl⟩,hsk]
   ·rw[if_neg (fun h=>hq (by simpa using h)),if_neg hq];exact hW.stk a i
