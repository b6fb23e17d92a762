/- Lemmas and contracts of functions. -/
import Derived.Test.YtommnllbflbdmaaGreatDoorSAuditTotalsG27
import Derived.Test.YtommnllbflbdmaaGreatDoorSAuditTotalsV16
import Derived.Test.YtommnllbflbdmaaGreatDoorGAuditTotalsbi
import Derived.Test.YtommnllbflbdmaaGreatDoorGAuditTotalsbd
set_option linter.all false
set_option maxHeartbeats 16000000
namespace Go.Proofs.YtommnllbflbdmaaGreatDoor
open Go.V
attribute [local irreducible] G GO GP GPW GPK Ev Ef EfR Ent CB GB V.Enters
theorem Co {sh:Int} {fl:List FlM} {mix:Int→Bool} {s:StM} {W:Wk} {m:MvM} (he:gErr sh (fl++W.flows) s W m=0) (h:1099511627776<cI W m∨(m.to≠0∧4096≤(gStk mix W m m.to m.item).length)):dw sh fl mix s W m=(4,W):=by
 unfold dw
 rw [if_neg (fun q=>q he)]
 by_cases h1:cI W m>1099511627776
 ·rw [if_pos h1]
 ·rw [if_neg h1]
  rcases h with h|⟨h,h2⟩
  ·exact absurd h h1
  ·rw [if_neg h,if_pos h2]
theorem AB {sh:Int} {fl:List FlM} {mix:Int→Bool} {s:StM} {W:Wk} {m:MvM} (he:gErr sh (fl++W.flows) s W m=0) (hl:∀ x∈gStk mix W m m.to m.item,LotOk x) (hn:1≤m.n) (h:¬(1099511627776<cI W m∨(m.to≠0∧4096≤(gStk mix W m m.to m.item).length))) :
  dw sh fl mix s W m=(0,⟨if m.to=0 then gStk mix W m else upd2 (gStk mix W m) m.to m.item (gStk mix W m m.to m.item++[(cC sh fl.length W,0,m.n)]),upd W.tot m.item (cI W m),W.flows++[fC sh fl.length mix s W m],if m.to=0 then W.sunk++[cC sh fl.length W] else W.sunk⟩):=by
 unfold dw
 rw [if_neg (fun q=>q he),if_neg (fun q=>h (.inl q))]
 by_cases h1:m.to=0
 ·rw [if_pos h1,if_pos h1,if_pos h1]
 ·rw [if_neg h1,if_neg h1,if_neg h1,if_neg (fun q=>h (.inr ⟨h1,q⟩)),ns hl hn]
theorem Cn {sh:Int} {fl:List FlM} {mix:Int→Bool} {s:StM} {W:Wk} {m:MvM} (he:gErr sh (fl++W.flows) s W m≠0):dw sh fl mix s W m=(gErr sh (fl++W.flows) s W m,W):=by
 unfold dw
 rw [if_pos he]
def BkW (S:LedM) (W:Wk) (x:BkX):Prop:=BkI S (S.flows++W.flows) (fu (S.flows++W.flows)) (eV (S.flows++W.flows)) W.stk W.tot x
def BkR (S:LedM) (x:BkX):Prop:=BkI S S.flows (fu S.flows) (eV S.flows) S.stk S.tot x
theorem Ca {sh:Int} {nf:Nat} {mix:Int→Bool} {s:StM} {W:Wk} {m:MvM} (hm:MvA s.kind m) (fl:List FlM):fu (fl++[fC sh nf mix s W m])=fu fl++iaOf s m∧eV (fl++[fC sh nf mix s W m])=eV fl++raOf s m:=by
 rw [pI,pD]
 unfold iaOf raOf
 constructor
 ·congr 1
  by_cases h:s.kind=5
  ·rw [if_pos h,if_pos (show (fC sh nf mix s W m).kind=5 from h)]
   exact oD hm (.inl h)
  ·rw [if_neg h,if_neg (show ¬(fC sh nf mix s W m).kind=5 from h)]
 ·congr 1
  by_cases h:s.kind=9∧m.frm=0
  ·rw [if_pos h,if_pos (show (fC sh nf mix s W m).kind=9∧(fC sh nf mix s W m).frm=0 from h)]
   exact oD hm (.inr h)
  ·rw [if_neg h,if_neg (show ¬((fC sh nf mix s W m).kind=9∧(fC sh nf mix s W m).frm=0) from h)]
abbrev Ap:List Stp:=[.ev 0,.ev 1,.ev 2,.ev 3,.ev 4,.ev 5,.ev 6,.ev 7,.ev 8,.ev 9,.ev 10,.ev 11,.ev 12,.ev 13,.ev 14,.ev 15,.ev 16,.ev 17,.ev 18,.ev 19,.ev 20,.ev 21,.ev 22,.ev 23,.ev 24,.ev 25,.ev 26,.ev 27,.ev 28,.ev 29,.ev 30,.ev 31,.ev 32,.ev 33,.ev 34,.ev 35,.ef 36,.ef 37]
theorem cd {φ ψ:Prop} (k:ψ) (h:Hid ψ→φ:=by intro k;(with_reducible apply G.d8);first|refine G.d7 (N:=118) (id:=9) Ap mixed an (Hid.out k)):φ:=h ⟨k⟩
theorem AU {L:List HP} (b:Nat) (S:LedM) (k:Nat) (hS:LedA k S) (hc:S.cat.Ok) (s:StV) (hs:StInG s) (hcap:s.moves.length≤s.mcap) (hk:k+mvK s.m.moves≤2000) (h19:∀ a i,(S.stk a i).length+dK a i s.m.moves≤19) (x:BkX) (hx:BkR S x) :
  Tri Tryz.prog 46 #[.pointer (some ⟨b,0,none⟩),.agg (aB s).toArray] (bkL b S.shard x (stM s::stP s::L)) (fun v L'=>v=.int .i64 (gTry S s.m).1 ∧
   (((gTry S s.m).1=0∧∃ x',BkR (dd S s.m) x'∧L' = bkL b S.shard x' (stM s::stP s::L))∨((gTry S s.m).1≠0∧L' = stM s::stP s::L))):=by
 obtain ⟨hsh1,hsh2⟩:=hS.g.shard
 have hsl:=hS.g.steps
 have hfl:=hS.g.flows
 have hml:=hs.len
 have hxf:x.flows.length=S.flows.length:=by
  have:=congrArg List.length hx.flows
  rwa [aD] at this
 have hcm:=hx.cat
 have hcnt:=hx.count
 have htk:=hx.tick
 refine Tri.body (args:=[.pointer (some ⟨b,0,none⟩),.agg (aB s).toArray]) 118 en46 Tryz.func46 rfl rfl rfl (by simp) ?_
 simp only [bkL,bz]
 by_cases h1:65536≤S.steps.length
 ·have e:gTry S s.m=(4,wk0 S):=by unfold gTry;rw [if_pos h1]
  rw [e]
  repeat first|refine aa ?_|intro _|refine cd ?_
  exact KX.d7 ag ae ⟨rfl,.inr ⟨fun q=>absurd q ab,rfl⟩⟩
 repeat first|refine aa ?_|intro _|refine cd ?_
 rename_i b3
 refine GO.ent (Ent.at (A:=stP s) (Ent.refl _)) ?_
 refine GO.ent (Ent.at (A:=catP x.cat) (Ent.refl _)) ?_
 refine GO.ef (Ef.d7 (AV (b:=b) (sh:=S.shard) (x:=x) s (hcm▸hc) hx.catB hml hcap hs.parts hs.rule) rfl) ac ?_
 rintro _ _ ⟨rfl,rfl⟩
 have hpe:dB (fm x.cat.m x.tick s.m)=dB (fm S.cat S.now s.m):=by rw [hcm,htk]
 rw [hpe]
 by_cases h2:fm S.cat S.now s.m
 case neg =>
  have e:gTry S s.m=(1,wk0 S):=by unfold gTry;rw [if_neg h1,if_pos h2]
  rw [e,aC h2]
  repeat first|refine aa ?_|intro _|refine cd ?_
  exact KX.d7 ag ae ⟨rfl,.inr ⟨fun q=>absurd q ab,rfl⟩⟩
 have e:gTry S s.m=dL S.shard S.flows (bC S.cat) (s.m.at (aK S)) (wk0 S) s.m.moves:=by unfold gTry;rw [if_neg h1,if_neg (fun h=>h h2)]
 rw [aL h2]
 have hl64:s.moves.length≤64:=by have:=h2.2.2.2.1.2;simpa [StV.m] using this
 have hW0:BkW S (wk0 S) x:=by
  unfold BkW
  rw [show S.flows++(wk0 S).flows=S.flows from aV _]
  exact hx
 repeat first|refine aa ?_|intro _|refine cd ?_
 refine G.loop (α:=Nat×BkX×Wk×Option Addr×Nat) (fun g=>g.1≤s.moves.length∧BkW S g.2.2.1 g.2.1∧WkA S.shard S.flows (k+mvK (s.m.moves.take g.1)) g.2.2.1∧g.2.2.1.flows.length=g.1∧(∀ a i,(g.2.2.1.stk a i).length+dK a i (s.m.moves.drop g.1)≤19)∧dL S.shard S.flows (bC S.cat) (s.m.at (aK S)) (wk0 S) s.m.moves=dL S.shard S.flows (bC S.cat) (s.m.at (aK S)) g.2.2.1 (s.m.moves.drop g.1))
  (fun g=>[(0,.pointer (some ⟨b,0,none⟩)),(3,.pointer (some ⟨b3,0,none⟩)),(5,.slice g.2.2.2.1 g.2.2.1.sunk.length g.2.2.2.2),(21,.slice s.mad s.moves.length s.mcap),(22,.int .i64 s.moves.length),(23,.int .i64 (g.1:Int))])
  (fun g=>bkL b S.shard g.2.1 (osl (encZ .i64) 1 tInt g.2.2.2.1 g.2.2.2.2 g.2.2.1.sunk::obj b3 aU (aB s)::stM s::stP s::L)) (fun g=>s.moves.length - g.1) (0,x,wk0 S,none,0) ⟨al _,hW0,DF hS,rfl,h19,rfl⟩ ai ?_ ?_
 ·refine Ent.trans (Ent.d8 (encZ .i64) 1 tInt) ?_
  have hs0:(wk0 S).sunk=[]:=rfl
  simp only [bkL,bz,hs0]
  exact ae
 rintro ⟨i,y,W,iad,icap⟩ ⟨hi,hB,hA,hWl,hK,hmv⟩
 dsimp only at hi hB hA hWl hK hmv ⊢
 have hyf:y.flows.length=S.flows.length+W.flows.length:=by
  have:=congrArg List.length hB.flows
  rwa [aD,ax] at this
 have hsk:=hA.g.sunk
 have hyc:=hB.count
 simp only [bkL,bz]
 by_cases hlt:i<s.moves.length
 case neg =>
  have hdr:s.m.moves.drop i=[]:=aY (by show (s.moves.map MvV.m).length≤i;rw [aD];omega)
  rw [hdr] at hmv
  have e3:gTry S s.m=(0,W):=by rw [e,hmv];rfl
  have he:(gTry S s.m).1=0:=by rw [e3]
  have e1:dd S s.m=gw S s.m:=if_pos he
  rw [e1,he]
  repeat first|refine aa ?_|intro _|refine cd ?_
  refine KX.d7 ag ?_ ⟨rfl,.inl ⟨rfl,{ y with count:=y.count+1,tick:=s.tick },⟨hB.cat,hB.catB,?_,?_,?_,?_,?_,?_,?_,?_⟩,rfl⟩⟩
  ·simp only [bkL,bz]
   exact ae
  ·show y.count+1=((S.steps++[s.m.at (aK S)]).length:Int)
   rw [ax,aT,hyc]
   omega
  ·show s.tick=(gw S s.m).now
   unfold LedM.now gw
   simp only [List.getLast?_append,List.getLast?_singleton]
   rfl
  ·show y.flows.map (·.m)=S.flows++(gTry S s.m).2.flows
   rw [e3]
   exact hB.flows
  ·intro a i
   show (fB y.stk (a,i)).lots=(gTry S s.m).2.stk a i
   rw [e3]
   exact hB.stk a i
  ·intro a i
   show ((gTry S s.m).2.stk a i).length≤_
   rw [e3]
   exact hB.cap a i
  ·intro i
   show _=(gTry S s.m).2.tot i
   rw [e3]
   exact hB.tot i
  ·show kD y.imp (fu (S.flows++(gTry S s.m).2.flows))
   rw [e3]
   exact hB.imp
  ·show kD y.ret (eV (S.flows++(gTry S s.m).2.flows))
   rw [e3]
   exact hB.ret
 have hii:(i:Int).toNat=i:=av i
 have hlt' : (i:Int).toNat<s.moves.length:=ab
 have hgm:s.moves[(i:Int).toNat]!.m=s.m.moves[i]!:=by rw [hii];exact (ez MvV.m hlt).symm
 have hlm:i<s.m.moves.length:=by show i<(s.moves.map MvV.m).length;rw [aD];exact hlt
 have hdr:s.m.moves.drop i=s.moves[(i:Int).toNat]!.m::s.m.moves.drop (i+1):=by rw [hgm];exact ew hlm
 have hmv0:mvAP S.cat.items.length s.kind s.moves[(i:Int).toNat]!.m:=(possG_A.1 h2).2.2.2.2.1 _ (by rw [hgm];exact aG hlm)
 have hmA:MvA (s.m.at (aK S)).kind s.moves[(i:Int).toNat]!.m:=sJ h2.1 hmv0
 have hmem:=aG hlt'
 have hbd:=hs.bd _ hmem
 have hkt:=vn hlm
 have hkl:=BL s.m.moves (i+1)
 rw [← hgm] at hkt
 rw [hdr] at hmv hK
 have hmv2:dL S.shard S.flows (bC S.cat) (s.m.at (aK S)) W (s.moves[(i:Int).toNat]!.m::s.m.moves.drop (i+1))=if (dw S.shard S.flows (bC S.cat) (s.m.at (aK S)) W s.moves[(i:Int).toNat]!.m).1=0 then dL S.shard S.flows (bC S.cat) (s.m.at (aK S)) (dw S.shard S.flows (bC S.cat) (s.m.at (aK S)) W s.moves[(i:Int).toNat]!.m).2 (s.m.moves.drop (i+1)) else ((dw S.shard S.flows (bC S.cat) (s.m.at (aK S)) W s.moves[(i:Int).toNat]!.m).1,W):=rfl
 rw [hmv2] at hmv
 clear hmv2
 have hK2:=fun a j=>kR a j [s.moves[(i:Int).toNat]!.m] (s.m.moves.drop (i+1))
 have hmA2:=yL (mix:=bC S.cat) (s:=s.m.at (aK S)) hsh1 hA hmA ab
 have hmL:=fun he=>td (mix:=bC S.cat) (s:=s.m.at (aK S)) hA.g hmA.g he
 have h20:(W.stk s.moves[(i:Int).toNat]!.m.frm s.moves[(i:Int).toNat]!.m.item).length<20:=by
  have:=hK s.moves[(i:Int).toNat]!.m.frm s.moves[(i:Int).toNat]!.m.item
  omega
 have hst0:=AB (fl:=S.flows) (sh:=S.shard) (mix:=bC S.cat) (s:=s.m.at (aK S)) (W:=W) (m:=s.moves[(i:Int).toNat]!.m)
 have hst1:=Co (fl:=S.flows) (sh:=S.shard) (mix:=bC S.cat) (s:=s.m.at (aK S)) (W:=W) (m:=s.moves[(i:Int).toNat]!.m)
 have hst2:=Cn (fl:=S.flows) (sh:=S.shard) (mix:=bC S.cat) (s:=s.m.at (aK S)) (W:=W) (m:=s.moves[(i:Int).toNat]!.m)
 have hsG:=fun he a j=>vE (mix:=bC S.cat) (s:=s.m.at (aK S)) hA.g hmA.g ab he a j
 have hia:=Ca (sh:=S.shard) (nf:=S.flows.length) (mix:=bC S.cat) (W:=W) hmA (S.flows++W.flows)
 refine G.ent (L':=isl ah 3 s.moves[(i:Int).toNat]!.pad s.moves[(i:Int).toNat]!.m.parts::bkL b S.shard y (osl (encZ .i64) 1 tInt iad icap W.sunk::obj b3 aU (aB s)::stM s::stP s::L)) ((Ent.at (A:=stP s) (oW hlt')).trans (by simp only [bkL,bz];exact ae)) ?_
 simp only [bkL,bz]
 repeat first|refine aa ?_|intro _|refine cd ?_
 refine GPW.evP (Ev.m7 rfl rfl ab ab) ac ?_
 repeat first|refine aa ?_|intro _|refine cd ?_
 refine GPW.evP (Ev.m7 rfl rfl ab ab) ac ?_
 repeat first|refine aa ?_|intro _|refine cd ?_
 have hfid:S.shard*4294967296+(y.flows.length:Int)=cC S.shard S.flows.length W:=by unfold cC;omega
 have hsid:S.shard*4294967296+y.count=aK S:=by unfold aK;rw [hyc]
 rw [hfid,hsid]
 rename_i b7 b8
 generalize s.moves[(i:Int).toNat]! = m at *
 refine GO.ent (L':=isl ah 3 m.pad m.m.parts::bkL b S.shard y (obj b8 cq [.int .i64 (cC S.shard S.flows.length W),.int .i64 (aK S),.int .i64 s.kind,.int .i64 s.tick,.int .i64 s.actor,.int .i64 m.m.frm,.int .i64 m.m.to,.int .i64 m.m.item,.int .i64 m.m.n,.slice none 0 0,.slice none 0 0]::obj b7 tMv (aF m)::osl (encZ .i64) 1 tInt iad icap W.sunk::obj b3 aU (aB s)::stM s::stP s::L)) (by simp only [bkL,bz];exact ae) ?_
 refine GO.ef (Ef.d7 (ww b S hS.g.shard (k+mvK (s.m.moves.take i)) y W ab hB hA (s.m.at (aK S)) m hmA ab hmv0.1 hbd h20) rfl) ac ?_
 rintro _ _ (⟨he,pad,pcap,x',rfl,hB',rfl⟩|⟨he,ad,n,c,rfl,rfl⟩)
 case inr =>
  have e3:gTry S s.m=(gErr S.shard (S.flows++W.flows) (s.m.at (aK S)) W m.m,W):=by rw [e,hmv,hst2 he,if_neg he]
  rw [e3]
  generalize gErr S.shard (S.flows++W.flows) (s.m.at (aK S)) W m.m=er at *
  repeat first|refine aa ?_|intro _|refine cd ?_
  exact KX.d7 ag ae ⟨rfl,.inr ⟨he,rfl⟩⟩
 have hn:=hmA.g.n
 have hsl2:∀ z∈gStk (bC S.cat) W m.m m.m.to m.m.item,LotOk z:=(hsG he _ _).lots
 have hsll:=(hsG he m.m.to m.m.item).len
 have htt:=hA.g.tot m.m.item
 simp only [bkL,bz]
 repeat first|((fail_if_success (with_reducible refine G.e7 14 ?_));(with_reducible apply G.seq))|refine bU ?_|intro _|refine cd ?_
 refine G.d9 (α:=Option Addr×Nat) (fun _=>True) (fun _=>[(0,.pointer (some ⟨b,0,none⟩)),(3,.pointer (some ⟨b3,0,none⟩)),(5,.slice iad W.sunk.length icap),(7,.pointer (some ⟨b7,0,none⟩)),(8,.pointer (some ⟨b8,0,none⟩)),(21,.slice s.mad s.moves.length s.mcap),(22,.int .i64 s.moves.length),(23,.int .i64 (i:Int))]) (fun z=>isl ah 3 pad (gPts (bC S.cat) (s.m.at (aK S)) W m.m)::isl (encZ .i64) 1 z.1 (de (s.m.at (aK S)) W m.m)::bkL b S.shard x' (obj b8 cq [.int .i64 (cC S.shard S.flows.length W),.int .i64 (aK S),.int .i64 s.kind,.int .i64 s.tick,.int .i64 s.actor,.int .i64 m.m.frm,.int .i64 m.m.to,.int .i64 m.m.item,.int .i64 m.m.n,.slice pad (gPts (bC S.cat) (s.m.at (aK S)) W m.m).length pcap,.slice z.1 (de (s.m.at (aK S)) W m.m).length z.2]::obj b7 tMv (aF m)::osl (encZ .i64) 1 tInt iad icap W.sunk::obj b3 aU (aB s)::stM s::stP s::L)) ?_ ?_
 ·by_cases hq:m.m.frm=0∧(s.kind=4∨s.kind=10)
  ·have em:(de (s.m.at (aK S)) W m.m)=W.sunk:=if_pos hq
   rw [em]
   obtain ⟨h0,hq⟩:=hq
   by_cases h4:s.kind=4
   ·repeat first|refine aa ?_|intro _|refine cd ?_
    refine GO.ef (Ef.d7 (jA iad W.sunk.length icap W.sunk rfl ab) rfl) ac ?_
    rintro _ _ ⟨mad,mcap,rfl,rfl⟩
    repeat first|refine aa ?_|intro _|refine cd ?_
    exact ⟨(mad,mcap),trivial,ai,(Ent.frz mad).trans (by simp only [bkL,bz];exact ae)⟩
   ·have h10:s.kind=10:=hq.resolve_left h4
    repeat first|refine aa ?_|intro _|refine cd ?_
    refine GO.ef (Ef.d7 (jA iad W.sunk.length icap W.sunk rfl ab) rfl) ac ?_
    rintro _ _ ⟨mad,mcap,rfl,rfl⟩
    repeat first|refine aa ?_|intro _|refine cd ?_
    exact ⟨(mad,mcap),trivial,ai,(Ent.frz mad).trans (by simp only [bkL,bz];exact ae)⟩
  ·have em:(de (s.m.at (aK S)) W m.m)=[]:=if_neg hq
   rw [em]
   by_cases h0:m.m.frm=0
   ·have h4:¬s.kind=4:=fun q=>hq ⟨h0,.inl q⟩
    have h10:¬s.kind=10:=fun q=>hq ⟨h0,.inr q⟩
    repeat first|refine aa ?_|intro _|refine cd ?_
    refine ⟨(none,0),trivial,ai,?_⟩
    refine Ent.trans ?_ (Ent.d7 (Ent.e8 (encZ .i64) 1 none))
    simp only [bkL,bz]
    exact ae
   ·repeat first|refine aa ?_|intro _|refine cd ?_
    refine ⟨(none,0),trivial,ai,?_⟩
    refine Ent.trans ?_ (Ent.d7 (Ent.e8 (encZ .i64) 1 none))
    simp only [bkL,bz]
    exact ae
 rintro ⟨mad,mcap⟩ _
 simp only [bkL,bz]
 refine G.d9 (α:=Option Addr×Nat) (fun _=>True) (fun z=>[(0,.pointer (some ⟨b,0,none⟩)),(3,.pointer (some ⟨b3,0,none⟩)),(5,.slice z.1 (if m.m.to=0 then W.sunk++[cC S.shard S.flows.length W] else W.sunk).length z.2),(7,.pointer (some ⟨b7,0,none⟩)),(8,.pointer (some ⟨b8,0,none⟩)),(21,.slice s.mad s.moves.length s.mcap),(22,.int .i64 s.moves.length),(23,.int .i64 (i:Int))]) (fun z=>isl ah 3 pad (gPts (bC S.cat) (s.m.at (aK S)) W m.m)::isl (encZ .i64) 1 mad (de (s.m.at (aK S)) W m.m)::bkL b S.shard x' (obj b8 cq [.int .i64 (cC S.shard S.flows.length W),.int .i64 (aK S),.int .i64 s.kind,.int .i64 s.tick,.int .i64 s.actor,.int .i64 m.m.frm,.int .i64 m.m.to,.int .i64 m.m.item,.int .i64 m.m.n,.slice pad (gPts (bC S.cat) (s.m.at (aK S)) W m.m).length pcap,.slice mad (de (s.m.at (aK S)) W m.m).length mcap]::obj b7 tMv (aF m)::osl (encZ .i64) 1 tInt z.1 z.2 (if m.m.to=0 then W.sunk++[cC S.shard S.flows.length W] else W.sunk)::obj b3 aU (aB s)::stM s::stP s::L)) ?_ ?_
 ·by_cases h0:m.m.to=0
  ·rw [if_pos h0]
   repeat first|refine aa ?_|intro _|refine cd ?_
   refine GO.ef (Ef.d8 (enc:=encZ .i64) (e:=cC S.shard S.flows.length W) rfl rfl rfl rfl rfl (by rfl) (lF _ _) ab ab) ac ?_
   rintro _ _ ⟨iad2,icap2,rfl,rfl⟩
   repeat first|refine aa ?_|intro _|refine cd ?_
   exact ⟨(iad2,icap2),trivial,ai,by simp only [bkL,bz];exact ae⟩
  ·rw [if_neg h0]
   repeat first|refine aa ?_|intro _|refine cd ?_
   exact ⟨(iad,icap),trivial,ai,by simp only [bkL,bz];exact ae⟩
 rintro ⟨iad2,icap2⟩ _
 simp only [bkL,bz]
 repeat first|refine aa ?_|intro _|refine cd ?_
 refine GO.ent (L':=isl ah 3 pad (gPts (bC S.cat) (s.m.at (aK S)) W m.m)::isl (encZ .i64) 1 mad (de (s.m.at (aK S)) W m.m)::bkL b S.shard x' (obj b8 cq [.int .i64 (cC S.shard S.flows.length W),.int .i64 (aK S),.int .i64 s.kind,.int .i64 s.tick,.int .i64 s.actor,.int .i64 m.m.frm,.int .i64 m.m.to,.int .i64 m.m.item,.int .i64 m.m.n,.slice pad (gPts (bC S.cat) (s.m.at (aK S)) W m.m).length pcap,.slice mad (de (s.m.at (aK S)) W m.m).length mcap]::obj b7 tMv (aF m)::osl (encZ .i64) 1 tInt iad2 icap2 (if m.m.to=0 then W.sunk++[cC S.shard S.flows.length W] else W.sunk)::obj b3 aU (aB s)::stM s::stP s::L)) (by simp only [bkL,bz];exact ae) ?_
 refine GO.ef (Ef.d7 (yy b S x' (S.flows++W.flows) (fu (S.flows++W.flows)++iaOf (s.m.at (aK S)) m.m) (eV (S.flows++W.flows)++raOf (s.m.at (aK S)) m.m) (gStk (bC S.cat) W m.m) W.tot hB' (by rw [ax];omega) ⟨⟨cC S.shard S.flows.length W,aK S,s.kind,s.tick,s.actor,m.m.frm,m.m.to,m.m.item,m.m.n,(gPts (bC S.cat) (s.m.at (aK S)) W m.m),(de (s.m.at (aK S)) W m.m)⟩,pad,pcap,mad,mcap⟩ hn (by dsimp only;omega) (by dsimp only;omega)) rfl) ac ?_
 rintro _ _ (⟨hbad,rfl,rfl⟩|⟨hgood,rfl,x2,hB2,rfl⟩)
 ·have e3:gTry S s.m=(4,W):=by rw [e,hmv,hst1 he hbad,if_neg (fun q=>absurd (show (4:Int)=0 from q) ac)]
  rw [e3]
  repeat first|refine aa ?_|intro _|refine cd ?_
  exact KX.d7 ag ae ⟨rfl,.inr ⟨fun q=>absurd q ab,rfl⟩⟩
 have hg:=hst0 he hsl2 hn.1 hgood
 rw [hg] at hmv hmA2 hmL
 rw [if_pos rfl] at hmv
 have hmA3:=hmA2 rfl
 have hmL3:=hmL rfl
 clear hmA2 hmL hg hst0 hst1 hst2
 simp only [bkL,bz]
 repeat first|refine aa ?_|intro _|refine cd ?_
 refine ⟨(i+1,x2,⟨if m.m.to=0 then gStk (bC S.cat) W m.m else upd2 (gStk (bC S.cat) W m.m) m.m.to m.m.item (gStk (bC S.cat) W m.m m.m.to m.m.item++[(cC S.shard S.flows.length W,0,m.m.n)]),upd W.tot m.m.item (cI W m.m),W.flows++[fC S.shard S.flows.length (bC S.cat) (s.m.at (aK S)) W m.m],if m.m.to=0 then W.sunk++[cC S.shard S.flows.length W] else W.sunk⟩,iad2,icap2),⟨by dsimp only;omega,?_,?_,?_,fun a j=>?_,hmv⟩,by dsimp only;omega,?_,?_⟩
 ·dsimp only
  unfold BkW
  dsimp only
  rw [← az,hia.1,hia.2]
  exact hB2
 ·dsimp only
  rw [hkt,← dg,← dg]
  exact hmA3
 ·dsimp only
  rw [ax,aT,hWl]
 ·have g1:=hK a j
  have g2:=hK2 a j
  have g3:=hmL3 a j
  dsimp only at g3 ⊢
  rw [show m.m::s.m.moves.drop (i+1)=[m.m]++s.m.moves.drop (i+1) from rfl] at g1
  omega
 ·dsimp only
  rw [aM i]
  exact ai
 ·exact ae
end Go.Proofs.YtommnllbflbdmaaGreatDoor
namespace Go.V
class TyIB (P:Program) (T:Nat) (ks:outParam (List Bool)):Prop where
 under:P.underlying T=some (.struct (P.fieldsOf T))
 free:P.stoodInHeld T=false
 guard:P.eqGuardType P.depth T=false
 flds : (P.fieldsOf T).toList.map (fun f => (f.name == "_", f.offset, P.underlying f.type)) = (List.range ks.length).map fun i => (false, i, some (if ks[i]! then TypeDesc.bool else .int .i64))
end Go.V
namespace Go.Proofs.YtommnllbflbdmaaGreatDoor
section
open Go.V
attribute [local irreducible] G GO GP GPW GPK Ev Ef EfR Ent CB GB V.Enters
theorem sd {α:Type} [Inhabited α] {xs ys:List α} (hl:xs.length=ys.length) (h:∀ j,j<xs.length→xs[j]! = ys[j]!):xs=ys:=by
 refine dh hl (fun j h1 h2=>?_)
 have:=h j h1
 rwa [getElem!_of h1,getElem!_of h2] at this
abbrev xB:List Stp:=[.ev 0,.ev 1,.ev 2,.ev 3,.ev 4,.ev 5,.ev 6,.ev 7,.ev 8]
theorem gj {φ ψ:Prop} (k:ψ) (h:Hid ψ→φ:=by intro k;(with_reducible apply G.d8);first|refine G.d7 (N:=26) (id:=6) xB mixed an (Hid.out k)):φ:=h ⟨k⟩
theorem AH {L:List HP} (ad1 ad2:Option Addr) (n1 n2 c1 c2:Nat) (xs ys:List Lot) [Rds L ad1 Lot ah 3 xs] [Rds L ad2 Lot ah 3 ys] (h1:n1=xs.length) (h2:n2=ys.length) (hl:ys.length≤1000000000) :
  Tri Tryz.prog 105 #[.slice ad1 n1 c1,.slice ad2 n2 c2] L (fun v L'=>v=.bool (dB (xs=ys))∧L' = L):=by
 subst h1 h2
 refine Tri.body (args:=[.slice ad1 xs.length c1,.slice ad2 ys.length c2]) 26 IK Tryz.func105 rfl rfl rfl (by simp) ?_
 by_cases he:xs.length=ys.length
 case neg =>
  repeat first|refine aa ?_|intro _|refine gj ?_
  exact KX.d7 ag (Ent.refl _) ⟨by rw [aC (fun q:xs=ys=>he (by rw [q]))];rfl,rfl⟩
 repeat first|refine aa ?_|intro _|refine gj ?_
 refine G.loop (α:=Nat) (fun i=>i≤xs.length∧∀ j,j<i→xs[j]! = ys[j]!) (fun i=>[(0,.slice ad1 xs.length c1),(1,.slice ad2 ys.length c2),(11,.slice ad1 xs.length c1),(12,.int .i64 xs.length),(13,.int .i64 (i:Int))]) (fun _=>L) (fun i=>xs.length - i) 0 ⟨al _,fun j h=>absurd h (bI j)⟩ ai (Ent.refl _) ?_
 rintro i ⟨hi,hdo⟩
 by_cases hlt:i<xs.length
 case neg =>
  have e:xs=ys:=sd he (fun j hj=>hdo j ab)
  repeat first|refine aa ?_|intro _|refine gj ?_
  exact KX.d7 ag (Ent.refl _) ⟨by rw [aL e];rfl,rfl⟩
 have hii:(i:Int).toNat=i:=av i
 have hx' : (i:Int).toNat<xs.length:=ab
 have hy' : (i:Int).toNat<ys.length:=ab
 have hno:¬xs[(i:Int).toNat]! = ys[(i:Int).toNat]!→dB (xs=ys)=false:=fun q=>aC (fun r=>q (by rw [r]))
 have hst:xs[(i:Int).toNat]! = ys[(i:Int).toNat]!→∀ j,j<i+1→xs[j]! = ys[j]!:=fun q j hj=>by
  rcases bG j i with h|h
  ·exact hdo j h
  ·obtain rfl:j=i:=ab
   rw [hii] at q
   exact q
 repeat first|refine aa ?_|intro _|refine gj ?_
 obtain ⟨x,hx⟩:∃ x,xs[(i:Int).toNat]! = x:=⟨_,rfl⟩
 obtain ⟨y,hy⟩:∃ y,ys[(i:Int).toNat]! = y:=⟨_,rfl⟩
 have hxy:x=y↔[x.1,x.2.1,x.2.2]=[y.1,y.2.1,y.2.2]:=by
  obtain ⟨a,b,c⟩:=x
  obtain ⟨d,e,f⟩:=y
  simp
 rw [hx,hy]
 rw [hx,hy] at hno hst
 refine GPW.evP (Ev.o0 (xs:=[x.1,x.2.1,x.2.2]) (ys:=[y.1,y.2.1,y.2.2]) (cs:=ah x) (ds:=ah y) (hc:=⟨rfl⟩) (hd:=⟨rfl⟩) rfl rfl rfl rfl) ac ?_
 by_cases q:x=y
 ·rw [aC (fun h:¬ [x.1,x.2.1,x.2.2]=[y.1,y.2.1,y.2.2]=>h (hxy.1 q))]
  repeat first|refine aa ?_|intro _|refine gj ?_
  refine ⟨i+1,⟨ab,hst q⟩,ab,?_,Ent.refl _⟩
  rw [aM i]
  exact ai
 ·rw [aL (show ¬ [x.1,x.2.1,x.2.2]=[y.1,y.2.1,y.2.2] from fun h=>q (hxy.2 h))]
  repeat first|refine aa ?_|intro _|refine gj ?_
  exact KX.d7 ag (Ent.refl _) ⟨by rw [hno q];rfl,rfl⟩
abbrev xA:List Stp:=[.ev 0,.ev 1,.ev 2,.ev 3,.ev 4,.ev 5,.ev 6,.ev 7,.ev 8]
theorem gP {φ ψ:Prop} (k:ψ) (h:Hid ψ→φ:=by intro k;(with_reducible apply G.d8);first|refine G.d7 (N:=26) (id:=6) xA mixed an (Hid.out k)):φ:=h ⟨k⟩
theorem AI {L:List HP} (ad1 ad2:Option Addr) (n1 n2 c1 c2:Nat) (xs ys:List Int) [Rds L ad1 Int (encZ .i64) 1 xs] [Rds L ad2 Int (encZ .i64) 1 ys] (h1:n1=xs.length) (h2:n2=ys.length) (hl:ys.length≤1000000000) :
  Tri Tryz.prog 106 #[.slice ad1 n1 c1,.slice ad2 n2 c2] L (fun v L'=>v=.bool (dB (xs=ys))∧L' = L):=by
 subst h1 h2
 refine Tri.body (args:=[.slice ad1 xs.length c1,.slice ad2 ys.length c2]) 26 IJ Tryz.func106 rfl rfl rfl (by simp) ?_
 by_cases he:xs.length=ys.length
 case neg =>
  repeat first|refine aa ?_|intro _|refine gP ?_
  exact KX.d7 ag (Ent.refl _) ⟨by rw [aC (fun q:xs=ys=>he (by rw [q]))];rfl,rfl⟩
 repeat first|refine aa ?_|intro _|refine gP ?_
 refine G.loop (α:=Nat) (fun i=>i≤xs.length∧∀ j,j<i→xs[j]! = ys[j]!) (fun i=>[(0,.slice ad1 xs.length c1),(1,.slice ad2 ys.length c2),(11,.slice ad1 xs.length c1),(12,.int .i64 xs.length),(13,.int .i64 (i:Int))]) (fun _=>L) (fun i=>xs.length - i) 0 ⟨al _,fun j h=>absurd h (bI j)⟩ ai (Ent.refl _) ?_
 rintro i ⟨hi,hdo⟩
 by_cases hlt:i<xs.length
 case neg =>
  have e:xs=ys:=sd he (fun j hj=>hdo j ab)
  repeat first|refine aa ?_|intro _|refine gP ?_
  exact KX.d7 ag (Ent.refl _) ⟨by rw [aL e];rfl,rfl⟩
 have hii:(i:Int).toNat=i:=av i
 have hx' : (i:Int).toNat<xs.length:=ab
 have hy' : (i:Int).toNat<ys.length:=ab
 have hno:¬xs[(i:Int).toNat]! = ys[(i:Int).toNat]!→dB (xs=ys)=false:=fun q=>aC (fun r=>q (by rw [r]))
 have hst:xs[(i:Int).toNat]! = ys[(i:Int).toNat]!→∀ j,j<i+1→xs[j]! = ys[j]!:=fun q j hj=>by
  rcases bG j i with h|h
  ·exact hdo j h
  ·obtain rfl:j=i:=ab
   rw [hii] at q
   exact q
 by_cases q:xs[(i:Int).toNat]! = ys[(i:Int).toNat]!
 ·repeat first|refine aa ?_|intro _|refine gP ?_
  refine ⟨i+1,⟨ab,hst q⟩,ab,?_,Ent.refl _⟩
  rw [aM i]
  exact ai
 ·repeat first|refine aa ?_|intro _|refine gP ?_
  exact KX.d7 ag (Ent.refl _) ⟨by rw [hno q];rfl,rfl⟩
theorem tG {L:List HP} (f g:FlV) [Rds L f.pad Lot ah 3 f.m.parts] [Rds L g.pad Lot ah 3 g.m.parts] [Rds L f.mad Int (encZ .i64) 1 f.m.made] [Rds L g.mad Int (encZ .i64) 1 g.m.made] (h1:g.m.parts.length≤1000000000) (h2:g.m.made.length≤1000000000) :
  Tri Tryz.prog 48 #[.agg (bF f).toArray,.agg (bF g).toArray] L (fun v L'=>v=.bool (dB (f.m=g.m))∧L' = L):=by
 refine Tri.body (args:=[.agg (bF f).toArray,.agg (bF g).toArray]) 80 en48 Tryz.func48 rfl rfl rfl (by simp) ?_
 have hno:∀ {p:Prop},¬p→(f.m=g.m→p)→dB (f.m=g.m)=false:=fun h q=>aC (fun r=>h (q r))
 simp only [bF]
 simp only [List.append]
 by_cases c0:f.m.id=g.m.id
 case neg =>
  repeat first|refine aa ?_|intro
  exact KX.d7 ag ae ⟨by rw [hno c0 (fun q=>by rw [q])];rfl,rfl⟩
 by_cases c1:f.m.step=g.m.step
 case neg =>
  repeat first|refine aa ?_|intro
  exact KX.d7 ag ae ⟨by rw [hno c1 (fun q=>by rw [q])];rfl,rfl⟩
 by_cases c2:f.m.kind=g.m.kind
 case neg =>
  repeat first|refine aa ?_|intro
  exact KX.d7 ag ae ⟨by rw [hno c2 (fun q=>by rw [q])];rfl,rfl⟩
 by_cases c3:f.m.tick=g.m.tick
 case neg =>
  repeat first|refine aa ?_|intro
  exact KX.d7 ag ae ⟨by rw [hno c3 (fun q=>by rw [q])];rfl,rfl⟩
 by_cases c4:f.m.actor=g.m.actor
 case neg =>
  repeat first|refine aa ?_|intro
  exact KX.d7 ag ae ⟨by rw [hno c4 (fun q=>by rw [q])];rfl,rfl⟩
 by_cases c5:f.m.frm=g.m.frm
 case neg =>
  repeat first|refine aa ?_|intro
  exact KX.d7 ag ae ⟨by rw [hno c5 (fun q=>by rw [q])];rfl,rfl⟩
 by_cases c6:f.m.to=g.m.to
 case neg =>
  repeat first|refine aa ?_|intro
  exact KX.d7 ag ae ⟨by rw [hno c6 (fun q=>by rw [q])];rfl,rfl⟩
 by_cases c7:f.m.item=g.m.item
 case neg =>
  repeat first|refine aa ?_|intro
  exact KX.d7 ag ae ⟨by rw [hno c7 (fun q=>by rw [q])];rfl,rfl⟩
 by_cases c8:f.m.n=g.m.n
 case neg =>
  repeat first|refine aa ?_|intro
  exact KX.d7 ag ae ⟨by rw [hno c8 (fun q=>by rw [q])];rfl,rfl⟩
 repeat first|refine aa ?_|intro
 refine GO.ef (Ef.d7 (AH f.pad g.pad f.m.parts.length g.m.parts.length f.pcap g.pcap f.m.parts g.m.parts rfl rfl h1) rfl) ac ?_
 rintro _ _ ⟨rfl,rfl⟩
 by_cases c9:f.m.parts=g.m.parts
 case neg =>
  rw [aC c9]
  repeat first|refine aa ?_|intro
  exact KX.d7 ag ae ⟨by rw [hno c9 (fun q=>by rw [q])];rfl,rfl⟩
 rw [aL c9]
 repeat first|refine aa ?_|intro
 refine GO.ef (Ef.d7 (AI f.mad g.mad f.m.made.length g.m.made.length f.mcap g.mcap f.m.made g.m.made rfl rfl h2) rfl) ac ?_
 rintro _ _ ⟨rfl,rfl⟩
 repeat first|refine aa ?_|intro
 refine KX.d7 ag ae ⟨?_,rfl⟩
 by_cases ca:f.m.made=g.m.made
 ·have e:f.m=g.m:=by
   obtain ⟨⟨i1,i2,i3,i4,i5,i6,i7,i8,i9,ia,ib⟩,_⟩:=f
   obtain ⟨⟨j1,j2,j3,j4,j5,j6,j7,j8,j9,ja,jb⟩,_⟩:=g
   dsimp only at c0 c1 c2 c3 c4 c5 c6 c7 c8 c9 ca
   rw [c0,c1,c2,c3,c4,c5,c6,c7,c8,c9,ca]
  rw [aL ca,aL e];rfl
 ·rw [aC ca,hno ca (fun q=>by rw [q])];rfl
theorem Cz {L:List HP} (ad1 ad2:Option Addr) (n1 n2 c1 c2:Nat) (fs gs:List FlV) [Rds L ad1 FlV bF 11 fs] [Rds L ad2 FlV bF 11 gs] (h1:n1=fs.length) (h2:n2=gs.length) (hl:gs.length≤1000000000) (hp:∀ f∈gs,f.m.parts.length≤1000000000∧f.m.made.length≤1000000000) (hA:∀ f∈fs,Ent L (flP f::L)) (hB:∀ f∈gs,Ent L (flP f::L)) :
  Tri Tryz.prog 47 #[.slice ad1 n1 c1,.slice ad2 n2 c2,.func (.func 48) #[] #[]] L (fun v L'=>v=.bool (dB (fs.map FlV.m=gs.map FlV.m))∧L' = L):=by
 subst h1 h2
 refine Tri.body (args:=[.slice ad1 fs.length c1,.slice ad2 gs.length c2,.func (.func 48) #[] #[]]) 32 en47 Tryz.func47 rfl rfl rfl (by simp) ?_
 by_cases he:fs.length=gs.length
 case neg =>
  repeat first|refine aa ?_|intro
  exact KX.d7 ag (Ent.refl _) ⟨by rw [aC (fun q:fs.map FlV.m=gs.map FlV.m=>he (by simpa using congrArg List.length q))];rfl,rfl⟩
 repeat first|refine aa ?_|intro
 refine G.loop (α:=Nat) (fun i=>i≤fs.length∧∀ j,j<i→fs[j]!.m=gs[j]!.m) (fun i=>[(0,.slice ad1 fs.length c1),(1,.slice ad2 gs.length c2),(2,.func (.func 48) #[] #[]),(15,.slice ad1 fs.length c1),(16,.int .i64 fs.length),(17,.int .i64 (i:Int))]) (fun _=>L) (fun i=>fs.length - i) 0 ⟨al _,fun j h=>absurd h (bI j)⟩ ai (Ent.refl _) ?_
 rintro i ⟨hi,hdo⟩
 by_cases hlt:i<fs.length
 case neg =>
  have e:fs.map FlV.m=gs.map FlV.m:=sd (by simpa using he) (fun j hj=>by
   rw [aD] at hj
   rw [ez FlV.m hj,ez FlV.m ab]
   exact hdo j ab)
  repeat first|refine aa ?_|intro
  exact KX.d7 ag (Ent.refl _) ⟨by rw [aL e];rfl,rfl⟩
 have hii:(i:Int).toNat=i:=av i
 have hx' : (i:Int).toNat<fs.length:=ab
 have hy' : (i:Int).toNat<gs.length:=ab
 have hno:¬fs[(i:Int).toNat]!.m=gs[(i:Int).toNat]!.m→dB (fs.map FlV.m=gs.map FlV.m)=false:=fun q=>aC (fun r=>q (by
  rw [← ez FlV.m hx',← ez FlV.m hy',r]))
 have hp1:=hp _ (aG hy')
 have hst:fs[(i:Int).toNat]!.m=gs[(i:Int).toNat]!.m→∀ j,j<i+1→fs[j]!.m=gs[j]!.m:=fun q j hj=>by
  rcases bG j i with h|h
  ·exact hdo j h
  ·obtain rfl:j=i:=ab
   rw [hii] at q
   exact q
 refine G.ent (L':=isl ah 3 fs[(i:Int).toNat]!.pad fs[(i:Int).toNat]!.m.parts::isl (encZ .i64) 1 fs[(i:Int).toNat]!.mad fs[(i:Int).toNat]!.m.made::isl ah 3 gs[(i:Int).toNat]!.pad gs[(i:Int).toNat]!.m.parts::isl (encZ .i64) 1 gs[(i:Int).toNat]!.mad gs[(i:Int).toNat]!.m.made::L) ?_ ?_
 ·refine (hA _ (aG hx')).trans (Ent.andE.trans ?_)
  refine Ent.trans (Ent.d7 (Ent.d7 ((hB _ (aG hy')).trans Ent.andE))) ?_
  exact ae
 repeat first|refine aa ?_|intro
 refine GO.ef (Ef.d9 rfl rfl (tG fs[(i:Int).toNat]! gs[(i:Int).toNat]! hp1.1 hp1.2)) ac ?_
 rintro _ _ ⟨rfl,rfl⟩
 by_cases q:fs[(i:Int).toNat]!.m=gs[(i:Int).toNat]!.m
 ·rw [aL q]
  repeat first|refine aa ?_|intro
  refine ⟨i+1,⟨ab,hst q⟩,ab,?_,by exact ae⟩
  rw [aM i]
  exact ai
 ·rw [aC q]
  repeat first|refine aa ?_|intro
  exact KX.d7 ag ae ⟨by rw [hno q];rfl,rfl⟩
end
section
open Go.V
attribute [local irreducible] G GO GP GPW GPK Ev Ef EfR Ent CB GB V.Enters
abbrev tFnd:Nat:=46
abbrev Fd:=Int×Int×Int
def fL (x:Fd):List Value:=[.int .i64 x.1,.int .i64 x.2.1,.int .i64 x.2.2]
theorem mb (t:Fd):∀ u∈fL t,u.oneCell' = true:=by simp [fL,Value.oneCell']
instance:EncC fL:=⟨mb⟩
def pnc (x:Fd):List PanicEntry:=[{ v:=.iface tFnd (.agg (fL x).toArray),recovered:=false }]
set_option maxRecDepth 20000 in
theorem AQ {L R:List HP} {θ:Th} {w:World} (b:Nat) (x:Fd) (s:Sat θ ((obj b tFnd (fL x)::L)++R) w) :
  CallsD Tryz.prog 100 #[.pointer (some ⟨b,0,none⟩)] .returning w (fun e u' w'=>e=.returned (.tuple #[])∧u' = .returning∧Sat θ ((obj b tFnd (fL x)::L)++R) w'):=by
 refine callsD_of_wpS Tryz.func100 rfl fun c₀ cs hu=>?_
 have i:=AtD.mk (L:=obj b tFnd (fL x)::L) (R:=R) (D:=[]) (EnvOk.d7 (N:=10) (fn:=Tryz.f100) (args:=[Value.pointer (some ⟨b,0,none⟩)]) rfl (by simp)) rfl s
 have hrec:recoverD (c₀::cs)=none:=by simp [recoverD,hu]
 refine wpS_seq (wpS_region ?_)
 show wpOpsS _ _ _ [0,1,2,3,4,5,6,7] _ _ _
 refine CR rfl i hrec ac ?_
 intro a1 w1 i
 refine iq rfl i (Ev.A8 (z:=.agg #[.int .i64 0,.int .i64 0,.int .i64 0]) an rfl) ac ?_
 intro a2 w2 i
 refine iq rfl i (Ev.move rfl) ac ?_
 intro a3 w3 i
 refine iq rfl i (Ev.extract rfl rfl) ac ?_
 intro a4 w4 i
 refine iq rfl i (Ev.extract rfl rfl) ac ?_
 intro a5 w5 i
 refine uk rfl i Ef.alloc ac ?_
 rintro _ _ a6 w6 ⟨b1,rfl,rfl⟩ i
 refine rL rfl i (Ef.f8 (vs:=[.int .i64 0,.int .i64 0,.int .i64 0]) rfl rfl (by rfl) (by rfl) (by simp [Value.oneCell'])) ?_
 rintro _ _ a7 w7 rfl i
 refine iq rfl i (Ev.assign rfl) ac ?_
 intro a8 w8 i
 show Code.wpS _ _ _ _ _ _
 refine wpS_seq (wpS_region ?_)
 show wpOpsS _ _ _ [0] _ _ _
 refine iq rfl i (Ev.move rfl) ac ?_
 intro a9 w9 i
 show Code.wpS _ _ _ _ _ _
 refine wpS_cond (t:=false) (aI i.eok.agr rfl) ?_
 refine wpS_of_wp (wp_skip ?_)
 exact ⟨i.def_,.returning,by rw [← hu],.tuple #[],jm (rs:=[]) (vs:=[]) i.eok i.sat rfl ResOk.nil,rfl,rfl,Ent.sat ae i.sat⟩
set_option maxRecDepth 20000 in
theorem AR {L R:List HP} {θ:Th} {w:World} (b:Nat) (x y:Fd) (s:Sat θ ((obj b tFnd (fL x)::L)++R) w) :
  CallsD Tryz.prog 100 #[.pointer (some ⟨b,0,none⟩)] (.panicking (pnc y)) w (fun e u' w'=>e=.returned (.tuple #[])∧settle u' = .returning∧Sat θ ((obj b tFnd (fL y)::L)++R) w'):=by
 refine callsD_of_wpS Tryz.func100 rfl fun c₀ cs hu=>?_
 have i:=AtD.mk (L:=obj b tFnd (fL x)::L) (R:=R) (D:=[]) (EnvOk.d7 (N:=10) (fn:=Tryz.f100) (args:=[Value.pointer (some ⟨b,0,none⟩)]) rfl (by simp)) rfl s
 have hrec:recoverD (c₀::cs)=some (.iface tFnd (.agg (fL y).toArray),{ c₀ with mode:=.panicking [{ v:=.iface tFnd (.agg (fL y).toArray),recovered:=true }] }::cs):=by simp [recoverD,hu,pnc]
 refine wpS_seq (wpS_region ?_)
 show wpOpsS _ _ _ [0,1,2,3,4,5,6,7] _ _ _
 refine DZ rfl i hrec ac ?_
 intro a1 w1 i
 refine iq rfl i (Ev.A9 rfl) ac ?_
 intro a2 w2 i
 refine iq rfl i (Ev.move rfl) ac ?_
 intro a3 w3 i
 refine iq rfl i (Ev.extract rfl rfl) ac ?_
 intro a4 w4 i
 refine iq rfl i (Ev.extract rfl rfl) ac ?_
 intro a5 w5 i
 refine uk rfl i Ef.alloc ac ?_
 rintro _ _ a6 w6 ⟨b1,rfl,rfl⟩ i
 refine rL rfl i (Ef.f8 (vs:=fL y) rfl rfl (by rfl) (by rfl) (mb y)) ?_
 rintro _ _ a7 w7 rfl i
 refine iq rfl i (Ev.assign rfl) ac ?_
 intro a8 w8 i
 show Code.wpS _ _ _ _ _ _
 refine wpS_seq (wpS_region ?_)
 show wpOpsS _ _ _ [0] _ _ _
 refine iq rfl i (Ev.move rfl) ac ?_
 intro a9 w9 i
 show Code.wpS _ _ _ _ _ _
 refine wpS_cond (t:=true) (aI i.eok.agr rfl) ?_
 refine wpS_region ?_
 show wpOpsS _ _ _ [0,1] _ _ _
 refine iq rfl i (Ev.d7 rfl (by rfl)) ac ?_
 intro a10 w10 i
 refine rL rfl i (Ef.f8 (vs:=fL y) rfl rfl (by rfl) (by rfl) (mb y)) ?_
 rintro _ _ a11 w11 rfl i
 exact ⟨i.def_,_,rfl,.tuple #[],jm (rs:=[]) (vs:=[]) i.eok i.sat rfl ResOk.nil,rfl,rfl,Ent.sat ae i.sat⟩
set_option maxRecDepth 20000 in
theorem AP {L:List HP} (g:FuncId) (cap:List Value) (pr:List HP→Prop) (pp:Fd→List HP→Prop) (h:TriE Tryz.prog g cap.toArray L (fun _ L'=>pr L') (fun ch L'=>∃ x,ch=pnc x∧pp x L')) :
  Tri Tryz.prog 43 #[.func (.func g) #[] cap.toArray] L (fun v L'=>∃ x:Fd,v=.agg (fL x).toArray∧((x=(0,0,0)∧pr L')∨pp x L')):=by
 refine ⟨en43,fun θ R w s=>calls_of_wp_defers Tryz.func43 rfl ?_⟩
 have i:=AtD.mk (L:=L) (R:=R) (D:=[]) (EnvOk.d7 (N:=7) (fn:=Tryz.f43) (args:=[Value.func (.func g) #[] cap.toArray]) rfl (by simp)) rfl s
 refine wp_seq (wp_region_lit ?_)
 refine Bb i Ef.alloc ac ?_
 rintro _ _ a1 w1 ⟨b,rfl,rfl⟩ i
 show Code.wp _ _ _ _ _
 refine wp_seq (wp_region_lit ?_)
 refine ul i (Ev.makeFunc rfl rfl) ac ?_
 intro a2 w2 i
 refine Bc i rfl ?_
 intro a3 w3 i
 show Code.wp _ _ _ _ _
 refine wp_seq (wp_region_lit ?_)
 refine ul i (Ev.move rfl) ac ?_
 intro a4 w4 i
 have hinv:∀ w,(invoke (.fn (.func 100) #[.pointer (some ⟨b,0,none⟩)]) #[]).run Tryz.prog w=.ok (.enter 100 #[.pointer (some ⟨b,0,none⟩)]) w:=fun w=>(IP).go _ _
 refine Bd (R':=[obj b tFnd (fL (0,0,0))]) i h rfl (Ent.perm (dA _ L).symm) ac ?_ ?_
 ·intro v L' a5 w5 hpr i
  have i:=i.ent (Ent.perm (dA _ L'))
  show Code.wp _ _ _ _ _
  refine wp_seq (wp_region_lit ?_)
  refine ul i (Ev.build rfl rfl) ac ?_
  intro a6 w6 i
  refine Ea i (Ef.f8 (vs:=fL (0,0,0)) rfl rfl (by rfl) (by rfl) (mb _)) ?_
  rintro _ _ a7 w7 rfl i
  show Code.wp _ _ _ _ _
  refine wp_ret ?_
  show Leaves _ _ _ _ a7.defers .returning w7
  rw [i.def_]
  refine leaves_cons (by simp) (hinv w7) (CallsD.mono (AQ b (0,0,0) i.sat) ?_)
  rintro _ _ w8 ⟨rfl,rfl,s8⟩
  exact ⟨_,jm (rs:=[.cell 2 tFnd]) (vs:=[.agg (fL (0,0,0)).toArray]) i.eok s8 rfl (ResOk.cell rfl (by rfl) ResOk.nil),_,L',rfl,⟨(0,0,0),rfl,.inl ⟨rfl,hpr⟩⟩,Ent.sat ae s8⟩
 ·rintro ch L' w5 ⟨x,rfl,hpp⟩ i
  have i:=i.ent (Ent.perm (dA _ L'))
  show Leaves _ _ _ _ a4.defers (.panicking (pnc x)) w5
  rw [i.def_]
  refine leaves_cons (by simp) (hinv w5) (CallsD.mono (AR b (0,0,0) x i.sat) ?_)
  rintro _ u' w8 ⟨rfl,hu',s8⟩
  show Leaves _ _ _ _ [] (settle u') w8
  rw [hu']
  exact ⟨_,jm (rs:=[.cell 2 tFnd]) (vs:=[.agg (fL x).toArray]) i.eok s8 rfl (ResOk.cell rfl (by rfl) ResOk.nil),_,L',rfl,⟨x,rfl,.inr hpp⟩,Ent.sat ae s8⟩
end
end Go.Proofs.YtommnllbflbdmaaGreatDoor
