/- Lemmas. -/
import Derived.Test.YtommnllbflbdmaaGreatDoorLG27
set_option linter.all false
set_option maxHeartbeats 16000000
namespace Go.Proofs.YtommnllbflbdmaaGreatDoor
open Go.V
attribute [local irreducible] G GO GP GPW GPK Ev Ef EfR Ent CB GB V.Enters
theorem Dt{sh:Int}{fl:List FlM}{mix:Int→Bool}{s:StM}{W:Wk}{m:MvM}(he:gErr sh (fl++W.flows) s W m=0)(h:1099511627776<dd W m∨(m.to≠0∧4096≤(gStk mix W m m.to m.item).length)):dq sh fl mix s W m=(4,W):=by
 unfold dq;rw[if_neg (fun q=>q he)];by_cases h1:dd W m>1099511627776
 ·rw[if_pos h1]
 ·rw[if_neg h1];rcases h with h|⟨h,h2⟩
  ·exact absurd h h1
  ·rw[if_neg h,if_pos h2]
theorem By{sh:Int}{fl:List FlM}{mix:Int→Bool}{s:StM}{W:Wk}{m:MvM}(he:gErr sh (fl++W.flows) s W m=0)(hl:∀x∈gStk mix W m m.to m.item,LotOk x)(hn:1≤m.n)(h:¬(1099511627776<dd W m∨(m.to≠0∧4096≤(gStk mix W m m.to m.item).length))) :
  dq sh fl mix s W m=(0,⟨if m.to=0 then gStk mix W m else upd2 (gStk mix W m) m.to m.item (gStk mix W m m.to m.item++[(cN sh fl.length W,0,m.n)]),upd W.tot m.item (dd W m),W.flows++[fq sh fl.length mix s W m],if m.to=0 then W.sunk++[cN sh fl.length W] else W.sunk⟩):=by
 unfold dq;rw[if_neg (fun q=>q he),if_neg (fun q=>h (.inl q))];by_cases h1:m.to=0
 ·rw[if_pos h1,if_pos h1,if_pos h1]
 ·rw[if_neg h1,if_neg h1,if_neg h1,if_neg (fun q=>h (.inr ⟨h1,q⟩)),nS hl hn]
theorem Ds{sh:Int}{fl:List FlM}{mix:Int→Bool}{s:StM}{W:Wk}{m:MvM}(he:gErr sh (fl++W.flows) s W m≠0):dq sh fl mix s W m=(gErr sh (fl++W.flows) s W m,W):=by
 unfold dq;rw[if_pos he]
def BkW(S:LedM)(W:Wk)(x:BkX):Prop:=BkI S (S.flows++W.flows) (fO (S.flows++W.flows)) (fu (S.flows++W.flows)) W.stk W.tot x
def BkR(S:LedM)(x:BkX):Prop:=BkI S S.flows (fO S.flows) (fu S.flows) S.stk S.tot x
theorem Df{sh:Int}{nf:Nat}{mix:Int→Bool}{s:StM}{W:Wk}{m:MvM}(hm:MvA s.kind m)(fl:List FlM):fO (fl++[fq sh nf mix s W m])=fO fl++iaOf s m∧fu (fl++[fq sh nf mix s W m])=fu fl++raOf s m:=by
 rw[qm,qh];unfold iaOf raOf;constructor
 ·congr 1;by_cases h:s.kind=5
  ·rw[if_pos h,if_pos (show(fq sh nf mix s W m).kind=5 from h)];exact oZ hm (.inl h)
  ·rw[if_neg h,if_neg (show ¬(fq sh nf mix s W m).kind=5 from h)]
 ·congr 1;by_cases h:s.kind=9∧m.frm=0
  ·rw[if_pos h,if_pos (show(fq sh nf mix s W m).kind=9∧(fq sh nf mix s W m).frm=0 from h)];exact oZ hm (.inr h)
  ·rw[if_neg h,if_neg (show ¬((fq sh nf mix s W m).kind=9∧(fq sh nf mix s W m).frm=0) from h)]
abbrev Bm:List Stp:=[.ev 0,.ev 1,.ev 2,.ev 3,.ev 4,.ev 5,.ev 6,.ev 7,.ev 8,.ev 9,.ev 10,.ev 11,.ev 12,.ev 13,.ev 14,.ev 15,.ev 16,.ev 17,.ev 18,.ev 19,.ev 20,.ev 21,.ev 22,.ev 23,.ev 24,.ev 25,.ev 26,.ev 27,.ev 28,.ev 29,.ev 30,.ev 31,.ev 32,.ev 33,.ev 34,.ev 35,.ef 36,.ef 37]
theorem co{φ ψ:Prop}(k:ψ)(h:Hid ψ→φ:=by intro k;(with_reducible apply G.d8);first|refine G.d7 (N:=118) (id:=9) Bm mixed ap (Hid.out k)):φ:=h ⟨k⟩
theorem BV{L:LH}(b:Nat)(S:LedM)(k:Nat)(hS:LedA k S)(hc:S.cat.Ok)(s:StV)(hs:StInG s)(hcap:s.moves.length≤s.mcap)(hk:k+mvK s.m.moves≤2000)(h19:∀a i,(S.stk a i).length+lotsIn a i s.m.moves≤19)(x:BkX)(hx:BkR S x) :
  Tri ah 46 #[au b,.agg (aJ s).toArray] (bkL b S.shard x (stM s::stP s::L)) (fun v L'=>v=ab (gTry S s.m).1 ∧
   (((gTry S s.m).1=0∧∃x',BkR (cT S s.m) x'∧L' = bkL b S.shard x' (stM s::stP s::L))∨((gTry S s.m).1≠0∧L' = stM s::stP s::L))):=by
 obtain⟨hsh1,hsh2⟩:=hS.g.shard;have hsl:=hS.g.steps;have hfl:=hS.g.flows;have hml:=hs.len
 have hxf:x.flows.length=S.flows.length:=by
  have:=congrArg List.length hx.flows
  rwa [aG] at this
 have hcm:=hx.cat;have hcnt:=hx.count;have htk:=hx.tick;refine Tri.body (args:=[au b,.agg (aJ s).toArray]) 118 en46 Tryz.func46 rfl rfl rfl (by simp) ?_;simp only[bkL,bJ];by_cases h1:65536≤S.steps.length
 ·have e:gTry S s.m=(4,wk0 S):=by unfold gTry;rw[if_pos h1]
  rw[e];repeat first|refine aa ?_|intro _|refine co ?_
  exact KX.d7 ai ag ⟨rfl,.inr ⟨fun q=>absurd q ac,rfl⟩⟩
 repeat first|refine aa ?_|intro _|refine co ?_
 rename_i b3;refine GO.ent (Ent.at (A:=stP s) (Ent.refl _)) ?_;refine GO.ent (Ent.at (A:=catP x.cat) (Ent.refl _)) ?_;refine GO.ef (Ef.d7 (BW (b:=b) (sh:=S.shard) (x:=x) s (hcm▸hc) hx.catB hml hcap hs.parts hs.rule) rfl) ae ?_;rintro _ _⟨rfl,rfl⟩;have hpe:dB (fL x.cat.m x.tick s.m)=dB (fL S.cat S.now s.m):=by rw[hcm,htk]
 rw[hpe];by_cases h2:fL S.cat S.now s.m
 case neg =>
  have e:gTry S s.m=(1,wk0 S):=by unfold gTry;rw[if_neg h1,if_pos h2]
  rw[e,aF h2];repeat first|refine aa ?_|intro _|refine co ?_
  exact KX.d7 ai ag ⟨rfl,.inr ⟨fun q=>absurd q ac,rfl⟩⟩
 have e:gTry S s.m=dN S.shard S.flows (bK S.cat) (s.m.at (aR S)) (wk0 S) s.m.moves:=by unfold gTry;rw[if_neg h1,if_neg (fun h=>h h2)]
 rw[aU h2];have hl64:s.moves.length≤64:=by have:=h2.2.2.2.1.2;simpa [StV.m] using this
 have hW0:BkW S (wk0 S) x:=by
  unfold BkW;rw[show S.flows++(wk0 S).flows=S.flows from ba _];exact hx
 repeat first|refine aa ?_|intro _|refine co ?_
 refine G.loop (α:=Nat×BkX×Wk×OA×Nat) (fun g=>g.1≤s.moves.length∧BkW S g.2.2.1 g.2.1∧WkA S.shard S.flows (k+mvK (s.m.moves.take g.1)) g.2.2.1∧g.2.2.1.flows.length=g.1∧(∀a i,(g.2.2.1.stk a i).length+lotsIn a i (s.m.moves.drop g.1)≤19)∧dN S.shard S.flows (bK S.cat) (s.m.at (aR S)) (wk0 S) s.m.moves=dN S.shard S.flows (bK S.cat) (s.m.at (aR S)) g.2.2.1 (s.m.moves.drop g.1))
  (fun g=>[(0,au b),(3,au b3),(5,.slice g.2.2.2.1 g.2.2.1.sunk.length g.2.2.2.2),(21,.slice s.mad s.moves.length s.mcap),(22,ab s.moves.length),(23,ab (g.1:Int))])
  (fun g=>bkL b S.shard g.2.1 (osl (encZ .i64) 1 tInt g.2.2.2.1 g.2.2.2.2 g.2.2.1.sunk::obj b3 bh (aJ s)::stM s::stP s::L)) (fun g=>s.moves.length - g.1) (0,x,wk0 S,none,0) ⟨ao _,hW0,ER hS,rfl,h19,rfl⟩ aj ?_ ?_
 ·refine Ent.trans (Ent.d8 (encZ .i64) 1 tInt) ?_;have hs0:(wk0 S).sunk=[]:=rfl;simp only[bkL,bJ,hs0];exact ag
 rintro⟨i,y,W,iad,icap⟩ ⟨hi,hB,hA,hWl,hK,hmv⟩;dsimp only at hi hB hA hWl hK hmv ⊢
 have hyf:y.flows.length=S.flows.length+W.flows.length:=by
  have:=congrArg List.length hB.flows
  rwa [aG,az] at this
 have hsk:=hA.g.sunk;have hyc:=hB.count;simp only[bkL,bJ];by_cases hlt:i<s.moves.length
 case neg =>
  have hdr:s.m.moves.drop i=[]:=bP (by show(s.moves.map MvV.m).length≤i;rw[aG];omega);rw[hdr] at hmv;have e3:gTry S s.m=(0,W):=by rw[e,hmv];rfl
  have he:(gTry S s.m).1=0:=by rw[e3]
  have e1:cT S s.m=gJ S s.m:=if_pos he;rw[e1,he];repeat first|refine aa ?_|intro _|refine co ?_
  refine KX.d7 ai ?_ ⟨rfl,.inl ⟨rfl,{ y with count:=y.count+1,tick:=s.tick },⟨hB.cat,hB.catB,?_,?_,?_,?_,?_,?_,?_,?_⟩,rfl⟩⟩
  ·simp only[bkL,bJ];exact ag
  ·show y.count+1=((S.steps++[s.m.at (aR S)]).length:Int);rw[az,bC,hyc];omega
  ·show s.tick=(gJ S s.m).now;unfold LedM.now gJ;simp only[List.getLast?_append,List.getLast?_singleton];rfl
  ·show y.flows.map (·.m)=S.flows++(gTry S s.m).2.flows;rw[e3];exact hB.flows
  ·intro a i;show(fU y.stk (a,i)).lots=(gTry S s.m).2.stk a i;rw[e3];exact hB.stk a i
  ·intro a i;show((gTry S s.m).2.stk a i).length≤_;rw[e3];exact hB.cap a i
  ·intro i;show _=(gTry S s.m).2.tot i;rw[e3];exact hB.tot i
  ·show ld y.imp (fO (S.flows++(gTry S s.m).2.flows));rw[e3];exact hB.imp
  ·show ld y.ret (fu (S.flows++(gTry S s.m).2.flows));rw[e3];exact hB.ret
 have hii:(i:Int).toNat=i:=aA i;have hlt' : (i:Int).toNat<s.moves.length:=ac;have hgm:s.moves[(i:Int).toNat]!.m=s.m.moves[i]!:=by rw[hii];exact(eo MvV.m hlt).symm
 have hlm:i<s.m.moves.length:=by show i<(s.moves.map MvV.m).length;rw[aG];exact hlt
 have hdr:s.m.moves.drop i=s.moves[(i:Int).toNat]!.m::s.m.moves.drop (i+1):=by rw[hgm];exact fG hlm
 have hmv0:mvAP S.cat.items.length s.kind s.moves[(i:Int).toNat]!.m:=(possG_A.1 h2).2.2.2.2.1 _ (by rw[hgm];exact aI hlm);have hmA:MvA (s.m.at (aR S)).kind s.moves[(i:Int).toNat]!.m:=tM h2.1 hmv0;have hmem:=aI hlt';have hbd:=hs.bd _ hmem;have hkt:=wg hlm;have hkl:=CR s.m.moves (i+1);rw[←hgm] at hkt;rw[hdr] at hmv hK;have hmv2:dN S.shard S.flows (bK S.cat) (s.m.at (aR S)) W (s.moves[(i:Int).toNat]!.m::s.m.moves.drop (i+1))=if(dq S.shard S.flows (bK S.cat) (s.m.at (aR S)) W s.moves[(i:Int).toNat]!.m).1=0 then dN S.shard S.flows (bK S.cat) (s.m.at (aR S)) (dq S.shard S.flows (bK S.cat) (s.m.at (aR S)) W s.moves[(i:Int).toNat]!.m).2 (s.m.moves.drop (i+1)) else((dq S.shard S.flows (bK S.cat) (s.m.at (aR S)) W s.moves[(i:Int).toNat]!.m).1,W):=rfl;rw[hmv2] at hmv;clear hmv2;have hK2:=fun a j=>lv a j [s.moves[(i:Int).toNat]!.m] (s.m.moves.drop (i+1));have hmA2:=zH (mix:=bK S.cat) (s:=s.m.at (aR S)) hsh1 hA hmA ac;have hmL:=fun he=>tZ (mix:=bK S.cat) (s:=s.m.at (aR S)) hA.g hmA.g he
 have h20:(W.stk s.moves[(i:Int).toNat]!.m.frm s.moves[(i:Int).toNat]!.m.item).length<20:=by
  have:=hK s.moves[(i:Int).toNat]!.m.frm s.moves[(i:Int).toNat]!.m.item
  omega
 have hst0:=By (fl:=S.flows) (sh:=S.shard) (mix:=bK S.cat) (s:=s.m.at (aR S)) (W:=W) (m:=s.moves[(i:Int).toNat]!.m);have hst1:=Dt (fl:=S.flows) (sh:=S.shard) (mix:=bK S.cat) (s:=s.m.at (aR S)) (W:=W) (m:=s.moves[(i:Int).toNat]!.m);have hst2:=Ds (fl:=S.flows) (sh:=S.shard) (mix:=bK S.cat) (s:=s.m.at (aR S)) (W:=W) (m:=s.moves[(i:Int).toNat]!.m);have hsG:=fun he a j=>wz (mix:=bK S.cat) (s:=s.m.at (aR S)) hA.g hmA.g ac he a j;have hia:=Df (sh:=S.shard) (nf:=S.flows.length) (mix:=bK S.cat) (W:=W) hmA (S.flows++W.flows);refine G.ent (L':=isl an 3 s.moves[(i:Int).toNat]!.pad s.moves[(i:Int).toNat]!.m.parts::bkL b S.shard y (osl (encZ .i64) 1 tInt iad icap W.sunk::obj b3 bh (aJ s)::stM s::stP s::L)) ((Ent.at (A:=stP s) (pH hlt')).trans (by simp only[bkL,bJ];exact ag)) ?_;simp only[bkL,bJ];repeat first|refine aa ?_|intro _|refine co ?_
 refine GPW.evP (Ev.m8 rfl rfl ac ac) ae ?_;repeat first|refine aa ?_|intro _|refine co ?_
 refine GPW.evP (Ev.m8 rfl rfl ac ac) ae ?_;repeat first|refine aa ?_|intro _|refine co ?_
 have hfid:S.shard*4294967296+(y.flows.length:Int)=cN S.shard S.flows.length W:=by unfold cN;omega
 have hsid:S.shard*4294967296+y.count=aR S:=by unfold aR;rw[hyc]
 rw[hfid,hsid];rename_i b7 b8;generalize s.moves[(i:Int).toNat]! = m at *;refine GO.ent (L':=isl an 3 m.pad m.m.parts::bkL b S.shard y (obj b8 bz [ab (cN S.shard S.flows.length W),ab (aR S),ab s.kind,ab s.tick,ab s.actor,ab m.m.frm,ab m.m.to,ab m.m.item,ab m.m.n,.slice none 0 0,.slice none 0 0]::obj b7 tMv (aM m)::osl (encZ .i64) 1 tInt iad icap W.sunk::obj b3 bh (aJ s)::stM s::stP s::L)) (by simp only[bkL,bJ];exact ag) ?_;refine GO.ef (Ef.d7 (xl b S hS.g.shard (k+mvK (s.m.moves.take i)) y W ac hB hA (s.m.at (aR S)) m hmA ac hmv0.1 hbd h20) rfl) ae ?_;rintro _ _ (⟨he,pad,pcap,x',rfl,hB',rfl⟩|⟨he,ad,n,c,rfl,rfl⟩)
 case inr =>
  have e3:gTry S s.m=(gErr S.shard (S.flows++W.flows) (s.m.at (aR S)) W m.m,W):=by rw[e,hmv,hst2 he,if_neg he]
  rw[e3];generalize gErr S.shard (S.flows++W.flows) (s.m.at (aR S)) W m.m=er at *;repeat first|refine aa ?_|intro _|refine co ?_
  exact KX.d7 ai ag ⟨rfl,.inr ⟨he,rfl⟩⟩
 have hn:=hmA.g.n;have hsl2:∀z∈gStk (bK S.cat) W m.m m.m.to m.m.item,LotOk z:=(hsG he _ _).lots;have hsll:=(hsG he m.m.to m.m.item).len;have htt:=hA.g.tot m.m.item;simp only[bkL,bJ];repeat first|((fail_if_success (with_reducible refine G.e7 14 ?_));(with_reducible apply G.seq))|refine bB ?_|intro _|refine co ?_
 refine G.d9 (α:=OA×Nat) (fun _=>True) (fun _=>[(0,au b),(3,au b3),(5,.slice iad W.sunk.length icap),(7,au b7),(8,au b8),(21,.slice s.mad s.moves.length s.mcap),(22,ab s.moves.length),(23,ab (i:Int))]) (fun z=>isl an 3 pad (gPts (bK S.cat) (s.m.at (aR S)) W m.m)::isl (encZ .i64) 1 z.1 (du (s.m.at (aR S)) W m.m)::bkL b S.shard x' (obj b8 bz [ab (cN S.shard S.flows.length W),ab (aR S),ab s.kind,ab s.tick,ab s.actor,ab m.m.frm,ab m.m.to,ab m.m.item,ab m.m.n,.slice pad (gPts (bK S.cat) (s.m.at (aR S)) W m.m).length pcap,.slice z.1 (du (s.m.at (aR S)) W m.m).length z.2]::obj b7 tMv (aM m)::osl (encZ .i64) 1 tInt iad icap W.sunk::obj b3 bh (aJ s)::stM s::stP s::L)) ?_ ?_
 ·by_cases hq:m.m.frm=0∧(s.kind=4∨s.kind=10)
  ·have em:(du (s.m.at (aR S)) W m.m)=W.sunk:=if_pos hq;rw[em];obtain⟨h0,hq⟩:=hq;by_cases h4:s.kind=4
   ·repeat first|refine aa ?_|intro _|refine co ?_
    refine GO.ef (Ef.d7 (jV iad W.sunk.length icap W.sunk rfl ac) rfl) ae ?_;rintro _ _⟨mad,mcap,rfl,rfl⟩;repeat first|refine aa ?_|intro _|refine co ?_
    exact⟨(mad,mcap),trivial,aj,(Ent.frz mad).trans (by simp only[bkL,bJ];exact ag)⟩
   ·have h10:s.kind=10:=hq.resolve_left h4;repeat first|refine aa ?_|intro _|refine co ?_
    refine GO.ef (Ef.d7 (jV iad W.sunk.length icap W.sunk rfl ac) rfl) ae ?_;rintro _ _⟨mad,mcap,rfl,rfl⟩;repeat first|refine aa ?_|intro _|refine co ?_
    exact⟨(mad,mcap),trivial,aj,(Ent.frz mad).trans (by simp only[bkL,bJ];exact ag)⟩
  ·have em:(du (s.m.at (aR S)) W m.m)=[]:=if_neg hq;rw[em];by_cases h0:m.m.frm=0
   ·have h4:¬s.kind=4:=fun q=>hq ⟨h0,.inl q⟩;have h10:¬s.kind=10:=fun q=>hq ⟨h0,.inr q⟩;repeat first|refine aa ?_|intro _|refine co ?_
    refine⟨(none,0),trivial,aj,?_⟩;refine Ent.trans ?_ (Ent.d7 (Ent.e9 (encZ .i64) 1 none));simp only[bkL,bJ];exact ag
   ·repeat first|refine aa ?_|intro _|refine co ?_
    refine⟨(none,0),trivial,aj,?_⟩;refine Ent.trans ?_ (Ent.d7 (Ent.e9 (encZ .i64) 1 none));simp only[bkL,bJ];exact ag
 rintro⟨mad,mcap⟩ _;simp only[bkL,bJ];refine G.d9 (α:=OA×Nat) (fun _=>True) (fun z=>[(0,au b),(3,au b3),(5,.slice z.1 (if m.m.to=0 then W.sunk++[cN S.shard S.flows.length W] else W.sunk).length z.2),(7,au b7),(8,au b8),(21,.slice s.mad s.moves.length s.mcap),(22,ab s.moves.length),(23,ab (i:Int))]) (fun z=>isl an 3 pad (gPts (bK S.cat) (s.m.at (aR S)) W m.m)::isl (encZ .i64) 1 mad (du (s.m.at (aR S)) W m.m)::bkL b S.shard x' (obj b8 bz [ab (cN S.shard S.flows.length W),ab (aR S),ab s.kind,ab s.tick,ab s.actor,ab m.m.frm,ab m.m.to,ab m.m.item,ab m.m.n,.slice pad (gPts (bK S.cat) (s.m.at (aR S)) W m.m).length pcap,.slice mad (du (s.m.at (aR S)) W m.m).length mcap]::obj b7 tMv (aM m)::osl (encZ .i64) 1 tInt z.1 z.2 (if m.m.to=0 then W.sunk++[cN S.shard S.flows.length W] else W.sunk)::obj b3 bh (aJ s)::stM s::stP s::L)) ?_ ?_
 ·by_cases h0:m.m.to=0
  ·rw[if_pos h0];repeat first|refine aa ?_|intro _|refine co ?_
   refine GO.ef (Ef.d8 (enc:=encZ .i64) (e:=cN S.shard S.flows.length W) rfl rfl rfl rfl rfl (by rfl) (mj _ _) ac ac) ae ?_;rintro _ _⟨iad2,icap2,rfl,rfl⟩;repeat first|refine aa ?_|intro _|refine co ?_
   exact⟨(iad2,icap2),trivial,aj,by simp only[bkL,bJ];exact ag⟩
  ·rw[if_neg h0];repeat first|refine aa ?_|intro _|refine co ?_
   exact⟨(iad,icap),trivial,aj,by simp only[bkL,bJ];exact ag⟩
 rintro⟨iad2,icap2⟩ _;simp only[bkL,bJ];repeat first|refine aa ?_|intro _|refine co ?_
 refine GO.ent (L':=isl an 3 pad (gPts (bK S.cat) (s.m.at (aR S)) W m.m)::isl (encZ .i64) 1 mad (du (s.m.at (aR S)) W m.m)::bkL b S.shard x' (obj b8 bz [ab (cN S.shard S.flows.length W),ab (aR S),ab s.kind,ab s.tick,ab s.actor,ab m.m.frm,ab m.m.to,ab m.m.item,ab m.m.n,.slice pad (gPts (bK S.cat) (s.m.at (aR S)) W m.m).length pcap,.slice mad (du (s.m.at (aR S)) W m.m).length mcap]::obj b7 tMv (aM m)::osl (encZ .i64) 1 tInt iad2 icap2 (if m.m.to=0 then W.sunk++[cN S.shard S.flows.length W] else W.sunk)::obj b3 bh (aJ s)::stM s::stP s::L)) (by simp only[bkL,bJ];exact ag) ?_;refine GO.ef (Ef.d7 (zp b S x' (S.flows++W.flows) (fO (S.flows++W.flows)++iaOf (s.m.at (aR S)) m.m) (fu (S.flows++W.flows)++raOf (s.m.at (aR S)) m.m) (gStk (bK S.cat) W m.m) W.tot hB' (by rw[az];omega) ⟨⟨cN S.shard S.flows.length W,aR S,s.kind,s.tick,s.actor,m.m.frm,m.m.to,m.m.item,m.m.n,(gPts (bK S.cat) (s.m.at (aR S)) W m.m),(du (s.m.at (aR S)) W m.m)⟩,pad,pcap,mad,mcap⟩ hn (by dsimp only;omega) (by dsimp only;omega)) rfl) ae ?_;rintro _ _ (⟨hbad,rfl,rfl⟩|⟨hgood,rfl,x2,hB2,rfl⟩)
 ·have e3:gTry S s.m=(4,W):=by rw[e,hmv,hst1 he hbad,if_neg (fun q=>absurd (show(4:Int)=0 from q) ae)]
  rw[e3];repeat first|refine aa ?_|intro _|refine co ?_
  exact KX.d7 ai ag ⟨rfl,.inr ⟨fun q=>absurd q ac,rfl⟩⟩
 have hg:=hst0 he hsl2 hn.1 hgood;rw[hg] at hmv hmA2 hmL;rw[if_pos rfl] at hmv;have hmA3:=hmA2 rfl;have hmL3:=hmL rfl;clear hmA2 hmL hg hst0 hst1 hst2;simp only[bkL,bJ];repeat first|refine aa ?_|intro _|refine co ?_
 refine⟨(i+1,x2,⟨if m.m.to=0 then gStk (bK S.cat) W m.m else upd2 (gStk (bK S.cat) W m.m) m.m.to m.m.item (gStk (bK S.cat) W m.m m.m.to m.m.item++[(cN S.shard S.flows.length W,0,m.m.n)]),upd W.tot m.m.item (dd W m.m),W.flows++[fq S.shard S.flows.length (bK S.cat) (s.m.at (aR S)) W m.m],if m.m.to=0 then W.sunk++[cN S.shard S.flows.length W] else W.sunk⟩,iad2,icap2),⟨by dsimp only;omega,?_,?_,?_,fun a j=>?_,hmv⟩,by dsimp only;omega,?_,?_⟩
 ·dsimp only;unfold BkW;dsimp only;rw[←aH,hia.1,hia.2];exact hB2
 ·dsimp only;rw[hkt,←dH,←dH];exact hmA3
 ·dsimp only;rw[az,bC,hWl]
 ·have g1:=hK a j;have g2:=hK2 a j;have g3:=hmL3 a j;dsimp only at g3 ⊢;rw[show m.m::s.m.moves.drop (i+1)=[m.m]++s.m.moves.drop (i+1) from rfl] at g1;omega
 ·dsimp only;rw[aP i];exact aj
 ·exact ag
end Go.Proofs.YtommnllbflbdmaaGreatDoor
namespace Go.V
class TyIB (P:Program) (T:Nat) (ks:outParam (List Bool)):Prop where
 under:P.underlying T=some (.struct (P.fieldsOf T))
 free:P.stoodInHeld T=false
 guard:P.eqGuardType P.depth T=false
 flds : (P.fieldsOf T).toList.map (fun f => (f.name == "_", f.offset, P.underlying f.type)) = (List.range ks.length).map fun i => (false, i, some (if ks[i]! then TypeDesc.bool else .int .i64))
end Go.V
namespace Go.Proofs.YtommnllbflbdmaaGreatDoor
section
open Go.V
attribute [local irreducible] G GO GP GPW GPK Ev Ef EfR Ent CB GB V.Enters
theorem sY{α:Type}[Inhabited α]{xs ys:List α}(hl:xs.length=ys.length)(h:∀j,j<xs.length→xs[j]! = ys[j]!):xs=ys:=by
 refine dv hl (fun j h1 h2=>?_);have:=h j h1
 rwa [getElem!_of h1,getElem!_of h2] at this
abbrev yw:List Stp:=[.ev 0,.ev 1,.ev 2,.ev 3,.ev 4,.ev 5,.ev 6,.ev 7,.ev 8]
theorem gz{φ ψ:Prop}(k:ψ)(h:Hid ψ→φ:=by intro k;(with_reducible apply G.d8);first|refine G.d7 (N:=26) (id:=6) yw mixed ap (Hid.out k)):φ:=h ⟨k⟩
theorem BG{L:LH}(ad1 ad2:OA)(n1 n2 c1 c2:Nat)(xs ys:LL)[Rds L ad1 Lot an 3 xs][Rds L ad2 Lot an 3 ys](h1:n1=xs.length)(h2:n2=ys.length)(hl:ys.length≤1000000000) :
  Tri ah 105 #[.slice ad1 n1 c1,.slice ad2 n2 c2] L (fun v L'=>v=.bool (dB (xs=ys))∧L' = L):=by
 subst h1 h2;refine Tri.body (args:=[.slice ad1 xs.length c1,.slice ad2 ys.length c2]) 26 Kj Tryz.func105 rfl rfl rfl (by simp) ?_;by_cases he:xs.length=ys.length
 case neg =>
  repeat first|refine aa ?_|intro _|refine gz ?_
  exact KX.d7 ai (Ent.refl _) ⟨by rw[aF (fun q:xs=ys=>he (by rw[q]))];rfl,rfl⟩
 repeat first|refine aa ?_|intro _|refine gz ?_
 refine G.loop (α:=Nat) (fun i=>i≤xs.length∧∀j,j<i→xs[j]! = ys[j]!) (fun i=>[(0,.slice ad1 xs.length c1),(1,.slice ad2 ys.length c2),(11,.slice ad1 xs.length c1),(12,ab xs.length),(13,ab (i:Int))]) (fun _=>L) (fun i=>xs.length - i) 0 ⟨ao _,fun j h=>absurd h (cd j)⟩ aj (Ent.refl _) ?_;rintro i ⟨hi,hdo⟩;by_cases hlt:i<xs.length
 case neg =>
  have e:xs=ys:=sY he (fun j hj=>hdo j ac);repeat first|refine aa ?_|intro _|refine gz ?_
  exact KX.d7 ai (Ent.refl _) ⟨by rw[aU e];rfl,rfl⟩
 have hii:(i:Int).toNat=i:=aA i;have hx' : (i:Int).toNat<xs.length:=ac;have hy' : (i:Int).toNat<ys.length:=ac;have hno:¬xs[(i:Int).toNat]! = ys[(i:Int).toNat]!→dB (xs=ys)=false:=fun q=>aF (fun r=>q (by rw[r]))
 have hst:xs[(i:Int).toNat]! = ys[(i:Int).toNat]!→∀j,j<i+1→xs[j]! = ys[j]!:=fun q j hj=>by
  rcases cg j i with h|h
  ·exact hdo j h
  ·obtain rfl:j=i:=ac;rw[hii] at q;exact q
 repeat first|refine aa ?_|intro _|refine gz ?_
 obtain⟨x,hx⟩:∃x,xs[(i:Int).toNat]! = x:=⟨_,rfl⟩;obtain⟨y,hy⟩:∃y,ys[(i:Int).toNat]! = y:=⟨_,rfl⟩
 have hxy:x=y↔[x.1,x.2.1,x.2.2]=[y.1,y.2.1,y.2.2]:=by
  obtain⟨a,b,c⟩:=x;obtain⟨d,e,f⟩:=y;simp
 rw[hx,hy];rw[hx,hy] at hno hst;refine GPW.evP (Ev.o9 (xs:=[x.1,x.2.1,x.2.2]) (ys:=[y.1,y.2.1,y.2.2]) (cs:=an x) (ds:=an y) (hc:=⟨rfl⟩) (hd:=⟨rfl⟩) rfl rfl rfl rfl) ae ?_;by_cases q:x=y
 ·rw[aF (fun h:¬ [x.1,x.2.1,x.2.2]=[y.1,y.2.1,y.2.2]=>h (hxy.1 q))];repeat first|refine aa ?_|intro _|refine gz ?_
  refine⟨i+1,⟨ac,hst q⟩,ac,?_,Ent.refl _⟩;rw[aP i];exact aj
 ·rw[aU (show ¬ [x.1,x.2.1,x.2.2]=[y.1,y.2.1,y.2.2] from fun h=>q (hxy.2 h))];repeat first|refine aa ?_|intro _|refine gz ?_
  exact KX.d7 ai (Ent.refl _) ⟨by rw[hno q];rfl,rfl⟩
abbrev yv:List Stp:=[.ev 0,.ev 1,.ev 2,.ev 3,.ev 4,.ev 5,.ev 6,.ev 7,.ev 8]
theorem gT{φ ψ:Prop}(k:ψ)(h:Hid ψ→φ:=by intro k;(with_reducible apply G.d8);first|refine G.d7 (N:=26) (id:=6) yv mixed ap (Hid.out k)):φ:=h ⟨k⟩
theorem BH{L:LH}(ad1 ad2:OA)(n1 n2 c1 c2:Nat)(xs ys:List Int)[Rds L ad1 Int (encZ .i64) 1 xs][Rds L ad2 Int (encZ .i64) 1 ys](h1:n1=xs.length)(h2:n2=ys.length)(hl:ys.length≤1000000000) :
  Tri ah 106 #[.slice ad1 n1 c1,.slice ad2 n2 c2] L (fun v L'=>v=.bool (dB (xs=ys))∧L' = L):=by
 subst h1 h2;refine Tri.body (args:=[.slice ad1 xs.length c1,.slice ad2 ys.length c2]) 26 Ki Tryz.func106 rfl rfl rfl (by simp) ?_;by_cases he:xs.length=ys.length
 case neg =>
  repeat first|refine aa ?_|intro _|refine gT ?_
  exact KX.d7 ai (Ent.refl _) ⟨by rw[aF (fun q:xs=ys=>he (by rw[q]))];rfl,rfl⟩
 repeat first|refine aa ?_|intro _|refine gT ?_
 refine G.loop (α:=Nat) (fun i=>i≤xs.length∧∀j,j<i→xs[j]! = ys[j]!) (fun i=>[(0,.slice ad1 xs.length c1),(1,.slice ad2 ys.length c2),(11,.slice ad1 xs.length c1),(12,ab xs.length),(13,ab (i:Int))]) (fun _=>L) (fun i=>xs.length - i) 0 ⟨ao _,fun j h=>absurd h (cd j)⟩ aj (Ent.refl _) ?_;rintro i ⟨hi,hdo⟩;by_cases hlt:i<xs.length
 case neg =>
  have e:xs=ys:=sY he (fun j hj=>hdo j ac);repeat first|refine aa ?_|intro _|refine gT ?_
  exact KX.d7 ai (Ent.refl _) ⟨by rw[aU e];rfl,rfl⟩
 have hii:(i:Int).toNat=i:=aA i;have hx' : (i:Int).toNat<xs.length:=ac;have hy' : (i:Int).toNat<ys.length:=ac;have hno:¬xs[(i:Int).toNat]! = ys[(i:Int).toNat]!→dB (xs=ys)=false:=fun q=>aF (fun r=>q (by rw[r]))
 have hst:xs[(i:Int).toNat]! = ys[(i:Int).toNat]!→∀j,j<i+1→xs[j]! = ys[j]!:=fun q j hj=>by
  rcases cg j i with h|h
  ·exact hdo j h
  ·obtain rfl:j=i:=ac;rw[hii] at q;exact q
 by_cases q:xs[(i:Int).toNat]! = ys[(i:Int).toNat]!
 ·repeat first|refine aa ?_|intro _|refine gT ?_
  refine⟨i+1,⟨ac,hst q⟩,ac,?_,Ent.refl _⟩;rw[aP i];exact aj
 ·repeat first|refine aa ?_|intro _|refine gT ?_
  exact KX.d7 ai (Ent.refl _) ⟨by rw[hno q];rfl,rfl⟩
theorem ux{L:LH}(f g:FlV)[Rds L f.pad Lot an 3 f.m.parts][Rds L g.pad Lot an 3 g.m.parts][Rds L f.mad Int (encZ .i64) 1 f.m.made][Rds L g.mad Int (encZ .i64) 1 g.m.made](h1:g.m.parts.length≤1000000000)(h2:g.m.made.length≤1000000000) :
  Tri ah 48 #[.agg (aL f).toArray,.agg (aL g).toArray] L (fun v L'=>v=.bool (dB (f.m=g.m))∧L' = L):=by
 refine Tri.body (args:=[.agg (aL f).toArray,.agg (aL g).toArray]) 80 en48 Tryz.func48 rfl rfl rfl (by simp) ?_;have hno:∀{p:Prop},¬p→(f.m=g.m→p)→dB (f.m=g.m)=false:=fun h q=>aF (fun r=>h (q r));simp only[aL];simp only[List.append];by_cases c0:f.m.id=g.m.id
 case neg =>
  repeat first|refine aa ?_|intro
  exact KX.d7 ai ag ⟨by rw[hno c0 (fun q=>by rw[q])];rfl,rfl⟩
 by_cases c1:f.m.step=g.m.step
 case neg =>
  repeat first|refine aa ?_|intro
  exact KX.d7 ai ag ⟨by rw[hno c1 (fun q=>by rw[q])];rfl,rfl⟩
 by_cases c2:f.m.kind=g.m.kind
 case neg =>
  repeat first|refine aa ?_|intro
  exact KX.d7 ai ag ⟨by rw[hno c2 (fun q=>by rw[q])];rfl,rfl⟩
 by_cases c3:f.m.tick=g.m.tick
 case neg =>
  repeat first|refine aa ?_|intro
  exact KX.d7 ai ag ⟨by rw[hno c3 (fun q=>by rw[q])];rfl,rfl⟩
 by_cases c4:f.m.actor=g.m.actor
 case neg =>
  repeat first|refine aa ?_|intro
  exact KX.d7 ai ag ⟨by rw[hno c4 (fun q=>by rw[q])];rfl,rfl⟩
 by_cases c5:f.m.frm=g.m.frm
 case neg =>
  repeat first|refine aa ?_|intro
  exact KX.d7 ai ag ⟨by rw[hno c5 (fun q=>by rw[q])];rfl,rfl⟩
 by_cases c6:f.m.to=g.m.to
 case neg =>
  repeat first|refine aa ?_|intro
  exact KX.d7 ai ag ⟨by rw[hno c6 (fun q=>by rw[q])];rfl,rfl⟩
 by_cases c7:f.m.item=g.m.item
 case neg =>
  repeat first|refine aa ?_|intro
  exact KX.d7 ai ag ⟨by rw[hno c7 (fun q=>by rw[q])];rfl,rfl⟩
 by_cases c8:f.m.n=g.m.n
 case neg =>
  repeat first|refine aa ?_|intro
  exact KX.d7 ai ag ⟨by rw[hno c8 (fun q=>by rw[q])];rfl,rfl⟩
 repeat first|refine aa ?_|intro
 refine GO.ef (Ef.d7 (BG f.pad g.pad f.m.parts.length g.m.parts.length f.pcap g.pcap f.m.parts g.m.parts rfl rfl h1) rfl) ae ?_;rintro _ _⟨rfl,rfl⟩;by_cases c9:f.m.parts=g.m.parts
 case neg =>
  rw[aF c9];repeat first|refine aa ?_|intro
  exact KX.d7 ai ag ⟨by rw[hno c9 (fun q=>by rw[q])];rfl,rfl⟩
 rw[aU c9];repeat first|refine aa ?_|intro
 refine GO.ef (Ef.d7 (BH f.mad g.mad f.m.made.length g.m.made.length f.mcap g.mcap f.m.made g.m.made rfl rfl h2) rfl) ae ?_;rintro _ _⟨rfl,rfl⟩;repeat first|refine aa ?_|intro
 refine KX.d7 ai ag ⟨?_,rfl⟩;by_cases ca:f.m.made=g.m.made
 ·have e:f.m=g.m:=by
   obtain⟨⟨i1,i2,i3,i4,i5,i6,i7,i8,i9,ia,ib⟩,_⟩:=f;obtain⟨⟨j1,j2,j3,j4,j5,j6,j7,j8,j9,ja,jb⟩,_⟩:=g;dsimp only at c0 c1 c2 c3 c4 c5 c6 c7 c8 c9 ca;rw[c0,c1,c2,c3,c4,c5,c6,c7,c8,c9,ca]
  rw[aU ca,aU e];rfl
 ·rw[aF ca,hno ca (fun q=>by rw[q])];rfl
theorem DE{L:LH}(ad1 ad2:OA)(n1 n2 c1 c2:Nat)(fs gs:List FlV)[Rds L ad1 FlV aL 11 fs][Rds L ad2 FlV aL 11 gs](h1:n1=fs.length)(h2:n2=gs.length)(hl:gs.length≤1000000000)(hp:∀f∈gs,f.m.parts.length≤1000000000∧f.m.made.length≤1000000000)(hA:∀f∈fs,Ent L (flP f::L))(hB:∀f∈gs,Ent L (flP f::L)) :
  Tri ah 47 #[.slice ad1 n1 c1,.slice ad2 n2 c2,.func (.func 48) #[] #[]] L (fun v L'=>v=.bool (dB (fs.map FlV.m=gs.map FlV.m))∧L' = L):=by
 subst h1 h2;refine Tri.body (args:=[.slice ad1 fs.length c1,.slice ad2 gs.length c2,.func (.func 48) #[] #[]]) 32 en47 Tryz.func47 rfl rfl rfl (by simp) ?_;by_cases he:fs.length=gs.length
 case neg =>
  repeat first|refine aa ?_|intro
  exact KX.d7 ai (Ent.refl _) ⟨by rw[aF (fun q:fs.map FlV.m=gs.map FlV.m=>he (by simpa using congrArg List.length q))];rfl,rfl⟩
 repeat first|refine aa ?_|intro
 refine G.loop (α:=Nat) (fun i=>i≤fs.length∧∀j,j<i→fs[j]!.m=gs[j]!.m) (fun i=>[(0,.slice ad1 fs.length c1),(1,.slice ad2 gs.length c2),(2,.func (.func 48) #[] #[]),(15,.slice ad1 fs.length c1),(16,ab fs.length),(17,ab (i:Int))]) (fun _=>L) (fun i=>fs.length - i) 0 ⟨ao _,fun j h=>absurd h (cd j)⟩ aj (Ent.refl _) ?_;rintro i ⟨hi,hdo⟩;by_cases hlt:i<fs.length
 case neg =>
  have e:fs.map FlV.m=gs.map FlV.m:=sY (by simpa using he) (fun j hj=>by
   rw[aG] at hj;rw[eo FlV.m hj,eo FlV.m ac];exact hdo j ac)
  repeat first|refine aa ?_|intro
  exact KX.d7 ai (Ent.refl _) ⟨by rw[aU e];rfl,rfl⟩
 have hii:(i:Int).toNat=i:=aA i;have hx' : (i:Int).toNat<fs.length:=ac;have hy' : (i:Int).toNat<gs.length:=ac
 have hno:¬fs[(i:Int).toNat]!.m=gs[(i:Int).toNat]!.m→dB (fs.map FlV.m=gs.map FlV.m)=false:=fun q=>aF (fun r=>q (by
  rw[←eo FlV.m hx',←eo FlV.m hy',r]))
 have hp1:=hp _ (aI hy')
 have hst:fs[(i:Int).toNat]!.m=gs[(i:Int).toNat]!.m→∀j,j<i+1→fs[j]!.m=gs[j]!.m:=fun q j hj=>by
  rcases cg j i with h|h
  ·exact hdo j h
  ·obtain rfl:j=i:=ac;rw[hii] at q;exact q
 refine G.ent (L':=isl an 3 fs[(i:Int).toNat]!.pad fs[(i:Int).toNat]!.m.parts::isl (encZ .i64) 1 fs[(i:Int).toNat]!.mad fs[(i:Int).toNat]!.m.made::isl an 3 gs[(i:Int).toNat]!.pad gs[(i:Int).toNat]!.m.parts::isl (encZ .i64) 1 gs[(i:Int).toNat]!.mad gs[(i:Int).toNat]!.m.made::L) ?_ ?_
 ·refine(hA _ (aI hx')).trans (Ent.andE.trans ?_);refine Ent.trans (Ent.d7 (Ent.d7 ((hB _ (aI hy')).trans Ent.andE))) ?_;exact ag
 repeat first|refine aa ?_|intro
 refine GO.ef (Ef.d9 rfl rfl (ux fs[(i:Int).toNat]! gs[(i:Int).toNat]! hp1.1 hp1.2)) ae ?_;rintro _ _⟨rfl,rfl⟩;by_cases q:fs[(i:Int).toNat]!.m=gs[(i:Int).toNat]!.m
 ·rw[aU q];repeat first|refine aa ?_|intro
  refine⟨i+1,⟨ac,hst q⟩,ac,?_,by exact ag⟩;rw[aP i];exact aj
 ·rw[aF q];repeat first|refine aa ?_|intro
  exact KX.d7 ai ag ⟨by rw[hno q];rfl,rfl⟩
abbrev tFnd:Nat:=46
abbrev Fd:=Int×Int×Int
def dT(x:Fd):LV:=[ab x.1,ab x.2.1,ab x.2.2]
theorem mH(t:Fd):∀u∈dT t,u.oneCell' = true:=by simp[dT,Value.oneCell']
instance:EncC dT:=⟨mH⟩
def pnc(x:Fd):List PanicEntry:=[{ v:=.iface tFnd (.agg (dT x).toArray),recovered:=false }]
set_option maxRecDepth 20000 in
theorem BR{L R:LH}{θ:Th}{w:World}(b:Nat)(x:Fd)(s:Sat θ ((obj b tFnd (dT x)::L)++R) w) :
  CallsD ah 100 #[au b] .returning w (fun e u' w'=>e=.returned (.tuple #[])∧u' = .returning∧Sat θ ((obj b tFnd (dT x)::L)++R) w'):=by
 refine callsD_of_wpS Tryz.func100 rfl fun c₀ cs hu=>?_;have i:=AtD.mk (L:=obj b tFnd (dT x)::L) (R:=R) (D:=[]) (EnvOk.d7 (N:=10) (fn:=Tryz.f100) (args:=[au b]) rfl (by simp)) rfl s;have hrec:recoverD (c₀::cs)=none:=by simp[recoverD,hu]
 refine wpS_seq (wpS_region ?_);show wpOpsS _ _ _ [0,1,2,3,4,5,6,7] _ _ _;refine DX rfl i hrec ae ?_;intro a1 w1 i;refine iS rfl i (Ev.B7 (z:=.agg #[ab 0,ab 0,ab 0]) ap rfl) ae ?_;intro a2 w2 i;refine iS rfl i (Ev.move rfl) ae ?_;intro a3 w3 i;refine iS rfl i (Ev.extract rfl rfl) ae ?_;intro a4 w4 i;refine iS rfl i (Ev.extract rfl rfl) ae ?_;intro a5 w5 i;refine vc rfl i Ef.alloc ae ?_;rintro _ _ a6 w6 ⟨b1,rfl,rfl⟩ i;refine sE rfl i (Ef.f9 (vs:=[ab 0,ab 0,ab 0]) rfl rfl (by rfl) (by rfl) (by simp[Value.oneCell'])) ?_;rintro _ _ a7 w7 rfl i;refine iS rfl i (Ev.assign rfl) ae ?_;intro a8 w8 i;show Code.wpS _ _ _ _ _ _;refine wpS_seq (wpS_region ?_);show wpOpsS _ _ _ [0] _ _ _;refine iS rfl i (Ev.move rfl) ae ?_;intro a9 w9 i;show Code.wpS _ _ _ _ _ _;refine wpS_cond (t:=false) (aO i.eok.agr rfl) ?_;refine wpS_of_wp (wp_skip ?_);exact⟨i.def_,.returning,by rw[←hu],.tuple #[],jB (rs:=[]) (vs:=[]) i.eok i.sat rfl ResOk.nil,rfl,rfl,Ent.sat ag i.sat⟩
set_option maxRecDepth 20000 in
theorem BS{L R:LH}{θ:Th}{w:World}(b:Nat)(x y:Fd)(s:Sat θ ((obj b tFnd (dT x)::L)++R) w) :
  CallsD ah 100 #[au b] (.panicking (pnc y)) w (fun e u' w'=>e=.returned (.tuple #[])∧settle u' = .returning∧Sat θ ((obj b tFnd (dT y)::L)++R) w'):=by
 refine callsD_of_wpS Tryz.func100 rfl fun c₀ cs hu=>?_;have i:=AtD.mk (L:=obj b tFnd (dT x)::L) (R:=R) (D:=[]) (EnvOk.d7 (N:=10) (fn:=Tryz.f100) (args:=[au b]) rfl (by simp)) rfl s;have hrec:recoverD (c₀::cs)=some (.iface tFnd (.agg (dT y).toArray),{ c₀ with mode:=.panicking [{ v:=.iface tFnd (.agg (dT y).toArray),recovered:=true }] }::cs):=by simp[recoverD,hu,pnc]
 refine wpS_seq (wpS_region ?_);show wpOpsS _ _ _ [0,1,2,3,4,5,6,7] _ _ _;refine Fo rfl i hrec ae ?_;intro a1 w1 i;refine iS rfl i (Ev.B8 rfl) ae ?_;intro a2 w2 i;refine iS rfl i (Ev.move rfl) ae ?_;intro a3 w3 i;refine iS rfl i (Ev.extract rfl rfl) ae ?_;intro a4 w4 i;refine iS rfl i (Ev.extract rfl rfl) ae ?_;intro a5 w5 i;refine vc rfl i Ef.alloc ae ?_;rintro _ _ a6 w6 ⟨b1,rfl,rfl⟩ i;refine sE rfl i (Ef.f9 (vs:=dT y) rfl rfl (by rfl) (by rfl) (mH y)) ?_;rintro _ _ a7 w7 rfl i;refine iS rfl i (Ev.assign rfl) ae ?_;intro a8 w8 i;show Code.wpS _ _ _ _ _ _;refine wpS_seq (wpS_region ?_);show wpOpsS _ _ _ [0] _ _ _;refine iS rfl i (Ev.move rfl) ae ?_;intro a9 w9 i;show Code.wpS _ _ _ _ _ _;refine wpS_cond (t:=true) (aO i.eok.agr rfl) ?_;refine wpS_region ?_;show wpOpsS _ _ _ [0,1] _ _ _;refine iS rfl i (Ev.d7 rfl (by rfl)) ae ?_;intro a10 w10 i;refine sE rfl i (Ef.f9 (vs:=dT y) rfl rfl (by rfl) (by rfl) (mH y)) ?_;rintro _ _ a11 w11 rfl i;exact⟨i.def_,_,rfl,.tuple #[],jB (rs:=[]) (vs:=[]) i.eok i.sat rfl ResOk.nil,rfl,rfl,Ent.sat ag i.sat⟩
set_option maxRecDepth 20000 in
theorem BQ{L:LH}(g:FuncId)(cap:LV)(pr:LH→Prop)(pp:Fd→LH→Prop)(h:TriE ah g cap.toArray L (fun _ L'=>pr L') (fun ch L'=>∃x,ch=pnc x∧pp x L')) :
  Tri ah 43 #[.func (.func g) #[] cap.toArray] L (fun v L'=>∃x:Fd,v=.agg (dT x).toArray∧((x=(0,0,0)∧pr L')∨pp x L')):=by
 refine⟨en43,fun θ R w s=>calls_of_wp_defers Tryz.func43 rfl ?_⟩;have i:=AtD.mk (L:=L) (R:=R) (D:=[]) (EnvOk.d7 (N:=7) (fn:=Tryz.f43) (args:=[Value.func (.func g) #[] cap.toArray]) rfl (by simp)) rfl s;refine wp_seq (wp_region_lit ?_);refine Cc i Ef.alloc ae ?_;rintro _ _ a1 w1 ⟨b,rfl,rfl⟩ i;show Code.wp _ _ _ _ _;refine wp_seq (wp_region_lit ?_);refine vd i (Ev.makeFunc rfl rfl) ae ?_;intro a2 w2 i;refine Cd i rfl ?_;intro a3 w3 i;show Code.wp _ _ _ _ _;refine wp_seq (wp_region_lit ?_);refine vd i (Ev.move rfl) ae ?_;intro a4 w4 i;have hinv:∀w,(invoke (.fn (.func 100) #[au b]) #[]).run ah w=.ok (.enter 100 #[au b]) w:=fun w=>(Ko).go _ _;refine Ce (R':=[obj b tFnd (dT (0,0,0))]) i h rfl (Ent.perm (dO _ L).symm) ae ?_ ?_
 ·intro v L' a5 w5 hpr i;have i:=i.ent (Ent.perm (dO _ L'));show Code.wp _ _ _ _ _;refine wp_seq (wp_region_lit ?_);refine vd i (Ev.build rfl rfl) ae ?_;intro a6 w6 i;refine Fp i (Ef.f9 (vs:=dT (0,0,0)) rfl rfl (by rfl) (by rfl) (mH _)) ?_;rintro _ _ a7 w7 rfl i;show Code.wp _ _ _ _ _;refine wp_ret ?_;show Leaves _ _ _ _ a7.defers .returning w7;rw[i.def_];refine leaves_cons (by simp) (hinv w7) (CallsD.mono (BR b (0,0,0) i.sat) ?_);rintro _ _ w8 ⟨rfl,rfl,s8⟩;exact⟨_,jB (rs:=[.cell 2 tFnd]) (vs:=[.agg (dT (0,0,0)).toArray]) i.eok s8 rfl (ResOk.cell rfl (by rfl) ResOk.nil),_,L',rfl,⟨(0,0,0),rfl,.inl ⟨rfl,hpr⟩⟩,Ent.sat ag s8⟩
 ·rintro ch L' w5 ⟨x,rfl,hpp⟩ i;have i:=i.ent (Ent.perm (dO _ L'));show Leaves _ _ _ _ a4.defers (.panicking (pnc x)) w5;rw[i.def_];refine leaves_cons (by simp) (hinv w5) (CallsD.mono (BS b (0,0,0) x i.sat) ?_);rintro _ u' w8 ⟨rfl,hu',s8⟩;show Leaves _ _ _ _ [] (settle u') w8;rw[hu'];exact⟨_,jB (rs:=[.cell 2 tFnd]) (vs:=[.agg (dT x).toArray]) i.eok s8 rfl (ResOk.cell rfl (by rfl) ResOk.nil),_,L',rfl,⟨x,rfl,.inr hpp⟩,Ent.sat ag s8⟩
