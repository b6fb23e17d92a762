/- Lemmas. -/
import Derived.Test.YtommnllbflbdmaaGreatDoorFce
import Derived.Test.YtommnllbflbdmaaGreatDoorFbx
set_option linter.all false
set_option maxHeartbeats 4000000
namespace Go.Proofs.YtommnllbflbdmaaGreatDoor
section
open Go.V
attribute [local irreducible] G GO GP GPW GPK GF GE Ev Ef EfR Ent CB GB V.Enters
structure WkFG (x:LedX) (z:ChG) (fl:List FlM) (W:Wk):Prop where
 stk:∀a i,(uOf z.stk x.stk (a,i)).lots=W.stk a i
 tot:∀i,(glk z.tot i).getD ((glk x.tot i).getD 0)=W.tot i
 flows:z.flows.map FlV.m=W.flows
 sunk:z.sunk=W.sunk
 imp:SetS (uOf z.imp x.imp) (ft (fl++W.flows))
 ret:SetS (uOf z.ret x.ret) (eV (fl++W.flows))
structure TkFG (x:LedX) (fl:List FlM) (W:Wk) (s:StM) (m:MvM) (mix:Int→Bool) (stk:List ((Int×Int)×Stk)) (imp ret:List (Int×Stk)):Prop where
 stk:∀a i,(uOf stk x.stk (a,i)).lots=gStk mix W m a i
 imp:SetS (uOf imp x.imp) (ft (fl++W.flows)++iaOf s m)
 ret:SetS (uOf ret x.ret) (eV (fl++W.flows)++raOf s m)
def IZ{sh:Int}{fl:List FlM}{s:StM}{W:Wk}{m:MvM}(h:¬m.frm=0):gErr sh fl s W m≠0↔lO (W.stk m.frm m.item) m:=by
 unfold gErr lO;rw[if_neg h];split
 ·split
  ·exact⟨fun _=>by assumption,fun _=>by decide⟩
  ·exact⟨fun q=>absurd rfl q,fun q=>by contradiction⟩
 ·split
  ·exact⟨fun q=>absurd rfl q,fun q=>by contradiction⟩
  ·exact⟨fun _=>by assumption,fun _=>by decide⟩
def GV{sh:Int}{fl:List FlM}{s:StM}{W:Wk}{m:MvM}(h:¬m.frm=0)(hb:lO (W.stk m.frm m.item) m):gErr sh fl s W m=10:=by
 unfold lO at hb;unfold gErr;rw[if_neg h];split
 ·rename_i hp;rw[if_pos hp] at hb;rw[if_pos hb]
 ·rename_i hp;rw[if_neg hp] at hb;rw[if_neg hb]
abbrev Aw:List Stp:=[.ev 0,.ev 1,.ev 3,.ev 4,.ef 2,.ef 5,.ev 6,.ev 7]
abbrev Av:List Stp:=[.ev 0,.ev 1,.ev 3,.ev 4,.ef 2,.ef 5,.ev 6,.ev 7]
def ap6{φ ψ:Prop}(k:ψ)(h:Hid ψ→φ:=by intro k;(repeat (first|refine aa ?_|intro zzz|refine G.dr 35 5 Aw ?_|refine G.dr 35 7 Av ?_));(repeat revert zzz);exact Hid.out k):φ:=h ⟨k⟩
def CA{L:LH}(b bc:Nat)(sh:Int)(x:LedX)(s:StV)(z:ChG)(m:MvV)(W:Wk)(fl:List FlM)(k:Nat)(b7:x.flows.map FlV.m=fl)(hW:WkFG x z fl W)(hA:WkA sh fl k W)(hm:MvA s.kind m.m)(hk:k+m.m.parts.length≤2000)(b8:0≤m.m.item∧m.m.item<x.cat.items.length)(hb:∀p∈m.m.parts,p.1≤9223372036854775807)(h9:s.kind=9→∀f∈W.flows,f.to≠0)(c0:0≤sh∧sh<12)(c8:x.flows.length≤8000000)(hT:∀mx,TakeC mx)(c3:x.cat.items.length≤64) :
  Tri ai 215 #[ay bc,aO (aL m)] (isl aj 3 m.pad m.m.parts::chgL b bc s z (ledL b sh x L)) (fun v L' =>
   (gErr sh (fl++W.flows) s.m W m.m≠0∧∃pd n c z',v=.tuple #[ah pd n c,ac (gErr sh (fl++W.flows) s.m W m.m)]∧L' = chgL b bc s z' (ledL b sh x L)) ∨
   (gErr sh (fl++W.flows) s.m W m.m=0∧∃pad pcap b0 a1 a3,v=.tuple #[ah pad (gPts (bN x) s.m W m.m).length pcap,ac 0]∧TkFG x fl W s.m m.m (bN x) b0 a1 a3 ∧
    L' = isl aj 3 pad (gPts (bN x) s.m W m.m)::chgL b bc s { z with stk:=b0,imp:=a1,ret:=a3 } (ledL b sh x L))):=by
 have a4:=hm.g.lots;have c4:=hA.il;have c5:=hA.rl;have b2:=vz hA.fa;have b6:=vh hA.fa
 have c2:∀f∈x.flows,f.m.n≤9223372036854775807:=fun f hf=>by
  have h1:f.m∈fl:=by rw[←b7];exact alStd0List_mem_map_of_mem hf
  obtain⟨j,hj,e⟩:=List.mem_iff_getElem.1 h1;have h2:=(hA.fn j (by rw[aq];omega)).2.2;rw[getElem!_of (by rw[aq];omega),List.getElem_append_left hj,e] at h2;omega
 have a6:=hW.stk m.m.frm m.m.item;obtain⟨⟨frm,to,item,mn,parts⟩,a2,a0⟩:=m;have b4:=hm.g.n;dsimp only at hm hk b8 hb a4 a6 b4 ⊢;refine Tri.bd (args:=[ay bc,aO (aL ⟨⟨frm,to,item,mn,parts⟩,a2,a0⟩)]) ?_;by_cases h0:frm=0
 ·subst h0;have a7:gStk (bN x) W ⟨0,to,item,mn,parts⟩=W.stk:=by unfold gStk;rw[if_pos rfl]
  have eS:s.m.kind=s.kind:=rfl;by_cases h5:s.kind=5
  ·have eE:gErr sh (fl++W.flows) s.m W ⟨0,to,item,mn,parts⟩=arrG sh (fl++W.flows) parts:=by unfold gErr;rw[if_pos rfl,if_pos (show s.m.kind=5 from h5)]
   have eP:gPts (bN x) s.m W ⟨0,to,item,mn,parts⟩=parts:=by unfold gPts;rw[if_pos rfl,if_pos (.inl h5)]
   have eI:iaOf s.m ⟨0,to,item,mn,parts⟩=parts:=if_pos h5;have eR:raOf s.m ⟨0,to,item,mn,parts⟩=[]:=if_neg ab;have b5:=hm.st (.inl h5);have b1:∀a1,SetS (uOf a1 x.imp) (ft (fl++W.flows)++parts)→TkFG x fl W s.m ⟨0,to,item,mn,parts⟩ (bN x) z.stk a1 z.ret:=fun a1 hi=>⟨fun a i=>by rw[a7];exact hW.stk a i,by rw[eI];exact hi,by rw[eR,aR];exact hW.ret⟩;rw[eE,eP,←BY hA.fa a4 b5.2.1];simp only[chgL,ledL,aL];refine ap6 ?_;intros;rename_i b3;refine GPW.ca (hM a2 parts.length a0 parts rfl ab) ?_;rintro _ _⟨a5,c1,rfl,rfl⟩;refine ap6 ?_;intros;refine GPW.ent (L':=chgL b bc s z (ledL b sh x (isl aj 3 a2 parts::osl aj 3 tLot a5 c1 parts::obj b3 tMv [ac 0,ac to,ac item,ac mn,ah a2 parts.length a0]::L))) (by simp only[chgL,ledL];exact ag) ?_;refine GPW.ca (EG b bc sh x s z (ft (fl++W.flows)) hW.imp ab b2 ⟨⟨0,to,item,mn,parts⟩,a2,a0⟩ a4 hb fi) ?_;rintro _ _⟨a1,rfl,a9,rfl⟩;dsimp only at a9 ⊢;simp only[chgL,ledL];by_cases he:impG sh parts (ft (fl++W.flows))=0
   ·rw[he];refine ap6 ?_;intros;refine KX.d7 an ?_ (.inr ⟨rfl,a5,c1,z.stk,a1,z.ret,rfl,b1 a1 (a9 he),rfl⟩);refine(Ent.frz a5).trans ?_;exact ag
   ·refine ap6 ?_;intros;exact KX.d7 an (by simp only[chgL,ledL];exact ag) (.inl ⟨he,a5,parts.length,c1,{ z with imp:=a1 },rfl,rfl⟩)
  by_cases a8:s.kind=9
  ·have eE:gErr sh (fl++W.flows) s.m W ⟨0,to,item,mn,parts⟩=revG (fl++W.flows) item parts:=by unfold gErr;rw[if_pos rfl,if_neg (show ¬s.m.kind=5 from h5),if_pos (show s.m.kind=9 from a8)]
   have eP:gPts (bN x) s.m W ⟨0,to,item,mn,parts⟩=parts:=by unfold gPts;rw[if_pos rfl,if_pos (.inr a8)]
   have eI:iaOf s.m ⟨0,to,item,mn,parts⟩=[]:=if_neg h5;have eR:raOf s.m ⟨0,to,item,mn,parts⟩=parts:=if_pos ⟨a8,rfl⟩;have b5:=hm.st (.inr (.inr a8));have b1:∀a3,SetS (uOf a3 x.ret) (eV (fl++W.flows)++parts)→TkFG x fl W s.m ⟨0,to,item,mn,parts⟩ (bN x) z.stk z.imp a3:=fun a3 hi=>⟨fun a i=>by rw[a7];exact hW.stk a i,by rw[eI,aR];exact hW.imp,by rw[eR];exact hi⟩;rw[eE,eP,←BO c0.1 hA.fa hA.fn item a4 b5.2.1,xp (h9 a8)];simp only[chgL,ledL,aL];refine ap6 ?_;intros;rename_i b3;refine GPW.ca (hM a2 parts.length a0 parts rfl ab) ?_;rintro _ _⟨a5,c1,rfl,rfl⟩;refine ap6 ?_;intros;refine GPW.ent (L':=chgL b bc s z (ledL b sh x (isl aj 3 a2 parts::osl aj 3 tLot a5 c1 parts::obj b3 tMv [ac 0,ac to,ac item,ac mn,ah a2 parts.length a0]::L))) (by simp only[chgL,ledL];exact ag) ?_;refine GPW.ca (xq b bc sh x s z (eV (fl++W.flows)) hW.ret ab b6 ⟨⟨0,to,item,mn,parts⟩,a2,a0⟩ a4 hb fi c0 ab c2) ?_;rw[b7];rintro _ _⟨a3,rfl,a9,rfl⟩;dsimp only at a9 ⊢;simp only[chgL,ledL];by_cases he:retG sh fl item parts (eV (fl++W.flows))=0
   ·rw[he];refine ap6 ?_;intros;refine KX.d7 an ?_ (.inr ⟨rfl,a5,c1,z.stk,z.imp,a3,rfl,b1 a3 (a9 he),rfl⟩);refine(Ent.frz a5).trans ?_;exact ag
   ·refine ap6 ?_;intros;exact KX.d7 an (by simp only[chgL,ledL];exact ag) (.inl ⟨he,a5,parts.length,c1,{ z with ret:=a3 },rfl,rfl⟩)
  have eE:gErr sh (fl++W.flows) s.m W ⟨0,to,item,mn,parts⟩=0:=by unfold gErr;rw[if_pos rfl,if_neg (show ¬s.m.kind=5 from h5),if_neg (show ¬s.m.kind=9 from a8)]
  have eP:gPts (bN x) s.m W ⟨0,to,item,mn,parts⟩=[]:=by unfold gPts;rw[if_pos rfl,if_neg ab]
  have eI:iaOf s.m ⟨0,to,item,mn,parts⟩=[]:=if_neg h5;have eR:raOf s.m ⟨0,to,item,mn,parts⟩=[]:=if_neg ab;simp only[chgL,ledL,aL];rw[eE,eP];refine ap6 ?_;intros;refine KX.d7 an ?_ (.inr ⟨rfl,none,0,z.stk,z.imp,z.ret,rfl,⟨fun a i=>by rw[a7];exact hW.stk a i,by rw[eI,aR];exact hW.imp,by rw[eR,aR];exact hW.ret⟩,rfl⟩);refine Ent.trans ?_ (Ent.e8 aj 3 none);exact ag
 have eI:iaOf s.m ⟨frm,to,item,mn,parts⟩=[]:=if_neg (fun q=>h0 (hm.imp q));have eR:raOf s.m ⟨frm,to,item,mn,parts⟩=[]:=if_neg (fun q=>h0 q.2);have hG:=hA.g.stk frm item;have c7:=hG.len
 have b9:dQ parts∧Apart parts:=by
  rcases hm.g.parts with q|q
  ·dsimp only at q;rw[q];exact⟨⟨(fun x hx=>by cases hx),by decide⟩,List.Pairwise.nil⟩
  ·exact⟨q.1,(partsA_iff.2 q).2.1⟩
 refine ap6 ?_;intros;refine GO.ent Ent.drop ?_;refine GO.ca (uo b bc sh x s z ⟨⟨frm,to,item,mn,parts⟩,a2,a0⟩ ⟨b8,⟨by have:=b4.1;dsimp only;omega,b4.2⟩,b9.1,b9.2,by rw[a6];exact⟨hG.lots,ab⟩,by rw[a6];exact hG.apt⟩ (hT _) c3) ?_;dsimp only;rw[a6];rintro _ _ (⟨h1,rfl,rfl⟩|⟨h1,pad,pcap,sk,rfl,c6,rfl⟩)
 ·have e:=GV (sh:=sh) (fl:=fl++W.flows) (s:=s.m) (W:=W) (m:=⟨frm,to,item,mn,parts⟩) h0 h1;rw[e];refine ap6 ?_;intros;exact KX.d7 an (Ent.refl _) (.inl ⟨by decide,none,0,0,z,rfl,rfl⟩)
 ·have eE:gErr sh (fl++W.flows) s.m W ⟨frm,to,item,mn,parts⟩=0:=Classical.byContradiction fun q=>h1 ((IZ h0).1 q);have eP:gPts (bN x) s.m W ⟨frm,to,item,mn,parts⟩=sU (bN x item) (W.stk frm item) ⟨frm,to,item,mn,parts⟩:=by unfold gPts;rw[if_neg h0];rfl
  rw[eE,eP];refine ap6 ?_;intros;refine KX.d7 an (Ent.refl _) (.inr ⟨rfl,pad,pcap,gins z.stk (frm,item) sk,z.imp,z.ret,rfl,⟨?_,by rw[eI,aR];exact hW.imp,by rw[eR,aR];exact hW.ret⟩,rfl⟩);intro a i;rw[kJ];unfold gStk upd2;rw[if_neg h0];by_cases hq:a=frm∧i=item
  ·obtain⟨rfl,rfl⟩:=hq;rw[if_pos rfl,if_pos ⟨rfl,rfl⟩,c6];rfl
  ·rw[if_neg (fun h=>hq (by simpa using h)),if_neg hq];exact hW.stk a i
abbrev Au:=aH2 [.ev 10,.ev 11]
abbrev As:=aH2 [.ev 10]
abbrev xJ:=aH0 [.ev 6,.ef 7]
abbrev xI:=aH4 [.ev 17,.ev 18,.ev 19,.ev 20,.ev 21,.ev 22,.ev 23,.ev 24,.ev 25,.ev 26,.ev 27,.ev 28,.ev 29,.ev 30,.ev 31,.ev 32,.ev 33,.ev 34,.ev 35,.ev 36,.ev 37,.ev 38,.ev 39,.ev 40,.ev 41,.ev 42,.ev 43,.ev 44,.ev 45,.ev 46,.ev 47,.ev 48,.ev 49,.ev 50,.ev 51,.ev 52,.ef 53,.ef 54]
abbrev xH:=aH0 [.ef 6,.ef 7,.ev 8,.ev 9,.ef 10]
abbrev xG:=aH0 [.ev 6,.ef 7,.ef 8,.ev 9,.ev 10,.ef 11]
abbrev xF:=aH3 [.ev 13,.ev 14,.ef 15,.ef 16]
def cl{φ ψ:Prop}(k:ψ)(h:Hid ψ→φ:=by intro k;(with_reducible apply G.d7);first|refine G.dr 186 4 Au (Hid.out k)|refine G.dr 186 6 As (Hid.out k)|refine G.dr 186 13 xJ (Hid.out k)|refine G.dr 186 14 xI (Hid.out k)|refine G.dr 186 17 xH (Hid.out k)|refine G.dr 186 19 xG (Hid.out k)|refine G.dr 186 24 xF (Hid.out k)):φ:=h ⟨k⟩
def aq8{φ ψ:Prop}(k:ψ)(h:Hid ψ→φ:=by intro k;(repeat (first|refine aa ?_|intro zzz|refine cl ?_));(repeat revert zzz);exact Hid.out k):φ:=h ⟨k⟩
def DY{L:LH}(b bc:Nat)(sh:Int)(x:LedX)(s:StV)(z:ChG)(m:MvV)(W:Wk)(fl0:List FlM)(k:Nat)(d0:x.flows.map FlV.m=fl0)(hW:WkFG x z fl0 W)(hA:WkA sh fl0 k W)(hm:MvA s.kind m.m)(hk:k+m.m.parts.length≤2000)(e6:0≤m.m.item∧m.m.item<x.cat.items.length)(hb:∀p∈m.m.parts,p.1≤9223372036854775807)(h9:s.kind=9→∀f∈W.flows,f.to≠0)(d5:0≤sh∧sh<12)(g6:x.flows.length≤4194304)(f5:W.flows.length<64)(hT:∀mx,TakeC mx)(e5:x.cat.items.length≤64) :
  Tri ai 124 #[ay bc,aO (aL m)] (isl aj 3 m.pad m.m.parts::chgL b bc s z (ledL b sh x L)) (fun v L'=>∃z',v=ac (cC sh fl0 (bN x) s.m W m.m).1 ∧
   ((cC sh fl0 (bN x) s.m W m.m).1=0→WkFG x z' fl0 (cC sh fl0 (bN x) s.m W m.m).2)∧L' = chgL b bc s z' (ledL b sh x L)):=by
 have c6:=fun (M:LH)=>CA (L:=M) b bc sh x s z m W fl0 k d0 hW hA hm hk e6 hb h9 d5 ab hT e5;obtain⟨g2,g3⟩:=d5;obtain⟨f9,g0⟩:=hm.g.n;have g1:=hm.g.ne;obtain⟨g4,g5⟩:=hA.g.tot m.m.item;have f2:fl0.length=x.flows.length:=by rw[←d0,az]
 have f3:z.flows.length=W.flows.length:=by rw[←hW.flows,az]
 have f6:z.sunk.length≤64:=by rw[hW.sunk];have:=hA.g.sunk;omega
 have e4:=fun (he:gErr sh (fl0++W.flows) s.m W m.m=0)=>tW (mix:=bN x) hA.g hm.g ab he;have c2:=vA (sh:=sh) (nf:=fl0.length) (mix:=bN x) (s:=s.m) (W:=W) hm (fl0++W.flows);refine Tri.bd ?_;refine aq8 ?_;intros;rename_i b3;refine GO.ent (L':=isl aj 3 m.pad m.m.parts::chgL b bc s z (ledL b sh x (obj b3 tMv (aL m)::L))) (by simp only[chgL,ledL];exact ag) ?_;refine GO.ca (c6 (obj b3 tMv (aL m)::L)) ?_;rintro _ _ (⟨h1,pd,pn,pc,z',rfl,rfl⟩|⟨h1,pad,pcap,a0,a1,a2,rfl,f1,rfl⟩)
 ·have e:cC sh fl0 (bN x) s.m W m.m=(gErr sh (fl0++W.flows) s.m W m.m,W):=by unfold cC;rw[if_pos h1]
  rw[e];generalize gErr sh (fl0++W.flows) s.m W m.m=er at *;dsimp only;refine aq8 ?_;intros;exact KX.d7 an (by simp only[chgL,ledL];exact ag) ⟨z',rfl,(fun h=>absurd h h1),rfl⟩
 obtain⟨b1,a7,a9⟩:=f1;have d2:cL sh fl0.length W=sh*4294967296+(x.flows.length:Int)+(z.flows.length:Int):=by unfold cL;rw[f3,f2]
 have f0:cC sh fl0 (bN x) s.m W m.m=if cw W m.m>1099511627776 then(4,W)
   else if m.m.to=0 then(0,⟨gStk (bN x) W m.m,upd W.tot m.m.item (cw W m.m),W.flows++[fk sh fl0.length (bN x) s.m W m.m],W.sunk++[cL sh fl0.length W]⟩)
   else if 4096≤(gStk (bN x) W m.m m.m.to m.m.item).length then(4,W)
   else(0,⟨upd2 (gStk (bN x) W m.m) m.m.to m.m.item (aZ (gStk (bN x) W m.m m.m.to m.m.item) (cL sh fl0.length W,0,m.m.n)),upd W.tot m.m.item (cw W m.m),W.flows++[fk sh fl0.length (bN x) s.m W m.m],W.sunk⟩):=by unfold cC;rw[if_neg (fun q=>q h1)]
 have b5:fk sh fl0.length (bN x) s.m W m.m=⟨cL sh fl0.length W,s.id,s.kind,s.tick,s.actor,m.m.frm,m.m.to,m.m.item,m.m.n,gPts (bN x) s.m W m.m,cW s.m W m.m⟩:=rfl;rw[←c2.1] at a7;rw[←c2.2] at a9;clear c2 c6;rw[f0];generalize fk sh fl0.length (bN x) s.m W m.m=fl at *;generalize gPts (bN x) s.m W m.m=pts at *;rw[aF] at a7 a9;have d6:cw W m.m=W.tot m.m.item+(if m.m.frm=0 then m.m.n else 0) - (if m.m.to=0 then m.m.n else 0):=rfl;have e0:=hW.tot m.m.item;simp only[chgL,ledL,cn];refine aq8 ?_;intros;refine GPW.evL (Ev.l9 rfl rfl) ae ?_;repeat first|refine G.sm 5 ?_|refine bV ?_|intro _|refine cl ?_
 refine G.d8 (α:=Unit) (fun _=>True) (fun _=>[(0,ay bc),(3,ay b3),(4,ac 0),(5,ah pad pts.length pcap),(7,ac (W.tot m.m.item))]) (fun _=>isl aj 3 pad pts::chgL b bc s { z with stk:=a0,imp:=a1,ret:=a2 } (ledL b sh x (obj b3 tMv (aL m)::L))) ?_ ?_
 ·cases hl:@List.lookup _ _ instBEqOfDecidableEq m.m.item z.tot with
  | some t =>
   simp only[fm,gn,Option.isSome_some];have e:W.tot m.m.item=t:=by rw[←e0];unfold glk;rw[hl];rfl
   rw[e];refine aq8 ?_;intros;exact⟨(),trivial,av,Ent.refl _⟩
  | none =>
   simp only[eO,el,Option.isSome_none];have e:W.tot m.m.item=(glk x.tot m.m.item).getD 0:=by rw[←e0];unfold glk;rw[hl];rfl
   rw[e];refine aq8 ?_;intros;refine GPW.evL (Ev.e8 rfl rfl) ae ?_;rw[HS];refine aq8 ?_;intros;exact⟨(),trivial,av,Ent.refl _⟩
 rintro _ _;simp only[chgL,ledL,cn];refine G.d8 (α:=Unit) (fun _=>True) (fun _=>[(0,ay bc),(3,ay b3),(4,ac 0),(5,ah pad pts.length pcap),(7,ac (W.tot m.m.item+(if m.m.frm=0 then m.m.n else 0)))]) (fun _=>isl aj 3 pad pts::chgL b bc s { z with stk:=a0,imp:=a1,ret:=a2 } (ledL b sh x (obj b3 tMv (aL m)::L))) ?_ ?_
 ·by_cases h0:m.m.frm=0
  ·rw[if_pos h0];refine aq8 ?_;intros;exact⟨(),trivial,av,Ent.refl _⟩
  ·rw[if_neg h0,gd];refine aq8 ?_;intros;exact⟨(),trivial,av,Ent.refl _⟩
 rintro _ _;simp only[chgL,ledL,cn];have b8 : -9223372036854775808+1099511627776≤W.tot m.m.item+(if m.m.frm=0 then m.m.n else 0)∧W.tot m.m.item+(if m.m.frm=0 then m.m.n else 0)≤2199023255552:=by split<;>omega
 obtain⟨b8,e2⟩:=b8;refine G.d8 (α:=Unit) (fun _=>True) (fun _=>[(0,ay bc),(3,ay b3),(4,ac 0),(5,ah pad pts.length pcap),(7,ac (cw W m.m))]) (fun _=>isl aj 3 pad pts::chgL b bc s { z with stk:=a0,imp:=a1,ret:=a2 } (ledL b sh x (obj b3 tMv (aL m)::L))) ?_ ?_
 ·rw[d6];generalize W.tot m.m.item+(if m.m.frm=0 then m.m.n else 0)=t1 at *;by_cases h0:m.m.to=0
  ·rw[if_pos h0];refine aq8 ?_;intros;exact⟨(),trivial,av,Ent.refl _⟩
  ·rw[if_neg h0,fE];refine aq8 ?_;intros;exact⟨(),trivial,av,Ent.refl _⟩
 rintro _ _;simp only[chgL,ledL,cn];by_cases b2:cw W m.m>1099511627776
 ·rw[if_pos b2];refine aq8 ?_;intros;exact KX.d7 an ag ⟨{ z with stk:=a0,imp:=a1,ret:=a2 },rfl,(fun h=>absurd (show(_:Int)=0 from h) fi),rfl⟩
 rw[if_neg b2];clear d6 b8 e2;refine aq8 ?_;intros;refine GPW.efu (Ef.e8 (enc:=encN) (e:=cw W m.m) rfl rfl rfl rfl) ?_;rintro _ _ rfl;repeat first|refine G.sm 15 ?_|refine bV ?_|intro _|refine cl ?_
 rename_i b9
 have a4:∀(mad:OA) (mcap:Nat),aQ (flV fl pad pcap mad mcap)=[ac (sh*4294967296+(x.flows.length:Int)+(z.flows.length:Int)),ac s.id,ac s.kind,ac s.tick,ac s.actor,ac m.m.frm,ac m.m.to,ac m.m.item,ac m.m.n,ah pad pts.length pcap,ah mad (cW s.m W m.m).length mcap]:=by
  intro mad mcap;rw[b5,d2];rfl
 refine G.d8 (α:=OA×Nat) (fun _=>True) (fun _=>[(0,ay bc),(3,ay b3),(4,ac 0),(9,ay b9)]) (fun g=>obj b9 bE (aQ (flV fl pad pcap g.1 g.2))::isl (encZ .i64) 1 g.1 (cW s.m W m.m)::isl aj 3 pad pts::chgL b bc s { z with stk:=a0,imp:=a1,ret:=a2,tot:=gins z.tot m.m.item (cw W m.m) } (ledL b sh x (obj b3 tMv (aL m)::L))) ?_ ?_
 ·by_cases b7:m.m.frm=0∧(s.kind=4∨s.kind=10)
  ·obtain⟨c4,a8⟩:=b7;have e:cW s.m W m.m=z.sunk:=by unfold cW;rw[if_pos ⟨c4,a8⟩,hW.sunk]
   rcases a8 with a8|a8
   ·refine aq8 ?_;intros;refine GO.ca (iO z.kad z.sunk.length z.kcap z.sunk rfl ab) ?_;rintro _ _⟨mad,mcap,rfl,rfl⟩;refine aq8 ?_;intros;refine⟨(mad,mcap),trivial,av,?_⟩;rw[a4,e];refine(Ent.frz mad).trans ?_;exact ag
   ·refine aq8 ?_;intros;refine GO.ca (iO z.kad z.sunk.length z.kcap z.sunk rfl ab) ?_;rintro _ _⟨mad,mcap,rfl,rfl⟩;refine aq8 ?_;intros;refine⟨(mad,mcap),trivial,av,?_⟩;rw[a4,e];refine(Ent.frz mad).trans ?_;exact ag
  ·have e:cW s.m W m.m=[]:=by
    unfold cW;exact if_neg b7
   by_cases h0:m.m.frm=0
   ·have f4:¬s.kind=4:=fun h=>b7 ⟨h0,.inl h⟩;have e1:¬s.kind=10:=fun h=>b7 ⟨h0,.inr h⟩;refine aq8 ?_;intros;refine⟨(none,0),trivial,av,?_⟩;rw[a4,e];refine Ent.trans ?_ (Ent.d7 (Ent.e8 (encZ .i64) 1 none));exact ag
   ·refine aq8 ?_;intros;refine⟨(none,0),trivial,av,?_⟩;rw[a4,e];refine Ent.trans ?_ (Ent.d7 (Ent.e8 (encZ .i64) 1 none));exact ag
 rintro⟨mad,mcap⟩ _;simp only[chgL,ledL,cn];refine aq8 ?_;intros;refine GPW.ef (Ef.d7 (enc:=aQ) (e:=flV fl pad pcap mad mcap) rfl rfl rfl rfl rfl aK (fZ _) ab ab) ae ?_;rintro _ _⟨a5,a3,rfl,rfl⟩;repeat first|refine G.sm 18 ?_|refine bV ?_|intro _|refine cl ?_
 have a6:fl.id=cL sh fl0.length W:=by rw[b5]
 have b4:fl.n=m.m.n:=by rw[b5]
 have c0:fl.made=cW s.m W m.m:=by rw[b5]
 have c1:fl.parts=pts:=by rw[b5]
 refine G.ent (L':=obj b9 bE (aQ (flV fl pad pcap mad mcap))::chgL b bc s { z with stk:=a0,imp:=a1,ret:=a2,tot:=gins z.tot m.m.item (cw W m.m),flows:=z.flows++[flV fl pad pcap mad mcap],fad:=a5,fcap:=a3 } (ledL b sh x (obj b3 tMv (aL m)::L))) ?_ ?_
 ·simp only[chgL,ledL,cn];refine(Ent.at (A:=isl (encZ .i64) 1 mad (cW s.m W m.m)) (Ent.refl _)).trans ?_;refine(Ent.at (A:=isl aj 3 pad pts) (Ent.refl _)).trans ?_;rw[←c1,←c0];refine(Ent.e9 (bM _ _ _ _) (bM _ _ _ _)).trans ?_;refine(Ent.at (A:=allP flP z.flows) (Ent.refl _)).trans ?_;refine((Ent.d7 (Ent.f8 (f:=flP) (x:=flV fl pad pcap mad mcap) jK)).trans (Ent.g7 jK)).trans ?_;exact ag
 have c8:∀i,(glk (gins z.tot m.m.item (cw W m.m)) i).getD ((glk x.tot i).getD 0)=upd W.tot m.m.item (cw W m.m) i:=by
  intro i;unfold glk upd;have hq:=ip (m:=z.tot) (k:=m.m.item) (q:=i) (a:=cw W m.m);refine(congrArg (fun o:Option Int=>o.getD ((glk x.tot i).getD 0)) hq).trans ?_;by_cases hi:i=m.m.item
  ·rw[if_pos hi,if_pos hi];rfl
  ·rw[if_neg hi,if_neg hi];exact hW.tot i
 have c7:(z.flows++[flV fl pad pcap mad mcap]).map FlV.m=W.flows++[fl]:=by rw[aW,hW.flows];rfl
 simp only[chgL,ledL,cn];by_cases h0:m.m.to=0
 ·rw[if_pos h0];refine aq8 ?_;intros;refine GPW.ef (Ef.d7 (enc:=encZ .i64) (e:=(flV fl pad pcap mad mcap).m.id) rfl rfl rfl rfl rfl aK (by simp[encZ,Value.oneCell']) ab ab) ae ?_;rintro _ _⟨c5,b6,rfl,rfl⟩;refine aq8 ?_;intros;refine KX.d7 an ?_ ⟨{ z with stk:=a0,imp:=a1,ret:=a2,tot:=gins z.tot m.m.item (cw W m.m),flows:=z.flows++[flV fl pad pcap mad mcap],fad:=a5,fcap:=a3,sunk:=z.sunk++[fl.id],kad:=c5,kcap:=b6 },rfl,fun _=>⟨b1,c8,c7,?_,a7,a9⟩,rfl⟩
  ·simp only[chgL,ledL,cn];exact ag
  ·show z.sunk++[fl.id]=W.sunk++[cL sh fl0.length W];rw[hW.sunk,a6]
 rw[if_neg h0];refine aq8 ?_;intros;refine GO.ent (L':=stkP (uOf a0 x.stk (m.m.to,m.m.item))::obj b9 bE (aQ (flV fl pad pcap mad mcap))::chgL b bc s { z with stk:=a0,imp:=a1,ret:=a2,tot:=gins z.tot m.m.item (cw W m.m),flows:=z.flows++[flV fl pad pcap mad mcap],fad:=a5,fcap:=a3 } (ledL b sh x (obj b3 tMv (aL m)::L))) ?_ ?_
 ·simp only[chgL,ledL,cn];refine(Ent.at (A:=allP (fun p:(Int×Int)×Stk=>stkP p.2) a0) (Ent.refl _)).trans ?_;refine(Ent.d7 (Ent.at (A:=allP (fun p:(Int×Int)×Stk=>stkP p.2) x.stk) (Ent.refl _))).trans ?_;refine(qS (m.m.to,m.m.item)).trans ?_;exact ag
 simp only[chgL,ledL];refine GO.cr (rv (b:=b) (sh:=sh) (x:=x) (s:=s) (z:={ z with stk:=a0,imp:=a1,ret:=a2,tot:=gins z.tot m.m.item (cw W m.m),flows:=z.flows++[flV fl pad pcap mad mcap],fad:=a5,fcap:=a3 }) m.m.to m.m.item) ?_;dsimp only;have e3:=b1 m.m.to m.m.item;have d1:=e4 h1 m.m.to m.m.item;have d3:(gStk (bN x) W m.m m.m.to m.m.item).length≤4096:=cO d1.len ab;have d4:=d1.lots;rw[←e3] at d3 d4 ⊢;generalize hsk:uOf a0 x.stk (m.m.to,m.m.item)=sk at *;simp only[Stk.v,cn];by_cases c9:4096≤sk.lots.length
 ·rw[if_pos c9];refine aq8 ?_;intros;refine KX.d7 an ?_ ⟨{ z with stk:=a0,imp:=a1,ret:=a2,tot:=gins z.tot m.m.item (cw W m.m),flows:=z.flows++[flV fl pad pcap mad mcap],fad:=a5,fcap:=a3 },rfl,(fun h=>absurd (show(_:Int)=0 from h) fi),rfl⟩;exact ag
 rw[if_neg c9];refine aq8 ?_;intros;refine GPW.ent (Ent.at (A:=stkP sk) (Ent.refl _)) ?_
 have c3:LotOk ((flV fl pad pcap mad mcap).m.id,0,(flV fl pad pcap mad mcap).m.n):=by
  show LotOk (fl.id,0,fl.n);rw[a6,b4,d2];unfold LotOk;dsimp only;omega
 refine GPW.ca (vw sk.ad sk.cap sk.lots ((flV fl pad pcap mad mcap).m.id,0,(flV fl pad pcap mad mcap).m.n) d3 d4 c3) ?_;rintro _ _⟨ad2,b0,rfl,rfl⟩;refine aq8 ?_;intros;refine GPW.efu (Ef.e8 (enc:=Stk.v) (e:=(⟨ad2,b0,aZ sk.lots (fl.id,0,fl.n)⟩:Stk)) rfl rfl rfl rfl) ?_;rintro _ _ rfl;refine aq8 ?_;intros;refine KX.d7 an ?_ ⟨{ z with stk:=gins a0 (m.m.to,m.m.item) ⟨ad2,b0,aZ sk.lots (fl.id,0,fl.n)⟩,imp:=a1,ret:=a2,tot:=gins z.tot m.m.item (cw W m.m),flows:=z.flows++[flV fl pad pcap mad mcap],fad:=a5,fcap:=a3 },rfl,fun _=>⟨?_,c8,c7,hW.sunk,a7,a9⟩,rfl⟩
 ·simp only[chgL,ledL,cn];refine(Ent.frz ad2).trans ?_;refine(Ent.at (A:=allP (fun p:(Int×Int)×Stk=>stkP p.2) a0) (Ent.refl _)).trans ?_;refine(Ent.at (A:=stkP ⟨ad2,b0,aZ sk.lots (fl.id,0,fl.n)⟩) (lI (k:=(m.m.to,m.m.item)))).trans ?_;exact ag
 ·intro a i;dsimp only;rw[kJ];unfold upd2;by_cases hq:a=m.m.to∧i=m.m.item
  ·obtain⟨rfl,rfl⟩:=hq;rw[if_pos rfl,if_pos ⟨rfl,rfl⟩];dsimp only;rw[a6,b4]
  ·rw[if_neg (fun h=>hq (by simpa using h)),if_neg hq];exact b1 a i
structure LedFG (S:LedM) (x:LedX):Prop where
 cat:x.cat.m=S.cat
 catB:x.cat.B
 stk:∀a i,(eY x.stk (a,i)).lots=S.stk a i
 full:∀p∈x.stk,p.2.lots≠[]
 tot:∀i,(glk x.tot i).getD 0=S.tot i
 steps:x.steps.map StV.m=S.steps
 flows:x.flows.map (·.m)=S.flows
 imp:SetS (eY x.imp) (ft S.flows)
 ret:SetS (eY x.ret) (eV S.flows)
def tQ(b:Nat)(S:LedM)(x:LedX):LH:=dA (LedFG S x)::ledL b S.shard x []
def mM(b:Nat)(S:LedM):HP:=hex fun x=>cS (tQ b S x)
def qm{b:Nat}{S:LedM}{L:LH}(x:LedX)(h:LedFG S x):Ent (ledL b S.shard x L) (mM b S::L) :=
 Ent.l0 (f:=tQ b S) x (Ent.pure h (Ent.refl _))
def IC{S:LedM}{x:LedX}(h:LedFG S x):xnow x=S.now:=by
 unfold LedM.now xnow;rw[←h.steps,List.getLast?_map,Option.map_map];rfl
def HA{sh:Int}{fl:List FlM}{mix:Int→Bool}{s:StM}{W:Wk}{m:MvM}(h:∀f∈W.flows,f.to≠0)(hm:m.to≠0):∀f∈(cC sh fl mix s W m).2.flows,f.to≠0:=by
 have h2:∀f∈W.flows++[fk sh fl.length mix s W m],f.to≠0:=fun f hf=>by
  rcases List.mem_append.1 hf with q|q
  ·exact h f q
  ·rw[List.mem_singleton.1 q];exact hm
 unfold cC;rw[if_neg hm];split
 ·exact h
 split
 ·exact h
 split
 ·exact h
 ·exact h2
def Jj{n:Nat}{m:MvM}(h:mvAP n 9 m):m.to≠0:=by
 have h2:fM 9 m:=h.2.2.2.2.2;exact(show m.to≠0∧fY m.parts m.n from h2).1
abbrev DM:=aH3 [.ev 13,.ev 14,.ef 15]
def at4{φ ψ:Prop}(k:ψ)(h:Hid ψ→φ:=by intro k;(repeat (first|refine aa ?_|intro zzz|refine G.dr 62 6 DM ?_));(repeat revert zzz);exact Hid.out k):φ:=h ⟨k⟩
def EZ{L:LH}(b:Nat)(S:LedM)(k:Nat)(hS:LedA k S)(hc:S.cat.Ok)(h0:0≤S.now)(x:LedX)(hF:LedFG S x)(s:StV)(hs:StInG s)(b4:s.moves.length≤s.mcap)(hk:k+mvK s.m.moves≤2000)(hT:∀mx,TakeC mx) :
  Tri ai 64 #[ay b,aO (aN s)] (ledL b S.shard x (stM s::stP s::L)) (fun v L' =>
   ((gTry S s.m).1≠0∧v=.tuple #[.pointer none,ac (gTry S s.m).1]∧L' = ledL b S.shard x (stM s::stP s::L)) ∨
   ((gTry S s.m).1=0∧∃bc s' z,v=.tuple #[ay bc,ac 0]∧(s'.m=s.m.at (aP S)∧WkFG x z S.flows (gTry S s.m).2)∧L' = chgL b bc s' z (ledL b S.shard x (stM s'::stP s'::stM s::stP s::L)))):=by
 obtain⟨a4,c6⟩:=hS.g.shard;have f1:=hS.g.steps;have f0:=hS.g.flows;have e4:x.steps.length=S.steps.length:=by rw[←hF.steps,az]
 have f2:x.flows.length=S.flows.length:=by rw[←hF.flows,az]
 have hB:=hF.catB;have d6:=hs.len;have b1:=hF.cat;have d5:=hB.items;have a9:xnow x=S.now:=IC hF;have b9:bN x=bF S.cat:=by funext i;unfold bN bF;rw[←b1];rfl
 refine Tri.bd ?_;simp only[ledL,bR];by_cases h1:65536≤S.steps.length
 ·have e:gTry S s.m=(4,wk0 S):=by unfold gTry;rw[if_pos h1]
  rw[e];refine at4 ?_;intros;exact KX.d7 an ag (.inl ⟨by dsimp only;omega,rfl,rfl⟩)
 refine at4 ?_;intros;refine GO.ent (Ent.at (A:=stP s) (Ent.refl _)) ?_;refine GO.ent (Ent.at (A:=catP x.cat) (Ent.refl _)) ?_;refine GO.cr (CR (b:=b) (sh:=S.shard) (x:=x) s hs.parts (b1▸hc) hB ab d6 b4 hs.rule (a9▸h0)) ?_;rw[b1,a9];by_cases h2:fL S.cat S.now s.m
 case neg =>
  have e:gTry S s.m=(1,wk0 S):=by unfold gTry;rw[if_neg h1,if_pos h2]
  rw[e,aH h2];refine at4 ?_;intros;exact KX.d7 an ag (.inl ⟨by dsimp only;omega,rfl,rfl⟩)
 have e:gTry S s.m=dy S.shard S.flows (bF S.cat) (s.m.at (aP S)) (wk0 S) s.m.moves:=by unfold gTry;rw[if_neg h1,if_neg (fun h=>h h2)]
 rw[e,aU h2];have hA:=possG_A.1 h2;have c9:=oO h2;have c0:s.m.moves=s.moves.map MvV.m:=rfl;have b6:s.moves.length≤64:=by have:=h2.2.2.2.1.2;rwa [c0,az] at this
 have e1:∀m∈s.moves,m.m.parts.length≤1000000:=fun m hm=>by
  rcases (c9 m.m (by rw[c0];exact alStd0List_mem_map_of_mem hm)).g.parts with q|q
  ·rw[q];decide
  ·have:=q.1.2;omega
 refine at4 ?_;intros;refine GO.ent (Ent.at (A:=stM s) (Ent.d7 (Ent.at (A:=stP s) (Ent.refl _)))) ?_;refine GO.ca (qJ s b6 e1) ?_;rintro _ _⟨s',rfl,c5,rfl⟩;have b3:s'.moves.map MvV.m=s.m.moves:=congrArg StM.moves c5;have e2:s'.moves.length=s.moves.length:=by have:=congrArg List.length b3;rwa [c0,az,az] at this
 have d0:s'.kind=s.kind:=congrArg StM.kind c5;simp only[aN];refine at4 ?_;intros;refine GO.ef (Ef.e7 kvP Stk.v (.inl rfl)) ae ?_;rintro _ _⟨cs,rfl,rfl⟩;refine at4 ?_;intros;refine GO.ef (Ef.e7 kvI encN (.inl rfl)) ae ?_;rintro _ _⟨ct,rfl,rfl⟩;refine at4 ?_;intros;refine GO.ef (Ef.e7 kvI Stk.v (.inl rfl)) ae ?_;rintro _ _⟨ci,rfl,rfl⟩;refine at4 ?_;intros;refine GO.ef (Ef.e7 kvI Stk.v (.inl rfl)) ae ?_;rintro _ _⟨cr,rfl,rfl⟩;refine at4 ?_;intros;rename_i bc;have d3:S.shard*4294967296+(x.steps.length:Int)=aP S:=by unfold aP;rw[e4]
 rw[d3]
 have b0:(s'.at (aP S)).m=s.m.at (aP S):=by
  show StM.at s'.m (aP S)=_;rw[c5]
 have a5:S.flows++(wk0 S).flows=S.flows:=aR _;have a6:WkFG x ⟨cs,ct,ci,cr,[],[],[],[],[],none,0,[],none,0⟩ S.flows (wk0 S):=⟨fun a i=>hF.stk a i,fun i=>hF.tot i,rfl,rfl,by rw[a5];exact hF.imp,by rw[a5];exact hF.ret⟩
 refine G.loop (α:=Nat×ChG×Wk) (fun g=>g.1≤s'.moves.length∧WkFG x g.2.1 S.flows g.2.2∧WkA S.shard S.flows (k+mvK (s.m.moves.take g.1)) g.2.2∧g.2.2.flows.length=g.1∧(s.kind=9→∀f∈g.2.2.flows,f.to≠0)∧dy S.shard S.flows (bF S.cat) (s.m.at (aP S)) (wk0 S) s.m.moves=dy S.shard S.flows (bF S.cat) (s.m.at (aP S)) g.2.2 (s.m.moves.drop g.1))
  (fun g=>[(0,ay b),(4,.pointer none),(5,ac 0),(6,ay bc),(48,ah s'.mad s'.moves.length s'.mcap),(49,ac (s'.moves.length:Int)),(50,ac (g.1:Int))])
  (fun g=>chgL b bc (s'.at (aP S)) g.2.1 (ledL b S.shard x (stM s'::stP s'::stM s::stP s::L))) (fun g=>s'.moves.length - g.1) (0,⟨cs,ct,ci,cr,[],[],[],[],[],none,0,[],none,0⟩,wk0 S) ⟨ax _,a6,wt hS,rfl,(fun _ f hf=>by cases hf),rfl⟩ av ?_ ?_
 ·simp only[chgL,ledL,cn,bR,StV.at,cB];refine(Ent.d8 aQ 11 bE).trans ?_;refine(Ent.d8 (encZ .i64) 1 tInt).trans ?_;refine(Ent.d9 (fun p:(Int×Int)×Stk=>stkP p.2)).trans ?_;refine(Ent.d9 (fun p:Int×Stk=>stkP p.2)).trans ?_;refine(Ent.d9 (fun p:Int×Stk=>stkP p.2)).trans ?_;refine(Ent.d9 flP).trans ?_;exact ag
 rintro⟨i,z,W⟩ ⟨hi,hW,hO,c7,c4,a1⟩;dsimp only at hi hW hO c7 c4 a1 ⊢;by_cases b8:i<s'.moves.length
 case neg =>
  have b5:s.m.moves.drop i=[]:=bG (by rw[←b3,az];omega);rw[b5] at a1;rw[a1];simp only[chgL,ledL,cn,bR];refine at4 ?_;intros;exact KX.d7 an (Ent.refl _) (.inr ⟨rfl,bc,s'.at (aP S),z,rfl,⟨b0,hW⟩,rfl⟩)
 have d4:(i:Int).toNat=i:=ab;have b2:s'.moves[i]!.m=s.m.moves[i]!:=by rw[←b3];exact(dI MvV.m b8).symm
 have b7:i<s.m.moves.length:=by rw[←b3,az];exact b8
 have c8:i<s.moves.length:=ab;have d2:s'.moves[i]!.m=s.moves[i]!.m:=b2.trans (dI MvV.m c8);have b5:s.m.moves.drop i=s'.moves[i]!.m::s.m.moves.drop (i+1):=by rw[b2];exact ej b7
 have a7:s'.moves[i]!.m∈s.m.moves:=by rw[b2];exact aJ b7
 have a0:=hA.2.2.2.2.1 s'.moves[i]!.m a7;have a3:=c9 s'.moves[i]!.m a7;have hK:mvK (s.m.moves.take (i+1))=mvK (s.m.moves.take i)+(s'.moves[i]!.m.parts.length+1):=by rw[sx b7,b2]
 have e6:=yc s.m.moves (i+1);have d1:∀p∈s'.moves[i]!.m.parts,p.1≤9223372036854775807:=by rw[d2];exact hs.bd _ (aJ c8)
 have e3:s.kind=9→s'.moves[i]!.m.to≠0:=fun h=>Jj (n:=S.cat.items.length) (by rw[show s.m.kind=9 from h] at a0;exact a0);rw[b5] at a1;have c3:dy S.shard S.flows (bF S.cat) (s.m.at (aP S)) W (s'.moves[i]!.m::s.m.moves.drop (i+1))=if(cC S.shard S.flows (bF S.cat) (s.m.at (aP S)) W s'.moves[i]!.m).1=0 then dy S.shard S.flows (bF S.cat) (s.m.at (aP S)) (cC S.shard S.flows (bF S.cat) (s.m.at (aP S)) W s'.moves[i]!.m).2 (s.m.moves.drop (i+1)) else((cC S.shard S.flows (bF S.cat) (s.m.at (aP S)) W s'.moves[i]!.m).1,W):=rfl;rw[c3] at a1;have e0:=uN (mix:=bF S.cat) (s:=s.m.at (aP S)) (m:=s'.moves[i]!.m) a4 hO a3 ab;have a8:=ph (mix:=bF S.cat) (s:=s.m.at (aP S)) (m:=s'.moves[i]!.m) a4 hO.g a3.g ab;have c1:=fun h9:s.kind=9=>HA (sh:=S.shard) (fl:=S.flows) (mix:=bF S.cat) (s:=s.m.at (aP S)) (m:=s'.moves[i]!.m) (c4 h9) (e3 h9);have a2:=DY (L:=stM s'::stP s'::stM s::stP s::L) b bc S.shard x (s'.at (aP S)) z s'.moves[i]! W S.flows (k+mvK (s.m.moves.take i)) hF.flows hW hO (show MvA s'.kind s'.moves[i]!.m by rw[d0];exact a3) ab ⟨a0.1.1,by have h4:=a0.1.2;rw[←b1] at h4;simpa [CatV.m] using h4⟩ d1 (fun h=>c4 (by rw[←d0];exact h)) ⟨a4,c6⟩ ab ab hT d5;rw[b0,b9] at a2;have c2:(cC S.shard S.flows (bF S.cat) (s.m.at (aP S)) W s'.moves[i]!.m).1=0→(cC S.shard S.flows (bF S.cat) (s.m.at (aP S)) W s'.moves[i]!.m).2.flows.length=W.flows.length+1:=fun h=>by rw[(a8 h).2,aq,aM]
 clear a8;generalize cC S.shard S.flows (bF S.cat) (s.m.at (aP S)) W s'.moves[i]!.m=r at *;refine G.ent (L':=isl aj 3 s'.moves[i]!.pad s'.moves[i]!.m.parts::chgL b bc (s'.at (aP S)) z (ledL b S.shard x (stM s'::stP s'::stM s::stP s::L))) (by simp only[chgL,ledL];exact(Ent.at (A:=stP s') (od b8)).trans ag) ?_;simp only[chgL,ledL,cn,bR,stM];refine at4 ?_;intros;rw[d4];refine GO.ent Ent.drop ?_;refine GO.ca (a2) ?_;rintro _ _⟨z',rfl,e5,rfl⟩;by_cases hr:r.1=0
 ·rw[if_pos hr] at a1;simp only[chgL,ledL,cn,bR];refine at4 ?_;intros;refine⟨(i+1,z',r.2),⟨by dsimp only;omega,e5 hr,by dsimp only;rw[hK,←dw,←dw];exact e0 hr,by dsimp only;rw[c2 hr,c7],c1,a1⟩,by dsimp only;omega,?_,Ent.refl _⟩;dsimp only;rw[aY i];exact av
 ·rw[if_neg hr] at a1;rw[a1];simp only[chgL,ledL,cn,bR];refine at4 ?_;intros;exact KX.en (.inl ⟨hr,rfl,rfl⟩)
end
section
open Go.V
def rI{κ α:Type}[DecidableEq κ]{q:κ×α}:∀{n m:List (κ×α)},q∈iy m n→q∈m∨q∈n
 | [],_,h=>.inl h
 | p::n,m,h=>by
  rcases rI (n:=n) (m:=gins m p.1 p.2) h with h1|h1
  ·rcases List.mem_cons.1 (pf q h1) with h2|h2
   ·exact .inr (by rw[h2];exact au)
   ·exact .inl h2
  ·exact .inr (aw _ h1)
def wT{m z x:List (Int×Stk)}(h:∀k,glk m k=(glk z k).or (glk x k)):eY m=uOf z x:=by
 funext k;unfold eY uOf;rw[h k];cases glk z k<;>rfl
def Hy{k:Nat}{S:LedM}{s:StM}(hS:LedA k S)(hk:k+mvK s.moves≤2000)(h:(gTry S s).1=0):S.steps.length<65536∧fL S.cat S.now s∧(gTry S s).2.flows.length=s.moves.length:=by
 have h2:=kX h;have e:=uL h;have h3:=h;rw[e] at h3;have h4:=(qB hS.g.shard.1 (wt hS).g (fun m hm=>(oO h2 m hm).g) hk h3).2;rw[e];refine⟨Classical.byContradiction fun q=>?_,h2,?_⟩
 ·unfold gTry at h;rw[if_pos ab] at h;exact absurd (show(4:Int)=0 from h) ae
 ·rw[h4];show 0+s.moves.length=_;omega
attribute [local irreducible] G GO GP GPW GPK GF GE Ev Ef EfR Ent CB GB V.Enters
def rR(d s:Nat)(m n:List (Int×Stk)) :
  Tri ai 66 #[.map (some d),.map (some s)] [gmap kvI Stk.v d m,gmap kvI Stk.v s n] (fun _ L'=>∃m',((∀k,glk m' k=(glk n k).or (glk m k))∧∀q∈m',q∈m∨q∈n)∧L' = [gmap kvI Stk.v d m']):=by
 refine Tri.bd ?_;refine G.ent Ent.swap ?_;refine G.f8 (ln (b:=s) (kv:=kvI) (enc:=Stk.v) (m:=n)) ?_;intro hn;refine JM ?_;intros;refine GO.ef (Ef.l7 rfl) ae ?_;rintro _ _⟨r,rfl,rfl⟩;refine JM ?_;intros;refine G.loop (α:=List (Int×Stk)) (fun z=>z.length≤n.length) (fun z=>[(0,.map (some d)),(7,ay r)]) (fun z=>[jp kvI Stk.v s n r z,gmap kvI Stk.v d (iy m z)]) (fun z=>n.length - z.length) [] (ax _) av (Ent.refl _) ?_;intro z hz;refine JM ?_;intros;refine GO.ef (Ef.l9 rfl) ae ?_;rintro _ _ (⟨rfl,rfl,hp⟩|⟨p,rfl,rfl,a0,a1,hl⟩)
 ·refine JM ?_;intros;refine KX.e7 an Ent.drop ⟨iy m z,⟨fun k=>?_,fun q hq=>?_⟩,rfl⟩
  ·rw[nR k z m ((hp.map _).nodup_iff.2 hn),pb hp hn]
  ·rcases rI hq with h1|h1
   ·exact .inl h1
   ·exact .inr (hp.mem_iff.1 h1)
 refine JM ?_;intros;refine GO.ev (Ev.m5 (done:=z) rfl rfl) ae ?_;refine JM ?_;intros;refine GO.efu (Ef.e8 (enc:=Stk.v) (e:=p.2) rfl rfl rfl rfl) ?_;rintro _ _ rfl;refine JM ?_;intros;refine⟨z++[p],by simp;omega,by simp;omega,av,?_⟩;rw[show iy m (z++[p])=gins (iy m z) p.1 p.2 by simp[iy]];exact ag
abbrev DL:=aG9 [.ev 4,.ef 5]
abbrev DK:=aH0 [.ef 6]
abbrev Ar:=aH1 [.ef 8]
abbrev Aq:=aH1 [.ef 8]
abbrev Ap:=aH1 [.ef 8]
abbrev Ao:=aH1 [.ev 8,.ef 9,.ev 10,.ev 11,.ef 12]
abbrev An:=aH1 [.ev 8,.ef 9,.ef 10,.ev 11,.ev 12,.ef 13]
def au7{φ ψ:Prop}(k:ψ)(h:Hid ψ→φ:=by intro k;(repeat (first|refine aa ?_|intro zzz|refine G.dr 100 8 DL ?_|refine G.dr 100 9 DK ?_|refine G.dr 100 10 Ar ?_|refine G.dr 100 11 Aq ?_|refine G.dr 100 12 Ap ?_|refine G.dr 100 13 Ao ?_|refine G.dr 100 14 An ?_));(repeat revert zzz);exact Hid.out k):φ:=h ⟨k⟩
def CQ{L:LH}(b:Nat)(S:LedM)(k:Nat)(hS:LedA k S)(hc:S.cat.Ok)(h0:0≤S.now)(s:StV)(hs:StInG s)(a3:s.moves.length≤s.mcap)(hk:k+mvK s.m.moves≤2000)(hT:∀mx,TakeC mx) :
  Tri ai 24 #[ay b,aO (aN s)] (mM b S::stM s::stP s::L) (rtQ (.tuple #[ac (gRes S s.m),ac (gTry S s.m).1]) (mM b (cM S s.m)::stM s::stP s::L)):=by
 obtain⟨b7,b8⟩:=hS.g.shard;have c4:=hS.g.steps;have c0:=hS.g.flows;refine Tri.bd ?_;refine G.d9 (f:=tQ b S) ?_;intro x;simp only[tQ,ledL,ao,al];refine G.e9 ?_;intro hF;have c6:x.steps.length=S.steps.length:=by rw[←hF.steps];simp
 have c5:x.flows.length=S.flows.length:=by rw[←hF.flows];simp
 refine au7 ?_;intros;refine GO.ent Ent.drop ?_;refine GO.ca (EZ b S k hS hc h0 x hF s hs a3 hk hT) ?_;rintro _ _ (⟨he,rfl,rfl⟩|⟨he,bc,s',z,rfl,⟨b3,hW⟩,rfl⟩)
 ·have e1:cM S s.m=S:=if_neg he;have e2:gRes S s.m=0:=if_neg he;rw[e1,e2];refine au7 ?_;intros;exact KX.d7 an (qm x hF) ⟨rfl,rfl⟩
 have e1:cM S s.m=gt S s.m:=if_pos he;have e2:gRes S s.m=aP S:=if_pos he;obtain⟨o1,o2,o4⟩:=Hy hS hk he;have c1:s.m.moves.length≤64:=o2.2.2.2.1.2
 have c7:z.flows.length≤64:=by
  have:=congrArg List.length hW.flows
  rw[az] at this;omega
 have b9:0<z.flows.length:=by
  have h1:=congrArg List.length hW.flows;rw[az] at h1;have h2:=o2.2.2.2.1.1;omega
 have a7:s'.id=aP S:=congrArg StM.id b3;rw[e1,e2,he];simp only[chgL,ledL,cn,bR];refine au7 ?_;intros;refine GO.d8 (ln (b:=z.cs) (kv:=kvP) (enc:=Stk.v) (m:=z.stk)) ?_;intro b1;refine GO.ef (Ef.l7 rfl) ae ?_;rintro _ _⟨r,rfl,rfl⟩;refine au7 ?_;intros
 refine G.loop (α:=List ((Int×Int)×Stk)) (fun g=>g.length≤z.stk.length) (fun _=>[(0,ay b),(6,ay bc),(23,ay r)])
  (fun g=>jp kvP Stk.v z.cs z.stk r g::gmap kvP Stk.v x.ms (fX x.stk g)::obj bc tCh (cn b s' z)::gmap kvI encN z.ct z.tot::gmap kvI Stk.v z.ci z.imp::gmap kvI Stk.v z.cr z.ret::osl aQ 11 bE z.fad z.fcap z.flows::allP (fun p:(Int×Int)×Stk=>stkP p.2) z.stk::allP flP z.flows::allP (fun p:Int×Stk=>stkP p.2) z.imp::allP (fun p:Int×Stk=>stkP p.2) z.ret::obj b tLed (bR S.shard x)::gmap kvI encN x.mt x.tot::asl aN 7 ba x.sad x.scap x.steps::asl aQ 11 bE x.fad x.fcap x.flows::gmap kvI Stk.v x.mi x.imp::gmap kvI Stk.v x.mr x.ret::catP x.cat::allP (fun p:(Int×Int)×Stk=>stkP p.2) x.stk::allP cH x.steps::allP flP x.flows::allP (fun p:Int×Stk=>stkP p.2) x.imp::allP (fun p:Int×Stk=>stkP p.2) x.ret::stM s'::stP s'::stM s::stP s::L)
  (fun g=>z.stk.length - g.length) [] (ax _) av ?_ ?_
 ·simp only[fX,List.foldl_nil];exact ag
 intro g hg;simp only[cn,bR];refine au7 ?_;intros;refine GO.ef (Ef.l9 rfl) ae ?_;rintro _ _ (⟨rfl,rfl,hp⟩|⟨p,rfl,rfl,c2,c3,hl⟩)
 case inr =>
  have b2:fX x.stk (g++[p])=putS (fX x.stk g) p:=by simp[fX]
  refine au7 ?_;intros;refine GO.ev (Ev.m5 (done:=g) rfl rfl) ae ?_;simp only[kvP,Stk.v,bL,gD];by_cases h0:p.2.lots.length=0
  ·have a5:putS (fX x.stk g) p=gera (fX x.stk g) p.1:=if_pos h0;refine au7 ?_;intros;refine GPW.efu (Ef.m9 rfl rfl) ?_;rintro _ _ rfl;refine au7 ?_;intros;refine⟨g++[p],by simp;omega,by simp;omega,av,?_⟩;rw[b2,a5];exact ag
  ·have a5:putS (fX x.stk g) p=gins (fX x.stk g) p.1 p.2:=if_neg h0;refine au7 ?_;intros;refine GPW.efu (Ef.e8 (enc:=Stk.v) (e:=p.2) rfl rfl rfl rfl) ?_;rintro _ _ rfl;refine au7 ?_;intros;refine⟨g++[p],by simp;omega,by simp;omega,av,?_⟩;rw[b2,a5];exact ag
 refine au7 ?_;intros;(first|refine GPW.ef (Ef.call (ue x.mt z.ct x.tot z.tot) rfl cN) ae ?_);rintro _ _⟨_,⟨m',b5,rfl⟩,hL⟩;simp only[ao,al] at hL;subst hL;refine au7 ?_;intros;(first|refine GPW.ef (Ef.call (rR x.mi z.ci x.imp z.imp) rfl cN) ae ?_);rintro _ _⟨_,⟨a8,⟨b4,a4⟩,rfl⟩,hL⟩;simp only[ao,al] at hL;subst hL;refine au7 ?_;intros;(first|refine GPW.ef (Ef.call (rR x.mr z.cr x.ret z.ret) rfl cN) ae ?_);rintro _ _⟨_,⟨a9,⟨b6,a6⟩,rfl⟩,hL⟩;simp only[ao,al] at hL;subst hL;refine au7 ?_;intros;refine GPW.ef (Ef.m6 (enc:=aQ) (ys:=z.flows) rfl rfl rfl rfl rfl b9 (fun e _=>fZ e) ab ab) ae ?_;rintro _ _⟨a2,a0,rfl,rfl⟩;refine au7 ?_;intros;refine GPW.ef (Ef.j0 (enc:=aN) (e:=s') rfl rfl rfl rfl rfl aK (jz _) ab ab) ae ?_;rintro _ _⟨b0,a1,rfl,rfl⟩;refine au7 ?_;intros;rw[a7];refine KX.d7 an ?_ ⟨rfl,rfl⟩;refine Ent.trans ?_ (qm (S:=gt S s.m) { x with stk:=fX x.stk g,tot:=m',imp:=a8,ret:=a9,steps:=x.steps++[s'],sad:=b0,scap:=a1,flows:=x.flows++z.flows,fad:=a2,fcap:=a0 } ⟨hF.cat,hF.catB,?_,?_,?_,?_,?_,?_,?_⟩)
 ·simp only[ledL,bR,gt];refine(Ent.at (A:=stP s') (Ent.refl _)).trans ?_;refine(Ent.at (A:=stM s') (Ent.refl _)).trans ?_;refine(Ent.e9 (np s') (cQ ix)).trans ?_;refine(Ent.at (A:=allP cH x.steps) (Ent.refl _)).trans ?_;refine((Ent.d7 (Ent.f8 (f:=cH) (x:=s') kN)).trans (Ent.g7 kN)).trans ?_;refine(Ent.at (A:=allP flP z.flows) (Ent.refl _)).trans ?_;refine(Ent.at (A:=allP flP x.flows) (Ent.refl _)).trans ?_;refine(Ent.g7 jK).trans ?_;refine(Ent.at (A:=allP (fun p:(Int×Int)×Stk=>stkP p.2) z.stk) (Ent.refl _)).trans ?_;refine(Ent.at (A:=allP (fun p:(Int×Int)×Stk=>stkP p.2) x.stk) (Ent.refl _)).trans ?_;refine(Ent.g7 (f:=fun p:(Int×Int)×Stk=>stkP p.2) (fun p=>mQ p.2)).trans ?_;refine(Ent.j0 (l':=fX x.stk g) (fun q hq=>?_)).trans ?_
  ·rcases lk hq with h1|h1
   ·exact bT _ h1
   ·exact bJ _ (hp.mem_iff.1 h1.1)
  refine(Ent.at (A:=allP (fun p:Int×Stk=>stkP p.2) z.imp) (Ent.refl _)).trans ?_;refine(Ent.at (A:=allP (fun p:Int×Stk=>stkP p.2) x.imp) (Ent.refl _)).trans ?_;refine(Ent.g7 (f:=fun p:Int×Stk=>stkP p.2) (fun p=>mQ p.2)).trans ?_;refine(Ent.j0 (l':=a8) (fun q hq=>List.mem_append.2 (a4 q hq))).trans ?_;refine(Ent.at (A:=allP (fun p:Int×Stk=>stkP p.2) z.ret) (Ent.refl _)).trans ?_;refine(Ent.at (A:=allP (fun p:Int×Stk=>stkP p.2) x.ret) (Ent.refl _)).trans ?_;refine(Ent.g7 (f:=fun p:Int×Stk=>stkP p.2) (fun p=>mQ p.2)).trans ?_;refine(Ent.j0 (l':=a9) (fun q hq=>List.mem_append.2 (a6 q hq))).trans ?_;exact ag
 ·intro a i;rw[mR _ _ _ ((hp.map _).nodup_iff.2 b1),pb hp b1];exact hW.stk a i
 ·intro q hq;rcases lk hq with h1|h1
  ·exact hF.full q h1
  ·exact h1.2
 ·intro i;dsimp only;rw[b5,BS];exact hW.tot i
 ·show(x.steps++[s']).map StV.m=S.steps++[s.m.at (aP S)];rw[aW,hF.steps,←b3];rfl
 ·show(x.flows++z.flows).map (·.m)=S.flows++(gTry S s.m).2.flows;rw[aW,hF.flows];exact congrArg _ hW.flows
 ·show SetS (eY a8) (ft (S.flows++(gTry S s.m).2.flows));rw[wT b4];exact hW.imp
 ·show SetS (eY a9) (eV (S.flows++(gTry S s.m).2.flows));rw[wT b6];exact hW.ret
