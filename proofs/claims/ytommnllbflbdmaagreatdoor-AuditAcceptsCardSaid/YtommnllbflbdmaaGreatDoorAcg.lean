/- Lemmas. -/
import Derived.Test.YtommnllbflbdmaaGreatDoorAce
import Derived.Test.YtommnllbflbdmaaGreatDoorAbx
set_option linter.all false
set_option maxHeartbeats 4000000
namespace Go.Proofs.YtommnllbflbdmaaGreatDoor
section
open Go.V
attribute [local irreducible] G GO GP GPW GPK GF GE Ev Ef EfR Ent CB GB V.Enters
structure WkFG (x:LedX) (z:ChG) (fl:List FlM) (W:Wk):Prop where
 stk:∀a i,(uOf z.stk x.stk (a,i)).lots=W.stk a i
 tot:∀i,(glk z.tot i).getD ((glk x.tot i).getD 0)=W.tot i
 flows:z.flows.map FlV.m=W.flows
 sunk:z.sunk=W.sunk
 imp:SetS (uOf z.imp x.imp) (fC (fl++W.flows))
 ret:SetS (uOf z.ret x.ret) (fe (fl++W.flows))
structure TkFG (x:LedX) (fl:List FlM) (W:Wk) (s:StM) (m:MvM) (mix:Int→Bool) (stk:List ((Int×Int)×Stk)) (imp ret:List (Int×Stk)):Prop where
 stk:∀a i,(uOf stk x.stk (a,i)).lots=gStk mix W m a i
 imp:SetS (uOf imp x.imp) (fC (fl++W.flows)++iaOf s m)
 ret:SetS (uOf ret x.ret) (fe (fl++W.flows)++raOf s m)
def IG{sh:Int}{fl:List FlM}{s:StM}{W:Wk}{m:MvM}(h:¬m.frm=0):gErr sh fl s W m≠0↔lN (W.stk m.frm m.item) m:=by
 unfold gErr lN;rw[if_neg h];split
 ·split
  ·exact⟨fun _=>by assumption,fun _=>by decide⟩
  ·exact⟨fun q=>absurd rfl q,fun q=>by contradiction⟩
 ·split
  ·exact⟨fun q=>absurd rfl q,fun q=>by contradiction⟩
  ·exact⟨fun _=>by assumption,fun _=>by decide⟩
def Gw{sh:Int}{fl:List FlM}{s:StM}{W:Wk}{m:MvM}(h:¬m.frm=0)(hb:lN (W.stk m.frm m.item) m):gErr sh fl s W m=10:=by
 unfold lN at hb;unfold gErr;rw[if_neg h];split
 ·rename_i hp;rw[if_pos hp] at hb;rw[if_pos hb]
 ·rename_i hp;rw[if_neg hp] at hb;rw[if_neg hb]
abbrev Af:List Stp:=[.ev 0,.ev 1,.ev 3,.ev 4,.ef 2,.ef 5,.ev 6,.ev 7]
abbrev Ae:List Stp:=[.ev 0,.ev 1,.ev 3,.ev 4,.ef 2,.ef 5,.ev 6,.ev 7]
def ao1{φ ψ:Prop}(k:ψ)(h:Hid ψ→φ:=by intro k;(repeat (first|refine aa ?_|intro zzz|refine G.dr 35 5 Af ?_|refine G.dr 35 7 Ae ?_));(repeat revert zzz);exact Hid.out k):φ:=h ⟨k⟩
def Ck{L:LH}(b bc:Nat)(sh:Int)(x:LedX)(s:StV)(z:ChG)(m:MvV)(W:Wk)(fl:List FlM)(k:Nat)(b8:x.flows.map FlV.m=fl)(hW:WkFG x z fl W)(hA:WkA sh fl k W)(hm:MvA s.kind m.m)(hk:k+m.m.parts.length≤2000)(b9:0≤m.m.item∧m.m.item<x.cat.items.length)(hb:∀p∈m.m.parts,p.1≤9223372036854775807)(h9:s.kind=9→∀f∈W.flows,f.to≠0)(b7:0≤sh∧sh<12)(c7:x.flows.length≤8000000)(hT:∀mx,TakeC mx)(c2:x.cat.items.length≤64) :
  Tri ai 215 #[ax bc,aN (aM m)] (isl aj 3 m.pad m.m.parts::chgL b bc s z (ledL b sh x L)) (fun v L' =>
   (gErr sh (fl++W.flows) s.m W m.m≠0∧∃pd n c z',v=.tuple #[ah pd n c,ac (gErr sh (fl++W.flows) s.m W m.m)]∧L' = chgL b bc s z' (ledL b sh x L)) ∨
   (gErr sh (fl++W.flows) s.m W m.m=0∧∃pad pcap a9 a1 a2,v=.tuple #[ah pad (gPts (bO x) s.m W m.m).length pcap,ac 0]∧TkFG x fl W s.m m.m (bO x) a9 a1 a2 ∧
    L' = isl aj 3 pad (gPts (bO x) s.m W m.m)::chgL b bc s { z with stk:=a9,imp:=a1,ret:=a2 } (ledL b sh x L))):=by
 have a4:=hm.g.lots;have c5:=hA.il;have c6:=hA.rl;have b6:=vo hA.fa;have b2:=uY hA.fa
 have c3:∀f∈x.flows,f.m.n≤9223372036854775807:=fun f hf=>by
  have h1:f.m∈fl:=by rw[←b8];exact alStd0List_mem_map_of_mem hf
  obtain⟨j,hj,e⟩:=List.mem_iff_getElem.1 h1;have h2:=(hA.fn j (by rw[ay];omega)).2.2;rw[getElem!_of (by rw[ay];omega),List.getElem_append_left hj,e] at h2;omega
 have a5:=hW.stk m.m.frm m.m.item;obtain⟨⟨frm,to,item,mn,parts⟩,a3,a0⟩:=m;have b1:=hm.g.n;dsimp only at hm hk b9 hb a4 a5 b1 ⊢;refine Tri.bd (args:=[ax bc,aN (aM ⟨⟨frm,to,item,mn,parts⟩,a3,a0⟩)]) ?_;by_cases h0:frm=0
 ·subst h0;have a7:gStk (bO x) W ⟨0,to,item,mn,parts⟩=W.stk:=by unfold gStk;rw[if_pos rfl]
  have eS:s.m.kind=s.kind:=rfl;by_cases h5:s.kind=5
  ·have eE:gErr sh (fl++W.flows) s.m W ⟨0,to,item,mn,parts⟩=arrG sh (fl++W.flows) parts:=by unfold gErr;rw[if_pos rfl,if_pos (show s.m.kind=5 from h5)]
   have eP:gPts (bO x) s.m W ⟨0,to,item,mn,parts⟩=parts:=by unfold gPts;rw[if_pos rfl,if_pos (.inl h5)]
   have eI:iaOf s.m ⟨0,to,item,mn,parts⟩=parts:=if_pos h5;have eR:raOf s.m ⟨0,to,item,mn,parts⟩=[]:=if_neg ab;have b5:=hm.st (.inl h5);have b4:∀a1,SetS (uOf a1 x.imp) (fC (fl++W.flows)++parts)→TkFG x fl W s.m ⟨0,to,item,mn,parts⟩ (bO x) z.stk a1 z.ret:=fun a1 hi=>⟨fun a i=>by rw[a7];exact hW.stk a i,by rw[eI];exact hi,by rw[eR,aQ];exact hW.ret⟩;rw[eE,eP,←BH hA.fa a4 b5.2.1];simp only[chgL,ledL,aM];refine ao1 ?_;intros;rename_i b3;refine GPW.ca (ig a3 parts.length a0 parts rfl ab) ?_;rintro _ _⟨a6,c1,rfl,rfl⟩;refine ao1 ?_;intros;refine GPW.ent (L':=chgL b bc s z (ledL b sh x (isl aj 3 a3 parts::osl aj 3 tLot a6 c1 parts::obj b3 tMv [ac 0,ac to,ac item,ac mn,ah a3 parts.length a0]::L))) (by simp only[chgL,ledL];exact ae) ?_;refine GPW.ca (Eq b bc sh x s z (fC (fl++W.flows)) hW.imp ab b6 ⟨⟨0,to,item,mn,parts⟩,a3,a0⟩ a4 hb fm) ?_;rintro _ _⟨a1,rfl,b0,rfl⟩;dsimp only at b0 ⊢;simp only[chgL,ledL];by_cases he:impG sh parts (fC (fl++W.flows))=0
   ·rw[he];refine ao1 ?_;intros;refine KX.d7 al ?_ (.inr ⟨rfl,a6,c1,z.stk,a1,z.ret,rfl,b4 a1 (b0 he),rfl⟩);refine(Ent.frz a6).trans ?_;exact ae
   ·refine ao1 ?_;intros;exact KX.d7 al (by simp only[chgL,ledL];exact ae) (.inl ⟨he,a6,parts.length,c1,{ z with imp:=a1 },rfl,rfl⟩)
  by_cases a8:s.kind=9
  ·have eE:gErr sh (fl++W.flows) s.m W ⟨0,to,item,mn,parts⟩=revG (fl++W.flows) item parts:=by unfold gErr;rw[if_pos rfl,if_neg (show ¬s.m.kind=5 from h5),if_pos (show s.m.kind=9 from a8)]
   have eP:gPts (bO x) s.m W ⟨0,to,item,mn,parts⟩=parts:=by unfold gPts;rw[if_pos rfl,if_pos (.inr a8)]
   have eI:iaOf s.m ⟨0,to,item,mn,parts⟩=[]:=if_neg h5;have eR:raOf s.m ⟨0,to,item,mn,parts⟩=parts:=if_pos ⟨a8,rfl⟩;have b5:=hm.st (.inr (.inr a8));have b4:∀a2,SetS (uOf a2 x.ret) (fe (fl++W.flows)++parts)→TkFG x fl W s.m ⟨0,to,item,mn,parts⟩ (bO x) z.stk z.imp a2:=fun a2 hi=>⟨fun a i=>by rw[a7];exact hW.stk a i,by rw[eI,aQ];exact hW.imp,by rw[eR];exact hi⟩;rw[eE,eP,←Bv b7.1 hA.fa hA.fn item a4 b5.2.1,xa (h9 a8)];simp only[chgL,ledL,aM];refine ao1 ?_;intros;rename_i b3;refine GPW.ca (ig a3 parts.length a0 parts rfl ab) ?_;rintro _ _⟨a6,c1,rfl,rfl⟩;refine ao1 ?_;intros;refine GPW.ent (L':=chgL b bc s z (ledL b sh x (isl aj 3 a3 parts::osl aj 3 tLot a6 c1 parts::obj b3 tMv [ac 0,ac to,ac item,ac mn,ah a3 parts.length a0]::L))) (by simp only[chgL,ledL];exact ae) ?_;refine GPW.ca (xb b bc sh x s z (fe (fl++W.flows)) hW.ret ab b2 ⟨⟨0,to,item,mn,parts⟩,a3,a0⟩ a4 hb fm b7 ab c3) ?_;rw[b8];rintro _ _⟨a2,rfl,b0,rfl⟩;dsimp only at b0 ⊢;simp only[chgL,ledL];by_cases he:retG sh fl item parts (fe (fl++W.flows))=0
   ·rw[he];refine ao1 ?_;intros;refine KX.d7 al ?_ (.inr ⟨rfl,a6,c1,z.stk,z.imp,a2,rfl,b4 a2 (b0 he),rfl⟩);refine(Ent.frz a6).trans ?_;exact ae
   ·refine ao1 ?_;intros;exact KX.d7 al (by simp only[chgL,ledL];exact ae) (.inl ⟨he,a6,parts.length,c1,{ z with ret:=a2 },rfl,rfl⟩)
  have eE:gErr sh (fl++W.flows) s.m W ⟨0,to,item,mn,parts⟩=0:=by unfold gErr;rw[if_pos rfl,if_neg (show ¬s.m.kind=5 from h5),if_neg (show ¬s.m.kind=9 from a8)]
  have eP:gPts (bO x) s.m W ⟨0,to,item,mn,parts⟩=[]:=by unfold gPts;rw[if_pos rfl,if_neg ab]
  have eI:iaOf s.m ⟨0,to,item,mn,parts⟩=[]:=if_neg h5;have eR:raOf s.m ⟨0,to,item,mn,parts⟩=[]:=if_neg ab;simp only[chgL,ledL,aM];rw[eE,eP];refine ao1 ?_;intros;refine KX.d7 al ?_ (.inr ⟨rfl,none,0,z.stk,z.imp,z.ret,rfl,⟨fun a i=>by rw[a7];exact hW.stk a i,by rw[eI,aQ];exact hW.imp,by rw[eR,aQ];exact hW.ret⟩,rfl⟩);refine Ent.trans ?_ (Ent.e8 aj 3 none);exact ae
 have eI:iaOf s.m ⟨frm,to,item,mn,parts⟩=[]:=if_neg (fun q=>h0 (hm.imp q));have eR:raOf s.m ⟨frm,to,item,mn,parts⟩=[]:=if_neg (fun q=>h0 q.2);have hG:=hA.g.stk frm item;have c8:=hG.len
 have c0:dM parts∧Apart parts:=by
  rcases hm.g.parts with q|q
  ·dsimp only at q;rw[q];exact⟨⟨(fun x hx=>by cases hx),by decide⟩,List.Pairwise.nil⟩
  ·exact⟨q.1,(partsA_iff.2 q).2.1⟩
 refine ao1 ?_;intros;refine GO.ent Ent.drop ?_;refine GO.ca (ug b bc sh x s z ⟨⟨frm,to,item,mn,parts⟩,a3,a0⟩ ⟨b9,⟨by have:=b1.1;dsimp only;omega,b1.2⟩,c0.1,c0.2,by rw[a5];exact⟨hG.lots,ab⟩,by rw[a5];exact hG.apt⟩ (hT _) c2) ?_;dsimp only;rw[a5];rintro _ _ (⟨h1,rfl,rfl⟩|⟨h1,pad,pcap,sk,rfl,c4,rfl⟩)
 ·have e:=Gw (sh:=sh) (fl:=fl++W.flows) (s:=s.m) (W:=W) (m:=⟨frm,to,item,mn,parts⟩) h0 h1;rw[e];refine ao1 ?_;intros;exact KX.d7 al (Ent.refl _) (.inl ⟨by decide,none,0,0,z,rfl,rfl⟩)
 ·have eE:gErr sh (fl++W.flows) s.m W ⟨frm,to,item,mn,parts⟩=0:=Classical.byContradiction fun q=>h1 ((IG h0).1 q);have eP:gPts (bO x) s.m W ⟨frm,to,item,mn,parts⟩=sP (bO x item) (W.stk frm item) ⟨frm,to,item,mn,parts⟩:=by unfold gPts;rw[if_neg h0];rfl
  rw[eE,eP];refine ao1 ?_;intros;refine KX.d7 al (Ent.refl _) (.inr ⟨rfl,pad,pcap,gins z.stk (frm,item) sk,z.imp,z.ret,rfl,⟨?_,by rw[eI,aQ];exact hW.imp,by rw[eR,aQ];exact hW.ret⟩,rfl⟩);intro a i;rw[kN];unfold gStk upd2;rw[if_neg h0];by_cases hq:a=frm∧i=item
  ·obtain⟨rfl,rfl⟩:=hq;rw[if_pos rfl,if_pos ⟨rfl,rfl⟩,c4];rfl
  ·rw[if_neg (fun h=>hq (by simpa using h)),if_neg hq];exact hW.stk a i
abbrev Ad:=ay6 [.ev 10,.ev 11]
abbrev Ac:=ay6 [.ev 10]
abbrev xr:=ay4 [.ev 6,.ef 7]
abbrev xq:=ay8 [.ev 17,.ev 18,.ev 19,.ev 20,.ev 21,.ev 22,.ev 23,.ev 24,.ev 25,.ev 26,.ev 27,.ev 28,.ev 29,.ev 30,.ev 31,.ev 32,.ev 33,.ev 34,.ev 35,.ev 36,.ev 37,.ev 38,.ev 39,.ev 40,.ev 41,.ev 42,.ev 43,.ev 44,.ev 45,.ev 46,.ev 47,.ev 48,.ev 49,.ev 50,.ev 51,.ev 52,.ef 53,.ef 54]
abbrev xp:=ay4 [.ef 6,.ef 7,.ev 8,.ev 9,.ef 10]
abbrev xo:=ay4 [.ev 6,.ef 7,.ef 8,.ev 9,.ev 10,.ef 11]
abbrev xn:=ay7 [.ev 13,.ev 14,.ef 15,.ef 16]
def bS{φ ψ:Prop}(k:ψ)(h:Hid ψ→φ:=by intro k;(with_reducible apply G.d7);first|refine G.dr 186 4 Ad (Hid.out k)|refine G.dr 186 6 Ac (Hid.out k)|refine G.dr 186 13 xr (Hid.out k)|refine G.dr 186 14 xq (Hid.out k)|refine G.dr 186 17 xp (Hid.out k)|refine G.dr 186 19 xo (Hid.out k)|refine G.dr 186 24 xn (Hid.out k)):φ:=h ⟨k⟩
def ap3{φ ψ:Prop}(k:ψ)(h:Hid ψ→φ:=by intro k;(repeat (first|refine aa ?_|intro zzz|refine G.dr 186 4 Ad ?_|refine G.dr 186 6 Ac ?_|refine G.dr 186 13 xr ?_|refine G.dr 186 14 xq ?_|refine G.dr 186 17 xp ?_|refine G.dr 186 19 xo ?_|refine G.dr 186 24 xn ?_));(repeat revert zzz);exact Hid.out k):φ:=h ⟨k⟩
def DJ{L:LH}(b bc:Nat)(sh:Int)(x:LedX)(s:StV)(z:ChG)(m:MvV)(W:Wk)(fl0:List FlM)(k:Nat)(d0:x.flows.map FlV.m=fl0)(hW:WkFG x z fl0 W)(hA:WkA sh fl0 k W)(hm:MvA s.kind m.m)(hk:k+m.m.parts.length≤2000)(e5:0≤m.m.item∧m.m.item<x.cat.items.length)(hb:∀p∈m.m.parts,p.1≤9223372036854775807)(h9:s.kind=9→∀f∈W.flows,f.to≠0)(c9:0≤sh∧sh<12)(f4:x.flows.length≤4194304)(g5:W.flows.length<64)(hT:∀mx,TakeC mx)(e3:x.cat.items.length≤64) :
  Tri ai 124 #[ax bc,aN (aM m)] (isl aj 3 m.pad m.m.parts::chgL b bc s z (ledL b sh x L)) (fun v L'=>∃z',v=ac (cm sh fl0 (bO x) s.m W m.m).1 ∧
   ((cm sh fl0 (bO x) s.m W m.m).1=0→WkFG x z' fl0 (cm sh fl0 (bO x) s.m W m.m).2)∧L' = chgL b bc s z' (ledL b sh x L)):=by
 have d2:=fun (M:LH)=>Ck (L:=M) b bc sh x s z m W fl0 k d0 hW hA hm hk e5 hb h9 c9 ab hT e3;obtain⟨g4,g0⟩:=c9;obtain⟨g3,f9⟩:=hm.g.n;have g2:=hm.g.ne;obtain⟨f6,g6⟩:=hA.g.tot m.m.item;have e6:fl0.length=x.flows.length:=by rw[←d0,aA]
 have f0:z.flows.length=W.flows.length:=by rw[←hW.flows,aA]
 have g1:z.sunk.length≤64:=by rw[hW.sunk];have:=hA.g.sunk;omega
 have f1:=fun (he:gErr sh (fl0++W.flows) s.m W m.m=0)=>qv (mix:=bO x) hA.g hm.g ab he;have c5:=vp (sh:=sh) (nf:=fl0.length) (mix:=bO x) (s:=s.m) (W:=W) hm (fl0++W.flows);refine Tri.bd ?_;refine ap3 ?_;intros;rename_i b3;refine GO.ent (L':=isl aj 3 m.pad m.m.parts::chgL b bc s z (ledL b sh x (obj b3 tMv (aM m)::L))) (by simp only[chgL,ledL];exact ae) ?_;refine GO.ca (d2 (obj b3 tMv (aM m)::L)) ?_;rintro _ _ (⟨h1,pd,pn,pc,z',rfl,rfl⟩|⟨h1,pad,pcap,a0,a1,a2,rfl,f2,rfl⟩)
 ·have e:cm sh fl0 (bO x) s.m W m.m=(gErr sh (fl0++W.flows) s.m W m.m,W):=by unfold cm;rw[if_pos h1]
  rw[e];generalize gErr sh (fl0++W.flows) s.m W m.m=er at *;dsimp only;refine ap3 ?_;intros;exact KX.d7 al (by simp only[chgL,ledL];exact ae) ⟨z',rfl,(fun h=>absurd h h1),rfl⟩
 obtain⟨b0,a7,a8⟩:=f2;have d5:cB sh fl0.length W=sh*4294967296+(x.flows.length:Int)+(z.flows.length:Int):=by unfold cB;rw[f0,e6]
 have e2:cm sh fl0 (bO x) s.m W m.m=if cq W m.m>1099511627776 then(4,W)
   else if m.m.to=0 then(0,⟨gStk (bO x) W m.m,upd W.tot m.m.item (cq W m.m),W.flows++[eY sh fl0.length (bO x) s.m W m.m],W.sunk++[cB sh fl0.length W]⟩)
   else if 4096≤(gStk (bO x) W m.m m.m.to m.m.item).length then(4,W)
   else(0,⟨upd2 (gStk (bO x) W m.m) m.m.to m.m.item (aY (gStk (bO x) W m.m m.m.to m.m.item) (cB sh fl0.length W,0,m.m.n)),upd W.tot m.m.item (cq W m.m),W.flows++[eY sh fl0.length (bO x) s.m W m.m],W.sunk⟩):=by unfold cm;rw[if_neg (fun q=>q h1)]
 have b6:eY sh fl0.length (bO x) s.m W m.m=⟨cB sh fl0.length W,s.id,s.kind,s.tick,s.actor,m.m.frm,m.m.to,m.m.item,m.m.n,gPts (bO x) s.m W m.m,cX s.m W m.m⟩:=rfl;rw[←c5.1] at a7;rw[←c5.2] at a8;clear c5 d2;rw[e2];generalize eY sh fl0.length (bO x) s.m W m.m=fl at *;generalize gPts (bO x) s.m W m.m=pts at *;rw[aH] at a7 a8;have c8:cq W m.m=W.tot m.m.item+(if m.m.frm=0 then m.m.n else 0) - (if m.m.to=0 then m.m.n else 0):=rfl;have e0:=hW.tot m.m.item;simp only[chgL,ledL,cn];refine ap3 ?_;intros;refine GPW.evL (Ev.l8 rfl rfl) ag ?_;repeat first|((fail_if_success (with_reducible refine G.d9 5 ?_));(with_reducible apply G.seq))|refine bW ?_|intro _|refine bS ?_
 refine G.d8 (α:=Unit) (fun _=>True) (fun _=>[(0,ax bc),(3,ax b3),(4,ac 0),(5,ah pad pts.length pcap),(7,ac (W.tot m.m.item))]) (fun _=>isl aj 3 pad pts::chgL b bc s { z with stk:=a0,imp:=a1,ret:=a2 } (ledL b sh x (obj b3 tMv (aM m)::L))) ?_ ?_
 ·cases hl:@List.lookup _ _ instBEqOfDecidableEq m.m.item z.tot with
  | some t =>
   simp only[fq,gk,Option.isSome_some];have e:W.tot m.m.item=t:=by rw[←e0];unfold glk;rw[hl];rfl
   rw[e];refine ap3 ?_;intros;exact⟨(),trivial,av,Ent.refl _⟩
  | none =>
   simp only[eK,dY,Option.isSome_none];have e:W.tot m.m.item=(glk x.tot m.m.item).getD 0:=by rw[←e0];unfold glk;rw[hl];rfl
   rw[e];refine ap3 ?_;intros;refine GPW.evL (Ev.e8 rfl rfl) ag ?_;rw[Ch];refine ap3 ?_;intros;exact⟨(),trivial,av,Ent.refl _⟩
 rintro _ _;simp only[chgL,ledL,cn];refine G.d8 (α:=Unit) (fun _=>True) (fun _=>[(0,ax bc),(3,ax b3),(4,ac 0),(5,ah pad pts.length pcap),(7,ac (W.tot m.m.item+(if m.m.frm=0 then m.m.n else 0)))]) (fun _=>isl aj 3 pad pts::chgL b bc s { z with stk:=a0,imp:=a1,ret:=a2 } (ledL b sh x (obj b3 tMv (aM m)::L))) ?_ ?_
 ·by_cases h0:m.m.frm=0
  ·rw[if_pos h0];refine ap3 ?_;intros;exact⟨(),trivial,av,Ent.refl _⟩
  ·rw[if_neg h0,da];refine ap3 ?_;intros;exact⟨(),trivial,av,Ent.refl _⟩
 rintro _ _;simp only[chgL,ledL,cn];have c0 : -9223372036854775808+1099511627776≤W.tot m.m.item+(if m.m.frm=0 then m.m.n else 0)∧W.tot m.m.item+(if m.m.frm=0 then m.m.n else 0)≤2199023255552:=by split<;>omega
 obtain⟨c0,f3⟩:=c0;refine G.d8 (α:=Unit) (fun _=>True) (fun _=>[(0,ax bc),(3,ax b3),(4,ac 0),(5,ah pad pts.length pcap),(7,ac (cq W m.m))]) (fun _=>isl aj 3 pad pts::chgL b bc s { z with stk:=a0,imp:=a1,ret:=a2 } (ledL b sh x (obj b3 tMv (aM m)::L))) ?_ ?_
 ·rw[c8];generalize W.tot m.m.item+(if m.m.frm=0 then m.m.n else 0)=t1 at *;by_cases h0:m.m.to=0
  ·rw[if_pos h0];refine ap3 ?_;intros;exact⟨(),trivial,av,Ent.refl _⟩
  ·rw[if_neg h0,fG];refine ap3 ?_;intros;exact⟨(),trivial,av,Ent.refl _⟩
 rintro _ _;simp only[chgL,ledL,cn];by_cases b5:cq W m.m>1099511627776
 ·rw[if_pos b5];refine ap3 ?_;intros;exact KX.d7 al ae ⟨{ z with stk:=a0,imp:=a1,ret:=a2 },rfl,(fun h=>absurd (show(_:Int)=0 from h) fm),rfl⟩
 rw[if_neg b5];clear c8 c0 f3;refine ap3 ?_;intros;refine GPW.efu (Ef.e7 (enc:=encN) (e:=cq W m.m) rfl rfl rfl rfl) ?_;rintro _ _ rfl;repeat first|((fail_if_success (with_reducible refine G.d9 15 ?_));(with_reducible apply G.seq))|refine bW ?_|intro _|refine bS ?_
 rename_i b9
 have a4:∀(mad:OA) (mcap:Nat),bL (flV fl pad pcap mad mcap)=[ac (sh*4294967296+(x.flows.length:Int)+(z.flows.length:Int)),ac s.id,ac s.kind,ac s.tick,ac s.actor,ac m.m.frm,ac m.m.to,ac m.m.item,ac m.m.n,ah pad pts.length pcap,ah mad (cX s.m W m.m).length mcap]:=by
  intro mad mcap;rw[b6,d5];rfl
 refine G.d8 (α:=OA×Nat) (fun _=>True) (fun _=>[(0,ax bc),(3,ax b3),(4,ac 0),(9,ax b9)]) (fun g=>obj b9 cz (bL (flV fl pad pcap g.1 g.2))::isl (encZ .i64) 1 g.1 (cX s.m W m.m)::isl aj 3 pad pts::chgL b bc s { z with stk:=a0,imp:=a1,ret:=a2,tot:=gins z.tot m.m.item (cq W m.m) } (ledL b sh x (obj b3 tMv (aM m)::L))) ?_ ?_
 ·by_cases b7:m.m.frm=0∧(s.kind=4∨s.kind=10)
  ·obtain⟨c1,a9⟩:=b7;have e:cX s.m W m.m=z.sunk:=by unfold cX;rw[if_pos ⟨c1,a9⟩,hW.sunk]
   rcases a9 with a9|a9
   ·refine ap3 ?_;intros;refine GO.ca (iZ z.kad z.sunk.length z.kcap z.sunk rfl ab) ?_;rintro _ _⟨mad,mcap,rfl,rfl⟩;refine ap3 ?_;intros;refine⟨(mad,mcap),trivial,av,?_⟩;rw[a4,e];refine(Ent.frz mad).trans ?_;exact ae
   ·refine ap3 ?_;intros;refine GO.ca (iZ z.kad z.sunk.length z.kcap z.sunk rfl ab) ?_;rintro _ _⟨mad,mcap,rfl,rfl⟩;refine ap3 ?_;intros;refine⟨(mad,mcap),trivial,av,?_⟩;rw[a4,e];refine(Ent.frz mad).trans ?_;exact ae
  ·have e:cX s.m W m.m=[]:=by
    unfold cX;exact if_neg b7
   by_cases h0:m.m.frm=0
   ·have f5:¬s.kind=4:=fun h=>b7 ⟨h0,.inl h⟩;have e1:¬s.kind=10:=fun h=>b7 ⟨h0,.inr h⟩;refine ap3 ?_;intros;refine⟨(none,0),trivial,av,?_⟩;rw[a4,e];refine Ent.trans ?_ (Ent.d7 (Ent.e8 (encZ .i64) 1 none));exact ae
   ·refine ap3 ?_;intros;refine⟨(none,0),trivial,av,?_⟩;rw[a4,e];refine Ent.trans ?_ (Ent.d7 (Ent.e8 (encZ .i64) 1 none));exact ae
 rintro⟨mad,mcap⟩ _;simp only[chgL,ledL,cn];refine ap3 ?_;intros;refine GPW.ef (Ef.d7 (enc:=bL) (e:=flV fl pad pcap mad mcap) rfl rfl rfl rfl rfl aK (jf _) ab ab) ag ?_;rintro _ _⟨a5,a3,rfl,rfl⟩;repeat first|((fail_if_success (with_reducible refine G.d9 18 ?_));(with_reducible apply G.seq))|refine bW ?_|intro _|refine bS ?_
 have a6:fl.id=cB sh fl0.length W:=by rw[b6]
 have b4:fl.n=m.m.n:=by rw[b6]
 have c3:fl.made=cX s.m W m.m:=by rw[b6]
 have c4:fl.parts=pts:=by rw[b6]
 refine G.ent (L':=obj b9 cz (bL (flV fl pad pcap mad mcap))::chgL b bc s { z with stk:=a0,imp:=a1,ret:=a2,tot:=gins z.tot m.m.item (cq W m.m),flows:=z.flows++[flV fl pad pcap mad mcap],fad:=a5,fcap:=a3 } (ledL b sh x (obj b3 tMv (aM m)::L))) ?_ ?_
 ·simp only[chgL,ledL,cn];refine(Ent.at (A:=isl (encZ .i64) 1 mad (cX s.m W m.m)) (Ent.refl _)).trans ?_;refine(Ent.at (A:=isl aj 3 pad pts) (Ent.refl _)).trans ?_;rw[←c4,←c3];refine(Ent.e9 (bN _ _ _ _) (bN _ _ _ _)).trans ?_;refine(Ent.at (A:=allP flP z.flows) (Ent.refl _)).trans ?_;refine((Ent.d7 (Ent.f8 (f:=flP) (x:=flV fl pad pcap mad mcap) kG)).trans (Ent.g7 kG)).trans ?_;exact ae
 have c6:∀i,(glk (gins z.tot m.m.item (cq W m.m)) i).getD ((glk x.tot i).getD 0)=upd W.tot m.m.item (cq W m.m) i:=by
  intro i;unfold glk upd;have hq:=iw (m:=z.tot) (k:=m.m.item) (q:=i) (a:=cq W m.m);refine(congrArg (fun o:Option Int=>o.getD ((glk x.tot i).getD 0)) hq).trans ?_;by_cases hi:i=m.m.item
  ·rw[if_pos hi,if_pos hi];rfl
  ·rw[if_neg hi,if_neg hi];exact hW.tot i
 have d3:(z.flows++[flV fl pad pcap mad mcap]).map FlV.m=W.flows++[fl]:=by rw[aW,hW.flows];rfl
 simp only[chgL,ledL,cn];by_cases h0:m.m.to=0
 ·rw[if_pos h0];refine ap3 ?_;intros;refine GPW.ef (Ef.d7 (enc:=encZ .i64) (e:=(flV fl pad pcap mad mcap).m.id) rfl rfl rfl rfl rfl aK (by simp[encZ,Value.oneCell']) ab ab) ag ?_;rintro _ _⟨b8,b2,rfl,rfl⟩;refine ap3 ?_;intros;refine KX.d7 al ?_ ⟨{ z with stk:=a0,imp:=a1,ret:=a2,tot:=gins z.tot m.m.item (cq W m.m),flows:=z.flows++[flV fl pad pcap mad mcap],fad:=a5,fcap:=a3,sunk:=z.sunk++[fl.id],kad:=b8,kcap:=b2 },rfl,fun _=>⟨b0,c6,d3,?_,a7,a8⟩,rfl⟩
  ·simp only[chgL,ledL,cn];exact ae
  ·show z.sunk++[fl.id]=W.sunk++[cB sh fl0.length W];rw[hW.sunk,a6]
 rw[if_neg h0];refine ap3 ?_;intros;refine GO.ent (L':=stkP (uOf a0 x.stk (m.m.to,m.m.item))::obj b9 cz (bL (flV fl pad pcap mad mcap))::chgL b bc s { z with stk:=a0,imp:=a1,ret:=a2,tot:=gins z.tot m.m.item (cq W m.m),flows:=z.flows++[flV fl pad pcap mad mcap],fad:=a5,fcap:=a3 } (ledL b sh x (obj b3 tMv (aM m)::L))) ?_ ?_
 ·simp only[chgL,ledL,cn];refine(Ent.at (A:=allP (fun p:(Int×Int)×Stk=>stkP p.2) a0) (Ent.refl _)).trans ?_;refine(Ent.d7 (Ent.at (A:=allP (fun p:(Int×Int)×Stk=>stkP p.2) x.stk) (Ent.refl _))).trans ?_;refine(qO (m.m.to,m.m.item)).trans ?_;exact ae
 simp only[chgL,ledL];refine GO.cr (rp (b:=b) (sh:=sh) (x:=x) (s:=s) (z:={ z with stk:=a0,imp:=a1,ret:=a2,tot:=gins z.tot m.m.item (cq W m.m),flows:=z.flows++[flV fl pad pcap mad mcap],fad:=a5,fcap:=a3 }) m.m.to m.m.item) ?_;dsimp only;have e4:=b0 m.m.to m.m.item;have c7:=f1 h1 m.m.to m.m.item;have d4:(gStk (bO x) W m.m m.m.to m.m.item).length≤4096:=cK c7.len ab;have d1:=c7.lots;rw[←e4] at d4 d1 ⊢;generalize hsk:uOf a0 x.stk (m.m.to,m.m.item)=sk at *;simp only[Stk.v,cn];by_cases d6:4096≤sk.lots.length
 ·rw[if_pos d6];refine ap3 ?_;intros;refine KX.d7 al ?_ ⟨{ z with stk:=a0,imp:=a1,ret:=a2,tot:=gins z.tot m.m.item (cq W m.m),flows:=z.flows++[flV fl pad pcap mad mcap],fad:=a5,fcap:=a3 },rfl,(fun h=>absurd (show(_:Int)=0 from h) fm),rfl⟩;exact ae
 rw[if_neg d6];refine ap3 ?_;intros;refine GPW.ent (Ent.at (A:=stkP sk) (Ent.refl _)) ?_
 have c2:LotOk ((flV fl pad pcap mad mcap).m.id,0,(flV fl pad pcap mad mcap).m.n):=by
  show LotOk (fl.id,0,fl.n);rw[a6,b4,d5];unfold LotOk;dsimp only;omega
 refine GPW.ca (vl sk.ad sk.cap sk.lots ((flV fl pad pcap mad mcap).m.id,0,(flV fl pad pcap mad mcap).m.n) d4 d1 c2) ?_;rintro _ _⟨ad2,b1,rfl,rfl⟩;refine ap3 ?_;intros;refine GPW.efu (Ef.e7 (enc:=Stk.v) (e:=(⟨ad2,b1,aY sk.lots (fl.id,0,fl.n)⟩:Stk)) rfl rfl rfl rfl) ?_;rintro _ _ rfl;refine ap3 ?_;intros;refine KX.d7 al ?_ ⟨{ z with stk:=gins a0 (m.m.to,m.m.item) ⟨ad2,b1,aY sk.lots (fl.id,0,fl.n)⟩,imp:=a1,ret:=a2,tot:=gins z.tot m.m.item (cq W m.m),flows:=z.flows++[flV fl pad pcap mad mcap],fad:=a5,fcap:=a3 },rfl,fun _=>⟨?_,c6,d3,hW.sunk,a7,a8⟩,rfl⟩
 ·simp only[chgL,ledL,cn];refine(Ent.frz ad2).trans ?_;refine(Ent.at (A:=allP (fun p:(Int×Int)×Stk=>stkP p.2) a0) (Ent.refl _)).trans ?_;refine(Ent.at (A:=stkP ⟨ad2,b1,aY sk.lots (fl.id,0,fl.n)⟩) (lI (k:=(m.m.to,m.m.item)))).trans ?_;exact ae
 ·intro a i;dsimp only;rw[kN];unfold upd2;by_cases hq:a=m.m.to∧i=m.m.item
  ·obtain⟨rfl,rfl⟩:=hq;rw[if_pos rfl,if_pos ⟨rfl,rfl⟩];dsimp only;rw[a6,b4]
  ·rw[if_neg (fun h=>hq (by simpa using h)),if_neg hq];exact b0 a i
structure LedFG (S:LedM) (x:LedX):Prop where
 cat:x.cat.m=S.cat
 catB:x.cat.B
 stk:∀a i,(eA x.stk (a,i)).lots=S.stk a i
 full:∀p∈x.stk,p.2.lots≠[]
 tot:∀i,(glk x.tot i).getD 0=S.tot i
 steps:x.steps.map StV.m=S.steps
 flows:x.flows.map (·.m)=S.flows
 imp:SetS (eA x.imp) (fC S.flows)
 ret:SetS (eA x.ret) (fe S.flows)
def qY(b:Nat)(S:LedM)(x:LedX):LH:=dz (LedFG S x)::ledL b S.shard x []
def rh(b:Nat)(S:LedM):HP:=hex fun x=>cR (qY b S x)
def qk{b:Nat}{S:LedM}{L:LH}(x:LedX)(h:LedFG S x):Ent (ledL b S.shard x L) (rh b S::L) :=
 Ent.j0 (f:=qY b S) x (Ent.pure h (Ent.refl _))
def Ik{S:LedM}{x:LedX}(h:LedFG S x):xnow x=S.now:=by
 unfold LedM.now xnow;rw[←h.steps,List.getLast?_map,Option.map_map];rfl
def Hk{sh:Int}{fl:List FlM}{mix:Int→Bool}{s:StM}{W:Wk}{m:MvM}(h:∀f∈W.flows,f.to≠0)(hm:m.to≠0):∀f∈(cm sh fl mix s W m).2.flows,f.to≠0:=by
 have h2:∀f∈W.flows++[eY sh fl.length mix s W m],f.to≠0:=fun f hf=>by
  rcases List.mem_append.1 hf with q|q
  ·exact h f q
  ·rw[List.mem_singleton.1 q];exact hm
 unfold cm;rw[if_neg hm];split
 ·exact h
 split
 ·exact h
 split
 ·exact h
 ·exact h2
def IR{n:Nat}{m:MvM}(h:mvAP n 9 m):m.to≠0:=by
 have h2:fO 9 m:=h.2.2.2.2.2;exact(show m.to≠0∧fY m.parts m.n from h2).1
abbrev Dy:=ay7 [.ev 13,.ev 14,.ef 15]
def ar9{φ ψ:Prop}(k:ψ)(h:Hid ψ→φ:=by intro k;(repeat (first|refine aa ?_|intro zzz|refine G.dr 62 6 Dy ?_));(repeat revert zzz);exact Hid.out k):φ:=h ⟨k⟩
def EM{L:LH}(b:Nat)(S:LedM)(k:Nat)(hS:LedA k S)(hc:S.cat.Ok)(h0:0≤S.now)(x:LedX)(hF:LedFG S x)(s:StV)(hs:StInG s)(c5:s.moves.length≤s.mcap)(hk:k+mvK s.m.moves≤2000)(hT:∀mx,TakeC mx) :
  Tri ai 64 #[ax b,aN (aT s)] (ledL b S.shard x (stM s::stP s::L)) (fun v L' =>
   ((gTry S s.m).1≠0∧v=.tuple #[.pointer none,ac (gTry S s.m).1]∧L' = ledL b S.shard x (stM s::stP s::L)) ∨
   ((gTry S s.m).1=0∧∃bc s' z,v=.tuple #[ax bc,ac 0]∧(s'.m=s.m.at (aO S)∧WkFG x z S.flows (gTry S s.m).2)∧L' = chgL b bc s' z (ledL b S.shard x (stM s'::stP s'::stM s::stP s::L)))):=by
 obtain⟨a4,b7⟩:=hS.g.shard;have f0:=hS.g.steps;have f1:=hS.g.flows;have e3:x.steps.length=S.steps.length:=by rw[←hF.steps,aA]
 have e6:x.flows.length=S.flows.length:=by rw[←hF.flows,aA]
 have hB:=hF.catB;have e4:=hs.len;have b3:=hF.cat;have d4:=hB.items;have a5:xnow x=S.now:=Ik hF;have c3:bO x=bA S.cat:=by funext i;unfold bO bA;rw[←b3];rfl
 refine Tri.bd ?_;simp only[ledL,bJ];by_cases h1:65536≤S.steps.length
 ·have e:gTry S s.m=(4,wk0 S):=by unfold gTry;rw[if_pos h1]
  rw[e];refine ar9 ?_;intros;exact KX.d7 al ae (.inl ⟨by dsimp only;omega,rfl,rfl⟩)
 refine ar9 ?_;intros;refine GO.ent (Ent.at (A:=stP s) (Ent.refl _)) ?_;refine GO.ent (Ent.at (A:=catP x.cat) (Ent.refl _)) ?_;refine GO.cr (CA (b:=b) (sh:=S.shard) (x:=x) s hs.parts (b3▸hc) hB ab e4 c5 hs.rule (a5▸h0)) ?_;rw[b3,a5];by_cases h2:fN S.cat S.now s.m
 case neg =>
  have e:gTry S s.m=(1,wk0 S):=by unfold gTry;rw[if_neg h1,if_pos h2]
  rw[e,aG h2];refine ar9 ?_;intros;exact KX.d7 al ae (.inl ⟨by dsimp only;omega,rfl,rfl⟩)
 have e:gTry S s.m=cZ S.shard S.flows (bA S.cat) (s.m.at (aO S)) (wk0 S) s.m.moves:=by unfold gTry;rw[if_neg h1,if_neg (fun h=>h h2)]
 rw[e,aS h2];have hA:=possG_A.1 h2;have d0:=mJ h2;have c0:s.m.moves=s.moves.map MvV.m:=rfl;have b4:s.moves.length≤64:=by have:=h2.2.2.2.1.2;rwa [c0,aA] at this
 have d6:∀m∈s.moves,m.m.parts.length≤1000000:=fun m hm=>by
  rcases (d0 m.m (by rw[c0];exact alStd0List_mem_map_of_mem hm)).g.parts with q|q
  ·rw[q];decide
  ·have:=q.1.2;omega
 refine ar9 ?_;intros;refine GO.ent (Ent.at (A:=stM s) (Ent.d7 (Ent.at (A:=stP s) (Ent.refl _)))) ?_;refine GO.ca (qF s b4 d6) ?_;rintro _ _⟨s',rfl,c6,rfl⟩;have b1:s'.moves.map MvV.m=s.m.moves:=congrArg StM.moves c6;have d1:s'.moves.length=s.moves.length:=by have:=congrArg List.length b1;rwa [c0,aA,aA] at this
 have c7:s'.kind=s.kind:=congrArg StM.kind c6;simp only[aT];refine ar9 ?_;intros;refine GO.ef (Ef.d9 kvP Stk.v (.inl rfl)) ag ?_;rintro _ _⟨cs,rfl,rfl⟩;refine ar9 ?_;intros;refine GO.ef (Ef.d9 kvI encN (.inl rfl)) ag ?_;rintro _ _⟨ct,rfl,rfl⟩;refine ar9 ?_;intros;refine GO.ef (Ef.d9 kvI Stk.v (.inl rfl)) ag ?_;rintro _ _⟨ci,rfl,rfl⟩;refine ar9 ?_;intros;refine GO.ef (Ef.d9 kvI Stk.v (.inl rfl)) ag ?_;rintro _ _⟨cr,rfl,rfl⟩;refine ar9 ?_;intros;rename_i bc;have e1:S.shard*4294967296+(x.steps.length:Int)=aO S:=by unfold aO;rw[e3]
 rw[e1]
 have a8:(s'.at (aO S)).m=s.m.at (aO S):=by
  show StM.at s'.m (aO S)=_;rw[c6]
 have a7:S.flows++(wk0 S).flows=S.flows:=aQ _;have a9:WkFG x ⟨cs,ct,ci,cr,[],[],[],[],[],none,0,[],none,0⟩ S.flows (wk0 S):=⟨fun a i=>hF.stk a i,fun i=>hF.tot i,rfl,rfl,by rw[a7];exact hF.imp,by rw[a7];exact hF.ret⟩
 refine G.loop (α:=Nat×ChG×Wk) (fun g=>g.1≤s'.moves.length∧WkFG x g.2.1 S.flows g.2.2∧WkA S.shard S.flows (k+mvK (s.m.moves.take g.1)) g.2.2∧g.2.2.flows.length=g.1∧(s.kind=9→∀f∈g.2.2.flows,f.to≠0)∧cZ S.shard S.flows (bA S.cat) (s.m.at (aO S)) (wk0 S) s.m.moves=cZ S.shard S.flows (bA S.cat) (s.m.at (aO S)) g.2.2 (s.m.moves.drop g.1))
  (fun g=>[(0,ax b),(4,.pointer none),(5,ac 0),(6,ax bc),(48,ah s'.mad s'.moves.length s'.mcap),(49,ac (s'.moves.length:Int)),(50,ac (g.1:Int))])
  (fun g=>chgL b bc (s'.at (aO S)) g.2.1 (ledL b S.shard x (stM s'::stP s'::stM s::stP s::L))) (fun g=>s'.moves.length - g.1) (0,⟨cs,ct,ci,cr,[],[],[],[],[],none,0,[],none,0⟩,wk0 S) ⟨aw _,a9,sL hS,rfl,(fun _ f hf=>by cases hf),rfl⟩ av ?_ ?_
 ·simp only[chgL,ledL,cn,bJ,StV.at,cQ];refine(Ent.d8 bL 11 cz).trans ?_;refine(Ent.d8 (encZ .i64) 1 tInt).trans ?_;refine(Ent.d9 (fun p:(Int×Int)×Stk=>stkP p.2)).trans ?_;refine(Ent.d9 (fun p:Int×Stk=>stkP p.2)).trans ?_;refine(Ent.d9 (fun p:Int×Stk=>stkP p.2)).trans ?_;refine(Ent.d9 flP).trans ?_;exact ae
 rintro⟨i,z,W⟩ ⟨hi,hW,hO,c8,c4,a0⟩;dsimp only at hi hW hO c8 c4 a0 ⊢;by_cases c2:i<s'.moves.length
 case neg =>
  have c1:s.m.moves.drop i=[]:=bC (by rw[←b1,aA];omega);rw[c1] at a0;rw[a0];simp only[chgL,ledL,cn,bJ];refine ar9 ?_;intros;exact KX.d7 al (Ent.refl _) (.inr ⟨rfl,bc,s'.at (aO S),z,rfl,⟨a8,hW⟩,rfl⟩)
 have e2:(i:Int).toNat=i:=ab;have b2:s'.moves[i]!.m=s.m.moves[i]!:=by rw[←b1];exact(el MvV.m c2).symm
 have b5:i<s.m.moves.length:=by rw[←b1,aA];exact c2
 have c9:i<s.moves.length:=ab;have e0:s'.moves[i]!.m=s.moves[i]!.m:=b2.trans (el MvV.m c9);have c1:s.m.moves.drop i=s'.moves[i]!.m::s.m.moves.drop (i+1):=by rw[b2];exact eZ b5
 have a6:s'.moves[i]!.m∈s.m.moves:=by rw[b2];exact aI b5
 have a1:=hA.2.2.2.2.1 s'.moves[i]!.m a6;have a3:=d0 s'.moves[i]!.m a6;have hK:mvK (s.m.moves.take (i+1))=mvK (s.m.moves.take i)+(s'.moves[i]!.m.parts.length+1):=by rw[sn b5,b2]
 have f2:=xM s.m.moves (i+1);have d5:∀p∈s'.moves[i]!.m.parts,p.1≤9223372036854775807:=by rw[e0];exact hs.bd _ (aI c9)
 have d3:s.kind=9→s'.moves[i]!.m.to≠0:=fun h=>IR (n:=S.cat.items.length) (by rw[show s.m.kind=9 from h] at a1;exact a1);rw[c1] at a0;have b6:cZ S.shard S.flows (bA S.cat) (s.m.at (aO S)) W (s'.moves[i]!.m::s.m.moves.drop (i+1))=if(cm S.shard S.flows (bA S.cat) (s.m.at (aO S)) W s'.moves[i]!.m).1=0 then cZ S.shard S.flows (bA S.cat) (s.m.at (aO S)) (cm S.shard S.flows (bA S.cat) (s.m.at (aO S)) W s'.moves[i]!.m).2 (s.m.moves.drop (i+1)) else((cm S.shard S.flows (bA S.cat) (s.m.at (aO S)) W s'.moves[i]!.m).1,W):=rfl;rw[b6] at a0;have e5:=uB (mix:=bA S.cat) (s:=s.m.at (aO S)) (m:=s'.moves[i]!.m) a4 hO a3 ab;have b0:=nh (mix:=bA S.cat) (s:=s.m.at (aO S)) (m:=s'.moves[i]!.m) a4 hO.g a3.g ab;have b8:=fun h9:s.kind=9=>Hk (sh:=S.shard) (fl:=S.flows) (mix:=bA S.cat) (s:=s.m.at (aO S)) (m:=s'.moves[i]!.m) (c4 h9) (d3 h9);have a2:=DJ (L:=stM s'::stP s'::stM s::stP s::L) b bc S.shard x (s'.at (aO S)) z s'.moves[i]! W S.flows (k+mvK (s.m.moves.take i)) hF.flows hW hO (show MvA s'.kind s'.moves[i]!.m by rw[c7];exact a3) ab ⟨a1.1.1,by have h4:=a1.1.2;rw[←b3] at h4;simpa [CatV.m] using h4⟩ d5 (fun h=>c4 (by rw[←c7];exact h)) ⟨a4,b7⟩ ab ab hT d4;rw[a8,c3] at a2;have b9:(cm S.shard S.flows (bA S.cat) (s.m.at (aO S)) W s'.moves[i]!.m).1=0→(cm S.shard S.flows (bA S.cat) (s.m.at (aO S)) W s'.moves[i]!.m).2.flows.length=W.flows.length+1:=fun h=>by rw[(b0 h).2,ay,aJ]
 clear b0;generalize cm S.shard S.flows (bA S.cat) (s.m.at (aO S)) W s'.moves[i]!.m=r at *;refine G.ent (L':=isl aj 3 s'.moves[i]!.pad s'.moves[i]!.m.parts::chgL b bc (s'.at (aO S)) z (ledL b S.shard x (stM s'::stP s'::stM s::stP s::L))) (by simp only[chgL,ledL];exact(Ent.at (A:=stP s') (ob c2)).trans ae) ?_;simp only[chgL,ledL,cn,bJ,stM];refine ar9 ?_;intros;rw[e2];refine GO.ent Ent.drop ?_;refine GO.ca (a2) ?_;rintro _ _⟨z',rfl,d2,rfl⟩;by_cases hr:r.1=0
 ·rw[if_pos hr] at a0;simp only[chgL,ledL,cn,bJ];refine ar9 ?_;intros;refine⟨(i+1,z',r.2),⟨by dsimp only;omega,d2 hr,by dsimp only;rw[hK,←dy,←dy];exact e5 hr,by dsimp only;rw[b9 hr,c8],b8,a0⟩,by dsimp only;omega,?_,Ent.refl _⟩;dsimp only;rw[aV i];exact av
 ·rw[if_neg hr] at a0;rw[a0];simp only[chgL,ledL,cn,bJ];refine ar9 ?_;intros;exact KX.en (.inl ⟨hr,rfl,rfl⟩)
end
section
open Go.V
def rE{κ α:Type}[DecidableEq κ]{q:κ×α}:∀{n m:List (κ×α)},q∈iC m n→q∈m∨q∈n
 | [],_,h=>.inl h
 | p::n,m,h=>by
  rcases rE (n:=n) (m:=gins m p.1 p.2) h with h1|h1
  ·rcases List.mem_cons.1 (pb q h1) with h2|h2
   ·exact .inr (by rw[h2];exact aq)
   ·exact .inl h2
  ·exact .inr (au _ h1)
def wG{m z x:List (Int×Stk)}(h:∀k,glk m k=(glk z k).or (glk x k)):eA m=uOf z x:=by
 funext k;unfold eA uOf;rw[h k];cases glk z k<;>rfl
def Hi{k:Nat}{S:LedM}{s:StM}(hS:LedA k S)(hk:k+mvK s.moves≤2000)(h:(gTry S s).1=0):S.steps.length<65536∧fN S.cat S.now s∧(gTry S s).2.flows.length=s.moves.length:=by
 have h2:=kZ h;have e:=uA h;have h3:=h;rw[e] at h3;have h4:=(qx hS.g.shard.1 (sL hS).g (fun m hm=>(mJ h2 m hm).g) hk h3).2;rw[e];refine⟨Classical.byContradiction fun q=>?_,h2,?_⟩
 ·unfold gTry at h;rw[if_pos ab] at h;exact absurd (show(4:Int)=0 from h) ag
 ·rw[h4];show 0+s.moves.length=_;omega
attribute [local irreducible] G GO GP GPW GPK GF GE Ev Ef EfR Ent CB GB V.Enters
def rM(d s:Nat)(m n:List (Int×Stk)) :
  Tri ai 66 #[.map (some d),.map (some s)] [gmap kvI Stk.v d m,gmap kvI Stk.v s n] (fun _ L'=>∃m',((∀k,glk m' k=(glk n k).or (glk m k))∧∀q∈m',q∈m∨q∈n)∧L' = [gmap kvI Stk.v d m']):=by
 refine Tri.bd ?_;refine G.ent Ent.swap ?_;refine G.g7 (km (b:=s) (kv:=kvI) (enc:=Stk.v) (m:=n)) ?_;intro hn;refine Jq ?_;intros;refine GO.ef (Ef.l7 rfl) ag ?_;rintro _ _⟨r,rfl,rfl⟩;refine Jq ?_;intros;refine G.loop (α:=List (Int×Stk)) (fun z=>z.length≤n.length) (fun z=>[(0,.map (some d)),(7,ax r)]) (fun z=>[iD kvI Stk.v s n r z,gmap kvI Stk.v d (iC m z)]) (fun z=>n.length - z.length) [] (aw _) av (Ent.refl _) ?_;intro z hz;refine Jq ?_;intros;refine GO.ef (Ef.l8 rfl) ag ?_;rintro _ _ (⟨rfl,rfl,hp⟩|⟨p,rfl,rfl,a1,a0,hl⟩)
 ·refine Jq ?_;intros;refine KX.e7 al Ent.drop ⟨iC m z,⟨fun k=>?_,fun q hq=>?_⟩,rfl⟩
  ·rw[nQ k z m ((hp.map _).nodup_iff.2 hn),oZ hp hn]
  ·rcases rE hq with h1|h1
   ·exact .inl h1
   ·exact .inr (hp.mem_iff.1 h1)
 refine Jq ?_;intros;refine GO.ev (Ev.l7 (done:=z) rfl rfl) ag ?_;refine Jq ?_;intros;refine GO.efu (Ef.e7 (enc:=Stk.v) (e:=p.2) rfl rfl rfl rfl) ?_;rintro _ _ rfl;refine Jq ?_;intros;refine⟨z++[p],by simp;omega,by simp;omega,av,?_⟩;rw[show iC m (z++[p])=gins (iC m z) p.1 p.2 by simp[iC]];exact ae
abbrev Dx:=ay3 [.ev 4,.ef 5]
abbrev Dw:=ay4 [.ef 6]
abbrev Ab:=ay5 [.ef 8]
abbrev Aa:=ay5 [.ef 8]
abbrev zZ:=ay5 [.ef 8]
abbrev zY:=ay5 [.ev 8,.ef 9,.ev 10,.ev 11,.ef 12]
abbrev zX:=ay5 [.ev 8,.ef 9,.ef 10,.ev 11,.ev 12,.ef 13]
def at2{φ ψ:Prop}(k:ψ)(h:Hid ψ→φ:=by intro k;(repeat (first|refine aa ?_|intro zzz|refine G.dr 100 8 Dx ?_|refine G.dr 100 9 Dw ?_|refine G.dr 100 10 Ab ?_|refine G.dr 100 11 Aa ?_|refine G.dr 100 12 zZ ?_|refine G.dr 100 13 zY ?_|refine G.dr 100 14 zX ?_));(repeat revert zzz);exact Hid.out k):φ:=h ⟨k⟩
def Cz{L:LH}(b:Nat)(S:LedM)(k:Nat)(hS:LedA k S)(hc:S.cat.Ok)(h0:0≤S.now)(s:StV)(hs:StInG s)(b0:s.moves.length≤s.mcap)(hk:k+mvK s.m.moves≤2000)(hT:∀mx,TakeC mx) :
  Tri ai 24 #[ax b,aN (aT s)] (rh b S::stM s::stP s::L) (fun v L'=>v=.tuple #[ac (gRes S s.m),ac (gTry S s.m).1]∧L' = rh b (cS S s.m)::stM s::stP s::L):=by
 obtain⟨b6,b5⟩:=hS.g.shard;have c3:=hS.g.steps;have c7:=hS.g.flows;refine Tri.bd ?_;refine G.e7 (f:=qY b S) ?_;intro x;simp only[qY,ledL,ao,an];refine G.e8 ?_;intro hF;have c5:x.steps.length=S.steps.length:=by rw[←hF.steps];simp
 have c0:x.flows.length=S.flows.length:=by rw[←hF.flows];simp
 refine at2 ?_;intros;refine GO.ent Ent.drop ?_;refine GO.ca (EM b S k hS hc h0 x hF s hs b0 hk hT) ?_;rintro _ _ (⟨he,rfl,rfl⟩|⟨he,bc,s',z,rfl,⟨b3,hW⟩,rfl⟩)
 ·have e1:cS S s.m=S:=if_neg he;have e2:gRes S s.m=0:=if_neg he;rw[e1,e2];refine at2 ?_;intros;exact KX.d7 al (qk x hF) ⟨rfl,rfl⟩
 have e1:cS S s.m=gt S s.m:=if_pos he;have e2:gRes S s.m=aO S:=if_pos he;obtain⟨o1,o2,o4⟩:=Hi hS hk he;have c6:s.m.moves.length≤64:=o2.2.2.2.1.2
 have c2:z.flows.length≤64:=by
  have:=congrArg List.length hW.flows
  rw[aA] at this;omega
 have b9:0<z.flows.length:=by
  have h1:=congrArg List.length hW.flows;rw[aA] at h1;have h2:=o2.2.2.2.1.1;omega
 have a8:s'.id=aO S:=congrArg StM.id b3;rw[e1,e2,he];simp only[chgL,ledL,cn,bJ];refine at2 ?_;intros;refine GO.d9 (km (b:=z.cs) (kv:=kvP) (enc:=Stk.v) (m:=z.stk)) ?_;intro b1;refine GO.ef (Ef.l7 rfl) ag ?_;rintro _ _⟨r,rfl,rfl⟩;refine at2 ?_;intros
 refine G.loop (α:=List ((Int×Int)×Stk)) (fun g=>g.length≤z.stk.length) (fun _=>[(0,ax b),(6,ax bc),(23,ax r)])
  (fun g=>iD kvP Stk.v z.cs z.stk r g::gmap kvP Stk.v x.ms (fX x.stk g)::obj bc tCh (cn b s' z)::gmap kvI encN z.ct z.tot::gmap kvI Stk.v z.ci z.imp::gmap kvI Stk.v z.cr z.ret::osl bL 11 cz z.fad z.fcap z.flows::allP (fun p:(Int×Int)×Stk=>stkP p.2) z.stk::allP flP z.flows::allP (fun p:Int×Stk=>stkP p.2) z.imp::allP (fun p:Int×Stk=>stkP p.2) z.ret::obj b tLed (bJ S.shard x)::gmap kvI encN x.mt x.tot::asl aT 7 be x.sad x.scap x.steps::asl bL 11 cz x.fad x.fcap x.flows::gmap kvI Stk.v x.mi x.imp::gmap kvI Stk.v x.mr x.ret::catP x.cat::allP (fun p:(Int×Int)×Stk=>stkP p.2) x.stk::allP cC x.steps::allP flP x.flows::allP (fun p:Int×Stk=>stkP p.2) x.imp::allP (fun p:Int×Stk=>stkP p.2) x.ret::stM s'::stP s'::stM s::stP s::L)
  (fun g=>z.stk.length - g.length) [] (aw _) av ?_ ?_
 ·simp only[fX,List.foldl_nil];exact ae
 intro g hg;simp only[cn,bJ];refine at2 ?_;intros;refine GO.ef (Ef.l8 rfl) ag ?_;rintro _ _ (⟨rfl,rfl,hp⟩|⟨p,rfl,rfl,c4,c1,hl⟩)
 case inr =>
  have b2:fX x.stk (g++[p])=putS (fX x.stk g) p:=by simp[fX]
  refine at2 ?_;intros;refine GO.ev (Ev.l7 (done:=g) rfl rfl) ag ?_;simp only[kvP,Stk.v,bM,ga];by_cases h0:p.2.lots.length=0
  ·have a9:putS (fX x.stk g) p=gera (fX x.stk g) p.1:=if_pos h0;refine at2 ?_;intros;refine GPW.efu (Ef.m9 rfl rfl) ?_;rintro _ _ rfl;refine at2 ?_;intros;refine⟨g++[p],by simp;omega,by simp;omega,av,?_⟩;rw[b2,a9];exact ae
  ·have a9:putS (fX x.stk g) p=gins (fX x.stk g) p.1 p.2:=if_neg h0;refine at2 ?_;intros;refine GPW.efu (Ef.e7 (enc:=Stk.v) (e:=p.2) rfl rfl rfl rfl) ?_;rintro _ _ rfl;refine at2 ?_;intros;refine⟨g++[p],by simp;omega,by simp;omega,av,?_⟩;rw[b2,a9];exact ae
 refine at2 ?_;intros;(first|refine GPW.ef (Ef.call (tX x.mt z.ct x.tot z.tot) rfl cJ) ag ?_);rintro _ _⟨_,⟨m',b8,rfl⟩,hL⟩;simp only[ao,an] at hL;subst hL;refine at2 ?_;intros;(first|refine GPW.ef (Ef.call (rM x.mi z.ci x.imp z.imp) rfl cJ) ag ?_);rintro _ _⟨_,⟨a5,⟨b7,a7⟩,rfl⟩,hL⟩;simp only[ao,an] at hL;subst hL;refine at2 ?_;intros;(first|refine GPW.ef (Ef.call (rM x.mr z.cr x.ret z.ret) rfl cJ) ag ?_);rintro _ _⟨_,⟨a3,⟨b4,a4⟩,rfl⟩,hL⟩;simp only[ao,an] at hL;subst hL;refine at2 ?_;intros;refine GPW.ef (Ef.m6 (enc:=bL) (ys:=z.flows) rfl rfl rfl rfl rfl b9 (fun e _=>jf e) ab ab) ag ?_;rintro _ _⟨a2,a1,rfl,rfl⟩;refine at2 ?_;intros;refine GPW.ef (Ef.j0 (enc:=aT) (e:=s') rfl rfl rfl rfl rfl aK (jM _) ab ab) ag ?_;rintro _ _⟨a6,a0,rfl,rfl⟩;refine at2 ?_;intros;rw[a8];refine KX.d7 al ?_ ⟨rfl,rfl⟩;refine Ent.trans ?_ (qk (S:=gt S s.m) { x with stk:=fX x.stk g,tot:=m',imp:=a5,ret:=a3,steps:=x.steps++[s'],sad:=a6,scap:=a0,flows:=x.flows++z.flows,fad:=a2,fcap:=a1 } ⟨hF.cat,hF.catB,?_,?_,?_,?_,?_,?_,?_⟩)
 ·simp only[ledL,bJ,gt];refine(Ent.at (A:=stP s') (Ent.refl _)).trans ?_;refine(Ent.at (A:=stM s') (Ent.refl _)).trans ?_;refine(Ent.e9 (oF s') (cT iP)).trans ?_;refine(Ent.at (A:=allP cC x.steps) (Ent.refl _)).trans ?_;refine((Ent.d7 (Ent.f8 (f:=cC) (x:=s') kQ)).trans (Ent.g7 kQ)).trans ?_;refine(Ent.at (A:=allP flP z.flows) (Ent.refl _)).trans ?_;refine(Ent.at (A:=allP flP x.flows) (Ent.refl _)).trans ?_;refine(Ent.g7 kG).trans ?_;refine(Ent.at (A:=allP (fun p:(Int×Int)×Stk=>stkP p.2) z.stk) (Ent.refl _)).trans ?_;refine(Ent.at (A:=allP (fun p:(Int×Int)×Stk=>stkP p.2) x.stk) (Ent.refl _)).trans ?_;refine(Ent.g7 (f:=fun p:(Int×Int)×Stk=>stkP p.2) (fun p=>mR p.2)).trans ?_;refine(Ent.l5 (l':=fX x.stk g) (fun q hq=>?_)).trans ?_
  ·rcases lm hq with h1|h1
   ·exact bQ _ h1
   ·exact bz _ (hp.mem_iff.1 h1.1)
  refine(Ent.at (A:=allP (fun p:Int×Stk=>stkP p.2) z.imp) (Ent.refl _)).trans ?_;refine(Ent.at (A:=allP (fun p:Int×Stk=>stkP p.2) x.imp) (Ent.refl _)).trans ?_;refine(Ent.g7 (f:=fun p:Int×Stk=>stkP p.2) (fun p=>mR p.2)).trans ?_;refine(Ent.l5 (l':=a5) (fun q hq=>List.mem_append.2 (a7 q hq))).trans ?_;refine(Ent.at (A:=allP (fun p:Int×Stk=>stkP p.2) z.ret) (Ent.refl _)).trans ?_;refine(Ent.at (A:=allP (fun p:Int×Stk=>stkP p.2) x.ret) (Ent.refl _)).trans ?_;refine(Ent.g7 (f:=fun p:Int×Stk=>stkP p.2) (fun p=>mR p.2)).trans ?_;refine(Ent.l5 (l':=a3) (fun q hq=>List.mem_append.2 (a4 q hq))).trans ?_;exact ae
 ·intro a i;rw[mS _ _ _ ((hp.map _).nodup_iff.2 b1),oZ hp b1];exact hW.stk a i
 ·intro q hq;rcases lm hq with h1|h1
  ·exact hF.full q h1
  ·exact h1.2
 ·intro i;dsimp only;rw[b8,Bz];exact hW.tot i
 ·show(x.steps++[s']).map StV.m=S.steps++[s.m.at (aO S)];rw[aW,hF.steps,←b3];rfl
 ·show(x.flows++z.flows).map (·.m)=S.flows++(gTry S s.m).2.flows;rw[aW,hF.flows];exact congrArg _ hW.flows
 ·show SetS (eA a5) (fC (S.flows++(gTry S s.m).2.flows));rw[wG b7];exact hW.imp
 ·show SetS (eA a3) (fe (S.flows++(gTry S s.m).2.flows));rw[wG b4];exact hW.ret
