/- Lemmas. -/
import Derived.Test.YtommnllbflbdmaaGreatDoorCatce
import Derived.Test.YtommnllbflbdmaaGreatDoorCatbx
set_option linter.all false
set_option maxHeartbeats 4000000
namespace Go.Proofs.YtommnllbflbdmaaGreatDoor
section
open Go.V
attribute [local irreducible] G GO GP GPW GPK GF GE Ev Ef EfR Ent CB GB V.Enters
structure WkFG (x:LedX) (z:ChG) (fl:List FlM) (W:Wk):Prop where
 stk:∀a i,(uOf z.stk x.stk (a,i)).lots=W.stk a i
 tot:∀i,(glk z.tot i).getD ((glk x.tot i).getD 0)=W.tot i
 flows:z.flows.map FlV.m=W.flows
 sunk:z.sunk=W.sunk
 imp:SetS (uOf z.imp x.imp) (fg (fl++W.flows))
 ret:SetS (uOf z.ret x.ret) (eG (fl++W.flows))
structure TkFG (x:LedX) (fl:List FlM) (W:Wk) (s:StM) (m:MvM) (mix:Int→Bool) (stk:List ((Int×Int)×Stk)) (imp ret:List (Int×Stk)):Prop where
 stk:∀a i,(uOf stk x.stk (a,i)).lots=gStk mix W m a i
 imp:SetS (uOf imp x.imp) (fg (fl++W.flows)++iaOf s m)
 ret:SetS (uOf ret x.ret) (eG (fl++W.flows)++raOf s m)
def HO{sh:Int}{fl:List FlM}{s:StM}{W:Wk}{m:MvM}(h:¬m.frm=0):gErr sh fl s W m≠0↔lM (W.stk m.frm m.item) m:=by
 unfold gErr lM;rw[if_neg h];split
 ·split
  ·exact⟨fun _=>by assumption,fun _=>by decide⟩
  ·exact⟨fun q=>absurd rfl q,fun q=>by contradiction⟩
 ·split
  ·exact⟨fun q=>absurd rfl q,fun q=>by contradiction⟩
  ·exact⟨fun _=>by assumption,fun _=>by decide⟩
def FB{sh:Int}{fl:List FlM}{s:StM}{W:Wk}{m:MvM}(h:¬m.frm=0)(hb:lM (W.stk m.frm m.item) m):gErr sh fl s W m=10:=by
 unfold lM at hb;unfold gErr;rw[if_neg h];split
 ·rename_i hp;rw[if_pos hp] at hb;rw[if_pos hb]
 ·rename_i hp;rw[if_neg hp] at hb;rw[if_neg hb]
abbrev zb:List Stp:=[.ev 0,.ev 1,.ev 3,.ev 4,.ef 2,.ef 5,.ev 6,.ev 7]
abbrev za:List Stp:=[.ev 0,.ev 1,.ev 3,.ev 4,.ef 2,.ef 5,.ev 6,.ev 7]
def YM{φ ψ:Prop}(k:ψ)(h:Hid ψ→φ:=by intro k;(repeat (first|refine aa ?_|intro zzz|refine G.dr 35 5 zb ?_|refine G.dr 35 7 za ?_));(repeat revert zzz);exact Hid.out k):φ:=h ⟨k⟩
def Bt{L:LH}(b bc:Nat)(sh:Int)(x:LedX)(s:StV)(z:ChG)(m:MvV)(W:Wk)(fl:List FlM)(k:Nat)(b7:x.flows.map FlV.m=fl)(hW:WkFG x z fl W)(hA:WkA sh fl k W)(hm:MvA s.kind m.m)(hk:k+m.m.parts.length≤2000)(b8:0≤m.m.item∧m.m.item<x.cat.items.length)(hb:∀p∈m.m.parts,p.1≤9223372036854775807)(h9:s.kind=9→∀f∈W.flows,f.to≠0)(c0:0≤sh∧sh<12)(c8:x.flows.length≤8000000)(hT:∀mx,TakeC mx)(c3:x.cat.items.length≤64) :
  Tri ai 215 #[aq bc,aN (aT m)] (isl ay 3 m.pad m.m.parts::chgL b bc s z (ledL b sh x L)) (fun v L' =>
   (gErr sh (fl++W.flows) s.m W m.m≠0∧∃pd n c z',v=.tuple #[ae pd n c,ac (gErr sh (fl++W.flows) s.m W m.m)]∧L' = chgL b bc s z' (ledL b sh x L)) ∨
   (gErr sh (fl++W.flows) s.m W m.m=0∧∃pad pcap b0 a1 a3,v=.tuple #[ae pad (gPts (bO x) s.m W m.m).length pcap,ac 0]∧TkFG x fl W s.m m.m (bO x) b0 a1 a3 ∧
    L' = isl ay 3 pad (gPts (bO x) s.m W m.m)::chgL b bc s { z with stk:=b0,imp:=a1,ret:=a3 } (ledL b sh x L))):=by
 have a4:=hm.g.lots;have c4:=hA.il;have c5:=hA.rl;have b2:=uz hA.fa;have b6:=ui hA.fa
 have c2:∀f∈x.flows,f.m.n≤9223372036854775807:=fun f hf=>by
  have h1:f.m∈fl:=by rw[←b7];exact alStd0List_mem_map_of_mem hf
  obtain⟨j,hj,e⟩:=List.mem_iff_getElem.1 h1;have h2:=(hA.fn j (by rw[ax];omega)).2.2;rw[getElem!_of (by rw[ax];omega),dR hj,e] at h2;omega
 have a6:=hW.stk m.m.frm m.m.item;obtain⟨⟨frm,to,item,mn,parts⟩,a2,a0⟩:=m;have b4:=hm.g.n;dsimp only at hm hk b8 hb a4 a6 b4 ⊢;refine Tri.bd (args:=[aq bc,aN (aT ⟨⟨frm,to,item,mn,parts⟩,a2,a0⟩)]) ?_;by_cases h0:frm=0
 ·subst h0;have a7:gStk (bO x) W ⟨0,to,item,mn,parts⟩=W.stk:=by unfold gStk;rw[if_pos rfl]
  have eS:s.m.kind=s.kind:=rfl;by_cases h5:s.kind=5
  ·have eE:gErr sh (fl++W.flows) s.m W ⟨0,to,item,mn,parts⟩=arrG sh (fl++W.flows) parts:=by unfold gErr;rw[if_pos rfl,if_pos (show s.m.kind=5 from h5)]
   have eP:gPts (bO x) s.m W ⟨0,to,item,mn,parts⟩=parts:=by unfold gPts;rw[if_pos rfl,if_pos (.inl h5)]
   have eI:iaOf s.m ⟨0,to,item,mn,parts⟩=parts:=if_pos h5;have eR:raOf s.m ⟨0,to,item,mn,parts⟩=[]:=if_neg ab;have b5:=hm.st (.inl h5);have b1:∀a1,SetS (uOf a1 x.imp) (fg (fl++W.flows)++parts)→TkFG x fl W s.m ⟨0,to,item,mn,parts⟩ (bO x) z.stk a1 z.ret:=fun a1 hi=>⟨fun a i=>by rw[a7];exact hW.stk a i,by rw[eI];exact hi,by rw[eR,aO];exact hW.ret⟩;rw[eE,eP,←AS hA.fa a4 b5.2.1];simp only[chgL,ledL,aT];refine YM ?_;intros;rename_i b3;refine GPW.ca (gV a2 parts.length a0 parts rfl ab) ?_;rintro _ _⟨a5,c1,rfl,rfl⟩;refine YM ?_;intros;refine GPW.ent (L':=chgL b bc s z (ledL b sh x (isl ay 3 a2 parts::osl ay 3 tLot a5 c1 parts::obj b3 tMv [ac 0,ac to,ac item,ac mn,ae a2 parts.length a0]::L))) (by simp only[chgL,ledL];exact ah) ?_;refine GPW.ca (Du b bc sh x s z (fg (fl++W.flows)) hW.imp ab b2 ⟨⟨0,to,item,mn,parts⟩,a2,a0⟩ a4 hb gn) ?_;rintro _ _⟨a1,rfl,a9,rfl⟩;dsimp only at a9 ⊢;simp only[chgL,ledL];by_cases he:impG sh parts (fg (fl++W.flows))=0
   ·rw[he];refine YM ?_;intros;refine KX.d7 av ?_ (.inr ⟨rfl,a5,c1,z.stk,a1,z.ret,rfl,b1 a1 (a9 he),rfl⟩);refine(Ent.frz a5).trans ?_;exact ah
   ·refine YM ?_;intros;exact KX.d7 av (by simp only[chgL,ledL];exact ah) (.inl ⟨he,a5,parts.length,c1,{ z with imp:=a1 },rfl,rfl⟩)
  by_cases a8:s.kind=9
  ·have eE:gErr sh (fl++W.flows) s.m W ⟨0,to,item,mn,parts⟩=revG (fl++W.flows) item parts:=by unfold gErr;rw[if_pos rfl,if_neg (show ¬s.m.kind=5 from h5),if_pos (show s.m.kind=9 from a8)]
   have eP:gPts (bO x) s.m W ⟨0,to,item,mn,parts⟩=parts:=by unfold gPts;rw[if_pos rfl,if_pos (.inr a8)]
   have eI:iaOf s.m ⟨0,to,item,mn,parts⟩=[]:=if_neg h5;have eR:raOf s.m ⟨0,to,item,mn,parts⟩=parts:=if_pos ⟨a8,rfl⟩;have b5:=hm.st (.inr (.inr a8));have b1:∀a3,SetS (uOf a3 x.ret) (eG (fl++W.flows)++parts)→TkFG x fl W s.m ⟨0,to,item,mn,parts⟩ (bO x) z.stk z.imp a3:=fun a3 hi=>⟨fun a i=>by rw[a7];exact hW.stk a i,by rw[eI,aO];exact hW.imp,by rw[eR];exact hi⟩;rw[eE,eP,←AH c0.1 hA.fa hA.fn item a4 b5.2.1,wi (h9 a8)];simp only[chgL,ledL,aT];refine YM ?_;intros;rename_i b3;refine GPW.ca (gV a2 parts.length a0 parts rfl ab) ?_;rintro _ _⟨a5,c1,rfl,rfl⟩;refine YM ?_;intros;refine GPW.ent (L':=chgL b bc s z (ledL b sh x (isl ay 3 a2 parts::osl ay 3 tLot a5 c1 parts::obj b3 tMv [ac 0,ac to,ac item,ac mn,ae a2 parts.length a0]::L))) (by simp only[chgL,ledL];exact ah) ?_;refine GPW.ca (wj b bc sh x s z (eG (fl++W.flows)) hW.ret ab b6 ⟨⟨0,to,item,mn,parts⟩,a2,a0⟩ a4 hb gn c0 ab c2) ?_;rw[b7];rintro _ _⟨a3,rfl,a9,rfl⟩;dsimp only at a9 ⊢;simp only[chgL,ledL];by_cases he:retG sh fl item parts (eG (fl++W.flows))=0
   ·rw[he];refine YM ?_;intros;refine KX.d7 av ?_ (.inr ⟨rfl,a5,c1,z.stk,z.imp,a3,rfl,b1 a3 (a9 he),rfl⟩);refine(Ent.frz a5).trans ?_;exact ah
   ·refine YM ?_;intros;exact KX.d7 av (by simp only[chgL,ledL];exact ah) (.inl ⟨he,a5,parts.length,c1,{ z with ret:=a3 },rfl,rfl⟩)
  have eE:gErr sh (fl++W.flows) s.m W ⟨0,to,item,mn,parts⟩=0:=by unfold gErr;rw[if_pos rfl,if_neg (show ¬s.m.kind=5 from h5),if_neg (show ¬s.m.kind=9 from a8)]
  have eP:gPts (bO x) s.m W ⟨0,to,item,mn,parts⟩=[]:=by unfold gPts;rw[if_pos rfl,if_neg ab]
  have eI:iaOf s.m ⟨0,to,item,mn,parts⟩=[]:=if_neg h5;have eR:raOf s.m ⟨0,to,item,mn,parts⟩=[]:=if_neg ab;simp only[chgL,ledL,aT];rw[eE,eP];refine YM ?_;intros;refine KX.d7 av ?_ (.inr ⟨rfl,none,0,z.stk,z.imp,z.ret,rfl,⟨fun a i=>by rw[a7];exact hW.stk a i,by rw[eI,aO];exact hW.imp,by rw[eR,aO];exact hW.ret⟩,rfl⟩);refine Ent.trans ?_ (Ent.f8 ay 3 none);exact ah
 have eI:iaOf s.m ⟨frm,to,item,mn,parts⟩=[]:=if_neg (fun q=>h0 (hm.imp q));have eR:raOf s.m ⟨frm,to,item,mn,parts⟩=[]:=if_neg (fun q=>h0 q.2);have hG:=hA.g.stk frm item;have c7:=hG.len
 have b9:gm parts∧Apart parts:=by
  rcases hm.g.parts with q|q
  ·dsimp only at q;rw[q];exact⟨⟨(fun x hx=>by cases hx),by decide⟩,List.Pairwise.nil⟩
  ·exact⟨q.1,(partsA_iff.2 q).2.1⟩
 refine YM ?_;intros;refine GO.ent Ent.drop ?_;refine GO.ca (tn b bc sh x s z ⟨⟨frm,to,item,mn,parts⟩,a2,a0⟩ ⟨b8,⟨by have:=b4.1;dsimp only;omega,b4.2⟩,b9.1,b9.2,by rw[a6];exact⟨hG.lots,ab⟩,by rw[a6];exact hG.apt⟩ (hT _) c3) ?_;dsimp only;rw[a6];rintro _ _ (⟨h1,rfl,rfl⟩|⟨h1,pad,pcap,sk,rfl,c6,rfl⟩)
 ·have e:=FB (sh:=sh) (fl:=fl++W.flows) (s:=s.m) (W:=W) (m:=⟨frm,to,item,mn,parts⟩) h0 h1;rw[e];refine YM ?_;intros;exact KX.d7 av (Ent.refl _) (.inl ⟨by decide,none,0,0,z,rfl,rfl⟩)
 ·have eE:gErr sh (fl++W.flows) s.m W ⟨frm,to,item,mn,parts⟩=0:=Classical.byContradiction fun q=>h1 ((HO h0).1 q);have eP:gPts (bO x) s.m W ⟨frm,to,item,mn,parts⟩=rS (bO x item) (W.stk frm item) ⟨frm,to,item,mn,parts⟩:=by unfold gPts;rw[if_neg h0];rfl
  rw[eE,eP];refine YM ?_;intros;refine KX.d7 av (Ent.refl _) (.inr ⟨rfl,pad,pcap,gins z.stk (frm,item) sk,z.imp,z.ret,rfl,⟨?_,by rw[eI,aO];exact hW.imp,by rw[eR,aO];exact hW.ret⟩,rfl⟩);intro a i;rw[kI];unfold gStk upd2;rw[if_neg h0];by_cases hq:a=frm∧i=item
  ·obtain⟨rfl,rfl⟩:=hq;rw[if_pos rfl,if_pos ⟨rfl,rfl⟩,c6];rfl
  ·rw[if_neg (fun h=>hq (by simpa using h)),if_neg hq];exact hW.stk a i
abbrev yZ:=ar6 [.ev 10,.ev 11]
abbrev yY:=ar6 [.ev 10]
abbrev wC:=ar4 [.ev 6,.ef 7]
abbrev wB:=ar8 [.ev 17,.ev 18,.ev 19,.ev 20,.ev 21,.ev 22,.ev 23,.ev 24,.ev 25,.ev 26,.ev 27,.ev 28,.ev 29,.ev 30,.ev 31,.ev 32,.ev 33,.ev 34,.ev 35,.ev 36,.ev 37,.ev 38,.ev 39,.ev 40,.ev 41,.ev 42,.ev 43,.ev 44,.ev 45,.ev 46,.ev 47,.ev 48,.ev 49,.ev 50,.ev 51,.ev 52,.ef 53,.ef 54]
abbrev wA:=ar4 [.ef 6,.ef 7,.ev 8,.ev 9,.ef 10]
abbrev wz:=ar4 [.ev 6,.ef 7,.ef 8,.ev 9,.ev 10,.ef 11]
abbrev wy:=ar7 [.ev 13,.ev 14,.ef 15,.ef 16]
def bR{φ ψ:Prop}(k:ψ)(h:Hid ψ→φ:=by intro k;(with_reducible apply G.d7);first|refine G.dr 186 4 yZ (Hid.out k)|refine G.dr 186 6 yY (Hid.out k)|refine G.dr 186 13 wC (Hid.out k)|refine G.dr 186 14 wB (Hid.out k)|refine G.dr 186 17 wA (Hid.out k)|refine G.dr 186 19 wz (Hid.out k)|refine G.dr 186 24 wy (Hid.out k)):φ:=h ⟨k⟩
def YY{φ ψ:Prop}(k:ψ)(h:Hid ψ→φ:=by intro k;(repeat (first|refine aa ?_|intro zzz|refine bR ?_));(repeat revert zzz);exact Hid.out k):φ:=h ⟨k⟩
def CJ{L:LH}(b bc:Nat)(sh:Int)(x:LedX)(s:StV)(z:ChG)(m:MvV)(W:Wk)(fl0:List FlM)(k:Nat)(d1:x.flows.map FlV.m=fl0)(hW:WkFG x z fl0 W)(hA:WkA sh fl0 k W)(hm:MvA s.kind m.m)(hk:k+m.m.parts.length≤2000)(f0:0≤m.m.item∧m.m.item<x.cat.items.length)(hb:∀p∈m.m.parts,p.1≤9223372036854775807)(h9:s.kind=9→∀f∈W.flows,f.to≠0)(d6:0≤sh∧sh<12)(g6:x.flows.length≤4194304)(f6:W.flows.length<64)(hT:∀mx,TakeC mx)(e6:x.cat.items.length≤64) :
  Tri ai 124 #[aq bc,aN (aT m)] (isl ay 3 m.pad m.m.parts::chgL b bc s z (ledL b sh x L)) (fun v L'=>∃z',v=ac (dA sh fl0 (bO x) s.m W m.m).1 ∧
   ((dA sh fl0 (bO x) s.m W m.m).1=0→WkFG x z' fl0 (dA sh fl0 (bO x) s.m W m.m).2)∧L' = chgL b bc s z' (ledL b sh x L)):=by
 have c7:=fun (M:LH)=>Bt (L:=M) b bc sh x s z m W fl0 k d1 hW hA hm hk f0 hb h9 d6 ab hT e6;obtain⟨g2,g3⟩:=d6;obtain⟨f9,g0⟩:=hm.g.n;have g1:=hm.g.ne;obtain⟨g4,g5⟩:=hA.g.tot m.m.item;have f3:fl0.length=x.flows.length:=by rw[←d1,aA]
 have f4:z.flows.length=W.flows.length:=by rw[←hW.flows,aA]
 have f7:z.sunk.length≤64:=by rw[hW.sunk];have:=hA.g.sunk;omega
 have e5:=fun (he:gErr sh (fl0++W.flows) s.m W m.m=0)=>xw (mix:=bO x) hA.g hm.g ab he;have c3:=uA (sh:=sh) (nf:=fl0.length) (mix:=bO x) (s:=s.m) (W:=W) hm (fl0++W.flows);refine Tri.bd ?_;refine YY ?_;intros;rename_i b3;refine GO.ent (L':=isl ay 3 m.pad m.m.parts::chgL b bc s z (ledL b sh x (obj b3 tMv (aT m)::L))) (by simp only[chgL,ledL];exact ah) ?_;refine GO.ca (c7 (obj b3 tMv (aT m)::L)) ?_;rintro _ _ (⟨h1,pd,pn,pc,z',rfl,rfl⟩|⟨h1,pad,pcap,a0,a1,a2,rfl,f2,rfl⟩)
 ·have e:dA sh fl0 (bO x) s.m W m.m=(gErr sh (fl0++W.flows) s.m W m.m,W):=by unfold dA;rw[if_pos h1]
  rw[e];generalize gErr sh (fl0++W.flows) s.m W m.m=er at *;dsimp only;refine YY ?_;intros;exact KX.d7 av (by simp only[chgL,ledL];exact ah) ⟨z',rfl,(fun h=>absurd h h1),rfl⟩
 obtain⟨b1,a7,a9⟩:=f2;have d3:db sh fl0.length W=sh*4294967296+(x.flows.length:Int)+(z.flows.length:Int):=by unfold db;rw[f4,f3]
 have f1:dA sh fl0 (bO x) s.m W m.m=if cX W m.m>1099511627776 then(4,W)
   else if m.m.to=0 then(0,⟨gStk (bO x) W m.m,upd W.tot m.m.item (cX W m.m),W.flows++[fW sh fl0.length (bO x) s.m W m.m],W.sunk++[db sh fl0.length W]⟩)
   else if 4096≤(gStk (bO x) W m.m m.m.to m.m.item).length then(4,W)
   else(0,⟨upd2 (gStk (bO x) W m.m) m.m.to m.m.item (ba (gStk (bO x) W m.m m.m.to m.m.item) (db sh fl0.length W,0,m.m.n)),upd W.tot m.m.item (cX W m.m),W.flows++[fW sh fl0.length (bO x) s.m W m.m],W.sunk⟩):=by unfold dA;rw[if_neg (fun q=>q h1)]
 have b5:fW sh fl0.length (bO x) s.m W m.m=⟨db sh fl0.length W,s.id,s.kind,s.tick,s.actor,m.m.frm,m.m.to,m.m.item,m.m.n,gPts (bO x) s.m W m.m,eW s.m W m.m⟩:=rfl;rw[←c3.1] at a7;rw[←c3.2] at a9;clear c3 c7;rw[f1];generalize fW sh fl0.length (bO x) s.m W m.m=fl at *;generalize gPts (bO x) s.m W m.m=pts at *;rw[aF] at a7 a9;have e0:cX W m.m=W.tot m.m.item+(if m.m.frm=0 then m.m.n else 0) - (if m.m.to=0 then m.m.n else 0):=rfl;have e1:=hW.tot m.m.item;simp only[chgL,ledL,cw];refine YY ?_;intros;refine GPW.evL (Ev.m6 rfl rfl) ag ?_;repeat first|refine G.sm 5 ?_|refine bF ?_|intro _|refine bR ?_
 refine G.d8 (α:=Unit) (fun _=>True) (fun _=>[(0,aq bc),(3,aq b3),(4,ac 0),(5,ae pad pts.length pcap),(7,ac (W.tot m.m.item))]) (fun _=>isl ay 3 pad pts::chgL b bc s { z with stk:=a0,imp:=a1,ret:=a2 } (ledL b sh x (obj b3 tMv (aT m)::L))) ?_ ?_
 ·cases hl:@List.lookup _ _ instBEqOfDecidableEq m.m.item z.tot with
  | some t =>
   simp only[eZ,fY,Option.isSome_some];have e:W.tot m.m.item=t:=by rw[←e1];unfold glk;rw[hl];rfl
   rw[e];refine YY ?_;intros;exact⟨(),trivial,an,Ent.refl _⟩
  | none =>
   simp only[ez,dW,Option.isSome_none];have e:W.tot m.m.item=(glk x.tot m.m.item).getD 0:=by rw[←e1];unfold glk;rw[hl];rfl
   rw[e];refine YY ?_;intros;refine GPW.evL (Ev.d8 rfl rfl) ag ?_;rw[Gz];refine YY ?_;intros;exact⟨(),trivial,an,Ent.refl _⟩
 rintro _ _;simp only[chgL,ledL,cw];refine G.d8 (α:=Unit) (fun _=>True) (fun _=>[(0,aq bc),(3,aq b3),(4,ac 0),(5,ae pad pts.length pcap),(7,ac (W.tot m.m.item+(if m.m.frm=0 then m.m.n else 0)))]) (fun _=>isl ay 3 pad pts::chgL b bc s { z with stk:=a0,imp:=a1,ret:=a2 } (ledL b sh x (obj b3 tMv (aT m)::L))) ?_ ?_
 ·by_cases h0:m.m.frm=0
  ·rw[if_pos h0];refine YY ?_;intros;exact⟨(),trivial,an,Ent.refl _⟩
  ·rw[if_neg h0,Int.add_zero];refine YY ?_;intros;exact⟨(),trivial,an,Ent.refl _⟩
 rintro _ _;simp only[chgL,ledL,cw];have c0 : -9223372036854775808+1099511627776≤W.tot m.m.item+(if m.m.frm=0 then m.m.n else 0)∧W.tot m.m.item+(if m.m.frm=0 then m.m.n else 0)≤2199023255552:=by split<;>omega
 obtain⟨c0,e3⟩:=c0;refine G.d8 (α:=Unit) (fun _=>True) (fun _=>[(0,aq bc),(3,aq b3),(4,ac 0),(5,ae pad pts.length pcap),(7,ac (cX W m.m))]) (fun _=>isl ay 3 pad pts::chgL b bc s { z with stk:=a0,imp:=a1,ret:=a2 } (ledL b sh x (obj b3 tMv (aT m)::L))) ?_ ?_
 ·rw[e0];generalize W.tot m.m.item+(if m.m.frm=0 then m.m.n else 0)=t1 at *;by_cases h0:m.m.to=0
  ·rw[if_pos h0];refine YY ?_;intros;exact⟨(),trivial,an,Ent.refl _⟩
  ·rw[if_neg h0,Int.sub_zero];refine YY ?_;intros;exact⟨(),trivial,an,Ent.refl _⟩
 rintro _ _;simp only[chgL,ledL,cw];by_cases b2:cX W m.m>1099511627776
 ·rw[if_pos b2];refine YY ?_;intros;exact KX.d7 av ah ⟨{ z with stk:=a0,imp:=a1,ret:=a2 },rfl,(fun h=>absurd (show(_:Int)=0 from h) gn),rfl⟩
 rw[if_neg b2];clear e0 c0 e3;refine YY ?_;intros;refine GPW.efu (Ef.e9 (enc:=encN) (e:=cX W m.m) rfl rfl rfl rfl) ?_;rintro _ _ rfl;repeat first|refine G.sm 15 ?_|refine bF ?_|intro _|refine bR ?_
 rename_i b9
 have a4:∀(mad:OA) (mcap:Nat),bT (flV fl pad pcap mad mcap)=[ac (sh*4294967296+(x.flows.length:Int)+(z.flows.length:Int)),ac s.id,ac s.kind,ac s.tick,ac s.actor,ac m.m.frm,ac m.m.to,ac m.m.item,ac m.m.n,ae pad pts.length pcap,ae mad (eW s.m W m.m).length mcap]:=by
  intro mad mcap;rw[b5,d3];rfl
 refine G.d8 (α:=OA×Nat) (fun _=>True) (fun _=>[(0,aq bc),(3,aq b3),(4,ac 0),(9,aq b9)]) (fun g=>obj b9 dz (bT (flV fl pad pcap g.1 g.2))::isl (encZ .i64) 1 g.1 (eW s.m W m.m)::isl ay 3 pad pts::chgL b bc s { z with stk:=a0,imp:=a1,ret:=a2,tot:=gins z.tot m.m.item (cX W m.m) } (ledL b sh x (obj b3 tMv (aT m)::L))) ?_ ?_
 ·by_cases b8:m.m.frm=0∧(s.kind=4∨s.kind=10)
  ·obtain⟨c5,a8⟩:=b8;have e:eW s.m W m.m=z.sunk:=by unfold eW;rw[if_pos ⟨c5,a8⟩,hW.sunk]
   rcases a8 with a8|a8
   ·refine YY ?_;intros;refine GO.ca (iN z.kad z.sunk.length z.kcap z.sunk rfl ab) ?_;rintro _ _⟨mad,mcap,rfl,rfl⟩;refine YY ?_;intros;refine⟨(mad,mcap),trivial,an,?_⟩;rw[a4,e];refine(Ent.frz mad).trans ?_;exact ah
   ·refine YY ?_;intros;refine GO.ca (iN z.kad z.sunk.length z.kcap z.sunk rfl ab) ?_;rintro _ _⟨mad,mcap,rfl,rfl⟩;refine YY ?_;intros;refine⟨(mad,mcap),trivial,an,?_⟩;rw[a4,e];refine(Ent.frz mad).trans ?_;exact ah
  ·have e:eW s.m W m.m=[]:=by
    unfold eW;exact if_neg b8
   by_cases h0:m.m.frm=0
   ·have f5:¬s.kind=4:=fun h=>b8 ⟨h0,.inl h⟩;have e2:¬s.kind=10:=fun h=>b8 ⟨h0,.inr h⟩;refine YY ?_;intros;refine⟨(none,0),trivial,an,?_⟩;rw[a4,e];refine Ent.trans ?_ (Ent.d7 (Ent.f8 (encZ .i64) 1 none));exact ah
   ·refine YY ?_;intros;refine⟨(none,0),trivial,an,?_⟩;rw[a4,e];refine Ent.trans ?_ (Ent.d7 (Ent.f8 (encZ .i64) 1 none));exact ah
 rintro⟨mad,mcap⟩ _;simp only[chgL,ledL,cw];refine YY ?_;intros;refine GPW.ef (Ef.d7 (enc:=bT) (e:=flV fl pad pcap mad mcap) rfl rfl rfl rfl rfl aJ (jT _) ab ab) ag ?_;rintro _ _⟨a5,a3,rfl,rfl⟩;repeat first|refine G.sm 18 ?_|refine bF ?_|intro _|refine bR ?_
 have a6:fl.id=db sh fl0.length W:=by rw[b5]
 have b4:fl.n=m.m.n:=by rw[b5]
 have c1:fl.made=eW s.m W m.m:=by rw[b5]
 have c2:fl.parts=pts:=by rw[b5]
 refine G.ent (L':=obj b9 dz (bT (flV fl pad pcap mad mcap))::chgL b bc s { z with stk:=a0,imp:=a1,ret:=a2,tot:=gins z.tot m.m.item (cX W m.m),flows:=z.flows++[flV fl pad pcap mad mcap],fad:=a5,fcap:=a3 } (ledL b sh x (obj b3 tMv (aT m)::L))) ?_ ?_
 ·simp only[chgL,ledL,cw];refine(Ent.at (A:=isl (encZ .i64) 1 mad (eW s.m W m.m)) (Ent.refl _)).trans ?_;refine(Ent.at (A:=isl ay 3 pad pts) (Ent.refl _)).trans ?_;rw[←c2,←c1];refine(Ent.e8 (bI _ _ _ _) (bI _ _ _ _)).trans ?_;refine(Ent.at (A:=allP flP z.flows) (Ent.refl _)).trans ?_;refine((Ent.d7 (Ent.l0 (f:=flP) (x:=flV fl pad pcap mad mcap) lr)).trans (Ent.j0 lr)).trans ?_;exact ah
 have c9:∀i,(glk (gins z.tot m.m.item (cX W m.m)) i).getD ((glk x.tot i).getD 0)=upd W.tot m.m.item (cX W m.m) i:=by
  intro i;unfold glk upd;have hq:=hJ (m:=z.tot) (k:=m.m.item) (q:=i) (a:=cX W m.m);refine(congrArg (fun o:Option Int=>o.getD ((glk x.tot i).getD 0)) hq).trans ?_;by_cases hi:i=m.m.item
  ·rw[if_pos hi,if_pos hi];rfl
  ·rw[if_neg hi,if_neg hi];exact hW.tot i
 have c8:(z.flows++[flV fl pad pcap mad mcap]).map FlV.m=W.flows++[fl]:=by rw[aR,hW.flows];rfl
 simp only[chgL,ledL,cw];by_cases h0:m.m.to=0
 ·rw[if_pos h0];refine YY ?_;intros;refine GPW.ef (Ef.d7 (enc:=encZ .i64) (e:=(flV fl pad pcap mad mcap).m.id) rfl rfl rfl rfl rfl aJ (by simp[encZ,Value.oneCell']) ab ab) ag ?_;rintro _ _⟨c6,b6,rfl,rfl⟩;refine YY ?_;intros;refine KX.d7 av ?_ ⟨{ z with stk:=a0,imp:=a1,ret:=a2,tot:=gins z.tot m.m.item (cX W m.m),flows:=z.flows++[flV fl pad pcap mad mcap],fad:=a5,fcap:=a3,sunk:=z.sunk++[fl.id],kad:=c6,kcap:=b6 },rfl,fun _=>⟨b1,c9,c8,?_,a7,a9⟩,rfl⟩
  ·simp only[chgL,ledL,cw];exact ah
  ·show z.sunk++[fl.id]=W.sunk++[db sh fl0.length W];rw[hW.sunk,a6]
 rw[if_neg h0];refine YY ?_;intros;refine GO.ent (L':=stkP (uOf a0 x.stk (m.m.to,m.m.item))::obj b9 dz (bT (flV fl pad pcap mad mcap))::chgL b bc s { z with stk:=a0,imp:=a1,ret:=a2,tot:=gins z.tot m.m.item (cX W m.m),flows:=z.flows++[flV fl pad pcap mad mcap],fad:=a5,fcap:=a3 } (ledL b sh x (obj b3 tMv (aT m)::L))) ?_ ?_
 ·simp only[chgL,ledL,cw];refine(Ent.at (A:=allP (fun p:(Int×Int)×Stk=>stkP p.2) a0) (Ent.refl _)).trans ?_;refine(Ent.d7 (Ent.at (A:=allP (fun p:(Int×Int)×Stk=>stkP p.2) x.stk) (Ent.refl _))).trans ?_;refine(qn (m.m.to,m.m.item)).trans ?_;exact ah
 simp only[chgL,ledL];refine GO.cr (qL (b:=b) (sh:=sh) (x:=x) (s:=s) (z:={ z with stk:=a0,imp:=a1,ret:=a2,tot:=gins z.tot m.m.item (cX W m.m),flows:=z.flows++[flV fl pad pcap mad mcap],fad:=a5,fcap:=a3 }) m.m.to m.m.item) ?_;dsimp only;have e4:=b1 m.m.to m.m.item;have d2:=e5 h1 m.m.to m.m.item;have d4:(gStk (bO x) W m.m m.m.to m.m.item).length≤4096:=cN d2.len ab;have d5:=d2.lots;rw[←e4] at d4 d5 ⊢;generalize hsk:uOf a0 x.stk (m.m.to,m.m.item)=sk at *;simp only[Stk.v,cw];by_cases d0:4096≤sk.lots.length
 ·rw[if_pos d0];refine YY ?_;intros;refine KX.d7 av ?_ ⟨{ z with stk:=a0,imp:=a1,ret:=a2,tot:=gins z.tot m.m.item (cX W m.m),flows:=z.flows++[flV fl pad pcap mad mcap],fad:=a5,fcap:=a3 },rfl,(fun h=>absurd (show(_:Int)=0 from h) gn),rfl⟩;exact ah
 rw[if_neg d0];refine YY ?_;intros;refine GPW.ent (Ent.at (A:=stkP sk) (Ent.refl _)) ?_
 have c4:LotOk ((flV fl pad pcap mad mcap).m.id,0,(flV fl pad pcap mad mcap).m.n):=by
  show LotOk (fl.id,0,fl.n);rw[a6,b4,d3];unfold LotOk;dsimp only;omega
 refine GPW.ca (ux sk.ad sk.cap sk.lots ((flV fl pad pcap mad mcap).m.id,0,(flV fl pad pcap mad mcap).m.n) d4 d5 c4) ?_;rintro _ _⟨b7,b0,rfl,rfl⟩;refine YY ?_;intros;refine GPW.efu (Ef.e9 (enc:=Stk.v) (e:=(⟨b7,b0,ba sk.lots (fl.id,0,fl.n)⟩:Stk)) rfl rfl rfl rfl) ?_;rintro _ _ rfl;refine YY ?_;intros;refine KX.d7 av ?_ ⟨{ z with stk:=gins a0 (m.m.to,m.m.item) ⟨b7,b0,ba sk.lots (fl.id,0,fl.n)⟩,imp:=a1,ret:=a2,tot:=gins z.tot m.m.item (cX W m.m),flows:=z.flows++[flV fl pad pcap mad mcap],fad:=a5,fcap:=a3 },rfl,fun _=>⟨?_,c9,c8,hW.sunk,a7,a9⟩,rfl⟩
 ·simp only[chgL,ledL,cw];refine(Ent.frz b7).trans ?_;refine(Ent.at (A:=allP (fun p:(Int×Int)×Stk=>stkP p.2) a0) (Ent.refl _)).trans ?_;refine(Ent.at (A:=stkP ⟨b7,b0,ba sk.lots (fl.id,0,fl.n)⟩) (lG (k:=(m.m.to,m.m.item)))).trans ?_;exact ah
 ·intro a i;dsimp only;rw[kI];unfold upd2;by_cases hq:a=m.m.to∧i=m.m.item
  ·obtain⟨rfl,rfl⟩:=hq;rw[if_pos rfl,if_pos ⟨rfl,rfl⟩];dsimp only;rw[a6,b4]
  ·rw[if_neg (fun h=>hq (by simpa using h)),if_neg hq];exact b1 a i
structure LedFG (S:LedM) (x:LedX):Prop where
 cat:x.cat.m=S.cat
 catB:x.cat.B
 stk:∀a i,(eU x.stk (a,i)).lots=S.stk a i
 full:∀p∈x.stk,p.2.lots≠[]
 tot:∀i,(glk x.tot i).getD 0=S.tot i
 steps:x.steps.map StV.m=S.steps
 flows:x.flows.map (·.m)=S.flows
 imp:SetS (eU x.imp) (fg S.flows)
 ret:SetS (eU x.ret) (eG S.flows)
def qz(b:Nat)(S:LedM)(x:LedX):LH:=dy (LedFG S x)::ledL b S.shard x []
def ji(b:Nat)(S:LedM):HP:=hex fun x=>cY (qz b S x)
def pF{b:Nat}{S:LedM}{L:LH}(x:LedX)(h:LedFG S x):Ent (ledL b S.shard x L) (ji b S::L) :=
 Ent.l7 (f:=qz b S) x (Ent.pure h (Ent.refl _))
def Hs{S:LedM}{x:LedX}(h:LedFG S x):xnow x=S.now:=by
 unfold LedM.now xnow;rw[←h.steps,List.getLast?_map,Option.map_map];rfl
def Go{sh:Int}{fl:List FlM}{mix:Int→Bool}{s:StM}{W:Wk}{m:MvM}(h:∀f∈W.flows,f.to≠0)(hm:m.to≠0):∀f∈(dA sh fl mix s W m).2.flows,f.to≠0:=by
 have h2:∀f∈W.flows++[fW sh fl.length mix s W m],f.to≠0:=fun f hf=>by
  rcases List.mem_append.1 hf with q|q
  ·exact h f q
  ·rw[List.mem_singleton.1 q];exact hm
 unfold dA;rw[if_neg hm];split
 ·exact h
 split
 ·exact h
 split
 ·exact h
 ·exact h2
def HY{n:Nat}{m:MvM}(h:mvAP n 9 m):m.to≠0:=by
 have h2:fx 9 m:=h.2.2.2.2.2;exact(show m.to≠0∧fI m.parts m.n from h2).1
abbrev Cr:=ar7 [.ev 13,.ev 14,.ef 15]
def Zy{φ ψ:Prop}(k:ψ)(h:Hid ψ→φ:=by intro k;(repeat (first|refine aa ?_|intro zzz|refine G.dr 62 6 Cr ?_));(repeat revert zzz);exact Hid.out k):φ:=h ⟨k⟩
def DT{L:LH}(b:Nat)(S:LedM)(k:Nat)(hS:LedA k S)(hc:S.cat.Ok)(h0:0≤S.now)(x:LedX)(hF:LedFG S x)(s:StV)(hs:StInG s)(b4:s.moves.length≤s.mcap)(hk:k+mvK s.m.moves≤2000)(hT:∀mx,TakeC mx) :
  Tri ai 64 #[aq b,aN (aX s)] (ledL b S.shard x (stM s::stP s::L)) (fun v L' =>
   ((gTry S s.m).1≠0∧v=.tuple #[.pointer none,ac (gTry S s.m).1]∧L' = ledL b S.shard x (stM s::stP s::L)) ∨
   ((gTry S s.m).1=0∧∃bc s' z,v=.tuple #[aq bc,ac 0]∧(s'.m=s.m.at (bu S)∧WkFG x z S.flows (gTry S s.m).2)∧L' = chgL b bc s' z (ledL b S.shard x (stM s'::stP s'::stM s::stP s::L)))):=by
 obtain⟨a4,c6⟩:=hS.g.shard;have f1:=hS.g.steps;have f0:=hS.g.flows;have e4:x.steps.length=S.steps.length:=by rw[←hF.steps,aA]
 have f2:x.flows.length=S.flows.length:=by rw[←hF.flows,aA]
 have hB:=hF.catB;have d6:=hs.len;have b1:=hF.cat;have d5:=hB.items;have a9:xnow x=S.now:=Hs hF;have b9:bO x=cu S.cat:=by funext i;unfold bO cu;rw[←b1];rfl
 refine Tri.bd ?_;simp only[ledL,bS];by_cases h1:65536≤S.steps.length
 ·have e:gTry S s.m=(4,wk0 S):=by unfold gTry;rw[if_pos h1]
  rw[e];refine Zy ?_;intros;exact KX.d7 av ah (.inl ⟨by dsimp only;omega,rfl,rfl⟩)
 refine Zy ?_;intros;refine GO.ent (Ent.at (A:=stP s) (Ent.refl _)) ?_;refine GO.ent (Ent.at (A:=catP x.cat) (Ent.refl _)) ?_;refine GO.cr (BI (b:=b) (sh:=S.shard) (x:=x) s hs.parts (b1▸hc) hB ab d6 b4 hs.rule (a9▸h0)) ?_;rw[b1,a9];by_cases h2:gu S.cat S.now s.m
 case neg =>
  have e:gTry S s.m=(1,wk0 S):=by unfold gTry;rw[if_neg h1,if_pos h2]
  rw[e,aM h2];refine Zy ?_;intros;exact KX.d7 av ah (.inl ⟨by dsimp only;omega,rfl,rfl⟩)
 have e:gTry S s.m=ew S.shard S.flows (cu S.cat) (s.m.at (bu S)) (wk0 S) s.m.moves:=by unfold gTry;rw[if_neg h1,if_neg (fun h=>h h2)]
 rw[e,aZ h2];have hA:=possG_A.1 h2;have c9:=ot h2;have c0:s.m.moves=s.moves.map MvV.m:=rfl;have b6:s.moves.length≤64:=by have:=h2.2.2.2.1.2;rwa [c0,aA] at this
 have e1:∀m∈s.moves,m.m.parts.length≤1000000:=fun m hm=>by
  rcases (c9 m.m (by rw[c0];exact alStd0List_mem_map_of_mem hm)).g.parts with q|q
  ·rw[q];decide
  ·have:=q.1.2;omega
 refine Zy ?_;intros;refine GO.ent (Ent.at (A:=stM s) (Ent.d7 (Ent.at (A:=stP s) (Ent.refl _)))) ?_;refine GO.ca (pZ s b6 e1) ?_;rintro _ _⟨s',rfl,c5,rfl⟩;have b3:s'.moves.map MvV.m=s.m.moves:=congrArg StM.moves c5;have e2:s'.moves.length=s.moves.length:=by have:=congrArg List.length b3;rwa [c0,aA,aA] at this
 have d0:s'.kind=s.kind:=congrArg StM.kind c5;simp only[aX];refine Zy ?_;intros;refine GO.ef (Ef.e8 kvP Stk.v (.inl rfl)) ag ?_;rintro _ _⟨cs,rfl,rfl⟩;refine Zy ?_;intros;refine GO.ef (Ef.e8 kvI encN (.inl rfl)) ag ?_;rintro _ _⟨ct,rfl,rfl⟩;refine Zy ?_;intros;refine GO.ef (Ef.e8 kvI Stk.v (.inl rfl)) ag ?_;rintro _ _⟨ci,rfl,rfl⟩;refine Zy ?_;intros;refine GO.ef (Ef.e8 kvI Stk.v (.inl rfl)) ag ?_;rintro _ _⟨cr,rfl,rfl⟩;refine Zy ?_;intros;rename_i bc;have d3:S.shard*4294967296+(x.steps.length:Int)=bu S:=by unfold bu;rw[e4]
 rw[d3]
 have b0:(s'.at (bu S)).m=s.m.at (bu S):=by
  show StM.at s'.m (bu S)=_;rw[c5]
 have a5:S.flows++(wk0 S).flows=S.flows:=aO _;have a6:WkFG x ⟨cs,ct,ci,cr,[],[],[],[],[],none,0,[],none,0⟩ S.flows (wk0 S):=⟨fun a i=>hF.stk a i,fun i=>hF.tot i,rfl,rfl,by rw[a5];exact hF.imp,by rw[a5];exact hF.ret⟩
 refine G.loop (α:=Nat×ChG×Wk) (fun g=>g.1≤s'.moves.length∧WkFG x g.2.1 S.flows g.2.2∧WkA S.shard S.flows (k+mvK (s.m.moves.take g.1)) g.2.2∧g.2.2.flows.length=g.1∧(s.kind=9→∀f∈g.2.2.flows,f.to≠0)∧ew S.shard S.flows (cu S.cat) (s.m.at (bu S)) (wk0 S) s.m.moves=ew S.shard S.flows (cu S.cat) (s.m.at (bu S)) g.2.2 (s.m.moves.drop g.1))
  (fun g=>[(0,aq b),(4,.pointer none),(5,ac 0),(6,aq bc),(48,ae s'.mad s'.moves.length s'.mcap),(49,ac (s'.moves.length:Int)),(50,ac (g.1:Int))])
  (fun g=>chgL b bc (s'.at (bu S)) g.2.1 (ledL b S.shard x (stM s'::stP s'::stM s::stP s::L))) (fun g=>s'.moves.length - g.1) (0,⟨cs,ct,ci,cr,[],[],[],[],[],none,0,[],none,0⟩,wk0 S) ⟨az _,a6,vo hS,rfl,(fun _ f hf=>by cases hf),rfl⟩ an ?_ ?_
 ·simp only[chgL,ledL,cw,bS,StV.at,cU];refine(Ent.d8 bT 11 dz).trans ?_;refine(Ent.d8 (encZ .i64) 1 tInt).trans ?_;refine(Ent.e7 (fun p:(Int×Int)×Stk=>stkP p.2)).trans ?_;refine(Ent.e7 (fun p:Int×Stk=>stkP p.2)).trans ?_;refine(Ent.e7 (fun p:Int×Stk=>stkP p.2)).trans ?_;refine(Ent.e7 flP).trans ?_;exact ah
 rintro⟨i,z,W⟩ ⟨hi,hW,hO,c7,c4,a1⟩;dsimp only at hi hW hO c7 c4 a1 ⊢;by_cases b8:i<s'.moves.length
 case neg =>
  have b5:s.m.moves.drop i=[]:=bM (by rw[←b3,aA];omega);rw[b5] at a1;rw[a1];simp only[chgL,ledL,cw,bS];refine Zy ?_;intros;exact KX.d7 av (Ent.refl _) (.inr ⟨rfl,bc,s'.at (bu S),z,rfl,⟨b0,hW⟩,rfl⟩)
 have d4:(i:Int).toNat=i:=ab;have b2:s'.moves[i]!.m=s.m.moves[i]!:=by rw[←b3];exact(eD MvV.m b8).symm
 have b7:i<s.m.moves.length:=by rw[←b3,aA];exact b8
 have c8:i<s.moves.length:=ab;have d2:s'.moves[i]!.m=s.moves[i]!.m:=b2.trans (eD MvV.m c8);have b5:s.m.moves.drop i=s'.moves[i]!.m::s.m.moves.drop (i+1):=by rw[b2];exact fA b7
 have a7:s'.moves[i]!.m∈s.m.moves:=by rw[b2];exact aL b7
 have a0:=hA.2.2.2.2.1 s'.moves[i]!.m a7;have a3:=c9 s'.moves[i]!.m a7;have hK:mvK (s.m.moves.take (i+1))=mvK (s.m.moves.take i)+(s'.moves[i]!.m.parts.length+1):=by rw[wZ b7,b2]
 have e6:=Eu s.m.moves (i+1);have d1:∀p∈s'.moves[i]!.m.parts,p.1≤9223372036854775807:=by rw[d2];exact hs.bd _ (aL c8)
 have e3:s.kind=9→s'.moves[i]!.m.to≠0:=fun h=>HY (n:=S.cat.items.length) (by rw[show s.m.kind=9 from h] at a0;exact a0);rw[b5] at a1;have c3:ew S.shard S.flows (cu S.cat) (s.m.at (bu S)) W (s'.moves[i]!.m::s.m.moves.drop (i+1))=if(dA S.shard S.flows (cu S.cat) (s.m.at (bu S)) W s'.moves[i]!.m).1=0 then ew S.shard S.flows (cu S.cat) (s.m.at (bu S)) (dA S.shard S.flows (cu S.cat) (s.m.at (bu S)) W s'.moves[i]!.m).2 (s.m.moves.drop (i+1)) else((dA S.shard S.flows (cu S.cat) (s.m.at (bu S)) W s'.moves[i]!.m).1,W):=rfl;rw[c3] at a1;have e0:=tP (mix:=cu S.cat) (s:=s.m.at (bu S)) (m:=s'.moves[i]!.m) a4 hO a3 ab;have a8:=rD (mix:=cu S.cat) (s:=s.m.at (bu S)) (m:=s'.moves[i]!.m) a4 hO.g a3.g ab;have c1:=fun h9:s.kind=9=>Go (sh:=S.shard) (fl:=S.flows) (mix:=cu S.cat) (s:=s.m.at (bu S)) (m:=s'.moves[i]!.m) (c4 h9) (e3 h9);have a2:=CJ (L:=stM s'::stP s'::stM s::stP s::L) b bc S.shard x (s'.at (bu S)) z s'.moves[i]! W S.flows (k+mvK (s.m.moves.take i)) hF.flows hW hO (show MvA s'.kind s'.moves[i]!.m by rw[d0];exact a3) ab ⟨a0.1.1,by have h4:=a0.1.2;rw[←b1] at h4;simpa [CatV.m] using h4⟩ d1 (fun h=>c4 (by rw[←d0];exact h)) ⟨a4,c6⟩ ab ab hT d5;rw[b0,b9] at a2;have c2:(dA S.shard S.flows (cu S.cat) (s.m.at (bu S)) W s'.moves[i]!.m).1=0→(dA S.shard S.flows (cu S.cat) (s.m.at (bu S)) W s'.moves[i]!.m).2.flows.length=W.flows.length+1:=fun h=>by rw[(a8 h).2,ax,aG]
 clear a8;generalize dA S.shard S.flows (cu S.cat) (s.m.at (bu S)) W s'.moves[i]!.m=r at *;refine G.ent (L':=isl ay 3 s'.moves[i]!.pad s'.moves[i]!.m.parts::chgL b bc (s'.at (bu S)) z (ledL b S.shard x (stM s'::stP s'::stM s::stP s::L))) (by simp only[chgL,ledL];exact(Ent.at (A:=stP s') (tr b8)).trans ah) ?_;simp only[chgL,ledL,cw,bS,stM];refine Zy ?_;intros;rw[d4];refine GO.ent Ent.drop ?_;refine GO.ca (a2) ?_;rintro _ _⟨z',rfl,e5,rfl⟩;by_cases hr:r.1=0
 ·rw[if_pos hr] at a1;simp only[chgL,ledL,cw,bS];refine Zy ?_;intros;refine⟨(i+1,z',r.2),⟨by dsimp only;omega,e5 hr,by dsimp only;rw[hK,←dP,←dP];exact e0 hr,by dsimp only;rw[c2 hr,c7],c1,a1⟩,by dsimp only;omega,?_,Ent.refl _⟩;dsimp only;rw[aU i];exact an
 ·rw[if_neg hr] at a1;rw[a1];simp only[chgL,ledL,cw,bS];refine Zy ?_;intros;exact KX.en (.inl ⟨hr,rfl,rfl⟩)
end
section
open Go.V
def qU{κ α:Type}[DecidableEq κ]{q:κ×α}:∀{n m:List (κ×α)},q∈iA m n→q∈m∨q∈n
 | [],_,h=>.inl h
 | p::n,m,h=>by
  rcases qU (n:=n) (m:=gins m p.1 p.2) h with h1|h1
  ·rcases List.mem_cons.1 (oG q h1) with h2|h2
   ·exact .inr (by rw[h2];exact au)
   ·exact .inl h2
  ·exact .inr (aw _ h1)
def vP{m z x:List (Int×Stk)}(h:∀k,glk m k=(glk z k).or (glk x k)):eU m=uOf z x:=by
 funext k;unfold eU uOf;rw[h k];cases glk z k<;>rfl
def Gm{k:Nat}{S:LedM}{s:StM}(hS:LedA k S)(hk:k+mvK s.moves≤2000)(h:(gTry S s).1=0):S.steps.length<65536∧gu S.cat S.now s∧(gTry S s).2.flows.length=s.moves.length:=by
 have h2:=kR h;have e:=AV h;have h3:=h;rw[e] at h3;have h4:=(pQ hS.g.shard.1 (vo hS).g (fun m hm=>(ot h2 m hm).g) hk h3).2;rw[e];refine⟨Classical.byContradiction fun q=>?_,h2,?_⟩
 ·unfold gTry at h;rw[if_pos ab] at h;exact absurd (show(4:Int)=0 from h) ag
 ·rw[h4];show 0+s.moves.length=_;omega
attribute [local irreducible] G GO GP GPW GPK GF GE Ev Ef EfR Ent CB GB V.Enters
def re(d s:Nat)(m n:List (Int×Stk)) :
  Tri ai 66 #[.map (some d),.map (some s)] [gmap kvI Stk.v d m,gmap kvI Stk.v s n] (fun _ L'=>∃m',((∀k,glk m' k=(glk n k).or (glk m k))∧∀q∈m',q∈m∨q∈n)∧L' = [gmap kvI Stk.v d m']):=by
 refine Tri.bd ?_;refine G.ent Ent.swap ?_;refine G.e8 (lq (b:=s) (kv:=kvI) (enc:=Stk.v) (m:=n)) ?_;intro hn;refine IF ?_;intros;refine GO.ef (Ef.m5 rfl) ag ?_;rintro _ _⟨r,rfl,rfl⟩;refine IF ?_;intros;refine G.loop (α:=List (Int×Stk)) (fun z=>z.length≤n.length) (fun z=>[(0,.map (some d)),(7,aq r)]) (fun z=>[jv kvI Stk.v s n r z,gmap kvI Stk.v d (iA m z)]) (fun z=>n.length - z.length) [] (az _) an (Ent.refl _) ?_;intro z hz;refine IF ?_;intros;refine GO.ef (Ef.m7 rfl) ag ?_;rintro _ _ (⟨rfl,rfl,hp⟩|⟨p,rfl,rfl,a0,a1,hl⟩)
 ·refine IF ?_;intros;refine KX.e7 av Ent.drop ⟨iA m z,⟨fun k=>?_,fun q hq=>?_⟩,rfl⟩
  ·rw[nD k z m ((hp.map _).nodup_iff.2 hn),oF hp hn]
  ·rcases qU hq with h1|h1
   ·exact .inl h1
   ·exact .inr (hp.mem_iff.1 h1)
 refine IF ?_;intros;refine GO.ev (Ev.m7 (done:=z) rfl rfl) ag ?_;refine IF ?_;intros;refine GO.efu (Ef.e9 (enc:=Stk.v) (e:=p.2) rfl rfl rfl rfl) ?_;rintro _ _ rfl;refine IF ?_;intros;refine⟨z++[p],by simp;omega,by simp;omega,an,?_⟩;rw[show iA m (z++[p])=gins (iA m z) p.1 p.2 by simp[iA]];exact ah
abbrev Cq:=ar3 [.ev 4,.ef 5]
abbrev Cp:=ar4 [.ef 6]
abbrev yX:=ar5 [.ef 8]
abbrev yW:=ar5 [.ef 8]
abbrev yV:=ar5 [.ef 8]
abbrev yU:=ar5 [.ev 8,.ef 9,.ev 10,.ev 11,.ef 12]
abbrev yT:=ar5 [.ev 8,.ef 9,.ef 10,.ev 11,.ev 12,.ef 13]
def ZM{φ ψ:Prop}(k:ψ)(h:Hid ψ→φ:=by intro k;(repeat (first|refine aa ?_|intro zzz|refine G.dr 100 8 Cq ?_|refine G.dr 100 9 Cp ?_|refine G.dr 100 10 yX ?_|refine G.dr 100 11 yW ?_|refine G.dr 100 12 yV ?_|refine G.dr 100 13 yU ?_|refine G.dr 100 14 yT ?_));(repeat revert zzz);exact Hid.out k):φ:=h ⟨k⟩
def oq{L:LH}(b:Nat)(S:LedM)(k:Nat)(hS:LedA k S)(hc:S.cat.Ok)(h0:0≤S.now)(s:StV)(hs:StInG s)(a3:s.moves.length≤s.mcap)(hk:k+mvK s.m.moves≤2000)(hT:∀mx,TakeC mx) :
  Tri ai 24 #[aq b,aN (aX s)] (ji b S::stM s::stP s::L) (rtQ (.tuple #[ac (gRes S s.m),ac (gTry S s.m).1]) (ji b (cS S s.m)::stM s::stP s::L)):=by
 obtain⟨b7,b8⟩:=hS.g.shard;have c4:=hS.g.steps;have c0:=hS.g.flows;refine Tri.bd ?_;refine G.e7 (f:=qz b S) ?_;intro x;simp only[qz,ledL,ak,aj];refine G.e9 ?_;intro hF;have c6:x.steps.length=S.steps.length:=by rw[←hF.steps];simp
 have c5:x.flows.length=S.flows.length:=by rw[←hF.flows];simp
 refine ZM ?_;intros;refine GO.ent Ent.drop ?_;refine GO.ca (DT b S k hS hc h0 x hF s hs a3 hk hT) ?_;rintro _ _ (⟨he,rfl,rfl⟩|⟨he,bc,s',z,rfl,⟨b3,hW⟩,rfl⟩)
 ·have e1:cS S s.m=S:=if_neg he;have e2:gRes S s.m=0:=if_neg he;rw[e1,e2];refine ZM ?_;intros;exact KX.d7 av (pF x hF) ⟨rfl,rfl⟩
 have e1:cS S s.m=gZ S s.m:=if_pos he;have e2:gRes S s.m=bu S:=if_pos he;obtain⟨o1,o2,o4⟩:=Gm hS hk he;have c1:s.m.moves.length≤64:=o2.2.2.2.1.2
 have c7:z.flows.length≤64:=by
  have:=congrArg List.length hW.flows
  rw[aA] at this;omega
 have b9:0<z.flows.length:=by
  have h1:=congrArg List.length hW.flows;rw[aA] at h1;have h2:=o2.2.2.2.1.1;omega
 have a7:s'.id=bu S:=congrArg StM.id b3;rw[e1,e2,he];simp only[chgL,ledL,cw,bS];refine ZM ?_;intros;refine GO.d8 (lq (b:=z.cs) (kv:=kvP) (enc:=Stk.v) (m:=z.stk)) ?_;intro b1;refine GO.ef (Ef.m5 rfl) ag ?_;rintro _ _⟨r,rfl,rfl⟩;refine ZM ?_;intros
 refine G.loop (α:=List ((Int×Int)×Stk)) (fun g=>g.length≤z.stk.length) (fun _=>[(0,aq b),(6,aq bc),(23,aq r)])
  (fun g=>jv kvP Stk.v z.cs z.stk r g::gmap kvP Stk.v x.ms (fH x.stk g)::obj bc tCh (cw b s' z)::gmap kvI encN z.ct z.tot::gmap kvI Stk.v z.ci z.imp::gmap kvI Stk.v z.cr z.ret::osl bT 11 dz z.fad z.fcap z.flows::allP (fun p:(Int×Int)×Stk=>stkP p.2) z.stk::allP flP z.flows::allP (fun p:Int×Stk=>stkP p.2) z.imp::allP (fun p:Int×Stk=>stkP p.2) z.ret::obj b tLed (bS S.shard x)::gmap kvI encN x.mt x.tot::asl aX 7 cQ x.sad x.scap x.steps::asl bT 11 dz x.fad x.fcap x.flows::gmap kvI Stk.v x.mi x.imp::gmap kvI Stk.v x.mr x.ret::catP x.cat::allP (fun p:(Int×Int)×Stk=>stkP p.2) x.stk::allP cR x.steps::allP flP x.flows::allP (fun p:Int×Stk=>stkP p.2) x.imp::allP (fun p:Int×Stk=>stkP p.2) x.ret::stM s'::stP s'::stM s::stP s::L)
  (fun g=>z.stk.length - g.length) [] (az _) an ?_ ?_
 ·simp only[fH,List.foldl_nil];exact ah
 intro g hg;simp only[cw,bS];refine ZM ?_;intros;refine GO.ef (Ef.m7 rfl) ag ?_;rintro _ _ (⟨rfl,rfl,hp⟩|⟨p,rfl,rfl,c2,c3,hl⟩)
 case inr =>
  have b2:fH x.stk (g++[p])=putS (fH x.stk g) p:=by simp[fH]
  refine ZM ?_;intros;refine GO.ev (Ev.m7 (done:=g) rfl rfl) ag ?_;simp only[kvP,Stk.v,bY,fk];by_cases h0:p.2.lots.length=0
  ·have a5:putS (fH x.stk g) p=gera (fH x.stk g) p.1:=if_pos h0;refine ZM ?_;intros;refine GPW.efu (Ef.n8 rfl rfl) ?_;rintro _ _ rfl;refine ZM ?_;intros;refine⟨g++[p],by simp;omega,by simp;omega,an,?_⟩;rw[b2,a5];exact ah
  ·have a5:putS (fH x.stk g) p=gins (fH x.stk g) p.1 p.2:=if_neg h0;refine ZM ?_;intros;refine GPW.efu (Ef.e9 (enc:=Stk.v) (e:=p.2) rfl rfl rfl rfl) ?_;rintro _ _ rfl;refine ZM ?_;intros;refine⟨g++[p],by simp;omega,by simp;omega,an,?_⟩;rw[b2,a5];exact ah
 refine ZM ?_;intros;(first|refine GPW.ef (Ef.call (sW x.mt z.ct x.tot z.tot) rfl cT) ag ?_);rintro _ _⟨_,⟨m',b5,rfl⟩,hL⟩;simp only[ak,aj] at hL;subst hL;refine ZM ?_;intros;(first|refine GPW.ef (Ef.call (re x.mi z.ci x.imp z.imp) rfl cT) ag ?_);rintro _ _⟨_,⟨a8,⟨b4,a4⟩,rfl⟩,hL⟩;simp only[ak,aj] at hL;subst hL;refine ZM ?_;intros;(first|refine GPW.ef (Ef.call (re x.mr z.cr x.ret z.ret) rfl cT) ag ?_);rintro _ _⟨_,⟨a9,⟨b6,a6⟩,rfl⟩,hL⟩;simp only[ak,aj] at hL;subst hL;refine ZM ?_;intros;refine GPW.ef (Ef.m9 (enc:=bT) (ys:=z.flows) rfl rfl rfl rfl rfl b9 (fun e _=>jT e) ab ab) ag ?_;rintro _ _⟨a2,a0,rfl,rfl⟩;refine ZM ?_;intros;refine GPW.ef (Ef.l5 (enc:=aX) (e:=s') rfl rfl rfl rfl rfl aJ (lu _) ab ab) ag ?_;rintro _ _⟨b0,a1,rfl,rfl⟩;refine ZM ?_;intros;rw[a7];refine KX.d7 av ?_ ⟨rfl,rfl⟩;refine Ent.trans ?_ (pF (S:=gZ S s.m) { x with stk:=fH x.stk g,tot:=m',imp:=a8,ret:=a9,steps:=x.steps++[s'],sad:=b0,scap:=a1,flows:=x.flows++z.flows,fad:=a2,fcap:=a0 } ⟨hF.cat,hF.catB,?_,?_,?_,?_,?_,?_,?_⟩)
 ·simp only[ledL,bS,gZ];refine(Ent.at (A:=stP s') (Ent.refl _)).trans ?_;refine(Ent.at (A:=stM s') (Ent.refl _)).trans ?_;refine(Ent.e8 (sj s') (cG iQ)).trans ?_;refine(Ent.at (A:=allP cR x.steps) (Ent.refl _)).trans ?_;refine((Ent.d7 (Ent.l0 (f:=cR) (x:=s') lC)).trans (Ent.j0 lC)).trans ?_;refine(Ent.at (A:=allP flP z.flows) (Ent.refl _)).trans ?_;refine(Ent.at (A:=allP flP x.flows) (Ent.refl _)).trans ?_;refine(Ent.j0 lr).trans ?_;refine(Ent.at (A:=allP (fun p:(Int×Int)×Stk=>stkP p.2) z.stk) (Ent.refl _)).trans ?_;refine(Ent.at (A:=allP (fun p:(Int×Int)×Stk=>stkP p.2) x.stk) (Ent.refl _)).trans ?_;refine(Ent.j0 (f:=fun p:(Int×Int)×Stk=>stkP p.2) (fun p=>nL p.2)).trans ?_;refine(Ent.l6 (l':=fH x.stk g) (fun q hq=>?_)).trans ?_
  ·rcases lk hq with h1|h1
   ·exact bQ _ h1
   ·exact bD _ (hp.mem_iff.1 h1.1)
  refine(Ent.at (A:=allP (fun p:Int×Stk=>stkP p.2) z.imp) (Ent.refl _)).trans ?_;refine(Ent.at (A:=allP (fun p:Int×Stk=>stkP p.2) x.imp) (Ent.refl _)).trans ?_;refine(Ent.j0 (f:=fun p:Int×Stk=>stkP p.2) (fun p=>nL p.2)).trans ?_;refine(Ent.l6 (l':=a8) (fun q hq=>List.mem_append.2 (a4 q hq))).trans ?_;refine(Ent.at (A:=allP (fun p:Int×Stk=>stkP p.2) z.ret) (Ent.refl _)).trans ?_;refine(Ent.at (A:=allP (fun p:Int×Stk=>stkP p.2) x.ret) (Ent.refl _)).trans ?_;refine(Ent.j0 (f:=fun p:Int×Stk=>stkP p.2) (fun p=>nL p.2)).trans ?_;refine(Ent.l6 (l':=a9) (fun q hq=>List.mem_append.2 (a6 q hq))).trans ?_;exact ah
 ·intro a i;rw[mK _ _ _ ((hp.map _).nodup_iff.2 b1),oF hp b1];exact hW.stk a i
 ·intro q hq;rcases lk hq with h1|h1
  ·exact hF.full q h1
  ·exact h1.2
 ·intro i;dsimp only;rw[b5,AL];exact hW.tot i
 ·show(x.steps++[s']).map StV.m=S.steps++[s.m.at (bu S)];rw[aR,hF.steps,←b3];rfl
 ·show(x.flows++z.flows).map (·.m)=S.flows++(gTry S s.m).2.flows;rw[aR,hF.flows];exact congrArg _ hW.flows
 ·show SetS (eU a8) (fg (S.flows++(gTry S s.m).2.flows));rw[vP b4];exact hW.imp
 ·show SetS (eU a9) (eG (S.flows++(gTry S s.m).2.flows));rw[vP b6];exact hW.ret
