/- Lemmas. -/
import Derived.Test.YtlgpgjdggilkgaaGreatDoorEcaz
set_option linter.all false
set_option maxHeartbeats 4000000
namespace Go.Proofs.YtlgpgjdggilkgaaGreatDoor
section
open Go.V
attribute [local irreducible] G GO GP GPW GPK GF GE Ev Ef EfR Ent CB GB V.Enters
structure WkFG (x:LedX) (z:ChG) (fl:List FlM) (W:Wk):Prop where
 stk:∀a i,(uOf z.stk x.stk (a,i)).lots=W.stk a i
 tot:∀i,(glk z.tot i).getD ((glk x.tot i).getD 0)=W.tot i
 flows:z.flows.map FlV.m=W.flows
 sunk:z.sunk=W.sunk
 imp:SetS (uOf z.imp x.imp) (cz (fl++W.flows))
 ret:SetS (uOf z.ret x.ret) (fT (fl++W.flows))
structure TkFG (x:LedX) (fl:List FlM) (W:Wk) (s:StM) (m:MvM) (mix:Int→Bool) (stk:List ((Int×Int)×Stk)) (imp ret:List (Int×Stk)):Prop where
 stk:∀a i,(uOf stk x.stk (a,i)).lots=gStk mix W m a i
 imp:SetS (uOf imp x.imp) (cz (fl++W.flows)++iaOf s m)
 ret:SetS (uOf ret x.ret) (fT (fl++W.flows)++raOf s m)
def Jn{sh:Int}{fl:List FlM}{s:StM}{W:Wk}{m:MvM}(h:¬m.frm=0):gErr sh fl s W m≠0↔lD (W.stk m.frm m.item) m:=by
 unfold gErr lD;rw[if_neg h];split
 ·split
  ·exact⟨fun _=>by assumption,fun _=>by decide⟩
  ·exact⟨fun q=>absurd rfl q,fun q=>by contradiction⟩
 ·split
  ·exact⟨fun q=>absurd rfl q,fun q=>by contradiction⟩
  ·exact⟨fun _=>by assumption,fun _=>by decide⟩
def Gt{sh:Int}{fl:List FlM}{s:StM}{W:Wk}{m:MvM}(h:¬m.frm=0)(hb:lD (W.stk m.frm m.item) m):gErr sh fl s W m=10:=by
 unfold lD at hb;unfold gErr;rw[if_neg h];split
 ·rename_i hp;rw[if_pos hp] at hb;rw[if_pos hb]
 ·rename_i hp;rw[if_neg hp] at hb;rw[if_neg hb]
abbrev zP:List Stp:=[.ev 0,.ev 1,.ev 3,.ev 4,.ef 2,.ef 5,.ev 6,.ev 7]
abbrev zO:List Stp:=[.ev 0,.ev 1,.ev 3,.ev 4,.ef 2,.ef 5,.ev 6,.ev 7]
def QA{φ ψ:Prop}(k:ψ)(h:Hid ψ→φ:=by intro k;(repeat (first|refine aa ?_|intro zzz|refine G.dr 35 5 zP ?_|refine G.dr 35 7 zO ?_));(repeat revert zzz);exact Hid.out k):φ:=h ⟨k⟩
def Cj{L:LH}(b bc:Nat)(sh:Int)(x:LedX)(s:StV)(z:ChG)(m:MvV)(W:Wk)(fl:List FlM)(k:Nat)(b8:x.flows.map FlV.m=fl)(hW:WkFG x z fl W)(hA:WkA sh fl k W)(hm:MvA s.kind m.m)(hk:k+m.m.parts.length≤2000)(b9:0≤m.m.item∧m.m.item<x.cat.items.length)(hb:∀p∈m.m.parts,p.1≤9223372036854775807)(h9:s.kind=9→∀f∈W.flows,f.to≠0)(c2:0≤sh∧sh<12)(d2:x.flows.length≤8000000)(hT:∀mx,TakeC mx)(c4:x.cat.items.length≤64) :
  Tri Tryz.prog 193 #[ax bc,aU (cj m)] (isl aG 3 m.pad m.m.parts::chgL b bc s z (ledL b sh x L)) (fun v L' =>
   (gErr sh (fl++W.flows) s.m W m.m≠0∧∃pd n c z',v=.tuple #[ag pd n c,ac (gErr sh (fl++W.flows) s.m W m.m)]∧L' = chgL b bc s z' (ledL b sh x L)) ∨
   (gErr sh (fl++W.flows) s.m W m.m=0∧∃pad pcap b1 a1 a3,v=.tuple #[ag pad (gPts (cU x) s.m W m.m).length pcap,ac 0]∧TkFG x fl W s.m m.m (cU x) b1 a1 a3 ∧
    L' = isl aG 3 pad (gPts (cU x) s.m W m.m)::chgL b bc s { z with stk:=b1,imp:=a1,ret:=a3 } (ledL b sh x L))):=by
 have a4:=hm.g.lots;have c5:=hA.il;have c6:=hA.rl;have b4:=Fu hA.fa;have b7:=EH hA.fa
 have c3:∀f∈x.flows,f.m.n≤9223372036854775807:=fun f hf=>by
  have h1:f.m∈fl:=by rw[←b8];exact alStd0List_mem_map_of_mem hf
  obtain⟨j,hj,e⟩:=List.mem_iff_getElem.1 h1;have h2:=(hA.fn j (by rw[aj];omega)).2.2;rw[getElem!_of (by rw[aj];omega),dw hj,e] at h2;omega
 have a6:=hW.stk m.m.frm m.m.item;obtain⟨⟨frm,to,item,mn,parts⟩,a2,a0⟩:=m;have b5:=hm.g.n;dsimp only at hm hk b9 hb a4 a6 b5 ⊢;refine Tri.bd (args:=[ax bc,aU (cj ⟨⟨frm,to,item,mn,parts⟩,a2,a0⟩)]) ?_;by_cases h0:frm=0
 ·subst h0;have a7:gStk (cU x) W ⟨0,to,item,mn,parts⟩=W.stk:=by unfold gStk;rw[if_pos rfl]
  have eS:s.m.kind=s.kind:=rfl;by_cases h5:s.kind=5
  ·have eE:gErr sh (fl++W.flows) s.m W ⟨0,to,item,mn,parts⟩=arrG sh (fl++W.flows) parts:=by unfold gErr;rw[if_pos rfl,if_pos (show s.m.kind=5 from h5)]
   have eP:gPts (cU x) s.m W ⟨0,to,item,mn,parts⟩=parts:=by unfold gPts;rw[if_pos rfl,if_pos (.inl h5)]
   have eI:iaOf s.m ⟨0,to,item,mn,parts⟩=parts:=if_pos h5;have eR:raOf s.m ⟨0,to,item,mn,parts⟩=[]:=if_neg ab;have b6:=hm.st (.inl h5);have b2:∀a1,SetS (uOf a1 x.imp) (cz (fl++W.flows)++parts)→TkFG x fl W s.m ⟨0,to,item,mn,parts⟩ (cU x) z.stk a1 z.ret:=fun a1 hi=>⟨fun a i=>by rw[a7];exact hW.stk a i,by rw[eI];exact hi,by rw[eR,aH];exact hW.ret⟩;rw[eE,eP,←IQ hA.fa a4 b6.2.1];simp only[chgL,ledL,cj];refine QA ?_;intros;rename_i b3;refine GPW.ca (iv a2 parts.length a0 parts rfl ab) ?_;rintro _ _⟨a5,c1,rfl,rfl⟩;refine QA ?_;intros;refine GPW.ent (L':=chgL b bc s z (ledL b sh x (isl aG 3 a2 parts::osl aG 3 tLot a5 c1 parts::obj b3 tMv [ac 0,ac to,ac item,ac mn,ag a2 parts.length a0]::L))) (by simp only[chgL,ledL];exact ah) ?_;refine GPW.ca (Ee b bc sh x s z (cz (fl++W.flows)) hW.imp ab b4 ⟨⟨0,to,item,mn,parts⟩,a2,a0⟩ a4 hb kg) ?_;rintro _ _⟨a1,rfl,b0,rfl⟩;dsimp only at b0 ⊢;simp only[chgL,ledL];by_cases he:impG sh parts (cz (fl++W.flows))=0
   ·rw[he];refine QA ?_;intros;refine KX.a8 aA ?_ (.inr ⟨rfl,a5,c1,z.stk,a1,z.ret,rfl,b2 a1 (b0 he),rfl⟩);refine(Ent.frz a5).trans ?_;exact ah
   ·refine QA ?_;intros;exact KX.a8 aA (by simp only[chgL,ledL];exact ah) (.inl ⟨he,a5,parts.length,c1,{ z with imp:=a1 },rfl,rfl⟩)
  by_cases a9:s.kind=9
  ·have eE:gErr sh (fl++W.flows) s.m W ⟨0,to,item,mn,parts⟩=revG (fl++W.flows) item parts:=by unfold gErr;rw[if_pos rfl,if_neg (show ¬s.m.kind=5 from h5),if_pos (show s.m.kind=9 from a9)]
   have eP:gPts (cU x) s.m W ⟨0,to,item,mn,parts⟩=parts:=by unfold gPts;rw[if_pos rfl,if_pos (.inr a9)]
   have eI:iaOf s.m ⟨0,to,item,mn,parts⟩=[]:=if_neg h5;have eR:raOf s.m ⟨0,to,item,mn,parts⟩=parts:=if_pos ⟨a9,rfl⟩;have b6:=hm.st (.inr (.inr a9));have b2:∀a3,SetS (uOf a3 x.ret) (fT (fl++W.flows)++parts)→TkFG x fl W s.m ⟨0,to,item,mn,parts⟩ (cU x) z.stk z.imp a3:=fun a3 hi=>⟨fun a i=>by rw[a7];exact hW.stk a i,by rw[eI,aH];exact hW.imp,by rw[eR];exact hi⟩;rw[eE,eP,←Iq c2.1 hA.fa hA.fn item a4 b6.2.1,wY (h9 a9)];simp only[chgL,ledL,cj];refine QA ?_;intros;rename_i b3;refine GPW.ca (iv a2 parts.length a0 parts rfl ab) ?_;rintro _ _⟨a5,c1,rfl,rfl⟩;refine QA ?_;intros;refine GPW.ent (L':=chgL b bc s z (ledL b sh x (isl aG 3 a2 parts::osl aG 3 tLot a5 c1 parts::obj b3 tMv [ac 0,ac to,ac item,ac mn,ag a2 parts.length a0]::L))) (by simp only[chgL,ledL];exact ah) ?_;refine GPW.ca (wZ b bc sh x s z (fT (fl++W.flows)) hW.ret ab b7 ⟨⟨0,to,item,mn,parts⟩,a2,a0⟩ a4 hb kg c2 ab c3) ?_;rw[b8];rintro _ _⟨a3,rfl,b0,rfl⟩;dsimp only at b0 ⊢;simp only[chgL,ledL];by_cases he:retG sh fl item parts (fT (fl++W.flows))=0
   ·rw[he];refine QA ?_;intros;refine KX.a8 aA ?_ (.inr ⟨rfl,a5,c1,z.stk,z.imp,a3,rfl,b2 a3 (b0 he),rfl⟩);refine(Ent.frz a5).trans ?_;exact ah
   ·refine QA ?_;intros;exact KX.a8 aA (by simp only[chgL,ledL];exact ah) (.inl ⟨he,a5,parts.length,c1,{ z with ret:=a3 },rfl,rfl⟩)
  have eE:gErr sh (fl++W.flows) s.m W ⟨0,to,item,mn,parts⟩=0:=by unfold gErr;rw[if_pos rfl,if_neg (show ¬s.m.kind=5 from h5),if_neg (show ¬s.m.kind=9 from a9)]
  have eP:gPts (cU x) s.m W ⟨0,to,item,mn,parts⟩=[]:=by unfold gPts;rw[if_pos rfl,if_neg ab]
  have eI:iaOf s.m ⟨0,to,item,mn,parts⟩=[]:=if_neg h5;have eR:raOf s.m ⟨0,to,item,mn,parts⟩=[]:=if_neg ab;simp only[chgL,ledL,cj];rw[eE,eP];refine QA ?_;intros;refine KX.a8 aA ?_ (.inr ⟨rfl,none,0,z.stk,z.imp,z.ret,rfl,⟨fun a i=>by rw[a7];exact hW.stk a i,by rw[eI,aH];exact hW.imp,by rw[eR,aH];exact hW.ret⟩,rfl⟩);refine Ent.trans ?_ (Ent.d9 aG 3 none);exact ah
 have eI:iaOf s.m ⟨frm,to,item,mn,parts⟩=[]:=if_neg (fun q=>h0 (hm.imp q));have eR:raOf s.m ⟨frm,to,item,mn,parts⟩=[]:=if_neg (fun q=>h0 q.2);have hG:=hA.g.stk frm item;have d1:=hG.len
 have c0:eQ parts∧Apart parts:=by
  rcases hm.g.parts with q|q
  ·dsimp only at q;rw[q];exact⟨⟨(fun x hx=>by cases hx),by decide⟩,List.Pairwise.nil⟩
  ·exact⟨q.1,(partsA_iff.2 q).2.1⟩
 refine QA ?_;intros;refine GO.ent Ent.drop ?_;refine GO.ca (uf b bc sh x s z ⟨⟨frm,to,item,mn,parts⟩,a2,a0⟩ ⟨b9,⟨by have:=b5.1;dsimp only;omega,b5.2⟩,c0.1,c0.2,by rw[a6];exact⟨hG.lots,ab⟩,by rw[a6];exact hG.apt⟩ (hT _) c4) ?_;dsimp only;rw[a6];rintro _ _ (⟨h1,rfl,rfl⟩|⟨h1,pad,pcap,sk,rfl,d0,rfl⟩)
 ·have e:=Gt (sh:=sh) (fl:=fl++W.flows) (s:=s.m) (W:=W) (m:=⟨frm,to,item,mn,parts⟩) h0 h1;rw[e];refine QA ?_;intros;exact KX.a8 aA (Ent.refl _) (.inl ⟨by decide,none,0,0,z,rfl,rfl⟩)
 ·have eE:gErr sh (fl++W.flows) s.m W ⟨frm,to,item,mn,parts⟩=0:=Classical.byContradiction fun q=>h1 ((Jn h0).1 q);have eP:gPts (cU x) s.m W ⟨frm,to,item,mn,parts⟩=sP (cU x item) (W.stk frm item) ⟨frm,to,item,mn,parts⟩:=by unfold gPts;rw[if_neg h0];rfl
  rw[eE,eP];refine QA ?_;intros;refine KX.a8 aA (Ent.refl _) (.inr ⟨rfl,pad,pcap,gins z.stk (frm,item) sk,z.imp,z.ret,rfl,⟨?_,by rw[eI,aH];exact hW.imp,by rw[eR,aH];exact hW.ret⟩,rfl⟩);intro a i;rw[kC];unfold gStk upd2;rw[if_neg h0];by_cases hq:a=frm∧i=item
  ·obtain⟨rfl,rfl⟩:=hq;rw[if_pos rfl,if_pos ⟨rfl,rfl⟩,d0];rfl
  ·rw[if_neg (fun h=>hq (by simpa using h)),if_neg hq];exact hW.stk a i
abbrev zN:=XD [.ev 10,.ev 11]
abbrev zM:=XD [.ev 10]
abbrev xt:=XB [.ev 6,.ef 7]
abbrev xr:=XF [.ev 17,.ev 18,.ev 19,.ev 20,.ev 21,.ev 22,.ev 23,.ev 24,.ev 25,.ev 26,.ev 27,.ev 28,.ev 29,.ev 30,.ev 31,.ev 32,.ev 33,.ev 34,.ev 35,.ev 36,.ev 37,.ev 38,.ev 39,.ev 40,.ev 41,.ev 42,.ev 43,.ev 44,.ev 45,.ev 46,.ev 47,.ev 48,.ev 49,.ev 50,.ev 51,.ev 52,.ef 53,.ef 54]
abbrev xq:=XB [.ef 6,.ef 7,.ev 8,.ev 9,.ef 10]
abbrev xo:=XB [.ev 6,.ef 7,.ef 8,.ev 9,.ev 10,.ef 11]
abbrev xn:=XE [.ev 13,.ev 14,.ef 15,.ef 16]
def bJ{φ ψ:Prop}(k:ψ)(h:Hid ψ→φ:=by intro k;(with_reducible apply G.a8);first|refine G.dr 186 4 zN (Hid.out k)|refine G.dr 186 6 zM (Hid.out k)|refine G.dr 186 13 xt (Hid.out k)|refine G.dr 186 14 xr (Hid.out k)|refine G.dr 186 17 xq (Hid.out k)|refine G.dr 186 19 xo (Hid.out k)|refine G.dr 186 24 xn (Hid.out k)):φ:=h ⟨k⟩
def QN{φ ψ:Prop}(k:ψ)(h:Hid ψ→φ:=by intro k;(repeat (first|refine aa ?_|intro zzz|refine bJ ?_));(repeat revert zzz);exact Hid.out k):φ:=h ⟨k⟩
def Dy{L:LH}(b bc:Nat)(sh:Int)(x:LedX)(s:StV)(z:ChG)(m:MvV)(W:Wk)(fl0:List FlM)(k:Nat)(d5:x.flows.map FlV.m=fl0)(hW:WkFG x z fl0 W)(hA:WkA sh fl0 k W)(hm:MvA s.kind m.m)(hk:k+m.m.parts.length≤2000)(f1:0≤m.m.item∧m.m.item<x.cat.items.length)(hb:∀p∈m.m.parts,p.1≤9223372036854775807)(h9:s.kind=9→∀f∈W.flows,f.to≠0)(e3:0≤sh∧sh<12)(h3:x.flows.length≤4194304)(g0:W.flows.length<64)(hT:∀mx,TakeC mx)(f0:x.cat.items.length≤64) :
  Tri Tryz.prog 134 #[ax bc,aU (cj m)] (isl aG 3 m.pad m.m.parts::chgL b bc s z (ledL b sh x L)) (fun v L'=>∃z',v=ac (db sh fl0 (cU x) s.m W m.m).1 ∧
   ((db sh fl0 (cU x) s.m W m.m).1=0→WkFG x z' fl0 (db sh fl0 (cU x) s.m W m.m).2)∧L' = chgL b bc s z' (ledL b sh x L)):=by
 have d1:=fun (M:LH)=>Cj (L:=M) b bc sh x s z m W fl0 k d5 hW hA hm hk f1 hb h9 e3 ab hT f0;obtain⟨g5,g6⟩:=e3;obtain⟨g2,g3⟩:=hm.g.n;have g4:=hm.g.ne;obtain⟨g7,h2⟩:=hA.g.tot m.m.item;have f4:fl0.length=x.flows.length:=by rw[←d5,an]
 have f5:z.flows.length=W.flows.length:=by rw[←hW.flows,an]
 have g1:z.sunk.length≤64:=by rw[hW.sunk];have:=hA.g.sunk;omega
 have e9:=fun (he:gErr sh (fl0++W.flows) s.m W m.m=0)=>FA (mix:=cU x) hA.g hm.g ab he;have c4:=Fv (sh:=sh) (nf:=fl0.length) (mix:=cU x) (s:=s.m) (W:=W) hm (fl0++W.flows);refine Tri.bd ?_;refine QN ?_;intros;rename_i b3;refine GO.ent (L':=isl aG 3 m.pad m.m.parts::chgL b bc s z (ledL b sh x (obj b3 tMv (cj m)::L))) (by simp only[chgL,ledL];exact ah) ?_;refine GO.ca (d1 (obj b3 tMv (cj m)::L)) ?_;rintro _ _ (⟨h1,pd,pn,pc,z',rfl,rfl⟩|⟨h1,pad,pcap,a0,a1,a2,rfl,f3,rfl⟩)
 ·have e:db sh fl0 (cU x) s.m W m.m=(gErr sh (fl0++W.flows) s.m W m.m,W):=by unfold db;rw[if_pos h1]
  rw[e];generalize gErr sh (fl0++W.flows) s.m W m.m=er at *;dsimp only;refine QN ?_;intros;exact KX.a8 aA (by simp only[chgL,ledL];exact ah) ⟨z',rfl,(fun h=>absurd h h1),rfl⟩
 obtain⟨b2,a7,b0⟩:=f3;have e0:eU sh fl0.length W=sh*4294967296+(x.flows.length:Int)+(z.flows.length:Int):=by unfold eU;rw[f5,f4]
 have f2:db sh fl0 (cU x) s.m W m.m=if ew W m.m>1099511627776 then(4,W)
   else if m.m.to=0 then(0,⟨gStk (cU x) W m.m,upd W.tot m.m.item (ew W m.m),W.flows++[fE sh fl0.length (cU x) s.m W m.m],W.sunk++[eU sh fl0.length W]⟩)
   else if 4096≤(gStk (cU x) W m.m m.m.to m.m.item).length then(4,W)
   else(0,⟨upd2 (gStk (cU x) W m.m) m.m.to m.m.item (bN (gStk (cU x) W m.m m.m.to m.m.item) (eU sh fl0.length W,0,m.m.n)),upd W.tot m.m.item (ew W m.m),W.flows++[fE sh fl0.length (cU x) s.m W m.m],W.sunk⟩):=by unfold db;rw[if_neg (fun q=>q h1)]
 have b6:fE sh fl0.length (cU x) s.m W m.m=⟨eU sh fl0.length W,s.id,s.kind,s.tick,s.actor,m.m.frm,m.m.to,m.m.item,m.m.n,gPts (cU x) s.m W m.m,jr s.m W m.m⟩:=rfl;rw[←c4.1] at a7;rw[←c4.2] at b0;clear c4 d1;rw[f2];generalize fE sh fl0.length (cU x) s.m W m.m=fl at *;generalize gPts (cU x) s.m W m.m=pts at *;rw[aB] at a7 b0;have e4:ew W m.m=W.tot m.m.item+(if m.m.frm=0 then m.m.n else 0) - (if m.m.to=0 then m.m.n else 0):=rfl;have e5:=hW.tot m.m.item;simp only[chgL,ledL,ck];refine QN ?_;intros;refine GPW.evL (Ev.a8 rfl rfl) ae ?_;repeat first|refine G.sm 5 ?_|refine dq ?_|intro _|refine bJ ?_
 refine G.c7 (α:=Unit) (fun _=>True) (fun _=>[(0,ax bc),(3,ax b3),(4,ac 0),(5,ag pad pts.length pcap),(7,ac (W.tot m.m.item))]) (fun _=>isl aG 3 pad pts::chgL b bc s { z with stk:=a0,imp:=a1,ret:=a2 } (ledL b sh x (obj b3 tMv (cj m)::L))) ?_ ?_
 ·cases hl:@List.lookup _ _ instBEqOfDecidableEq m.m.item z.tot with
  | some t =>
   simp only[eK,Option.getD_some,Option.isSome_some];have e:W.tot m.m.item=t:=by rw[←e5];unfold glk;rw[hl];rfl
   rw[e];refine QN ?_;intros;exact⟨(),trivial,aC,Ent.refl _⟩
  | none =>
   simp only[fj,fg,Option.isSome_none];have e:W.tot m.m.item=(glk x.tot m.m.item).getD 0:=by rw[←e5];unfold glk;rw[hl];rfl
   rw[e];refine QN ?_;intros;refine GPW.evL (Ev.f9 rfl rfl) ae ?_;rw[HH];refine QN ?_;intros;exact⟨(),trivial,aC,Ent.refl _⟩
 rintro _ _;simp only[chgL,ledL,ck];refine G.c7 (α:=Unit) (fun _=>True) (fun _=>[(0,ax bc),(3,ax b3),(4,ac 0),(5,ag pad pts.length pcap),(7,ac (W.tot m.m.item+(if m.m.frm=0 then m.m.n else 0)))]) (fun _=>isl aG 3 pad pts::chgL b bc s { z with stk:=a0,imp:=a1,ret:=a2 } (ledL b sh x (obj b3 tMv (cj m)::L))) ?_ ?_
 ·by_cases h0:m.m.frm=0
  ·rw[if_pos h0];refine QN ?_;intros;exact⟨(),trivial,aC,Ent.refl _⟩
  ·rw[if_neg h0,Int.add_zero];refine QN ?_;intros;exact⟨(),trivial,aC,Ent.refl _⟩
 rintro _ _;simp only[chgL,ledL,ck];have c1 : -9223372036854775808+1099511627776≤W.tot m.m.item+(if m.m.frm=0 then m.m.n else 0)∧W.tot m.m.item+(if m.m.frm=0 then m.m.n else 0)≤2199023255552:=by split<;>omega
 obtain⟨c1,e7⟩:=c1;refine G.c7 (α:=Unit) (fun _=>True) (fun _=>[(0,ax bc),(3,ax b3),(4,ac 0),(5,ag pad pts.length pcap),(7,ac (ew W m.m))]) (fun _=>isl aG 3 pad pts::chgL b bc s { z with stk:=a0,imp:=a1,ret:=a2 } (ledL b sh x (obj b3 tMv (cj m)::L))) ?_ ?_
 ·rw[e4];generalize W.tot m.m.item+(if m.m.frm=0 then m.m.n else 0)=t1 at *;by_cases h0:m.m.to=0
  ·rw[if_pos h0];refine QN ?_;intros;exact⟨(),trivial,aC,Ent.refl _⟩
  ·rw[if_neg h0,Int.sub_zero];refine QN ?_;intros;exact⟨(),trivial,aC,Ent.refl _⟩
 rintro _ _;simp only[chgL,ledL,ck];by_cases b4:ew W m.m>1099511627776
 ·rw[if_pos b4];refine QN ?_;intros;exact KX.a8 aA ah ⟨{ z with stk:=a0,imp:=a1,ret:=a2 },rfl,(fun h=>absurd (show(_:Int)=0 from h) kg),rfl⟩
 rw[if_neg b4];clear e4 c1 e7;refine QN ?_;intros;refine GPW.efu (Ef.c9 (enc:=encN) (e:=ew W m.m) rfl rfl rfl rfl) ?_;rintro _ _ rfl;repeat first|refine G.sm 15 ?_|refine dq ?_|intro _|refine bJ ?_
 rename_i b9
 have a4:∀(mad:OA) (mcap:Nat),dT (flV fl pad pcap mad mcap)=[ac (sh*4294967296+(x.flows.length:Int)+(z.flows.length:Int)),ac s.id,ac s.kind,ac s.tick,ac s.actor,ac m.m.frm,ac m.m.to,ac m.m.item,ac m.m.n,ag pad pts.length pcap,ag mad (jr s.m W m.m).length mcap]:=by
  intro mad mcap;rw[b6,e0];rfl
 refine G.c7 (α:=OA×Nat) (fun _=>True) (fun _=>[(0,ax bc),(3,ax b3),(4,ac 0),(9,ax b9)]) (fun g=>obj b9 fQ (dT (flV fl pad pcap g.1 g.2))::isl (encZ .i64) 1 g.1 (jr s.m W m.m)::isl aG 3 pad pts::chgL b bc s { z with stk:=a0,imp:=a1,ret:=a2,tot:=gins z.tot m.m.item (ew W m.m) } (ledL b sh x (obj b3 tMv (cj m)::L))) ?_ ?_
 ·by_cases c0:m.m.frm=0∧(s.kind=4∨s.kind=10)
  ·obtain⟨c6,a9⟩:=c0;have e:jr s.m W m.m=z.sunk:=by unfold jr;rw[if_pos ⟨c6,a9⟩,hW.sunk]
   rcases a9 with a9|a9
   ·refine QN ?_;intros;refine GO.ca (mc z.kad z.sunk.length z.kcap z.sunk rfl ab) ?_;rintro _ _⟨mad,mcap,rfl,rfl⟩;refine QN ?_;intros;refine⟨(mad,mcap),trivial,aC,?_⟩;rw[a4,e];refine(Ent.frz mad).trans ?_;exact ah
   ·refine QN ?_;intros;refine GO.ca (mc z.kad z.sunk.length z.kcap z.sunk rfl ab) ?_;rintro _ _⟨mad,mcap,rfl,rfl⟩;refine QN ?_;intros;refine⟨(mad,mcap),trivial,aC,?_⟩;rw[a4,e];refine(Ent.frz mad).trans ?_;exact ah
  ·have e:jr s.m W m.m=[]:=by
    unfold jr;exact if_neg c0
   by_cases h0:m.m.frm=0
   ·have f6:¬s.kind=4:=fun h=>c0 ⟨h0,.inl h⟩;have e6:¬s.kind=10:=fun h=>c0 ⟨h0,.inr h⟩;refine QN ?_;intros;refine⟨(none,0),trivial,aC,?_⟩;rw[a4,e];refine Ent.trans ?_ (Ent.a8 (Ent.d9 (encZ .i64) 1 none));exact ah
   ·refine QN ?_;intros;refine⟨(none,0),trivial,aC,?_⟩;rw[a4,e];refine Ent.trans ?_ (Ent.a8 (Ent.d9 (encZ .i64) 1 none));exact ah
 rintro⟨mad,mcap⟩ _;simp only[chgL,ledL,ck];refine QN ?_;intros;refine GPW.ef (Ef.a8 (enc:=dT) (e:=flV fl pad pcap mad mcap) rfl rfl rfl rfl rfl aQ (lW _) ab ab) ae ?_;rintro _ _⟨a5,a3,rfl,rfl⟩;repeat first|refine G.sm 18 ?_|refine dq ?_|intro _|refine bJ ?_
 have a6:fl.id=eU sh fl0.length W:=by rw[b6]
 have b5:fl.n=m.m.n:=by rw[b6]
 have c2:fl.made=jr s.m W m.m:=by rw[b6]
 have c3:fl.parts=pts:=by rw[b6]
 refine G.ent (L':=obj b9 fQ (dT (flV fl pad pcap mad mcap))::chgL b bc s { z with stk:=a0,imp:=a1,ret:=a2,tot:=gins z.tot m.m.item (ew W m.m),flows:=z.flows++[flV fl pad pcap mad mcap],fad:=a5,fcap:=a3 } (ledL b sh x (obj b3 tMv (cj m)::L))) ?_ ?_
 ·simp only[chgL,ledL,ck];refine(Ent.at (A:=isl (encZ .i64) 1 mad (jr s.m W m.m)) (Ent.refl _)).trans ?_;refine(Ent.at (A:=isl aG 3 pad pts) (Ent.refl _)).trans ?_;rw[←c3,←c2];refine(Ent.f8 (bO _ _ _ _) (bO _ _ _ _)).trans ?_;refine(Ent.at (A:=allP flP z.flows) (Ent.refl _)).trans ?_;refine((Ent.a8 (Ent.d8 (f:=flP) (x:=flV fl pad pcap mad mcap) tP)).trans (Ent.d7 tP)).trans ?_;exact ah
 have d3:∀i,(glk (gins z.tot m.m.item (ew W m.m)) i).getD ((glk x.tot i).getD 0)=upd W.tot m.m.item (ew W m.m) i:=by
  intro i;unfold glk upd;have hq:=ja (m:=z.tot) (k:=m.m.item) (q:=i) (a:=ew W m.m);refine(congrArg (fun o:Option Int=>o.getD ((glk x.tot i).getD 0)) hq).trans ?_;by_cases hi:i=m.m.item
  ·rw[if_pos hi,if_pos hi];rfl
  ·rw[if_neg hi,if_neg hi];exact hW.tot i
 have d2:(z.flows++[flV fl pad pcap mad mcap]).map FlV.m=W.flows++[fl]:=by rw[aJ,hW.flows];rfl
 simp only[chgL,ledL,ck];by_cases h0:m.m.to=0
 ·rw[if_pos h0];refine QN ?_;intros;refine GPW.ef (Ef.a8 (enc:=encZ .i64) (e:=(flV fl pad pcap mad mcap).m.id) rfl rfl rfl rfl rfl aQ (by simp[encZ,Value.oneCell']) ab ab) ae ?_;rintro _ _⟨d0,b7,rfl,rfl⟩;refine QN ?_;intros;refine KX.a8 aA ?_ ⟨{ z with stk:=a0,imp:=a1,ret:=a2,tot:=gins z.tot m.m.item (ew W m.m),flows:=z.flows++[flV fl pad pcap mad mcap],fad:=a5,fcap:=a3,sunk:=z.sunk++[fl.id],kad:=d0,kcap:=b7 },rfl,fun _=>⟨b2,d3,d2,?_,a7,b0⟩,rfl⟩
  ·simp only[chgL,ledL,ck];exact ah
  ·show z.sunk++[fl.id]=W.sunk++[eU sh fl0.length W];rw[hW.sunk,a6]
 rw[if_neg h0];refine QN ?_;intros;refine GO.ent (L':=stkP (uOf a0 x.stk (m.m.to,m.m.item))::obj b9 fQ (dT (flV fl pad pcap mad mcap))::chgL b bc s { z with stk:=a0,imp:=a1,ret:=a2,tot:=gins z.tot m.m.item (ew W m.m),flows:=z.flows++[flV fl pad pcap mad mcap],fad:=a5,fcap:=a3 } (ledL b sh x (obj b3 tMv (cj m)::L))) ?_ ?_
 ·simp only[chgL,ledL,ck];refine(Ent.at (A:=allP (fun p:(Int×Int)×Stk=>stkP p.2) a0) (Ent.refl _)).trans ?_;refine(Ent.a8 (Ent.at (A:=allP (fun p:(Int×Int)×Stk=>stkP p.2) x.stk) (Ent.refl _))).trans ?_;refine(qN (m.m.to,m.m.item)).trans ?_;exact ah
 simp only[chgL,ledL];refine GO.cr (rp (b:=b) (sh:=sh) (x:=x) (s:=s) (z:={ z with stk:=a0,imp:=a1,ret:=a2,tot:=gins z.tot m.m.item (ew W m.m),flows:=z.flows++[flV fl pad pcap mad mcap],fad:=a5,fcap:=a3 }) m.m.to m.m.item) ?_;dsimp only;have e8:=b2 m.m.to m.m.item;have d6:=e9 h1 m.m.to m.m.item;have e1:(gStk (cU x) W m.m m.m.to m.m.item).length≤4096:=aP d6.len ab;have e2:=d6.lots;rw[←e8] at e1 e2 ⊢;generalize hsk:uOf a0 x.stk (m.m.to,m.m.item)=sk at *;simp only[Stk.v,ck];by_cases d4:4096≤sk.lots.length
 ·rw[if_pos d4];refine QN ?_;intros;refine KX.a8 aA ?_ ⟨{ z with stk:=a0,imp:=a1,ret:=a2,tot:=gins z.tot m.m.item (ew W m.m),flows:=z.flows++[flV fl pad pcap mad mcap],fad:=a5,fcap:=a3 },rfl,(fun h=>absurd (show(_:Int)=0 from h) kg),rfl⟩;exact ah
 rw[if_neg d4];refine QN ?_;intros;refine GPW.ent (Ent.at (A:=stkP sk) (Ent.refl _)) ?_
 have c5:LotOk ((flV fl pad pcap mad mcap).m.id,0,(flV fl pad pcap mad mcap).m.n):=by
  show LotOk (fl.id,0,fl.n);rw[a6,b5,e0];unfold LotOk;dsimp only;omega
 refine GPW.ca (Fm sk.ad sk.cap sk.lots ((flV fl pad pcap mad mcap).m.id,0,(flV fl pad pcap mad mcap).m.n) e1 e2 c5) ?_;rintro _ _⟨b8,b1,rfl,rfl⟩;refine QN ?_;intros;refine GPW.efu (Ef.c9 (enc:=Stk.v) (e:=(⟨b8,b1,bN sk.lots (fl.id,0,fl.n)⟩:Stk)) rfl rfl rfl rfl) ?_;rintro _ _ rfl;refine QN ?_;intros;refine KX.a8 aA ?_ ⟨{ z with stk:=gins a0 (m.m.to,m.m.item) ⟨b8,b1,bN sk.lots (fl.id,0,fl.n)⟩,imp:=a1,ret:=a2,tot:=gins z.tot m.m.item (ew W m.m),flows:=z.flows++[flV fl pad pcap mad mcap],fad:=a5,fcap:=a3 },rfl,fun _=>⟨?_,d3,d2,hW.sunk,a7,b0⟩,rfl⟩
 ·simp only[chgL,ledL,ck];refine(Ent.frz b8).trans ?_;refine(Ent.at (A:=allP (fun p:(Int×Int)×Stk=>stkP p.2) a0) (Ent.refl _)).trans ?_;refine(Ent.at (A:=stkP ⟨b8,b1,bN sk.lots (fl.id,0,fl.n)⟩) (lx (k:=(m.m.to,m.m.item)))).trans ?_;exact ah
 ·intro a i;dsimp only;rw[kC];unfold upd2;by_cases hq:a=m.m.to∧i=m.m.item
  ·obtain⟨rfl,rfl⟩:=hq;rw[if_pos rfl,if_pos ⟨rfl,rfl⟩];dsimp only;rw[a6,b5]
  ·rw[if_neg (fun h=>hq (by simpa using h)),if_neg hq];exact b2 a i
