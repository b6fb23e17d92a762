/- Lemmas. -/
import Derived.Test.YtommnllbflbdmaaGreatDoorCatbl
set_option linter.all false
set_option maxHeartbeats 16000000
namespace Go.Proofs.YtommnllbflbdmaaGreatDoor
open Go.V
attribute [local irreducible] G GO GP GPW GPK Ev Ef EfR Ent CB GB V.Enters
def ER{sh:Int}{fl:List FlM}{mix:Int→Bool}{s:StM}{W:Wk}{m:MvM}(he:gErr sh (fl++W.flows) s W m=0)(h:1099511627776<cX W m∨(m.to≠0∧4096≤(gStk mix W m m.to m.item).length)):dA sh fl mix s W m=(4,W):=by
 unfold dA;rw[if_neg (fun q=>q he)];by_cases h1:cX W m>1099511627776
 ·rw[if_pos h1]
 ·rw[if_neg h1];rcases h with h|⟨h,h2⟩
  ·exact absurd h h1
  ·rw[if_neg h,if_pos h2]
def CU{sh:Int}{fl:List FlM}{mix:Int→Bool}{s:StM}{W:Wk}{m:MvM}(he:gErr sh (fl++W.flows) s W m=0)(hl:∀x∈gStk mix W m m.to m.item,LotOk x)(hn:1≤m.n)(h:¬(1099511627776<cX W m∨(m.to≠0∧4096≤(gStk mix W m m.to m.item).length))) :
  dA sh fl mix s W m=(0,⟨if m.to=0 then gStk mix W m else upd2 (gStk mix W m) m.to m.item (gStk mix W m m.to m.item++[(db sh fl.length W,0,m.n)]),upd W.tot m.item (cX W m),W.flows++[fW sh fl.length mix s W m],if m.to=0 then W.sunk++[db sh fl.length W] else W.sunk⟩):=by
 unfold dA;rw[if_neg (fun q=>q he),if_neg (fun q=>h (.inl q))];by_cases h1:m.to=0
 ·rw[if_pos h1,if_pos h1,if_pos h1]
 ·rw[if_neg h1,if_neg h1,if_neg h1,if_neg (fun q=>h (.inr ⟨h1,q⟩)),sF hl hn]
def EQ{sh:Int}{fl:List FlM}{mix:Int→Bool}{s:StM}{W:Wk}{m:MvM}(he:gErr sh (fl++W.flows) s W m≠0):dA sh fl mix s W m=(gErr sh (fl++W.flows) s W m,W):=by
 unfold dA;rw[if_pos he]
def BkW(S:LedM)(W:Wk)(x:BkX):Prop:=BkI S (S.flows++W.flows) (fg (S.flows++W.flows)) (eG (S.flows++W.flows)) W.stk W.tot x
def BkR(S:LedM)(x:BkX):Prop:=BkI S S.flows (fg S.flows) (eG S.flows) S.stk S.tot x
def uA{sh:Int}{nf:Nat}{mix:Int→Bool}{s:StM}{W:Wk}{m:MvM}(hm:MvA s.kind m)(fl:List FlM):fg (fl++[fW sh nf mix s W m])=fg fl++iaOf s m∧eG (fl++[fW sh nf mix s W m])=eG fl++raOf s m:=by
 rw[qS,qN];unfold iaOf raOf;constructor
 ·congr 1;by_cases h:s.kind=5
  ·rw[if_pos h,if_pos (show(fW sh nf mix s W m).kind=5 from h)];exact pP hm (.inl h)
  ·rw[if_neg h,if_neg (show ¬(fW sh nf mix s W m).kind=5 from h)]
 ·congr 1;by_cases h:s.kind=9∧m.frm=0
  ·rw[if_pos h,if_pos (show(fW sh nf mix s W m).kind=9∧(fW sh nf mix s W m).frm=0 from h)];exact pP hm (.inr h)
  ·rw[if_neg h,if_neg (show ¬((fW sh nf mix s W m).kind=9∧(fW sh nf mix s W m).frm=0) from h)]
abbrev Cu:=ar8 [.ev 17,.ev 18,.ev 19,.ev 20,.ev 21,.ev 22,.ev 23,.ev 24,.ev 25,.ev 26,.ev 27,.ev 28,.ev 29,.ev 30,.ev 31,.ev 32,.ev 33,.ev 34,.ev 35,.ef 36,.ef 37]
def cA{φ ψ:Prop}(k:ψ)(h:Hid ψ→φ:=by intro k;(with_reducible apply G.d7);first|refine G.dr 118 9 Cu (Hid.out k)):φ:=h ⟨k⟩
def Tf{φ ψ:Prop}(k:ψ)(h:Hid ψ→φ:=by intro k;(repeat (first|refine aa ?_|intro zzz|refine cA ?_));(repeat revert zzz);exact Hid.out k):φ:=h ⟨k⟩
def Dx{L:LH}(b:Nat)(S:LedM)(k:Nat)(hS:LedA k S)(hc:S.cat.Ok)(s:StV)(hs:StInG s)(b4:s.moves.length≤s.mcap)(hk:k+mvK s.m.moves≤2000)(d6:∀a i,(S.stk a i).length+lotsIn a i s.m.moves≤19)(x:BkX)(hx:BkR S x) :
  Tri ai 46 #[aq b,aN (aX s)] (bkL b S.shard x (stM s::stP s::L)) (fun v L'=>v=ac (gTry S s.m).1 ∧
   (((gTry S s.m).1=0∧∃x',BkR (cS S s.m) x'∧L' = bkL b S.shard x' (stM s::stP s::L))∨((gTry S s.m).1≠0∧L' = stM s::stP s::L))):=by
 obtain⟨c5,f7⟩:=hS.g.shard;have g7:=hS.g.steps;have g4:=hS.g.flows;have f4:=hs.len
 have h3:x.flows.length=S.flows.length:=by
  have:=congrArg List.length hx.flows
  rwa [aA] at this
 have c9:=hx.cat;have f1:=hx.count;have g0:=hx.tick;refine Tri.bd ?_;simp only[bkL,bP];by_cases h1:65536≤S.steps.length
 ·have e:gTry S s.m=(4,wk0 S):=by unfold gTry;rw[if_pos h1]
  rw[e];refine Tf ?_;intros;exact KX.d7 av ah ⟨rfl,.inr ⟨fun q=>absurd q ab,rfl⟩⟩
 refine Tf ?_;intros;rename_i b3;refine GO.ent (Ent.at (A:=stP s) (Ent.refl _)) ?_;refine GO.ent (Ent.at (A:=catP x.cat) (Ent.refl _)) ?_;refine GO.cr (Dy (b:=b) (sh:=S.shard) (x:=x) s (c9▸hc) hx.catB f4 b4 hs.parts hs.rule) ?_;have f5:dB (gu x.cat.m x.tick s.m)=dB (gu S.cat S.now s.m):=by rw[c9,g0]
 rw[f5];by_cases h2:gu S.cat S.now s.m
 case neg =>
  have e:gTry S s.m=(1,wk0 S):=by unfold gTry;rw[if_neg h1,if_pos h2]
  rw[e,aM h2];refine Tf ?_;intros;exact KX.d7 av ah ⟨rfl,.inr ⟨fun q=>absurd q ab,rfl⟩⟩
 have e:gTry S s.m=ew S.shard S.flows (cu S.cat) (s.m.at (bu S)) (wk0 S) s.m.moves:=by unfold gTry;rw[if_neg h1,if_neg (fun h=>h h2)]
 rw[aZ h2];have f3:s.moves.length≤64:=by have:=h2.2.2.2.1.2;simpa [StV.m] using this
 have e6:BkW S (wk0 S) x:=by
  unfold BkW;rw[show S.flows++(wk0 S).flows=S.flows from aO _];exact hx
 refine Tf ?_;intros
 refine G.loop (α:=Nat×BkX×Wk×OA×Nat) (fun g=>g.1≤s.moves.length∧BkW S g.2.2.1 g.2.1∧WkA S.shard S.flows (k+mvK (s.m.moves.take g.1)) g.2.2.1∧g.2.2.1.flows.length=g.1∧(∀a i,(g.2.2.1.stk a i).length+lotsIn a i (s.m.moves.drop g.1)≤19)∧ew S.shard S.flows (cu S.cat) (s.m.at (bu S)) (wk0 S) s.m.moves=ew S.shard S.flows (cu S.cat) (s.m.at (bu S)) g.2.2.1 (s.m.moves.drop g.1))
  (fun g=>[(0,aq b),(3,aq b3),(5,ae g.2.2.2.1 g.2.2.1.sunk.length g.2.2.2.2),(21,ae s.mad s.moves.length s.mcap),(22,ac s.moves.length),(23,ac (g.1:Int))])
  (fun g=>bkL b S.shard g.2.1 (osl (encZ .i64) 1 tInt g.2.2.2.1 g.2.2.2.2 g.2.2.1.sunk::obj b3 cQ (aX s)::stM s::stP s::L)) (fun g=>s.moves.length - g.1) (0,x,wk0 S,none,0) ⟨az _,e6,vo hS,rfl,d6,rfl⟩ an ?_ ?_
 ·refine Ent.trans (Ent.d8 (encZ .i64) 1 tInt) ?_;have f6:(wk0 S).sunk=[]:=rfl;simp only[bkL,bP,f6];exact ah
 rintro⟨i,y,W,iad,icap⟩ ⟨hi,hB,hA,c8,hK,a1⟩;dsimp only at hi hB hA c8 hK a1 ⊢
 have h5:y.flows.length=S.flows.length+W.flows.length:=by
  have:=congrArg List.length hB.flows
  rwa [aA,ax] at this
 have g6:=hA.g.sunk;have d4:=hB.count;simp only[bkL,bP];by_cases d2:i<s.moves.length
 case neg =>
  have b5:s.m.moves.drop i=[]:=bM (by show(s.moves.map MvV.m).length≤i;rw[aA];omega);rw[b5] at a1;have e3:gTry S s.m=(0,W):=by rw[e,a1];rfl
  have he:(gTry S s.m).1=0:=by rw[e3]
  have e1:cS S s.m=gZ S s.m:=if_pos he;rw[e1,he];refine Tf ?_;intros;refine KX.d7 av ?_ ⟨rfl,.inl ⟨rfl,{ y with count:=y.count+1,tick:=s.tick },⟨hB.cat,hB.catB,?_,?_,?_,?_,?_,?_,?_,?_⟩,rfl⟩⟩
  ·simp only[bkL,bP];exact ah
  ·show y.count+1=((S.steps++[s.m.at (bu S)]).length:Int);rw[ax,aG,d4];omega
  ·show s.tick=(gZ S s.m).now;unfold LedM.now gZ;simp only[List.getLast?_append,List.getLast?_singleton];rfl
  ·show y.flows.map (·.m)=S.flows++(gTry S s.m).2.flows;rw[e3];exact hB.flows
  ·intro a i;show(eU y.stk (a,i)).lots=(gTry S s.m).2.stk a i;rw[e3];exact hB.stk a i
  ·intro a i;show((gTry S s.m).2.stk a i).length≤_;rw[e3];exact hB.cap a i
  ·intro i;show _=(gTry S s.m).2.tot i;rw[e3];exact hB.tot i
  ·show lS y.imp (fg (S.flows++(gTry S s.m).2.flows));rw[e3];exact hB.imp
  ·show lS y.ret (eG (S.flows++(gTry S s.m).2.flows));rw[e3];exact hB.ret
 have f2:(i:Int).toNat=i:=aD i;have a6 : (i:Int).toNat<s.moves.length:=ab;have b9:s.moves[(i:Int).toNat]!.m=s.m.moves[i]!:=by rw[f2];exact(eD MvV.m d2).symm
 have c0:i<s.m.moves.length:=by show i<(s.moves.map MvV.m).length;rw[aA];exact d2
 have b5:s.m.moves.drop i=s.moves[(i:Int).toNat]!.m::s.m.moves.drop (i+1):=by rw[b9];exact fA c0
 have a7:mvAP S.cat.items.length s.kind s.moves[(i:Int).toNat]!.m:=(possG_A.1 h2).2.2.2.2.1 _ (by rw[b9];exact aL c0);have a4:MvA (s.m.at (bu S)).kind s.moves[(i:Int).toNat]!.m:=ul h2.1 a7;have c4:=aL a6;have f0:=hs.bd _ c4;have d1:=wZ c0;have g5:=Eu s.m.moves (i+1);rw[←b9] at d1;rw[b5] at a1 hK;have a8:ew S.shard S.flows (cu S.cat) (s.m.at (bu S)) W (s.moves[(i:Int).toNat]!.m::s.m.moves.drop (i+1))=if(dA S.shard S.flows (cu S.cat) (s.m.at (bu S)) W s.moves[(i:Int).toNat]!.m).1=0 then ew S.shard S.flows (cu S.cat) (s.m.at (bu S)) (dA S.shard S.flows (cu S.cat) (s.m.at (bu S)) W s.moves[(i:Int).toNat]!.m).2 (s.m.moves.drop (i+1)) else((dA S.shard S.flows (cu S.cat) (s.m.at (bu S)) W s.moves[(i:Int).toNat]!.m).1,W):=rfl;rw[a8] at a1;clear a8;have e5:=fun a j=>kA a j [s.moves[(i:Int).toNat]!.m] (s.m.moves.drop (i+1));have a3:=tP (mix:=cu S.cat) (s:=s.m.at (bu S)) c5 hA a4 ab;have c2:=fun he=>uG (mix:=cu S.cat) (s:=s.m.at (bu S)) hA.g a4.g he
 have e0:(W.stk s.moves[(i:Int).toNat]!.m.frm s.moves[(i:Int).toNat]!.m.item).length<20:=by
  have:=hK s.moves[(i:Int).toNat]!.m.frm s.moves[(i:Int).toNat]!.m.item
  omega
 have a9:=CU (fl:=S.flows) (sh:=S.shard) (mix:=cu S.cat) (s:=s.m.at (bu S)) (W:=W) (m:=s.moves[(i:Int).toNat]!.m);have b0:=ER (fl:=S.flows) (sh:=S.shard) (mix:=cu S.cat) (s:=s.m.at (bu S)) (W:=W) (m:=s.moves[(i:Int).toNat]!.m);have b1:=EQ (fl:=S.flows) (sh:=S.shard) (mix:=cu S.cat) (s:=s.m.at (bu S)) (W:=W) (m:=s.moves[(i:Int).toNat]!.m);have d3:=fun he a j=>xw (mix:=cu S.cat) (s:=s.m.at (bu S)) hA.g a4.g ab he a j;have d0:=uA (sh:=S.shard) (nf:=S.flows.length) (mix:=cu S.cat) (W:=W) a4 (S.flows++W.flows);refine G.ent (L':=isl ay 3 s.moves[(i:Int).toNat]!.pad s.moves[(i:Int).toNat]!.m.parts::bkL b S.shard y (osl (encZ .i64) 1 tInt iad icap W.sunk::obj b3 cQ (aX s)::stM s::stP s::L)) ((Ent.at (A:=stP s) (tr a6)).trans (by simp only[bkL,bP];exact ah)) ?_;simp only[bkL,bP];refine Tf ?_;intros;refine GPW.evP (Ev.o6 rfl rfl ab ab) ag ?_;refine Tf ?_;intros;refine GPW.evP (Ev.o6 rfl rfl ab ab) ag ?_;refine Tf ?_;intros;have b6:S.shard*4294967296+(y.flows.length:Int)=db S.shard S.flows.length W:=by unfold db;omega
 have c6:S.shard*4294967296+y.count=bu S:=by unfold bu;rw[d4]
 rw[b6,c6];rename_i b7 b8;generalize s.moves[(i:Int).toNat]! = m at *;refine GO.ent (L':=isl ay 3 m.pad m.m.parts::bkL b S.shard y (obj b8 dz [ac (db S.shard S.flows.length W),ac (bu S),ac s.kind,ac s.tick,ac s.actor,ac m.m.frm,ac m.m.to,ac m.m.item,ac m.m.n,ae none 0 0,ae none 0 0]::obj b7 tMv (aT m)::osl (encZ .i64) 1 tInt iad icap W.sunk::obj b3 cQ (aX s)::stM s::stP s::L)) (by simp only[bkL,bP];exact ah) ?_;refine GO.ca (yx b S hS.g.shard (k+mvK (s.m.moves.take i)) y W ab hB hA (s.m.at (bu S)) m a4 ab a7.1 f0 e0) ?_;rintro _ _ (⟨he,pad,pcap,x',rfl,e2,rfl⟩|⟨he,ad,n,c,rfl,rfl⟩)
 case inr =>
  have e3:gTry S s.m=(gErr S.shard (S.flows++W.flows) (s.m.at (bu S)) W m.m,W):=by rw[e,a1,b1 he,if_neg he]
  rw[e3];generalize gErr S.shard (S.flows++W.flows) (s.m.at (bu S)) W m.m=er at *;refine Tf ?_;intros;exact KX.en ⟨rfl,.inr ⟨he,rfl⟩⟩
 have hn:=a4.g.n;have c7:∀z∈gStk (cu S.cat) W m.m m.m.to m.m.item,LotOk z:=(d3 he _ _).lots;have f9:=(d3 he m.m.to m.m.item).len;have g8:=hA.g.tot m.m.item;simp only[bkL,bP];repeat first|refine G.sm 14 ?_|refine bF ?_|intro _|refine cA ?_
 refine G.d8 (α:=OA×Nat) (fun _=>True) (fun _=>[(0,aq b),(3,aq b3),(5,ae iad W.sunk.length icap),(7,aq b7),(8,aq b8),(21,ae s.mad s.moves.length s.mcap),(22,ac s.moves.length),(23,ac (i:Int))]) (fun z=>isl ay 3 pad (gPts (cu S.cat) (s.m.at (bu S)) W m.m)::isl (encZ .i64) 1 z.1 (eW (s.m.at (bu S)) W m.m)::bkL b S.shard x' (obj b8 dz [ac (db S.shard S.flows.length W),ac (bu S),ac s.kind,ac s.tick,ac s.actor,ac m.m.frm,ac m.m.to,ac m.m.item,ac m.m.n,ae pad (gPts (cu S.cat) (s.m.at (bu S)) W m.m).length pcap,ae z.1 (eW (s.m.at (bu S)) W m.m).length z.2]::obj b7 tMv (aT m)::osl (encZ .i64) 1 tInt iad icap W.sunk::obj b3 cQ (aX s)::stM s::stP s::L)) ?_ ?_
 ·by_cases hq:m.m.frm=0∧(s.kind=4∨s.kind=10)
  ·have em:(eW (s.m.at (bu S)) W m.m)=W.sunk:=if_pos hq;rw[em];obtain⟨h0,hq⟩:=hq;by_cases h4:s.kind=4
   ·refine Tf ?_;intros;refine GO.ca (iN iad W.sunk.length icap W.sunk rfl ab) ?_;rintro _ _⟨mad,mcap,rfl,rfl⟩;refine Tf ?_;intros;exact⟨(mad,mcap),trivial,an,(Ent.frz mad).trans (by simp only[bkL,bP];exact ah)⟩
   ·have d5:s.kind=10:=hq.resolve_left h4;refine Tf ?_;intros;refine GO.ca (iN iad W.sunk.length icap W.sunk rfl ab) ?_;rintro _ _⟨mad,mcap,rfl,rfl⟩;refine Tf ?_;intros;exact⟨(mad,mcap),trivial,an,(Ent.frz mad).trans (by simp only[bkL,bP];exact ah)⟩
  ·have em:(eW (s.m.at (bu S)) W m.m)=[]:=if_neg hq;rw[em];by_cases h0:m.m.frm=0
   ·have h4:¬s.kind=4:=fun q=>hq ⟨h0,.inl q⟩;have d5:¬s.kind=10:=fun q=>hq ⟨h0,.inr q⟩;refine Tf ?_;intros;refine⟨(none,0),trivial,an,?_⟩;refine Ent.trans ?_ (Ent.d7 (Ent.f8 (encZ .i64) 1 none));simp only[bkL,bP];exact ah
   ·refine Tf ?_;intros;refine⟨(none,0),trivial,an,?_⟩;refine Ent.trans ?_ (Ent.d7 (Ent.f8 (encZ .i64) 1 none));simp only[bkL,bP];exact ah
 rintro⟨mad,mcap⟩ _;simp only[bkL,bP];refine G.d8 (α:=OA×Nat) (fun _=>True) (fun z=>[(0,aq b),(3,aq b3),(5,ae z.1 (if m.m.to=0 then W.sunk++[db S.shard S.flows.length W] else W.sunk).length z.2),(7,aq b7),(8,aq b8),(21,ae s.mad s.moves.length s.mcap),(22,ac s.moves.length),(23,ac (i:Int))]) (fun z=>isl ay 3 pad (gPts (cu S.cat) (s.m.at (bu S)) W m.m)::isl (encZ .i64) 1 mad (eW (s.m.at (bu S)) W m.m)::bkL b S.shard x' (obj b8 dz [ac (db S.shard S.flows.length W),ac (bu S),ac s.kind,ac s.tick,ac s.actor,ac m.m.frm,ac m.m.to,ac m.m.item,ac m.m.n,ae pad (gPts (cu S.cat) (s.m.at (bu S)) W m.m).length pcap,ae mad (eW (s.m.at (bu S)) W m.m).length mcap]::obj b7 tMv (aT m)::osl (encZ .i64) 1 tInt z.1 z.2 (if m.m.to=0 then W.sunk++[db S.shard S.flows.length W] else W.sunk)::obj b3 cQ (aX s)::stM s::stP s::L)) ?_ ?_
 ·by_cases h0:m.m.to=0
  ·rw[if_pos h0];refine Tf ?_;intros;refine GO.ef (Ef.d7 (enc:=encZ .i64) (e:=db S.shard S.flows.length W) rfl rfl rfl rfl rfl aJ (Gs _ _) ab ab) ag ?_;rintro _ _⟨a2,a0,rfl,rfl⟩;refine Tf ?_;intros;exact⟨(a2,a0),trivial,an,by simp only[bkL,bP];exact ah⟩
  ·rw[if_neg h0];refine Tf ?_;intros;exact⟨(iad,icap),trivial,an,by simp only[bkL,bP];exact ah⟩
 rintro⟨a2,a0⟩ _;simp only[bkL,bP];refine Tf ?_;intros;refine GO.ent (L':=isl ay 3 pad (gPts (cu S.cat) (s.m.at (bu S)) W m.m)::isl (encZ .i64) 1 mad (eW (s.m.at (bu S)) W m.m)::bkL b S.shard x' (obj b8 dz [ac (db S.shard S.flows.length W),ac (bu S),ac s.kind,ac s.tick,ac s.actor,ac m.m.frm,ac m.m.to,ac m.m.item,ac m.m.n,ae pad (gPts (cu S.cat) (s.m.at (bu S)) W m.m).length pcap,ae mad (eW (s.m.at (bu S)) W m.m).length mcap]::obj b7 tMv (aT m)::osl (encZ .i64) 1 tInt a2 a0 (if m.m.to=0 then W.sunk++[db S.shard S.flows.length W] else W.sunk)::obj b3 cQ (aX s)::stM s::stP s::L)) (by simp only[bkL,bP];exact ah) ?_;refine GO.ca (Ax b S x' (S.flows++W.flows) (fg (S.flows++W.flows)++iaOf (s.m.at (bu S)) m.m) (eG (S.flows++W.flows)++raOf (s.m.at (bu S)) m.m) (gStk (cu S.cat) W m.m) W.tot e2 (by rw[ax];omega) ⟨⟨db S.shard S.flows.length W,bu S,s.kind,s.tick,s.actor,m.m.frm,m.m.to,m.m.item,m.m.n,(gPts (cu S.cat) (s.m.at (bu S)) W m.m),(eW (s.m.at (bu S)) W m.m)⟩,pad,pcap,mad,mcap⟩ hn gn gn) ?_;rintro _ _ (⟨b2,rfl,rfl⟩|⟨a5,rfl,x2,e4,rfl⟩)
 ·have e3:gTry S s.m=(4,W):=by rw[e,a1,b0 he b2,if_neg (fun q=>absurd (show(4:Int)=0 from q) ag)]
  rw[e3];refine Tf ?_;intros;exact KX.d7 av ah ⟨rfl,.inr ⟨fun q=>absurd q ab,rfl⟩⟩
 have hg:=a9 he c7 hn.1 a5;rw[hg] at a1 a3 c2;rw[if_pos rfl] at a1;have c1:=a3 rfl;have c3:=c2 rfl;clear a3 c2 hg a9 b0 b1;simp only[bkL,bP];refine Tf ?_;intros;refine⟨(i+1,x2,⟨if m.m.to=0 then gStk (cu S.cat) W m.m else upd2 (gStk (cu S.cat) W m.m) m.m.to m.m.item (gStk (cu S.cat) W m.m m.m.to m.m.item++[(db S.shard S.flows.length W,0,m.m.n)]),upd W.tot m.m.item (cX W m.m),W.flows++[fW S.shard S.flows.length (cu S.cat) (s.m.at (bu S)) W m.m],if m.m.to=0 then W.sunk++[db S.shard S.flows.length W] else W.sunk⟩,a2,a0),⟨by dsimp only;omega,?_,?_,?_,fun a j=>?_,a1⟩,by dsimp only;omega,?_,?_⟩
 ·dsimp only;unfold BkW;dsimp only;rw[←aF,d0.1,d0.2];exact e4
 ·dsimp only;rw[d1,←dP,←dP];exact c1
 ·dsimp only;rw[ax,aG,c8]
 ·have g1:=hK a j;have g2:=e5 a j;have g3:=c3 a j;dsimp only at g3 ⊢;rw[show m.m::s.m.moves.drop (i+1)=[m.m]++s.m.moves.drop (i+1) from rfl] at g1;omega
 ·dsimp only;rw[aU i];exact an
 ·exact ah
end Go.Proofs.YtommnllbflbdmaaGreatDoor
namespace Go.V
class TyIB (P:Program) (T:Nat) (ks:outParam (List Bool)):Prop where
 under:P.underlying T=some (.struct (P.fieldsOf T))
 free:P.stoodInHeld T=false
 guard:P.eqGuardType P.depth T=false
 flds : (P.fieldsOf T).toList.map (fun f => (f.name == "_", f.offset, P.underlying f.type)) = (List.range ks.length).map fun i => (false, i, some (if ks[i]! then TypeDesc.bool else .int .i64))
end Go.V
namespace Go.Proofs.YtommnllbflbdmaaGreatDoor
section
open Go.V
attribute [local irreducible] G GO GP GPW GPK Ev Ef EfR Ent CB GB V.Enters
def tH{α:Type}[Inhabited α]{xs ys:List α}(hl:xs.length=ys.length)(h:∀j,j<xs.length→xs[j]! = ys[j]!):xs=ys:=by
 refine dZ hl (fun j h1 h2=>?_);have:=h j h1
 rwa [getElem!_of h1,getElem!_of h2] at this
abbrev zr:=ar5 [.ev 8]
def TB{φ ψ:Prop}(k:ψ)(h:Hid ψ→φ:=by intro k;(repeat (first|refine aa ?_|intro zzz|refine G.dr 26 6 zr ?_));(repeat revert zzz);exact Hid.out k):φ:=h ⟨k⟩
def De{L:LH}(a0 a1:OA)(n1 n2 c1 c2:Nat)(xs ys:LL1)[Rds L a0 Lot ay 3 xs][Rds L a1 Lot ay 3 ys](h1:n1=xs.length)(h2:n2=ys.length)(hl:ys.length≤1000000000) :
  Tri ai 105 #[ae a0 n1 c1,ae a1 n2 c2] L (rtQ (.bool (dB (xs=ys))) L):=by
 subst h1 h2;refine Tri.bd ?_;by_cases he:xs.length=ys.length
 case neg =>
  refine TB ?_;intros;exact KX.d7 av (Ent.refl _) ⟨by rw[aM (fun q:xs=ys=>he (by rw[q]))];rfl,rfl⟩
 refine TB ?_;intros;refine G.loop (α:=Nat) (fun i=>i≤xs.length∧∀j,j<i→xs[j]! = ys[j]!) (fun i=>[(0,ae a0 xs.length c1),(1,ae a1 ys.length c2),(11,ae a0 xs.length c1),(12,ac xs.length),(13,ac (i:Int))]) (fun _=>L) (fun i=>xs.length - i) 0 ⟨az _,fun j h=>absurd h (dU j)⟩ an (Ent.refl _) ?_;rintro i ⟨hi,a2⟩;by_cases a7:i<xs.length
 case neg =>
  have e:xs=ys:=tH he (fun j hj=>a2 j ab);refine TB ?_;intros;exact KX.d7 av (Ent.refl _) ⟨by rw[aZ e];rfl,rfl⟩
 have a6:(i:Int).toNat=i:=aD i;have a8 : (i:Int).toNat<xs.length:=ab;have a9 : (i:Int).toNat<ys.length:=ab;have a3:¬xs[(i:Int).toNat]! = ys[(i:Int).toNat]!→dB (xs=ys)=false:=fun q=>aM (fun r=>q (by rw[r]))
 have a4:xs[(i:Int).toNat]! = ys[(i:Int).toNat]!→∀j,j<i+1→xs[j]! = ys[j]!:=fun q j hj=>by
  rcases dl j i with h|h
  ·exact a2 j h
  ·obtain rfl:j=i:=ab;rw[a6] at q;exact q
 refine TB ?_;intros;obtain⟨x,hx⟩:∃x,xs[(i:Int).toNat]! = x:=⟨_,rfl⟩;obtain⟨y,hy⟩:∃y,ys[(i:Int).toNat]! = y:=⟨_,rfl⟩
 have a5:x=y↔[x.1,x.2.1,x.2.2]=[y.1,y.2.1,y.2.2]:=by
  obtain⟨a,b,c⟩:=x;obtain⟨d,e,f⟩:=y;simp
 rw[hx,hy];rw[hx,hy] at a3 a4;refine GPW.evP (Ev.p9 (xs:=[x.1,x.2.1,x.2.2]) (ys:=[y.1,y.2.1,y.2.2]) (cs:=ay x) (ds:=ay y) (hc:=⟨rfl⟩) (hd:=⟨rfl⟩) rfl rfl rfl rfl) ag ?_;by_cases q:x=y
 ·rw[aM (fun h:¬ [x.1,x.2.1,x.2.2]=[y.1,y.2.1,y.2.2]=>h (a5.1 q))];refine TB ?_;intros;refine⟨i+1,⟨ab,a4 q⟩,ab,?_,Ent.refl _⟩;rw[aU i];exact an
 ·rw[aZ (show ¬ [x.1,x.2.1,x.2.2]=[y.1,y.2.1,y.2.2] from fun h=>q (a5.2 h))];refine TB ?_;intros;exact KX.d7 av (Ent.refl _) ⟨by rw[a3 q];rfl,rfl⟩
abbrev zq:=ar5 [.ev 8]
def TH{φ ψ:Prop}(k:ψ)(h:Hid ψ→φ:=by intro k;(repeat (first|refine aa ?_|intro zzz|refine G.dr 26 6 zq ?_));(repeat revert zzz);exact Hid.out k):φ:=h ⟨k⟩
def Df{L:LH}(a0 a1:OA)(n1 n2 c1 c2:Nat)(xs ys:List Int)[Rds L a0 Int (encZ .i64) 1 xs][Rds L a1 Int (encZ .i64) 1 ys](h1:n1=xs.length)(h2:n2=ys.length)(hl:ys.length≤1000000000) :
  Tri ai 106 #[ae a0 n1 c1,ae a1 n2 c2] L (rtQ (.bool (dB (xs=ys))) L):=by
 subst h1 h2;refine Tri.bd ?_;by_cases he:xs.length=ys.length
 case neg =>
  refine TH ?_;intros;exact KX.d7 av (Ent.refl _) ⟨by rw[aM (fun q:xs=ys=>he (by rw[q]))];rfl,rfl⟩
 refine TH ?_;intros;refine G.loop (α:=Nat) (fun i=>i≤xs.length∧∀j,j<i→xs[j]! = ys[j]!) (fun i=>[(0,ae a0 xs.length c1),(1,ae a1 ys.length c2),(11,ae a0 xs.length c1),(12,ac xs.length),(13,ac (i:Int))]) (fun _=>L) (fun i=>xs.length - i) 0 ⟨az _,fun j h=>absurd h (dU j)⟩ an (Ent.refl _) ?_;rintro i ⟨hi,a2⟩;by_cases a6:i<xs.length
 case neg =>
  have e:xs=ys:=tH he (fun j hj=>a2 j ab);refine TH ?_;intros;exact KX.d7 av (Ent.refl _) ⟨by rw[aZ e];rfl,rfl⟩
 have a3:(i:Int).toNat=i:=aD i;have a7 : (i:Int).toNat<xs.length:=ab;have a8 : (i:Int).toNat<ys.length:=ab;have a4:¬xs[(i:Int).toNat]! = ys[(i:Int).toNat]!→dB (xs=ys)=false:=fun q=>aM (fun r=>q (by rw[r]))
 have a5:xs[(i:Int).toNat]! = ys[(i:Int).toNat]!→∀j,j<i+1→xs[j]! = ys[j]!:=fun q j hj=>by
  rcases dl j i with h|h
  ·exact a2 j h
  ·obtain rfl:j=i:=ab;rw[a3] at q;exact q
 by_cases q:xs[(i:Int).toNat]! = ys[(i:Int).toNat]!
 ·refine TH ?_;intros;refine⟨i+1,⟨ab,a5 q⟩,ab,?_,Ent.refl _⟩;rw[aU i];exact an
 ·refine TH ?_;intros;exact KX.d7 av (Ent.refl _) ⟨by rw[a4 q];rfl,rfl⟩
def uZ{L:LH}(f g:FlV)[Rds L f.pad Lot ay 3 f.m.parts][Rds L g.pad Lot ay 3 g.m.parts][Rds L f.mad Int (encZ .i64) 1 f.m.made][Rds L g.mad Int (encZ .i64) 1 g.m.made](h1:g.m.parts.length≤1000000000)(h2:g.m.made.length≤1000000000) :
  Tri ai 48 #[aN (bT f),aN (bT g)] L (rtQ (.bool (dB (f.m=g.m))) L):=by
 refine Tri.bd ?_;have a0:∀{p:Prop},¬p→(f.m=g.m→p)→dB (f.m=g.m)=false:=fun h q=>aM (fun r=>h (q r));simp only[bT];simp only[List.append];by_cases c0:f.m.id=g.m.id
 case neg =>
  refine IF ?_;intros;exact KX.d7 av ah ⟨by rw[a0 c0 (fun q=>by rw[q])];rfl,rfl⟩
 by_cases c1:f.m.step=g.m.step
 case neg =>
  refine IF ?_;intros;exact KX.d7 av ah ⟨by rw[a0 c1 (fun q=>by rw[q])];rfl,rfl⟩
 by_cases c2:f.m.kind=g.m.kind
 case neg =>
  refine IF ?_;intros;exact KX.d7 av ah ⟨by rw[a0 c2 (fun q=>by rw[q])];rfl,rfl⟩
 by_cases c3:f.m.tick=g.m.tick
 case neg =>
  refine IF ?_;intros;exact KX.d7 av ah ⟨by rw[a0 c3 (fun q=>by rw[q])];rfl,rfl⟩
 by_cases c4:f.m.actor=g.m.actor
 case neg =>
  refine IF ?_;intros;exact KX.d7 av ah ⟨by rw[a0 c4 (fun q=>by rw[q])];rfl,rfl⟩
 by_cases c5:f.m.frm=g.m.frm
 case neg =>
  refine IF ?_;intros;exact KX.d7 av ah ⟨by rw[a0 c5 (fun q=>by rw[q])];rfl,rfl⟩
 by_cases c6:f.m.to=g.m.to
 case neg =>
  refine IF ?_;intros;exact KX.d7 av ah ⟨by rw[a0 c6 (fun q=>by rw[q])];rfl,rfl⟩
 by_cases c7:f.m.item=g.m.item
 case neg =>
  refine IF ?_;intros;exact KX.d7 av ah ⟨by rw[a0 c7 (fun q=>by rw[q])];rfl,rfl⟩
 by_cases c8:f.m.n=g.m.n
 case neg =>
  refine IF ?_;intros;exact KX.d7 av ah ⟨by rw[a0 c8 (fun q=>by rw[q])];rfl,rfl⟩
 refine IF ?_;intros;refine GO.cr (De f.pad g.pad f.m.parts.length g.m.parts.length f.pcap g.pcap f.m.parts g.m.parts rfl rfl h1) ?_;by_cases c9:f.m.parts=g.m.parts
 case neg =>
  rw[aM c9];refine IF ?_;intros;exact KX.d7 av ah ⟨by rw[a0 c9 (fun q=>by rw[q])];rfl,rfl⟩
 rw[aZ c9];refine IF ?_;intros;refine GO.cr (Df f.mad g.mad f.m.made.length g.m.made.length f.mcap g.mcap f.m.made g.m.made rfl rfl h2) ?_;refine IF ?_;intros;refine KX.d7 av ah ⟨?_,rfl⟩;by_cases ca:f.m.made=g.m.made
 ·have e:f.m=g.m:=by
   obtain⟨⟨i1,i2,i3,i4,i5,i6,i7,i8,i9,ia,ib⟩,_⟩:=f;obtain⟨⟨j1,j2,j3,j4,j5,j6,j7,j8,j9,ja,jb⟩,_⟩:=g;dsimp only at c0 c1 c2 c3 c4 c5 c6 c7 c8 c9 ca;rw[c0,c1,c2,c3,c4,c5,c6,c7,c8,c9,ca]
  rw[aZ ca,aZ e];rfl
 ·rw[aM ca,a0 ca (fun q=>by rw[q])];rfl
def Fc{L:LH}(a0 a1:OA)(n1 n2 c1 c2:Nat)(fs gs:List FlV)[Rds L a0 FlV bT 11 fs][Rds L a1 FlV bT 11 gs](h1:n1=fs.length)(h2:n2=gs.length)(hl:gs.length≤1000000000)(hp:∀f∈gs,f.m.parts.length≤1000000000∧f.m.made.length≤1000000000)(hA:∀f∈fs,Ent L (flP f::L))(hB:∀f∈gs,Ent L (flP f::L)) :
  Tri ai 47 #[ae a0 n1 c1,ae a1 n2 c2,.func (.func 48) #[] #[]] L (rtQ (.bool (dB (fs.map FlV.m=gs.map FlV.m))) L):=by
 subst h1 h2;refine Tri.bd ?_;by_cases he:fs.length=gs.length
 case neg =>
  refine IF ?_;intros;exact KX.d7 av (Ent.refl _) ⟨by rw[aM (fun q:fs.map FlV.m=gs.map FlV.m=>he (by simpa using congrArg List.length q))];rfl,rfl⟩
 refine IF ?_;intros;refine G.loop (α:=Nat) (fun i=>i≤fs.length∧∀j,j<i→fs[j]!.m=gs[j]!.m) (fun i=>[(0,ae a0 fs.length c1),(1,ae a1 gs.length c2),(2,.func (.func 48) #[] #[]),(15,ae a0 fs.length c1),(16,ac fs.length),(17,ac (i:Int))]) (fun _=>L) (fun i=>fs.length - i) 0 ⟨az _,fun j h=>absurd h (dU j)⟩ an (Ent.refl _) ?_;rintro i ⟨hi,a3⟩;by_cases a9:i<fs.length
 case neg =>
  have e:fs.map FlV.m=gs.map FlV.m:=tH (by simpa using he) (fun j hj=>by
   rw[aA] at hj;rw[eD FlV.m hj,eD FlV.m ab];exact a3 j ab)
  refine IF ?_;intros;exact KX.d7 av (Ent.refl _) ⟨by rw[aZ e];rfl,rfl⟩
 have a6:(i:Int).toNat=i:=aD i;have a5 : (i:Int).toNat<fs.length:=ab;have a2 : (i:Int).toNat<gs.length:=ab
 have a7:¬fs[(i:Int).toNat]!.m=gs[(i:Int).toNat]!.m→dB (fs.map FlV.m=gs.map FlV.m)=false:=fun q=>aM (fun r=>q (by
  rw[←eD FlV.m a5,←eD FlV.m a2,r]))
 have a4:=hp _ (aL a2)
 have a8:fs[(i:Int).toNat]!.m=gs[(i:Int).toNat]!.m→∀j,j<i+1→fs[j]!.m=gs[j]!.m:=fun q j hj=>by
  rcases dl j i with h|h
  ·exact a3 j h
  ·obtain rfl:j=i:=ab;rw[a6] at q;exact q
 refine G.ent (L':=isl ay 3 fs[(i:Int).toNat]!.pad fs[(i:Int).toNat]!.m.parts::isl (encZ .i64) 1 fs[(i:Int).toNat]!.mad fs[(i:Int).toNat]!.m.made::isl ay 3 gs[(i:Int).toNat]!.pad gs[(i:Int).toNat]!.m.parts::isl (encZ .i64) 1 gs[(i:Int).toNat]!.mad gs[(i:Int).toNat]!.m.made::L) ?_ ?_
 ·refine(hA _ (aL a5)).trans (Ent.andE.trans ?_);refine Ent.trans (Ent.d7 (Ent.d7 ((hB _ (aL a2)).trans Ent.andE))) ?_;exact ah
 refine IF ?_;intros;refine GO.ef (Ef.d8 rfl rfl (uZ fs[(i:Int).toNat]! gs[(i:Int).toNat]! a4.1 a4.2)) ag ?_;rintro _ _⟨rfl,rfl⟩;by_cases q:fs[(i:Int).toNat]!.m=gs[(i:Int).toNat]!.m
 ·rw[aZ q];refine IF ?_;intros;refine⟨i+1,⟨ab,a8 q⟩,ab,?_,by exact ah⟩;rw[aU i];exact an
 ·rw[aM q];refine IF ?_;intros;exact KX.d7 av ah ⟨by rw[a7 q];rfl,rfl⟩
abbrev tFnd:Nat:=46
abbrev Fd:=Int×Int×Int
def gk(x:Fd):LV:=[ac x.1,ac x.2.1,ac x.2.2]
def nw(t:Fd):∀u∈gk t,u.oneCell' = true:=by simp[gk,Value.oneCell']
instance:EncC gk:=⟨nw⟩
def pnc(x:Fd):List PanicEntry:=[{ v:=.iface tFnd (aN (gk x)),recovered:=false }]
set_option maxRecDepth 20000 in
def Dp{L R:LH}{θ:Th}{w:World}(b:Nat)(x:Fd)(s:Sat θ ((obj b tFnd (gk x)::L)++R) w) :
  CallsD ai 100 #[aq b] .returning w (fun e u' w'=>e=.returned (.tuple #[])∧u' = .returning∧Sat θ ((obj b tFnd (gk x)::L)++R) w'):=by
 refine callsD_of_wpS Tryz.func100 rfl fun c₀ cs hu=>?_;have i:=AtD.mk (L:=obj b tFnd (gk x)::L) (R:=R) (D:=[]) (EnvOk.d7 (N:=10) (fn:=Tryz.f100) (args:=[aq b]) rfl bH) rfl s;have a0:recoverD (c₀::cs)=none:=by simp[recoverD,hu]
 refine wpS_seq (wpS_region ?_);show wpOpsS _ _ _ [0,1,2,3,4,5,6,7] _ _ _;refine FA rfl i a0 ag ?_;intro a1 w1 i;refine jr rfl i (Ev.B0 (z:=.agg #[ac 0,ac 0,ac 0]) krStd0 rfl) ag ?_;intro a2 w2 i;refine jr rfl i (Ev.move rfl) ag ?_;intro a3 w3 i;refine jr rfl i (Ev.extract rfl rfl) ag ?_;intro a4 w4 i;refine jr rfl i (Ev.extract rfl rfl) ag ?_;intro a5 w5 i;refine vx rfl i Ef.alloc ag ?_;rintro _ _ a6 w6 ⟨b1,rfl,rfl⟩ i;refine tj rfl i (Ef.g9 (vs:=[ac 0,ac 0,ac 0]) rfl rfl aJ aJ (by simp[Value.oneCell'])) ?_;rintro _ _ a7 w7 rfl i;refine jr rfl i (Ev.assign rfl) ag ?_;intro a8 w8 i;show Code.wpS _ _ _ _ _ _;refine wpS_seq (wpS_region ?_);show wpOpsS _ _ _ [0] _ _ _;refine jr rfl i (Ev.move rfl) ag ?_;intro a9 w9 i;show Code.wpS _ _ _ _ _ _;refine wpS_cond (t:=false) (aP i.eok.agr rfl) ?_;refine wpS_of_wp (wp_skip ?_);exact⟨i.def_,.returning,by rw[←hu],.tuple #[],kd (rs:=[]) (vs:=[]) i.eok i.sat rfl ResOk.nil,rfl,rfl,Ent.sat ah i.sat⟩
set_option maxRecDepth 20000 in
def Dq{L R:LH}{θ:Th}{w:World}(b:Nat)(x y:Fd)(s:Sat θ ((obj b tFnd (gk x)::L)++R) w) :
  CallsD ai 100 #[aq b] (.panicking (pnc y)) w (fun e u' w'=>e=.returned (.tuple #[])∧settle u' = .returning∧Sat θ ((obj b tFnd (gk y)::L)++R) w'):=by
 refine callsD_of_wpS Tryz.func100 rfl fun c₀ cs hu=>?_;have i:=AtD.mk (L:=obj b tFnd (gk x)::L) (R:=R) (D:=[]) (EnvOk.d7 (N:=10) (fn:=Tryz.f100) (args:=[aq b]) rfl bH) rfl s;have a0:recoverD (c₀::cs)=some (.iface tFnd (aN (gk y)),{ c₀ with mode:=.panicking [{ v:=.iface tFnd (aN (gk y)),recovered:=true }] }::cs):=by simp[recoverD,hu,pnc]
 refine wpS_seq (wpS_region ?_);show wpOpsS _ _ _ [0,1,2,3,4,5,6,7] _ _ _;refine GW rfl i a0 ag ?_;intro a1 w1 i;refine jr rfl i (Ev.B1 rfl) ag ?_;intro a2 w2 i;refine jr rfl i (Ev.move rfl) ag ?_;intro a3 w3 i;refine jr rfl i (Ev.extract rfl rfl) ag ?_;intro a4 w4 i;refine jr rfl i (Ev.extract rfl rfl) ag ?_;intro a5 w5 i;refine vx rfl i Ef.alloc ag ?_;rintro _ _ a6 w6 ⟨b1,rfl,rfl⟩ i;refine tj rfl i (Ef.g9 (vs:=gk y) rfl rfl aJ aJ (nw y)) ?_;rintro _ _ a7 w7 rfl i;refine jr rfl i (Ev.assign rfl) ag ?_;intro a8 w8 i;show Code.wpS _ _ _ _ _ _;refine wpS_seq (wpS_region ?_);show wpOpsS _ _ _ [0] _ _ _;refine jr rfl i (Ev.move rfl) ag ?_;intro a9 w9 i;show Code.wpS _ _ _ _ _ _;refine wpS_cond (t:=true) (aP i.eok.agr rfl) ?_;refine wpS_region ?_;show wpOpsS _ _ _ [0,1] _ _ _;refine jr rfl i (Ev.e7 rfl aJ) ag ?_;intro b0 b3 i;refine tj rfl i (Ef.g9 (vs:=gk y) rfl rfl aJ aJ (nw y)) ?_;rintro _ _ b2 b4 rfl i;exact⟨i.def_,_,rfl,.tuple #[],kd (rs:=[]) (vs:=[]) i.eok i.sat rfl ResOk.nil,rfl,rfl,Ent.sat ah i.sat⟩
set_option maxRecDepth 20000 in
def Do{L:LH}(g:FuncId)(cap:LV)(pr:LH→Prop)(pp:Fd→LH→Prop)(h:TriE ai g cap.toArray L (fun _ L'=>pr L') (fun ch L'=>∃x,ch=pnc x∧pp x L')) :
  Tri ai 43 #[.func (.func g) #[] cap.toArray] L (fun v L'=>∃x:Fd,v=aN (gk x)∧((x=(0,0,0)∧pr L')∨pp x L')):=by
 refine⟨en43,fun θ R w s=>calls_of_wp_defers Tryz.func43 rfl ?_⟩;have i:=AtD.mk (L:=L) (R:=R) (D:=[]) (EnvOk.d7 (N:=7) (fn:=Tryz.f43) (args:=[Value.func (.func g) #[] cap.toArray]) rfl bH) rfl s;refine wp_seq (wp_region_lit ?_);refine DJ i Ef.alloc ag ?_;rintro _ _ a1 w1 ⟨b,rfl,rfl⟩ i;show Code.wp _ _ _ _ _;refine wp_seq (wp_region_lit ?_);refine vy i (Ev.makeFunc rfl rfl) ag ?_;intro a2 w2 i;refine DK i rfl ?_;intro a3 w3 i;show Code.wp _ _ _ _ _;refine wp_seq (wp_region_lit ?_);refine vy i (Ev.move rfl) ag ?_;intro a4 w4 i;have a0:∀w,(invoke (.fn (.func 100) #[aq b]) #[]).run ai w=.ok (.enter 100 #[aq b]) w:=fun w=>(Iz).go _ _;refine DL (R':=[obj b tFnd (gk (0,0,0))]) i h rfl (Ent.perm (dV _ L).symm) ag ?_ ?_
 ·intro v L' a5 w5 a9 i;have i:=i.ent (Ent.perm (dV _ L'));show Code.wp _ _ _ _ _;refine wp_seq (wp_region_lit ?_);refine vy i (Ev.build rfl rfl) ag ?_;intro a6 w6 i;refine GX i (Ef.g9 (vs:=gk (0,0,0)) rfl rfl aJ aJ (nw _)) ?_;rintro _ _ a7 w7 rfl i;show Code.wp _ _ _ _ _;refine wp_ret ?_;show Leaves _ _ _ _ a7.defers .returning w7;rw[i.def_];refine leaves_cons bH (a0 w7) (CallsD.mono (Dp b (0,0,0) i.sat) ?_);rintro _ _ w8 ⟨rfl,rfl,s8⟩;exact⟨_,kd (rs:=[.cell 2 tFnd]) (vs:=[aN (gk (0,0,0))]) i.eok s8 rfl (ResOk.cell rfl aJ ResOk.nil),_,L',rfl,⟨(0,0,0),rfl,.inl ⟨rfl,a9⟩⟩,Ent.sat ah s8⟩
 ·rintro ch L' w5 ⟨x,rfl,a8⟩ i;have i:=i.ent (Ent.perm (dV _ L'));show Leaves _ _ _ _ a4.defers (.panicking (pnc x)) w5;rw[i.def_];refine leaves_cons bH (a0 w5) (CallsD.mono (Dq b (0,0,0) x i.sat) ?_);rintro _ u' w8 ⟨rfl,b0,s8⟩;show Leaves _ _ _ _ [] (settle u') w8;rw[b0];exact⟨_,kd (rs:=[.cell 2 tFnd]) (vs:=[aN (gk x)]) i.eok s8 rfl (ResOk.cell rfl aJ ResOk.nil),_,L',rfl,⟨x,rfl,.inr a8⟩,Ent.sat ah s8⟩
