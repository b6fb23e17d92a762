/- Lemmas. -/
import Derived.Test.YtommnllbflbdmaaGreatDoorIG27
set_option linter.all false
set_option maxHeartbeats 16000000
namespace Go.Proofs.YtommnllbflbdmaaGreatDoor
open Go.V
attribute [local irreducible] G GO GP GPW GPK Ev Ef EfR Ent CB GB V.Enters
def DT{sh:Int}{fl:List FlM}{mix:Int→Bool}{s:StM}{W:Wk}{m:MvM}(he:gErr sh (fl++W.flows) s W m=0)(h:1099511627776<df W m∨(m.to≠0∧4096≤(gStk mix W m m.to m.item).length)):cT sh fl mix s W m=(4,W):=by
 unfold cT;rw[if_neg (fun q=>q he)];by_cases h1:df W m>1099511627776
 ·rw[if_pos h1]
 ·rw[if_neg h1];rcases h with h|⟨h,h2⟩
  ·exact absurd h h1
  ·rw[if_neg h,if_pos h2]
def Ca{sh:Int}{fl:List FlM}{mix:Int→Bool}{s:StM}{W:Wk}{m:MvM}(he:gErr sh (fl++W.flows) s W m=0)(hl:∀x∈gStk mix W m m.to m.item,LotOk x)(hn:1≤m.n)(h:¬(1099511627776<df W m∨(m.to≠0∧4096≤(gStk mix W m m.to m.item).length))) :
  cT sh fl mix s W m=(0,⟨if m.to=0 then gStk mix W m else upd2 (gStk mix W m) m.to m.item (gStk mix W m m.to m.item++[(cO sh fl.length W,0,m.n)]),upd W.tot m.item (df W m),W.flows++[eZ sh fl.length mix s W m],if m.to=0 then W.sunk++[cO sh fl.length W] else W.sunk⟩):=by
 unfold cT;rw[if_neg (fun q=>q he),if_neg (fun q=>h (.inl q))];by_cases h1:m.to=0
 ·rw[if_pos h1,if_pos h1,if_pos h1]
 ·rw[if_neg h1,if_neg h1,if_neg h1,if_neg (fun q=>h (.inr ⟨h1,q⟩)),oC hl hn]
def DS{sh:Int}{fl:List FlM}{mix:Int→Bool}{s:StM}{W:Wk}{m:MvM}(he:gErr sh (fl++W.flows) s W m≠0):cT sh fl mix s W m=(gErr sh (fl++W.flows) s W m,W):=by
 unfold cT;rw[if_pos he]
def BkW(S:LedM)(W:Wk)(x:BkX):Prop:=BkI S (S.flows++W.flows) (eG (S.flows++W.flows)) (fy (S.flows++W.flows)) W.stk W.tot x
def BkR(S:LedM)(x:BkX):Prop:=BkI S S.flows (eG S.flows) (fy S.flows) S.stk S.tot x
def DE{sh:Int}{nf:Nat}{mix:Int→Bool}{s:StM}{W:Wk}{m:MvM}(hm:MvA s.kind m)(fl:List FlM):eG (fl++[eZ sh nf mix s W m])=eG fl++iaOf s m∧fy (fl++[eZ sh nf mix s W m])=fy fl++raOf s m:=by
 rw[qE,qz];unfold iaOf raOf;constructor
 ·congr 1;by_cases h:s.kind=5
  ·rw[if_pos h,if_pos (show(eZ sh nf mix s W m).kind=5 from h)];exact nO hm (.inl h)
  ·rw[if_neg h,if_neg (show ¬(eZ sh nf mix s W m).kind=5 from h)]
 ·congr 1;by_cases h:s.kind=9∧m.frm=0
  ·rw[if_pos h,if_pos (show(eZ sh nf mix s W m).kind=9∧(eZ sh nf mix s W m).frm=0 from h)];exact nO hm (.inr h)
  ·rw[if_neg h,if_neg (show ¬((eZ sh nf mix s W m).kind=9∧(eZ sh nf mix s W m).frm=0) from h)]
abbrev BN:List Stp:=[.ev 0,.ev 1,.ev 2,.ev 3,.ev 4,.ev 5,.ev 6,.ev 7,.ev 8,.ev 9,.ev 10,.ev 11,.ev 12,.ev 13,.ev 14,.ev 15,.ev 16,.ev 17,.ev 18,.ev 19,.ev 20,.ev 21,.ev 22,.ev 23,.ev 24,.ev 25,.ev 26,.ev 27,.ev 28,.ev 29,.ev 30,.ev 31,.ev 32,.ev 33,.ev 34,.ev 35,.ef 36,.ef 37]
def cu{φ ψ:Prop}(k:ψ)(h:Hid ψ→φ:=by intro k;(with_reducible apply G.d8);first|refine G.d7 (N:=118) (id:=9) BN mixed aw (Hid.out k)):φ:=h ⟨k⟩
def Wr{φ ψ:Prop}(k:ψ)(h:Hid ψ→φ:=by intro k;(repeat (first|refine aa ?_|intro zzz|((with_reducible apply G.d8);first|refine G.d7 (N:=118) (id:=9) BN mixed aw ?_)));(repeat revert zzz);exact Hid.out k):φ:=h ⟨k⟩
def Cw{L:LH}(b:Nat)(S:LedM)(k:Nat)(hS:LedA k S)(hc:S.cat.Ok)(s:StV)(hs:StInG s)(c3:s.moves.length≤s.mcap)(hk:k+mvK s.m.moves≤2000)(g0:∀a i,(S.stk a i).length+lotsIn a i s.m.moves≤19)(x:BkX)(hx:BkR S x) :
  Tri ag 46 #[av b,.agg (aL s).toArray] (bkL b S.shard x (stM s::stP s::L)) (fun v L'=>v=ac (gTry S s.m).1 ∧
   (((gTry S s.m).1=0∧∃x',BkR (cR S s.m) x'∧L' = bkL b S.shard x' (stM s::stP s::L))∨((gTry S s.m).1≠0∧L' = stM s::stP s::L))):=by
 obtain⟨c0,f1⟩:=hS.g.shard;have h7:=hS.g.steps;have g4:=hS.g.flows;have e0:=hs.len
 have g6:x.flows.length=S.flows.length:=by
  have:=congrArg List.length hx.flows
  rwa [aA] at this
 have d2:=hx.cat;have f9:=hx.count;have f0:=hx.tick;refine Tri.bd ?_;simp only[bkL,bI];by_cases h1:65536≤S.steps.length
 ·have e:gTry S s.m=(4,wk0 S):=by unfold gTry;rw[if_pos h1]
  rw[e];refine Wr ?_;intros;exact KX.d7 an ae ⟨rfl,.inr ⟨fun q=>absurd q ab,rfl⟩⟩
 refine Wr ?_;intros;rename_i b3;refine GO.ent (Ent.at (A:=stP s) (Ent.refl _)) ?_;refine GO.ent (Ent.at (A:=catP x.cat) (Ent.refl _)) ?_;refine GO.cr (Cx (b:=b) (sh:=S.shard) (x:=x) s (d2▸hc) hx.catB e0 c3 hs.parts hs.rule) ?_;have d5:dB (fP x.cat.m x.tick s.m)=dB (fP S.cat S.now s.m):=by rw[d2,f0]
 rw[d5];by_cases h2:fP S.cat S.now s.m
 case neg =>
  have e:gTry S s.m=(1,wk0 S):=by unfold gTry;rw[if_neg h1,if_pos h2]
  rw[e,aH h2];refine Wr ?_;intros;exact KX.d7 an ae ⟨rfl,.inr ⟨fun q=>absurd q ab,rfl⟩⟩
 have e:gTry S s.m=dH S.shard S.flows (bL S.cat) (s.m.at (aR S)) (wk0 S) s.m.moves:=by unfold gTry;rw[if_neg h1,if_neg (fun h=>h h2)]
 rw[aT h2];have e2:s.moves.length≤64:=by have:=h2.2.2.2.1.2;simpa [StV.m] using this
 have e4:BkW S (wk0 S) x:=by
  unfold BkW;rw[show S.flows++(wk0 S).flows=S.flows from aY _];exact hx
 refine Wr ?_;intros
 refine G.loop (α:=Nat×BkX×Wk×OA×Nat) (fun g=>g.1≤s.moves.length∧BkW S g.2.2.1 g.2.1∧WkA S.shard S.flows (k+mvK (s.m.moves.take g.1)) g.2.2.1∧g.2.2.1.flows.length=g.1∧(∀a i,(g.2.2.1.stk a i).length+lotsIn a i (s.m.moves.drop g.1)≤19)∧dH S.shard S.flows (bL S.cat) (s.m.at (aR S)) (wk0 S) s.m.moves=dH S.shard S.flows (bL S.cat) (s.m.at (aR S)) g.2.2.1 (s.m.moves.drop g.1))
  (fun g=>[(0,av b),(3,av b3),(5,.slice g.2.2.2.1 g.2.2.1.sunk.length g.2.2.2.2),(21,.slice s.mad s.moves.length s.mcap),(22,ac s.moves.length),(23,ac (g.1:Int))])
  (fun g=>bkL b S.shard g.2.1 (osl (encZ .i64) 1 tInt g.2.2.2.1 g.2.2.2.2 g.2.2.1.sunk::obj b3 bB (aL s)::stM s::stP s::L)) (fun g=>s.moves.length - g.1) (0,x,wk0 S,none,0) ⟨aj _,e4,Fu hS,rfl,g0,rfl⟩ ai ?_ ?_
 ·refine Ent.trans (Ent.d9 (encZ .i64) 1 tInt) ?_;have f3:(wk0 S).sunk=[]:=rfl;simp only[bkL,bI,f3];exact ae
 rintro⟨i,y,W,iad,icap⟩ ⟨hi,hB,hA,c8,hK,a1⟩;dsimp only at hi hB hA c8 hK a1 ⊢
 have g5:y.flows.length=S.flows.length+W.flows.length:=by
  have:=congrArg List.length hB.flows
  rwa [aA,aD] at this
 have h5:=hA.g.sunk;have d3:=hB.count;simp only[bkL,bI];by_cases d1:i<s.moves.length
 case neg =>
  have c6:s.m.moves.drop i=[]:=bg (by show(s.moves.map MvV.m).length≤i;rw[aA];omega);rw[c6] at a1;have e3:gTry S s.m=(0,W):=by rw[e,a1];rfl
  have he:(gTry S s.m).1=0:=by rw[e3]
  have e1:cR S s.m=gC S s.m:=if_pos he;rw[e1,he];refine Wr ?_;intros;refine KX.d7 an ?_ ⟨rfl,.inl ⟨rfl,{ y with count:=y.count+1,tick:=s.tick },⟨hB.cat,hB.catB,?_,?_,?_,?_,?_,?_,?_,?_⟩,rfl⟩⟩
  ·simp only[bkL,bI];exact ae
  ·show y.count+1=((S.steps++[s.m.at (aR S)]).length:Int);rw[aD,be,d3];omega
  ·show s.tick=(gC S s.m).now;unfold LedM.now gC;simp only[List.getLast?_append,List.getLast?_singleton];rfl
  ·show y.flows.map (·.m)=S.flows++(gTry S s.m).2.flows;rw[e3];exact hB.flows
  ·intro a i;show(fW y.stk (a,i)).lots=(gTry S s.m).2.stk a i;rw[e3];exact hB.stk a i
  ·intro a i;show((gTry S s.m).2.stk a i).length≤_;rw[e3];exact hB.cap a i
  ·intro i;show _=(gTry S s.m).2.tot i;rw[e3];exact hB.tot i
  ·show jp y.imp (eG (S.flows++(gTry S s.m).2.flows));rw[e3];exact hB.imp
  ·show jp y.ret (fy (S.flows++(gTry S s.m).2.flows));rw[e3];exact hB.ret
 have f6:(i:Int).toNat=i:=ay i;have b1 : (i:Int).toNat<s.moves.length:=ab;have c1:s.moves[(i:Int).toNat]!.m=s.m.moves[i]!:=by rw[f6];exact(dP MvV.m d1).symm
 have c2:i<s.m.moves.length:=by show i<(s.moves.map MvV.m).length;rw[aA];exact d1
 have c6:s.m.moves.drop i=s.moves[(i:Int).toNat]!.m::s.m.moves.drop (i+1):=by rw[c1];exact dF c2
 have a9:mvAP S.cat.items.length s.kind s.moves[(i:Int).toNat]!.m:=(possG_A.1 h2).2.2.2.2.1 _ (by rw[c1];exact aG c2);have a4:MvA (s.m.at (aR S)).kind s.moves[(i:Int).toNat]!.m:=ue h2.1 a9;have c4:=aG b1;have e5:=hs.bd _ c4;have d0:=wC c2;have h3:=Dq s.m.moves (i+1);rw[←c1] at d0;rw[c6] at a1 hK;have b0:dH S.shard S.flows (bL S.cat) (s.m.at (aR S)) W (s.moves[(i:Int).toNat]!.m::s.m.moves.drop (i+1))=if(cT S.shard S.flows (bL S.cat) (s.m.at (aR S)) W s.moves[(i:Int).toNat]!.m).1=0 then dH S.shard S.flows (bL S.cat) (s.m.at (aR S)) (cT S.shard S.flows (bL S.cat) (s.m.at (aR S)) W s.moves[(i:Int).toNat]!.m).2 (s.m.moves.drop (i+1)) else((cT S.shard S.flows (bL S.cat) (s.m.at (aR S)) W s.moves[(i:Int).toNat]!.m).1,W):=rfl;rw[b0] at a1;clear b0;have d6:=fun a j=>lK a j [s.moves[(i:Int).toNat]!.m] (s.m.moves.drop (i+1));have a3:=Ai (mix:=bL S.cat) (s:=s.m.at (aR S)) c0 hA a4 ab;have b5:=fun he=>uu (mix:=bL S.cat) (s:=s.m.at (aR S)) hA.g a4.g he
 have f5:(W.stk s.moves[(i:Int).toNat]!.m.frm s.moves[(i:Int).toNat]!.m.item).length<20:=by
  have:=hK s.moves[(i:Int).toNat]!.m.frm s.moves[(i:Int).toNat]!.m.item
  omega
 have a5:=Ca (fl:=S.flows) (sh:=S.shard) (mix:=bL S.cat) (s:=s.m.at (aR S)) (W:=W) (m:=s.moves[(i:Int).toNat]!.m);have a8:=DT (fl:=S.flows) (sh:=S.shard) (mix:=bL S.cat) (s:=s.m.at (aR S)) (W:=W) (m:=s.moves[(i:Int).toNat]!.m);have a6:=DS (fl:=S.flows) (sh:=S.shard) (mix:=bL S.cat) (s:=s.m.at (aR S)) (W:=W) (m:=s.moves[(i:Int).toNat]!.m);have d4:=fun he a j=>wU (mix:=bL S.cat) (s:=s.m.at (aR S)) hA.g a4.g ab he a j;have c9:=DE (sh:=S.shard) (nf:=S.flows.length) (mix:=bL S.cat) (W:=W) a4 (S.flows++W.flows);refine G.ent (L':=isl ao 3 s.moves[(i:Int).toNat]!.pad s.moves[(i:Int).toNat]!.m.parts::bkL b S.shard y (osl (encZ .i64) 1 tInt iad icap W.sunk::obj b3 bB (aL s)::stM s::stP s::L)) ((Ent.at (A:=stP s) (qb b1)).trans (by simp only[bkL,bI];exact ae)) ?_;simp only[bkL,bI];refine Wr ?_;intros;refine GPW.evP (Ev.m9 rfl rfl ab ab) ah ?_;refine Wr ?_;intros;refine GPW.evP (Ev.m9 rfl rfl ab ab) ah ?_;refine Wr ?_;intros;have b4:S.shard*4294967296+(y.flows.length:Int)=cO S.shard S.flows.length W:=by unfold cO;omega
 have c7:S.shard*4294967296+y.count=aR S:=by unfold aR;rw[d3]
 rw[b4,c7];rename_i b7 b8;generalize s.moves[(i:Int).toNat]! = m at *;refine GO.ent (L':=isl ao 3 m.pad m.m.parts::bkL b S.shard y (obj b8 bY [ac (cO S.shard S.flows.length W),ac (aR S),ac s.kind,ac s.tick,ac s.actor,ac m.m.frm,ac m.m.to,ac m.m.item,ac m.m.n,.slice none 0 0,.slice none 0 0]::obj b7 tMv (aQ m)::osl (encZ .i64) 1 tInt iad icap W.sunk::obj b3 bB (aL s)::stM s::stP s::L)) (by simp only[bkL,bI];exact ae) ?_;refine GO.ca (xN b S hS.g.shard (k+mvK (s.m.moves.take i)) y W ab hB hA (s.m.at (aR S)) m a4 ab a9.1 e5 f5) ?_;rintro _ _ (⟨he,pad,pcap,x',rfl,f2,rfl⟩|⟨he,ad,n,c,rfl,rfl⟩)
 case inr =>
  have e3:gTry S s.m=(gErr S.shard (S.flows++W.flows) (s.m.at (aR S)) W m.m,W):=by rw[e,a1,a6 he,if_neg he]
  rw[e3];generalize gErr S.shard (S.flows++W.flows) (s.m.at (aR S)) W m.m=er at *;refine Wr ?_;intros;exact KX.en ⟨rfl,.inr ⟨he,rfl⟩⟩
 have hn:=a4.g.n;have b2:∀z∈gStk (bL S.cat) W m.m m.m.to m.m.item,LotOk z:=(d4 he _ _).lots;have f4:=(d4 he m.m.to m.m.item).len;have h6:=hA.g.tot m.m.item;simp only[bkL,bI];repeat first|((fail_if_success (with_reducible refine G.e7 14 ?_));(with_reducible apply G.seq))|refine bA ?_|intro _|refine cu ?_
 refine G.d9 (α:=OA×Nat) (fun _=>True) (fun _=>[(0,av b),(3,av b3),(5,.slice iad W.sunk.length icap),(7,av b7),(8,av b8),(21,.slice s.mad s.moves.length s.mcap),(22,ac s.moves.length),(23,ac (i:Int))]) (fun z=>isl ao 3 pad (gPts (bL S.cat) (s.m.at (aR S)) W m.m)::isl (encZ .i64) 1 z.1 (dq (s.m.at (aR S)) W m.m)::bkL b S.shard x' (obj b8 bY [ac (cO S.shard S.flows.length W),ac (aR S),ac s.kind,ac s.tick,ac s.actor,ac m.m.frm,ac m.m.to,ac m.m.item,ac m.m.n,.slice pad (gPts (bL S.cat) (s.m.at (aR S)) W m.m).length pcap,.slice z.1 (dq (s.m.at (aR S)) W m.m).length z.2]::obj b7 tMv (aQ m)::osl (encZ .i64) 1 tInt iad icap W.sunk::obj b3 bB (aL s)::stM s::stP s::L)) ?_ ?_
 ·by_cases hq:m.m.frm=0∧(s.kind=4∨s.kind=10)
  ·have em:(dq (s.m.at (aR S)) W m.m)=W.sunk:=if_pos hq;rw[em];obtain⟨h0,hq⟩:=hq;by_cases h4:s.kind=4
   ·refine Wr ?_;intros;refine GO.ca (ki iad W.sunk.length icap W.sunk rfl ab) ?_;rintro _ _⟨mad,mcap,rfl,rfl⟩;refine Wr ?_;intros;exact⟨(mad,mcap),trivial,ai,(Ent.frz mad).trans (by simp only[bkL,bI];exact ae)⟩
   ·have e6:s.kind=10:=hq.resolve_left h4;refine Wr ?_;intros;refine GO.ca (ki iad W.sunk.length icap W.sunk rfl ab) ?_;rintro _ _⟨mad,mcap,rfl,rfl⟩;refine Wr ?_;intros;exact⟨(mad,mcap),trivial,ai,(Ent.frz mad).trans (by simp only[bkL,bI];exact ae)⟩
  ·have em:(dq (s.m.at (aR S)) W m.m)=[]:=if_neg hq;rw[em];by_cases h0:m.m.frm=0
   ·have h4:¬s.kind=4:=fun q=>hq ⟨h0,.inl q⟩;have e6:¬s.kind=10:=fun q=>hq ⟨h0,.inr q⟩;refine Wr ?_;intros;refine⟨(none,0),trivial,ai,?_⟩;refine Ent.trans ?_ (Ent.d7 (Ent.f7 (encZ .i64) 1 none));simp only[bkL,bI];exact ae
   ·refine Wr ?_;intros;refine⟨(none,0),trivial,ai,?_⟩;refine Ent.trans ?_ (Ent.d7 (Ent.f7 (encZ .i64) 1 none));simp only[bkL,bI];exact ae
 rintro⟨mad,mcap⟩ _;simp only[bkL,bI];refine G.d9 (α:=OA×Nat) (fun _=>True) (fun z=>[(0,av b),(3,av b3),(5,.slice z.1 (if m.m.to=0 then W.sunk++[cO S.shard S.flows.length W] else W.sunk).length z.2),(7,av b7),(8,av b8),(21,.slice s.mad s.moves.length s.mcap),(22,ac s.moves.length),(23,ac (i:Int))]) (fun z=>isl ao 3 pad (gPts (bL S.cat) (s.m.at (aR S)) W m.m)::isl (encZ .i64) 1 mad (dq (s.m.at (aR S)) W m.m)::bkL b S.shard x' (obj b8 bY [ac (cO S.shard S.flows.length W),ac (aR S),ac s.kind,ac s.tick,ac s.actor,ac m.m.frm,ac m.m.to,ac m.m.item,ac m.m.n,.slice pad (gPts (bL S.cat) (s.m.at (aR S)) W m.m).length pcap,.slice mad (dq (s.m.at (aR S)) W m.m).length mcap]::obj b7 tMv (aQ m)::osl (encZ .i64) 1 tInt z.1 z.2 (if m.m.to=0 then W.sunk++[cO S.shard S.flows.length W] else W.sunk)::obj b3 bB (aL s)::stM s::stP s::L)) ?_ ?_
 ·by_cases h0:m.m.to=0
  ·rw[if_pos h0];refine Wr ?_;intros;refine GO.ef (Ef.d7 (enc:=encZ .i64) (e:=cO S.shard S.flows.length W) rfl rfl rfl rfl rfl (by rfl) (mI _ _) ab ab) ah ?_;rintro _ _⟨a2,a0,rfl,rfl⟩;refine Wr ?_;intros;exact⟨(a2,a0),trivial,ai,by simp only[bkL,bI];exact ae⟩
  ·rw[if_neg h0];refine Wr ?_;intros;exact⟨(iad,icap),trivial,ai,by simp only[bkL,bI];exact ae⟩
 rintro⟨a2,a0⟩ _;simp only[bkL,bI];refine Wr ?_;intros;refine GO.ent (L':=isl ao 3 pad (gPts (bL S.cat) (s.m.at (aR S)) W m.m)::isl (encZ .i64) 1 mad (dq (s.m.at (aR S)) W m.m)::bkL b S.shard x' (obj b8 bY [ac (cO S.shard S.flows.length W),ac (aR S),ac s.kind,ac s.tick,ac s.actor,ac m.m.frm,ac m.m.to,ac m.m.item,ac m.m.n,.slice pad (gPts (bL S.cat) (s.m.at (aR S)) W m.m).length pcap,.slice mad (dq (s.m.at (aR S)) W m.m).length mcap]::obj b7 tMv (aQ m)::osl (encZ .i64) 1 tInt a2 a0 (if m.m.to=0 then W.sunk++[cO S.shard S.flows.length W] else W.sunk)::obj b3 bB (aL s)::stM s::stP s::L)) (by simp only[bkL,bI];exact ae) ?_;refine GO.ca (zP b S x' (S.flows++W.flows) (eG (S.flows++W.flows)++iaOf (s.m.at (aR S)) m.m) (fy (S.flows++W.flows)++raOf (s.m.at (aR S)) m.m) (gStk (bL S.cat) W m.m) W.tot f2 (by rw[aD];omega) ⟨⟨cO S.shard S.flows.length W,aR S,s.kind,s.tick,s.actor,m.m.frm,m.m.to,m.m.item,m.m.n,(gPts (bL S.cat) (s.m.at (aR S)) W m.m),(dq (s.m.at (aR S)) W m.m)⟩,pad,pcap,mad,mcap⟩ hn (by dsimp only;omega) (by dsimp only;omega)) ?_;rintro _ _ (⟨c5,rfl,rfl⟩|⟨a7,rfl,x2,f8,rfl⟩)
 ·have e3:gTry S s.m=(4,W):=by rw[e,a1,a8 he c5,if_neg (fun q=>absurd (show(4:Int)=0 from q) ah)]
  rw[e3];refine Wr ?_;intros;exact KX.d7 an ae ⟨rfl,.inr ⟨fun q=>absurd q ab,rfl⟩⟩
 have hg:=a5 he b2 hn.1 a7;rw[hg] at a1 a3 b5;rw[if_pos rfl] at a1;have b6:=a3 rfl;have b9:=b5 rfl;clear a3 b5 hg a5 a8 a6;simp only[bkL,bI];refine Wr ?_;intros;refine⟨(i+1,x2,⟨if m.m.to=0 then gStk (bL S.cat) W m.m else upd2 (gStk (bL S.cat) W m.m) m.m.to m.m.item (gStk (bL S.cat) W m.m m.m.to m.m.item++[(cO S.shard S.flows.length W,0,m.m.n)]),upd W.tot m.m.item (df W m.m),W.flows++[eZ S.shard S.flows.length (bL S.cat) (s.m.at (aR S)) W m.m],if m.m.to=0 then W.sunk++[cO S.shard S.flows.length W] else W.sunk⟩,a2,a0),⟨by dsimp only;omega,?_,?_,?_,fun a j=>?_,a1⟩,by dsimp only;omega,?_,?_⟩
 ·dsimp only;unfold BkW;dsimp only;rw[←aJ,c9.1,c9.2];exact f8
 ·dsimp only;rw[d0,←dG,←dG];exact b6
 ·dsimp only;rw[aD,be,c8]
 ·have g1:=hK a j;have g2:=d6 a j;have g3:=b9 a j;dsimp only at g3 ⊢;rw[show m.m::s.m.moves.drop (i+1)=[m.m]++s.m.moves.drop (i+1) from rfl] at g1;omega
 ·dsimp only;rw[aK i];exact ai
 ·exact ae
end Go.Proofs.YtommnllbflbdmaaGreatDoor
namespace Go.V
class TyIB (P:Program) (T:Nat) (ks:outParam (List Bool)):Prop where
 under:P.underlying T=some (.struct (P.fieldsOf T))
 free:P.stoodInHeld T=false
 guard:P.eqGuardType P.depth T=false
 flds : (P.fieldsOf T).toList.map (fun f => (f.name == "_", f.offset, P.underlying f.type)) = (List.range ks.length).map fun i => (false, i, some (if ks[i]! then TypeDesc.bool else .int .i64))
end Go.V
namespace Go.Proofs.YtommnllbflbdmaaGreatDoor
section
open Go.V
attribute [local irreducible] G GO GP GPW GPK Ev Ef EfR Ent CB GB V.Enters
def tA{α:Type}[Inhabited α]{xs ys:List α}(hl:xs.length=ys.length)(h:∀j,j<xs.length→xs[j]! = ys[j]!):xs=ys:=by
 refine du hl (fun j h1 h2=>?_);have:=h j h1
 rwa [getElem!_of h1,getElem!_of h2] at this
abbrev yU:List Stp:=[.ev 0,.ev 1,.ev 2,.ev 3,.ev 4,.ev 5,.ev 6,.ev 7,.ev 8]
def WM{φ ψ:Prop}(k:ψ)(h:Hid ψ→φ:=by intro k;(repeat (first|refine aa ?_|intro zzz|((with_reducible apply G.d8);first|refine G.d7 (N:=26) (id:=6) yU mixed aw ?_)));(repeat revert zzz);exact Hid.out k):φ:=h ⟨k⟩
def Ci{L:LH}(a0 ad2:OA)(n1 n2 c1 c2:Nat)(xs ys:LL)[Rds L a0 Lot ao 3 xs][Rds L ad2 Lot ao 3 ys](h1:n1=xs.length)(h2:n2=ys.length)(hl:ys.length≤1000000000) :
  Tri ag 105 #[.slice a0 n1 c1,.slice ad2 n2 c2] L (fun v L'=>v=.bool (dB (xs=ys))∧L' = L):=by
 subst h1 h2;refine Tri.bd ?_;by_cases he:xs.length=ys.length
 case neg =>
  refine WM ?_;intros;exact KX.d7 an (Ent.refl _) ⟨by rw[aH (fun q:xs=ys=>he (by rw[q]))];rfl,rfl⟩
 refine WM ?_;intros;refine G.loop (α:=Nat) (fun i=>i≤xs.length∧∀j,j<i→xs[j]! = ys[j]!) (fun i=>[(0,.slice a0 xs.length c1),(1,.slice ad2 ys.length c2),(11,.slice a0 xs.length c1),(12,ac xs.length),(13,ac (i:Int))]) (fun _=>L) (fun i=>xs.length - i) 0 ⟨aj _,fun j h=>absurd h (bJ j)⟩ ai (Ent.refl _) ?_;rintro i ⟨hi,a4⟩;by_cases a7:i<xs.length
 case neg =>
  have e:xs=ys:=tA he (fun j hj=>a4 j ab);refine WM ?_;intros;exact KX.d7 an (Ent.refl _) ⟨by rw[aT e];rfl,rfl⟩
 have a5:(i:Int).toNat=i:=ay i;have a6 : (i:Int).toNat<xs.length:=ab;have a8 : (i:Int).toNat<ys.length:=ab;have a3:¬xs[(i:Int).toNat]! = ys[(i:Int).toNat]!→dB (xs=ys)=false:=fun q=>aH (fun r=>q (by rw[r]))
 have a2:xs[(i:Int).toNat]! = ys[(i:Int).toNat]!→∀j,j<i+1→xs[j]! = ys[j]!:=fun q j hj=>by
  rcases ce j i with h|h
  ·exact a4 j h
  ·obtain rfl:j=i:=ab;rw[a5] at q;exact q
 refine WM ?_;intros;obtain⟨x,hx⟩:∃x,xs[(i:Int).toNat]! = x:=⟨_,rfl⟩;obtain⟨y,hy⟩:∃y,ys[(i:Int).toNat]! = y:=⟨_,rfl⟩
 have a1:x=y↔[x.1,x.2.1,x.2.2]=[y.1,y.2.1,y.2.2]:=by
  obtain⟨a,b,c⟩:=x;obtain⟨d,e,f⟩:=y;simp
 rw[hx,hy];rw[hx,hy] at a3 a2;refine GPW.evP (Ev.q6 (xs:=[x.1,x.2.1,x.2.2]) (ys:=[y.1,y.2.1,y.2.2]) (cs:=ao x) (ds:=ao y) (hc:=⟨rfl⟩) (hd:=⟨rfl⟩) rfl rfl rfl rfl) ah ?_;by_cases q:x=y
 ·rw[aH (fun h:¬ [x.1,x.2.1,x.2.2]=[y.1,y.2.1,y.2.2]=>h (a1.1 q))];refine WM ?_;intros;refine⟨i+1,⟨ab,a2 q⟩,ab,?_,Ent.refl _⟩;rw[aK i];exact ai
 ·rw[aT (show ¬ [x.1,x.2.1,x.2.2]=[y.1,y.2.1,y.2.2] from fun h=>q (a1.2 h))];refine WM ?_;intros;exact KX.d7 an (Ent.refl _) ⟨by rw[a3 q];rfl,rfl⟩
abbrev yT:List Stp:=[.ev 0,.ev 1,.ev 2,.ev 3,.ev 4,.ev 5,.ev 6,.ev 7,.ev 8]
def WS{φ ψ:Prop}(k:ψ)(h:Hid ψ→φ:=by intro k;(repeat (first|refine aa ?_|intro zzz|((with_reducible apply G.d8);first|refine G.d7 (N:=26) (id:=6) yT mixed aw ?_)));(repeat revert zzz);exact Hid.out k):φ:=h ⟨k⟩
def Cj{L:LH}(a0 ad2:OA)(n1 n2 c1 c2:Nat)(xs ys:List Int)[Rds L a0 Int (encZ .i64) 1 xs][Rds L ad2 Int (encZ .i64) 1 ys](h1:n1=xs.length)(h2:n2=ys.length)(hl:ys.length≤1000000000) :
  Tri ag 106 #[.slice a0 n1 c1,.slice ad2 n2 c2] L (fun v L'=>v=.bool (dB (xs=ys))∧L' = L):=by
 subst h1 h2;refine Tri.bd ?_;by_cases he:xs.length=ys.length
 case neg =>
  refine WS ?_;intros;exact KX.d7 an (Ent.refl _) ⟨by rw[aH (fun q:xs=ys=>he (by rw[q]))];rfl,rfl⟩
 refine WS ?_;intros;refine G.loop (α:=Nat) (fun i=>i≤xs.length∧∀j,j<i→xs[j]! = ys[j]!) (fun i=>[(0,.slice a0 xs.length c1),(1,.slice ad2 ys.length c2),(11,.slice a0 xs.length c1),(12,ac xs.length),(13,ac (i:Int))]) (fun _=>L) (fun i=>xs.length - i) 0 ⟨aj _,fun j h=>absurd h (bJ j)⟩ ai (Ent.refl _) ?_;rintro i ⟨hi,a1⟩;by_cases a6:i<xs.length
 case neg =>
  have e:xs=ys:=tA he (fun j hj=>a1 j ab);refine WS ?_;intros;exact KX.d7 an (Ent.refl _) ⟨by rw[aT e];rfl,rfl⟩
 have a3:(i:Int).toNat=i:=ay i;have a5 : (i:Int).toNat<xs.length:=ab;have a7 : (i:Int).toNat<ys.length:=ab;have a4:¬xs[(i:Int).toNat]! = ys[(i:Int).toNat]!→dB (xs=ys)=false:=fun q=>aH (fun r=>q (by rw[r]))
 have a2:xs[(i:Int).toNat]! = ys[(i:Int).toNat]!→∀j,j<i+1→xs[j]! = ys[j]!:=fun q j hj=>by
  rcases ce j i with h|h
  ·exact a1 j h
  ·obtain rfl:j=i:=ab;rw[a3] at q;exact q
 by_cases q:xs[(i:Int).toNat]! = ys[(i:Int).toNat]!
 ·refine WS ?_;intros;refine⟨i+1,⟨ab,a2 q⟩,ab,?_,Ent.refl _⟩;rw[aK i];exact ai
 ·refine WS ?_;intros;exact KX.d7 an (Ent.refl _) ⟨by rw[a4 q];rfl,rfl⟩
def uV{L:LH}(f g:FlV)[Rds L f.pad Lot ao 3 f.m.parts][Rds L g.pad Lot ao 3 g.m.parts][Rds L f.mad Int (encZ .i64) 1 f.m.made][Rds L g.mad Int (encZ .i64) 1 g.m.made](h1:g.m.parts.length≤1000000000)(h2:g.m.made.length≤1000000000) :
  Tri ag 48 #[.agg (aM f).toArray,.agg (aM g).toArray] L (fun v L'=>v=.bool (dB (f.m=g.m))∧L' = L):=by
 refine Tri.bd ?_;have a0:∀{p:Prop},¬p→(f.m=g.m→p)→dB (f.m=g.m)=false:=fun h q=>aH (fun r=>h (q r));simp only[aM];simp only[List.append];by_cases c0:f.m.id=g.m.id
 case neg =>
  refine Hz ?_;intros;exact KX.d7 an ae ⟨by rw[a0 c0 (fun q=>by rw[q])];rfl,rfl⟩
 by_cases c1:f.m.step=g.m.step
 case neg =>
  refine Hz ?_;intros;exact KX.d7 an ae ⟨by rw[a0 c1 (fun q=>by rw[q])];rfl,rfl⟩
 by_cases c2:f.m.kind=g.m.kind
 case neg =>
  refine Hz ?_;intros;exact KX.d7 an ae ⟨by rw[a0 c2 (fun q=>by rw[q])];rfl,rfl⟩
 by_cases c3:f.m.tick=g.m.tick
 case neg =>
  refine Hz ?_;intros;exact KX.d7 an ae ⟨by rw[a0 c3 (fun q=>by rw[q])];rfl,rfl⟩
 by_cases c4:f.m.actor=g.m.actor
 case neg =>
  refine Hz ?_;intros;exact KX.d7 an ae ⟨by rw[a0 c4 (fun q=>by rw[q])];rfl,rfl⟩
 by_cases c5:f.m.frm=g.m.frm
 case neg =>
  refine Hz ?_;intros;exact KX.d7 an ae ⟨by rw[a0 c5 (fun q=>by rw[q])];rfl,rfl⟩
 by_cases c6:f.m.to=g.m.to
 case neg =>
  refine Hz ?_;intros;exact KX.d7 an ae ⟨by rw[a0 c6 (fun q=>by rw[q])];rfl,rfl⟩
 by_cases c7:f.m.item=g.m.item
 case neg =>
  refine Hz ?_;intros;exact KX.d7 an ae ⟨by rw[a0 c7 (fun q=>by rw[q])];rfl,rfl⟩
 by_cases c8:f.m.n=g.m.n
 case neg =>
  refine Hz ?_;intros;exact KX.d7 an ae ⟨by rw[a0 c8 (fun q=>by rw[q])];rfl,rfl⟩
 refine Hz ?_;intros;refine GO.cr (Ci f.pad g.pad f.m.parts.length g.m.parts.length f.pcap g.pcap f.m.parts g.m.parts rfl rfl h1) ?_;by_cases c9:f.m.parts=g.m.parts
 case neg =>
  rw[aH c9];refine Hz ?_;intros;exact KX.d7 an ae ⟨by rw[a0 c9 (fun q=>by rw[q])];rfl,rfl⟩
 rw[aT c9];refine Hz ?_;intros;refine GO.cr (Cj f.mad g.mad f.m.made.length g.m.made.length f.mcap g.mcap f.m.made g.m.made rfl rfl h2) ?_;refine Hz ?_;intros;refine KX.d7 an ae ⟨?_,rfl⟩;by_cases ca:f.m.made=g.m.made
 ·have e:f.m=g.m:=by
   obtain⟨⟨i1,i2,i3,i4,i5,i6,i7,i8,i9,ia,ib⟩,_⟩:=f;obtain⟨⟨j1,j2,j3,j4,j5,j6,j7,j8,j9,ja,jb⟩,_⟩:=g;dsimp only at c0 c1 c2 c3 c4 c5 c6 c7 c8 c9 ca;rw[c0,c1,c2,c3,c4,c5,c6,c7,c8,c9,ca]
  rw[aT ca,aT e];rfl
 ·rw[aH ca,a0 ca (fun q=>by rw[q])];rfl
def Ee{L:LH}(a0 ad2:OA)(n1 n2 c1 c2:Nat)(fs gs:List FlV)[Rds L a0 FlV aM 11 fs][Rds L ad2 FlV aM 11 gs](h1:n1=fs.length)(h2:n2=gs.length)(hl:gs.length≤1000000000)(hp:∀f∈gs,f.m.parts.length≤1000000000∧f.m.made.length≤1000000000)(hA:∀f∈fs,Ent L (flP f::L))(hB:∀f∈gs,Ent L (flP f::L)) :
  Tri ag 47 #[.slice a0 n1 c1,.slice ad2 n2 c2,.func (.func 48) #[] #[]] L (fun v L'=>v=.bool (dB (fs.map FlV.m=gs.map FlV.m))∧L' = L):=by
 subst h1 h2;refine Tri.bd ?_;by_cases he:fs.length=gs.length
 case neg =>
  refine Hz ?_;intros;exact KX.d7 an (Ent.refl _) ⟨by rw[aH (fun q:fs.map FlV.m=gs.map FlV.m=>he (by simpa using congrArg List.length q))];rfl,rfl⟩
 refine Hz ?_;intros;refine G.loop (α:=Nat) (fun i=>i≤fs.length∧∀j,j<i→fs[j]!.m=gs[j]!.m) (fun i=>[(0,.slice a0 fs.length c1),(1,.slice ad2 gs.length c2),(2,.func (.func 48) #[] #[]),(15,.slice a0 fs.length c1),(16,ac fs.length),(17,ac (i:Int))]) (fun _=>L) (fun i=>fs.length - i) 0 ⟨aj _,fun j h=>absurd h (bJ j)⟩ ai (Ent.refl _) ?_;rintro i ⟨hi,a4⟩;by_cases a8:i<fs.length
 case neg =>
  have e:fs.map FlV.m=gs.map FlV.m:=tA (by simpa using he) (fun j hj=>by
   rw[aA] at hj;rw[dP FlV.m hj,dP FlV.m ab];exact a4 j ab)
  refine Hz ?_;intros;exact KX.d7 an (Ent.refl _) ⟨by rw[aT e];rfl,rfl⟩
 have a6:(i:Int).toNat=i:=ay i;have a2 : (i:Int).toNat<fs.length:=ab;have a1 : (i:Int).toNat<gs.length:=ab
 have a7:¬fs[(i:Int).toNat]!.m=gs[(i:Int).toNat]!.m→dB (fs.map FlV.m=gs.map FlV.m)=false:=fun q=>aH (fun r=>q (by
  rw[←dP FlV.m a2,←dP FlV.m a1,r]))
 have a3:=hp _ (aG a1)
 have a5:fs[(i:Int).toNat]!.m=gs[(i:Int).toNat]!.m→∀j,j<i+1→fs[j]!.m=gs[j]!.m:=fun q j hj=>by
  rcases ce j i with h|h
  ·exact a4 j h
  ·obtain rfl:j=i:=ab;rw[a6] at q;exact q
 refine G.ent (L':=isl ao 3 fs[(i:Int).toNat]!.pad fs[(i:Int).toNat]!.m.parts::isl (encZ .i64) 1 fs[(i:Int).toNat]!.mad fs[(i:Int).toNat]!.m.made::isl ao 3 gs[(i:Int).toNat]!.pad gs[(i:Int).toNat]!.m.parts::isl (encZ .i64) 1 gs[(i:Int).toNat]!.mad gs[(i:Int).toNat]!.m.made::L) ?_ ?_
 ·refine(hA _ (aG a2)).trans (Ent.andE.trans ?_);refine Ent.trans (Ent.d7 (Ent.d7 ((hB _ (aG a1)).trans Ent.andE))) ?_;exact ae
 refine Hz ?_;intros;refine GO.ef (Ef.d8 rfl rfl (uV fs[(i:Int).toNat]! gs[(i:Int).toNat]! a3.1 a3.2)) ah ?_;rintro _ _⟨rfl,rfl⟩;by_cases q:fs[(i:Int).toNat]!.m=gs[(i:Int).toNat]!.m
 ·rw[aT q];refine Hz ?_;intros;refine⟨i+1,⟨ab,a5 q⟩,ab,?_,by exact ae⟩;rw[aK i];exact ai
 ·rw[aH q];refine Hz ?_;intros;exact KX.d7 an ae ⟨by rw[a7 q];rfl,rfl⟩
abbrev tFnd:Nat:=46
abbrev Fd:=Int×Int×Int
def cX(x:Fd):LV:=[ac x.1,ac x.2.1,ac x.2.2]
def na(t:Fd):∀u∈cX t,u.oneCell' = true:=by simp[cX,Value.oneCell']
instance:EncC cX:=⟨na⟩
def pnc(x:Fd):List PanicEntry:=[{ v:=.iface tFnd (.agg (cX x).toArray),recovered:=false }]
set_option maxRecDepth 20000 in
def Cr{L R:LH}{θ:Th}{w:World}(b:Nat)(x:Fd)(s:Sat θ ((obj b tFnd (cX x)::L)++R) w) :
  CallsD ag 100 #[av b] .returning w (fun e u' w'=>e=.returned (.tuple #[])∧u' = .returning∧Sat θ ((obj b tFnd (cX x)::L)++R) w'):=by
 refine callsD_of_wpS Tryz.func100 rfl fun c₀ cs hu=>?_;have i:=AtD.mk (L:=obj b tFnd (cX x)::L) (R:=R) (D:=[]) (EnvOk.d7 (N:=10) (fn:=Tryz.f100) (args:=[av b]) rfl (by simp)) rfl s;have a0:recoverD (c₀::cs)=none:=by simp[recoverD,hu]
 refine wpS_seq (wpS_region ?_);show wpOpsS _ _ _ [0,1,2,3,4,5,6,7] _ _ _;refine Ez rfl i a0 ah ?_;intro a1 w1 i;refine iZ rfl i (Ev.B5 (z:=.agg #[ac 0,ac 0,ac 0]) aw rfl) ah ?_;intro a2 w2 i;refine iZ rfl i (Ev.move rfl) ah ?_;intro a3 w3 i;refine iZ rfl i (Ev.extract rfl rfl) ah ?_;intro a4 w4 i;refine iZ rfl i (Ev.extract rfl rfl) ah ?_;intro a5 w5 i;refine vx rfl i Ef.alloc ah ?_;rintro _ _ a6 w6 ⟨b1,rfl,rfl⟩ i;refine sY rfl i (Ef.f7 (vs:=[ac 0,ac 0,ac 0]) rfl rfl (by rfl) (by rfl) (by simp[Value.oneCell'])) ?_;rintro _ _ a7 w7 rfl i;refine iZ rfl i (Ev.assign rfl) ah ?_;intro a8 w8 i;show Code.wpS _ _ _ _ _ _;refine wpS_seq (wpS_region ?_);show wpOpsS _ _ _ [0] _ _ _;refine iZ rfl i (Ev.move rfl) ah ?_;intro a9 w9 i;show Code.wpS _ _ _ _ _ _;refine wpS_cond (t:=false) (aP i.eok.agr rfl) ?_;refine wpS_of_wp (wp_skip ?_);exact⟨i.def_,.returning,by rw[←hu],.tuple #[],jN (rs:=[]) (vs:=[]) i.eok i.sat rfl ResOk.nil,rfl,rfl,Ent.sat ae i.sat⟩
set_option maxRecDepth 20000 in
def Cs{L R:LH}{θ:Th}{w:World}(b:Nat)(x y:Fd)(s:Sat θ ((obj b tFnd (cX x)::L)++R) w) :
  CallsD ag 100 #[av b] (.panicking (pnc y)) w (fun e u' w'=>e=.returned (.tuple #[])∧settle u' = .returning∧Sat θ ((obj b tFnd (cX y)::L)++R) w'):=by
 refine callsD_of_wpS Tryz.func100 rfl fun c₀ cs hu=>?_;have i:=AtD.mk (L:=obj b tFnd (cX x)::L) (R:=R) (D:=[]) (EnvOk.d7 (N:=10) (fn:=Tryz.f100) (args:=[av b]) rfl (by simp)) rfl s;have a0:recoverD (c₀::cs)=some (.iface tFnd (.agg (cX y).toArray),{ c₀ with mode:=.panicking [{ v:=.iface tFnd (.agg (cX y).toArray),recovered:=true }] }::cs):=by simp[recoverD,hu,pnc]
 refine wpS_seq (wpS_region ?_);show wpOpsS _ _ _ [0,1,2,3,4,5,6,7] _ _ _;refine FH rfl i a0 ah ?_;intro a1 w1 i;refine iZ rfl i (Ev.B6 rfl) ah ?_;intro a2 w2 i;refine iZ rfl i (Ev.move rfl) ah ?_;intro a3 w3 i;refine iZ rfl i (Ev.extract rfl rfl) ah ?_;intro a4 w4 i;refine iZ rfl i (Ev.extract rfl rfl) ah ?_;intro a5 w5 i;refine vx rfl i Ef.alloc ah ?_;rintro _ _ a6 w6 ⟨b1,rfl,rfl⟩ i;refine sY rfl i (Ef.f7 (vs:=cX y) rfl rfl (by rfl) (by rfl) (na y)) ?_;rintro _ _ a7 w7 rfl i;refine iZ rfl i (Ev.assign rfl) ah ?_;intro a8 w8 i;show Code.wpS _ _ _ _ _ _;refine wpS_seq (wpS_region ?_);show wpOpsS _ _ _ [0] _ _ _;refine iZ rfl i (Ev.move rfl) ah ?_;intro a9 w9 i;show Code.wpS _ _ _ _ _ _;refine wpS_cond (t:=true) (aP i.eok.agr rfl) ?_;refine wpS_region ?_;show wpOpsS _ _ _ [0,1] _ _ _;refine iZ rfl i (Ev.d8 rfl (by rfl)) ah ?_;intro b4 b0 i;refine sY rfl i (Ef.f7 (vs:=cX y) rfl rfl (by rfl) (by rfl) (na y)) ?_;rintro _ _ b3 b2 rfl i;exact⟨i.def_,_,rfl,.tuple #[],jN (rs:=[]) (vs:=[]) i.eok i.sat rfl ResOk.nil,rfl,rfl,Ent.sat ae i.sat⟩
set_option maxRecDepth 20000 in
def sT{L:LH}(g:FuncId)(cap:LV)(pr:LH→Prop)(pp:Fd→LH→Prop)(h:TriE ag g cap.toArray L (fun _ L'=>pr L') (fun ch L'=>∃x,ch=pnc x∧pp x L')) :
  Tri ag 43 #[.func (.func g) #[] cap.toArray] L (fun v L'=>∃x:Fd,v=.agg (cX x).toArray∧((x=(0,0,0)∧pr L')∨pp x L')):=by
 refine⟨en43,fun θ R w s=>calls_of_wp_defers Tryz.func43 rfl ?_⟩;have i:=AtD.mk (L:=L) (R:=R) (D:=[]) (EnvOk.d7 (N:=7) (fn:=Tryz.f43) (args:=[Value.func (.func g) #[] cap.toArray]) rfl (by simp)) rfl s;refine wp_seq (wp_region_lit ?_);refine CF i Ef.alloc ah ?_;rintro _ _ a1 w1 ⟨b,rfl,rfl⟩ i;show Code.wp _ _ _ _ _;refine wp_seq (wp_region_lit ?_);refine vy i (Ev.makeFunc rfl rfl) ah ?_;intro a2 w2 i;refine CG i rfl ?_;intro a3 w3 i;show Code.wp _ _ _ _ _;refine wp_seq (wp_region_lit ?_);refine vy i (Ev.move rfl) ah ?_;intro a4 w4 i;have a0:∀w,(invoke (.fn (.func 100) #[av b]) #[]).run ag w=.ok (.enter 100 #[av b]) w:=fun w=>(Hv).go _ _;refine CH (R':=[obj b tFnd (cX (0,0,0))]) i h rfl (Ent.perm (dR _ L).symm) ah ?_ ?_
 ·intro v L' a5 w5 b0 i;have i:=i.ent (Ent.perm (dR _ L'));show Code.wp _ _ _ _ _;refine wp_seq (wp_region_lit ?_);refine vy i (Ev.build rfl rfl) ah ?_;intro a6 w6 i;refine FI i (Ef.f7 (vs:=cX (0,0,0)) rfl rfl (by rfl) (by rfl) (na _)) ?_;rintro _ _ a7 w7 rfl i;show Code.wp _ _ _ _ _;refine wp_ret ?_;show Leaves _ _ _ _ a7.defers .returning w7;rw[i.def_];refine leaves_cons (by simp) (a0 w7) (CallsD.mono (Cr b (0,0,0) i.sat) ?_);rintro _ _ w8 ⟨rfl,rfl,s8⟩;exact⟨_,jN (rs:=[.cell 2 tFnd]) (vs:=[.agg (cX (0,0,0)).toArray]) i.eok s8 rfl (ResOk.cell rfl (by rfl) ResOk.nil),_,L',rfl,⟨(0,0,0),rfl,.inl ⟨rfl,b0⟩⟩,Ent.sat ae s8⟩
 ·rintro ch L' w5 ⟨x,rfl,a9⟩ i;have i:=i.ent (Ent.perm (dR _ L'));show Leaves _ _ _ _ a4.defers (.panicking (pnc x)) w5;rw[i.def_];refine leaves_cons (by simp) (a0 w5) (CallsD.mono (Cs b (0,0,0) x i.sat) ?_);rintro _ u' w8 ⟨rfl,a8,s8⟩;show Leaves _ _ _ _ [] (settle u') w8;rw[a8];exact⟨_,jN (rs:=[.cell 2 tFnd]) (vs:=[.agg (cX x).toArray]) i.eok s8 rfl (ResOk.cell rfl (by rfl) ResOk.nil),_,L',rfl,⟨x,rfl,.inr a9⟩,Ent.sat ae s8⟩
