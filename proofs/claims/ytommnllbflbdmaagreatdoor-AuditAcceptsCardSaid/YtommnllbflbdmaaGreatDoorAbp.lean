/- Lemmas. -/
import Derived.Test.YtommnllbflbdmaaGreatDoorAbn
set_option linter.all false
set_option maxHeartbeats 16000000
namespace Go.Proofs.YtommnllbflbdmaaGreatDoor
open Go.V
attribute [local irreducible] G GO GP GPW GPK Ev Ef EfR Ent CB GB V.Enters
def FS{sh:Int}{fl:List FlM}{mix:Int→Bool}{s:StM}{W:Wk}{m:MvM}(he:gErr sh (fl++W.flows) s W m=0)(h:1099511627776<cq W m∨(m.to≠0∧4096≤(gStk mix W m m.to m.item).length)):cm sh fl mix s W m=(4,W):=by
 unfold cm;rw[if_neg (fun q=>q he)];by_cases h1:cq W m>1099511627776
 ·rw[if_pos h1]
 ·rw[if_neg h1];rcases h with h|⟨h,h2⟩
  ·exact absurd h h1
  ·rw[if_neg h,if_pos h2]
def DU{sh:Int}{fl:List FlM}{mix:Int→Bool}{s:StM}{W:Wk}{m:MvM}(he:gErr sh (fl++W.flows) s W m=0)(hl:∀x∈gStk mix W m m.to m.item,LotOk x)(hn:1≤m.n)(h:¬(1099511627776<cq W m∨(m.to≠0∧4096≤(gStk mix W m m.to m.item).length))) :
  cm sh fl mix s W m=(0,⟨if m.to=0 then gStk mix W m else upd2 (gStk mix W m) m.to m.item (gStk mix W m m.to m.item++[(cB sh fl.length W,0,m.n)]),upd W.tot m.item (cq W m),W.flows++[eY sh fl.length mix s W m],if m.to=0 then W.sunk++[cB sh fl.length W] else W.sunk⟩):=by
 unfold cm;rw[if_neg (fun q=>q he),if_neg (fun q=>h (.inl q))];by_cases h1:m.to=0
 ·rw[if_pos h1,if_pos h1,if_pos h1]
 ·rw[if_neg h1,if_neg h1,if_neg h1,if_neg (fun q=>h (.inr ⟨h1,q⟩)),oX hl hn]
def FQ{sh:Int}{fl:List FlM}{mix:Int→Bool}{s:StM}{W:Wk}{m:MvM}(he:gErr sh (fl++W.flows) s W m≠0):cm sh fl mix s W m=(gErr sh (fl++W.flows) s W m,W):=by
 unfold cm;rw[if_pos he]
def BkW(S:LedM)(W:Wk)(x:BkX):Prop:=BkI S (S.flows++W.flows) (fC (S.flows++W.flows)) (fe (S.flows++W.flows)) W.stk W.tot x
def BkR(S:LedM)(x:BkX):Prop:=BkI S S.flows (fC S.flows) (fe S.flows) S.stk S.tot x
def vp{sh:Int}{nf:Nat}{mix:Int→Bool}{s:StM}{W:Wk}{m:MvM}(hm:MvA s.kind m)(fl:List FlM):fC (fl++[eY sh nf mix s W m])=fC fl++iaOf s m∧fe (fl++[eY sh nf mix s W m])=fe fl++raOf s m:=by
 rw[rC,rx];unfold iaOf raOf;constructor
 ·congr 1;by_cases h:s.kind=5
  ·rw[if_pos h,if_pos (show(eY sh nf mix s W m).kind=5 from h)];exact qw hm (.inl h)
  ·rw[if_neg h,if_neg (show ¬(eY sh nf mix s W m).kind=5 from h)]
 ·congr 1;by_cases h:s.kind=9∧m.frm=0
  ·rw[if_pos h,if_pos (show(eY sh nf mix s W m).kind=9∧(eY sh nf mix s W m).frm=0 from h)];exact qw hm (.inr h)
  ·rw[if_neg h,if_neg (show ¬((eY sh nf mix s W m).kind=9∧(eY sh nf mix s W m).frm=0) from h)]
abbrev DE:=ay8 [.ev 17,.ev 18,.ev 19,.ev 20,.ev 21,.ev 22,.ev 23,.ev 24,.ev 25,.ev 26,.ev 27,.ev 28,.ev 29,.ev 30,.ev 31,.ev 32,.ev 33,.ev 34,.ev 35,.ef 36,.ef 37]
def cx{φ ψ:Prop}(k:ψ)(h:Hid ψ→φ:=by intro k;(with_reducible apply G.d7);first|refine G.dr 118 9 DE (Hid.out k)):φ:=h ⟨k⟩
def Yp{φ ψ:Prop}(k:ψ)(h:Hid ψ→φ:=by intro k;(repeat (first|refine aa ?_|intro zzz|refine G.dr 118 9 DE ?_));(repeat revert zzz);exact Hid.out k):φ:=h ⟨k⟩
def Et{L:LH}(b:Nat)(S:LedM)(k:Nat)(hS:LedA k S)(hc:S.cat.Ok)(s:StV)(hs:StInG s)(c6:s.moves.length≤s.mcap)(hk:k+mvK s.m.moves≤2000)(f5:∀a i,(S.stk a i).length+lotsIn a i s.m.moves≤19)(x:BkX)(hx:BkR S x) :
  Tri ai 46 #[ax b,aN (aT s)] (bkL b S.shard x (stM s::stP s::L)) (fun v L'=>v=ac (gTry S s.m).1 ∧
   (((gTry S s.m).1=0∧∃x',BkR (cS S s.m) x'∧L' = bkL b S.shard x' (stM s::stP s::L))∨((gTry S s.m).1≠0∧L' = stM s::stP s::L))):=by
 obtain⟨b4,e2⟩:=hS.g.shard;have h6:=hS.g.steps;have h7:=hS.g.flows;have f6:=hs.len
 have g5:x.flows.length=S.flows.length:=by
  have:=congrArg List.length hx.flows
  rwa [aA] at this
 have d2:=hx.cat;have f9:=hx.count;have g0:=hx.tick;refine Tri.bd ?_;simp only[bkL,bP];by_cases h1:65536≤S.steps.length
 ·have e:gTry S s.m=(4,wk0 S):=by unfold gTry;rw[if_pos h1]
  rw[e];refine Yp ?_;intros;exact KX.d7 al ae ⟨rfl,.inr ⟨fun q=>absurd q ab,rfl⟩⟩
 refine Yp ?_;intros;rename_i b3;refine GO.ent (Ent.at (A:=stP s) (Ent.refl _)) ?_;refine GO.ent (Ent.at (A:=catP x.cat) (Ent.refl _)) ?_;refine GO.cr (Eu (b:=b) (sh:=S.shard) (x:=x) s (d2▸hc) hx.catB f6 c6 hs.parts hs.rule) ?_;have d5:dB (fN x.cat.m x.tick s.m)=dB (fN S.cat S.now s.m):=by rw[d2,g0]
 rw[d5];by_cases h2:fN S.cat S.now s.m
 case neg =>
  have e:gTry S s.m=(1,wk0 S):=by unfold gTry;rw[if_neg h1,if_pos h2]
  rw[e,aG h2];refine Yp ?_;intros;exact KX.d7 al ae ⟨rfl,.inr ⟨fun q=>absurd q ab,rfl⟩⟩
 have e:gTry S s.m=cZ S.shard S.flows (bA S.cat) (s.m.at (aO S)) (wk0 S) s.m.moves:=by unfold gTry;rw[if_neg h1,if_neg (fun h=>h h2)]
 rw[aS h2];have e0:s.moves.length≤64:=by have:=h2.2.2.2.1.2;simpa [StV.m] using this
 have e5:BkW S (wk0 S) x:=by
  unfold BkW;rw[show S.flows++(wk0 S).flows=S.flows from aQ _];exact hx
 refine Yp ?_;intros
 refine G.loop (α:=Nat×BkX×Wk×OA×Nat) (fun g=>g.1≤s.moves.length∧BkW S g.2.2.1 g.2.1∧WkA S.shard S.flows (k+mvK (s.m.moves.take g.1)) g.2.2.1∧g.2.2.1.flows.length=g.1∧(∀a i,(g.2.2.1.stk a i).length+lotsIn a i (s.m.moves.drop g.1)≤19)∧cZ S.shard S.flows (bA S.cat) (s.m.at (aO S)) (wk0 S) s.m.moves=cZ S.shard S.flows (bA S.cat) (s.m.at (aO S)) g.2.2.1 (s.m.moves.drop g.1))
  (fun g=>[(0,ax b),(3,ax b3),(5,ah g.2.2.2.1 g.2.2.1.sunk.length g.2.2.2.2),(21,ah s.mad s.moves.length s.mcap),(22,ac s.moves.length),(23,ac (g.1:Int))])
  (fun g=>bkL b S.shard g.2.1 (osl (encZ .i64) 1 tInt g.2.2.2.1 g.2.2.2.2 g.2.2.1.sunk::obj b3 be (aT s)::stM s::stP s::L)) (fun g=>s.moves.length - g.1) (0,x,wk0 S,none,0) ⟨aw _,e5,sL hS,rfl,f5,rfl⟩ av ?_ ?_
 ·refine Ent.trans (Ent.d8 (encZ .i64) 1 tInt) ?_;have f2:(wk0 S).sunk=[]:=rfl;simp only[bkL,bP,f2];exact ae
 rintro⟨i,y,W,iad,icap⟩ ⟨hi,hB,hA,d1,hK,a1⟩;dsimp only at hi hB hA d1 hK a1 ⊢
 have g6:y.flows.length=S.flows.length+W.flows.length:=by
  have:=congrArg List.length hB.flows
  rwa [aA,ay] at this
 have h3:=hA.g.sunk;have c9:=hB.count;simp only[bkL,bP];by_cases d0:i<s.moves.length
 case neg =>
  have c0:s.m.moves.drop i=[]:=bC (by show(s.moves.map MvV.m).length≤i;rw[aA];omega);rw[c0] at a1;have e3:gTry S s.m=(0,W):=by rw[e,a1];rfl
  have he:(gTry S s.m).1=0:=by rw[e3]
  have e1:cS S s.m=gt S s.m:=if_pos he;rw[e1,he];refine Yp ?_;intros;refine KX.d7 al ?_ ⟨rfl,.inl ⟨rfl,{ y with count:=y.count+1,tick:=s.tick },⟨hB.cat,hB.catB,?_,?_,?_,?_,?_,?_,?_,?_⟩,rfl⟩⟩
  ·simp only[bkL,bP];exact ae
  ·show y.count+1=((S.steps++[s.m.at (aO S)]).length:Int);rw[ay,aJ,c9];omega
  ·show s.tick=(gt S s.m).now;unfold LedM.now gt;simp only[List.getLast?_append,List.getLast?_singleton];rfl
  ·show y.flows.map (·.m)=S.flows++(gTry S s.m).2.flows;rw[e3];exact hB.flows
  ·intro a i;show(eA y.stk (a,i)).lots=(gTry S s.m).2.stk a i;rw[e3];exact hB.stk a i
  ·intro a i;show((gTry S s.m).2.stk a i).length≤_;rw[e3];exact hB.cap a i
  ·intro i;show _=(gTry S s.m).2.tot i;rw[e3];exact hB.tot i
  ·show lW y.imp (fC (S.flows++(gTry S s.m).2.flows));rw[e3];exact hB.imp
  ·show lW y.ret (fe (S.flows++(gTry S s.m).2.flows));rw[e3];exact hB.ret
 have f4:(i:Int).toNat=i:=aC i;have a8 : (i:Int).toNat<s.moves.length:=ab;have c3:s.moves[(i:Int).toNat]!.m=s.m.moves[i]!:=by rw[f4];exact(el MvV.m d0).symm
 have b2:i<s.m.moves.length:=by show i<(s.moves.map MvV.m).length;rw[aA];exact d0
 have c0:s.m.moves.drop i=s.moves[(i:Int).toNat]!.m::s.m.moves.drop (i+1):=by rw[c3];exact eZ b2
 have b1:mvAP S.cat.items.length s.kind s.moves[(i:Int).toNat]!.m:=(possG_A.1 h2).2.2.2.2.1 _ (by rw[c3];exact aI b2);have a4:MvA (s.m.at (aO S)).kind s.moves[(i:Int).toNat]!.m:=vb h2.1 b1;have b6:=aI a8;have e4:=hs.bd _ b6;have d3:=sn b2;have h5:=xM s.m.moves (i+1);rw[←c3] at d3;rw[c0] at a1 hK;have a9:cZ S.shard S.flows (bA S.cat) (s.m.at (aO S)) W (s.moves[(i:Int).toNat]!.m::s.m.moves.drop (i+1))=if(cm S.shard S.flows (bA S.cat) (s.m.at (aO S)) W s.moves[(i:Int).toNat]!.m).1=0 then cZ S.shard S.flows (bA S.cat) (s.m.at (aO S)) (cm S.shard S.flows (bA S.cat) (s.m.at (aO S)) W s.moves[(i:Int).toNat]!.m).2 (s.m.moves.drop (i+1)) else((cm S.shard S.flows (bA S.cat) (s.m.at (aO S)) W s.moves[(i:Int).toNat]!.m).1,W):=rfl;rw[a9] at a1;clear a9;have g4:=fun a j=>mu a j [s.moves[(i:Int).toNat]!.m] (s.m.moves.drop (i+1));have a3:=uB (mix:=bA S.cat) (s:=s.m.at (aO S)) b4 hA a4 ab;have c2:=fun he=>vw (mix:=bA S.cat) (s:=s.m.at (aO S)) hA.g a4.g he
 have f1:(W.stk s.moves[(i:Int).toNat]!.m.frm s.moves[(i:Int).toNat]!.m.item).length<20:=by
  have:=hK s.moves[(i:Int).toNat]!.m.frm s.moves[(i:Int).toNat]!.m.item
  omega
 have b0:=DU (fl:=S.flows) (sh:=S.shard) (mix:=bA S.cat) (s:=s.m.at (aO S)) (W:=W) (m:=s.moves[(i:Int).toNat]!.m);have a6:=FS (fl:=S.flows) (sh:=S.shard) (mix:=bA S.cat) (s:=s.m.at (aO S)) (W:=W) (m:=s.moves[(i:Int).toNat]!.m);have a5:=FQ (fl:=S.flows) (sh:=S.shard) (mix:=bA S.cat) (s:=s.m.at (aO S)) (W:=W) (m:=s.moves[(i:Int).toNat]!.m);have c8:=fun he a j=>qv (mix:=bA S.cat) (s:=s.m.at (aO S)) hA.g a4.g ab he a j;have d4:=vp (sh:=S.shard) (nf:=S.flows.length) (mix:=bA S.cat) (W:=W) a4 (S.flows++W.flows);refine G.ent (L':=isl aj 3 s.moves[(i:Int).toNat]!.pad s.moves[(i:Int).toNat]!.m.parts::bkL b S.shard y (osl (encZ .i64) 1 tInt iad icap W.sunk::obj b3 be (aT s)::stM s::stP s::L)) ((Ent.at (A:=stP s) (ob a8)).trans (by simp only[bkL,bP];exact ae)) ?_;simp only[bkL,bP];refine Yp ?_;intros;refine GPW.evP (Ev.n7 rfl rfl ab ab) ag ?_;refine Yp ?_;intros;refine GPW.evP (Ev.n7 rfl rfl ab ab) ag ?_;refine Yp ?_;intros;have b9:S.shard*4294967296+(y.flows.length:Int)=cB S.shard S.flows.length W:=by unfold cB;omega
 have c4:S.shard*4294967296+y.count=aO S:=by unfold aO;rw[c9]
 rw[b9,c4];rename_i b7 b8;generalize s.moves[(i:Int).toNat]! = m at *;refine GO.ent (L':=isl aj 3 m.pad m.m.parts::bkL b S.shard y (obj b8 cz [ac (cB S.shard S.flows.length W),ac (aO S),ac s.kind,ac s.tick,ac s.actor,ac m.m.frm,ac m.m.to,ac m.m.item,ac m.m.n,ah none 0 0,ah none 0 0]::obj b7 tMv (aM m)::osl (encZ .i64) 1 tInt iad icap W.sunk::obj b3 be (aT s)::stM s::stP s::L)) (by simp only[bkL,bP];exact ae) ?_;refine GO.ca (yZ b S hS.g.shard (k+mvK (s.m.moves.take i)) y W ab hB hA (s.m.at (aO S)) m a4 ab b1.1 e4 f1) ?_;rintro _ _ (⟨he,pad,pcap,x',rfl,d6,rfl⟩|⟨he,ad,n,c,rfl,rfl⟩)
 case inr =>
  have e3:gTry S s.m=(gErr S.shard (S.flows++W.flows) (s.m.at (aO S)) W m.m,W):=by rw[e,a1,a5 he,if_neg he]
  rw[e3];generalize gErr S.shard (S.flows++W.flows) (s.m.at (aO S)) W m.m=er at *;refine Yp ?_;intros;exact KX.en ⟨rfl,.inr ⟨he,rfl⟩⟩
 have hn:=a4.g.n;have c1:∀z∈gStk (bA S.cat) W m.m m.m.to m.m.item,LotOk z:=(c8 he _ _).lots;have e6:=(c8 he m.m.to m.m.item).len;have h8:=hA.g.tot m.m.item;simp only[bkL,bP];repeat first|((fail_if_success (with_reducible refine G.d9 14 ?_));(with_reducible apply G.seq))|refine bW ?_|intro _|refine cx ?_
 refine G.d8 (α:=OA×Nat) (fun _=>True) (fun _=>[(0,ax b),(3,ax b3),(5,ah iad W.sunk.length icap),(7,ax b7),(8,ax b8),(21,ah s.mad s.moves.length s.mcap),(22,ac s.moves.length),(23,ac (i:Int))]) (fun z=>isl aj 3 pad (gPts (bA S.cat) (s.m.at (aO S)) W m.m)::isl (encZ .i64) 1 z.1 (cX (s.m.at (aO S)) W m.m)::bkL b S.shard x' (obj b8 cz [ac (cB S.shard S.flows.length W),ac (aO S),ac s.kind,ac s.tick,ac s.actor,ac m.m.frm,ac m.m.to,ac m.m.item,ac m.m.n,ah pad (gPts (bA S.cat) (s.m.at (aO S)) W m.m).length pcap,ah z.1 (cX (s.m.at (aO S)) W m.m).length z.2]::obj b7 tMv (aM m)::osl (encZ .i64) 1 tInt iad icap W.sunk::obj b3 be (aT s)::stM s::stP s::L)) ?_ ?_
 ·by_cases hq:m.m.frm=0∧(s.kind=4∨s.kind=10)
  ·have em:(cX (s.m.at (aO S)) W m.m)=W.sunk:=if_pos hq;rw[em];obtain⟨h0,hq⟩:=hq;by_cases h4:s.kind=4
   ·refine Yp ?_;intros;refine GO.ca (iZ iad W.sunk.length icap W.sunk rfl ab) ?_;rintro _ _⟨mad,mcap,rfl,rfl⟩;refine Yp ?_;intros;exact⟨(mad,mcap),trivial,av,(Ent.frz mad).trans (by simp only[bkL,bP];exact ae)⟩
   ·have f3:s.kind=10:=hq.resolve_left h4;refine Yp ?_;intros;refine GO.ca (iZ iad W.sunk.length icap W.sunk rfl ab) ?_;rintro _ _⟨mad,mcap,rfl,rfl⟩;refine Yp ?_;intros;exact⟨(mad,mcap),trivial,av,(Ent.frz mad).trans (by simp only[bkL,bP];exact ae)⟩
  ·have em:(cX (s.m.at (aO S)) W m.m)=[]:=if_neg hq;rw[em];by_cases h0:m.m.frm=0
   ·have h4:¬s.kind=4:=fun q=>hq ⟨h0,.inl q⟩;have f3:¬s.kind=10:=fun q=>hq ⟨h0,.inr q⟩;refine Yp ?_;intros;refine⟨(none,0),trivial,av,?_⟩;refine Ent.trans ?_ (Ent.d7 (Ent.e8 (encZ .i64) 1 none));simp only[bkL,bP];exact ae
   ·refine Yp ?_;intros;refine⟨(none,0),trivial,av,?_⟩;refine Ent.trans ?_ (Ent.d7 (Ent.e8 (encZ .i64) 1 none));simp only[bkL,bP];exact ae
 rintro⟨mad,mcap⟩ _;simp only[bkL,bP];refine G.d8 (α:=OA×Nat) (fun _=>True) (fun z=>[(0,ax b),(3,ax b3),(5,ah z.1 (if m.m.to=0 then W.sunk++[cB S.shard S.flows.length W] else W.sunk).length z.2),(7,ax b7),(8,ax b8),(21,ah s.mad s.moves.length s.mcap),(22,ac s.moves.length),(23,ac (i:Int))]) (fun z=>isl aj 3 pad (gPts (bA S.cat) (s.m.at (aO S)) W m.m)::isl (encZ .i64) 1 mad (cX (s.m.at (aO S)) W m.m)::bkL b S.shard x' (obj b8 cz [ac (cB S.shard S.flows.length W),ac (aO S),ac s.kind,ac s.tick,ac s.actor,ac m.m.frm,ac m.m.to,ac m.m.item,ac m.m.n,ah pad (gPts (bA S.cat) (s.m.at (aO S)) W m.m).length pcap,ah mad (cX (s.m.at (aO S)) W m.m).length mcap]::obj b7 tMv (aM m)::osl (encZ .i64) 1 tInt z.1 z.2 (if m.m.to=0 then W.sunk++[cB S.shard S.flows.length W] else W.sunk)::obj b3 be (aT s)::stM s::stP s::L)) ?_ ?_
 ·by_cases h0:m.m.to=0
  ·rw[if_pos h0];refine Yp ?_;intros;refine GO.ef (Ef.d7 (enc:=encZ .i64) (e:=cB S.shard S.flows.length W) rfl rfl rfl rfl rfl aK (ni _ _) ab ab) ag ?_;rintro _ _⟨a2,a0,rfl,rfl⟩;refine Yp ?_;intros;exact⟨(a2,a0),trivial,av,by simp only[bkL,bP];exact ae⟩
  ·rw[if_neg h0];refine Yp ?_;intros;exact⟨(iad,icap),trivial,av,by simp only[bkL,bP];exact ae⟩
 rintro⟨a2,a0⟩ _;simp only[bkL,bP];refine Yp ?_;intros;refine GO.ent (L':=isl aj 3 pad (gPts (bA S.cat) (s.m.at (aO S)) W m.m)::isl (encZ .i64) 1 mad (cX (s.m.at (aO S)) W m.m)::bkL b S.shard x' (obj b8 cz [ac (cB S.shard S.flows.length W),ac (aO S),ac s.kind,ac s.tick,ac s.actor,ac m.m.frm,ac m.m.to,ac m.m.item,ac m.m.n,ah pad (gPts (bA S.cat) (s.m.at (aO S)) W m.m).length pcap,ah mad (cX (s.m.at (aO S)) W m.m).length mcap]::obj b7 tMv (aM m)::osl (encZ .i64) 1 tInt a2 a0 (if m.m.to=0 then W.sunk++[cB S.shard S.flows.length W] else W.sunk)::obj b3 be (aT s)::stM s::stP s::L)) (by simp only[bkL,bP];exact ae) ?_;refine GO.ca (Bo b S x' (S.flows++W.flows) (fC (S.flows++W.flows)++iaOf (s.m.at (aO S)) m.m) (fe (S.flows++W.flows)++raOf (s.m.at (aO S)) m.m) (gStk (bA S.cat) W m.m) W.tot d6 (by rw[ay];omega) ⟨⟨cB S.shard S.flows.length W,aO S,s.kind,s.tick,s.actor,m.m.frm,m.m.to,m.m.item,m.m.n,(gPts (bA S.cat) (s.m.at (aO S)) W m.m),(cX (s.m.at (aO S)) W m.m)⟩,pad,pcap,mad,mcap⟩ hn fm fm) ?_;rintro _ _ (⟨c7,rfl,rfl⟩|⟨a7,rfl,x2,f0,rfl⟩)
 ·have e3:gTry S s.m=(4,W):=by rw[e,a1,a6 he c7,if_neg (fun q=>absurd (show(4:Int)=0 from q) ag)]
  rw[e3];refine Yp ?_;intros;exact KX.d7 al ae ⟨rfl,.inr ⟨fun q=>absurd q ab,rfl⟩⟩
 have hg:=b0 he c1 hn.1 a7;rw[hg] at a1 a3 c2;rw[if_pos rfl] at a1;have b5:=a3 rfl;have c5:=c2 rfl;clear a3 c2 hg b0 a6 a5;simp only[bkL,bP];refine Yp ?_;intros;refine⟨(i+1,x2,⟨if m.m.to=0 then gStk (bA S.cat) W m.m else upd2 (gStk (bA S.cat) W m.m) m.m.to m.m.item (gStk (bA S.cat) W m.m m.m.to m.m.item++[(cB S.shard S.flows.length W,0,m.m.n)]),upd W.tot m.m.item (cq W m.m),W.flows++[eY S.shard S.flows.length (bA S.cat) (s.m.at (aO S)) W m.m],if m.m.to=0 then W.sunk++[cB S.shard S.flows.length W] else W.sunk⟩,a2,a0),⟨by dsimp only;omega,?_,?_,?_,fun a j=>?_,a1⟩,by dsimp only;omega,?_,?_⟩
 ·dsimp only;unfold BkW;dsimp only;rw[←aH,d4.1,d4.2];exact f0
 ·dsimp only;rw[d3,←dy,←dy];exact b5
 ·dsimp only;rw[ay,aJ,d1]
 ·have g1:=hK a j;have g2:=g4 a j;have g3:=c5 a j;dsimp only at g3 ⊢;rw[show m.m::s.m.moves.drop (i+1)=[m.m]++s.m.moves.drop (i+1) from rfl] at g1;omega
 ·dsimp only;rw[aV i];exact av
 ·exact ae
end Go.Proofs.YtommnllbflbdmaaGreatDoor
namespace Go.V
class TyIB (P:Program) (T:Nat) (ks:outParam (List Bool)):Prop where
 under:P.underlying T=some (.struct (P.fieldsOf T))
 free:P.stoodInHeld T=false
 guard:P.eqGuardType P.depth T=false
 flds : (P.fieldsOf T).toList.map (fun f => (f.name == "_", f.offset, P.underlying f.type)) = (List.range ks.length).map fun i => (false, i, some (if ks[i]! then TypeDesc.bool else .int .i64))
end Go.V
namespace Go.Proofs.YtommnllbflbdmaaGreatDoor
section
open Go.V
attribute [local irreducible] G GO GP GPW GPK Ev Ef EfR Ent CB GB V.Enters
def uv{α:Type}[Inhabited α]{xs ys:List α}(hl:xs.length=ys.length)(h:∀j,j<xs.length→xs[j]! = ys[j]!):xs=ys:=by
 refine dS hl (fun j h1 h2=>?_);have:=h j h1
 rwa [getElem!_of h1,getElem!_of h2] at this
abbrev Ax:=ay5 [.ev 8]
def YK{φ ψ:Prop}(k:ψ)(h:Hid ψ→φ:=by intro k;(repeat (first|refine aa ?_|intro zzz|refine G.dr 26 6 Ax ?_));(repeat revert zzz);exact Hid.out k):φ:=h ⟨k⟩
def Ed{L:LH}(a0 ad2:OA)(n1 n2 c1 c2:Nat)(xs ys:LL)[Rds L a0 Lot aj 3 xs][Rds L ad2 Lot aj 3 ys](h1:n1=xs.length)(h2:n2=ys.length)(hl:ys.length≤1000000000) :
  Tri ai 105 #[ah a0 n1 c1,ah ad2 n2 c2] L (fun v L'=>v=.bool (dB (xs=ys))∧L' = L):=by
 subst h1 h2;refine Tri.bd ?_;by_cases he:xs.length=ys.length
 case neg =>
  refine YK ?_;intros;exact KX.d7 al (Ent.refl _) ⟨by rw[aG (fun q:xs=ys=>he (by rw[q]))];rfl,rfl⟩
 refine YK ?_;intros;refine G.loop (α:=Nat) (fun i=>i≤xs.length∧∀j,j<i→xs[j]! = ys[j]!) (fun i=>[(0,ah a0 xs.length c1),(1,ah ad2 ys.length c2),(11,ah a0 xs.length c1),(12,ac xs.length),(13,ac (i:Int))]) (fun _=>L) (fun i=>xs.length - i) 0 ⟨aw _,fun j h=>absurd h (cl j)⟩ av (Ent.refl _) ?_;rintro i ⟨hi,a3⟩;by_cases a6:i<xs.length
 case neg =>
  have e:xs=ys:=uv he (fun j hj=>a3 j ab);refine YK ?_;intros;exact KX.d7 al (Ent.refl _) ⟨by rw[aS e];rfl,rfl⟩
 have a5:(i:Int).toNat=i:=aC i;have a7 : (i:Int).toNat<xs.length:=ab;have a8 : (i:Int).toNat<ys.length:=ab;have a4:¬xs[(i:Int).toNat]! = ys[(i:Int).toNat]!→dB (xs=ys)=false:=fun q=>aG (fun r=>q (by rw[r]))
 have a1:xs[(i:Int).toNat]! = ys[(i:Int).toNat]!→∀j,j<i+1→xs[j]! = ys[j]!:=fun q j hj=>by
  rcases cc j i with h|h
  ·exact a3 j h
  ·obtain rfl:j=i:=ab;rw[a5] at q;exact q
 refine YK ?_;intros;obtain⟨x,hx⟩:∃x,xs[(i:Int).toNat]! = x:=⟨_,rfl⟩;obtain⟨y,hy⟩:∃y,ys[(i:Int).toNat]! = y:=⟨_,rfl⟩
 have a2:x=y↔[x.1,x.2.1,x.2.2]=[y.1,y.2.1,y.2.2]:=by
  obtain⟨a,b,c⟩:=x;obtain⟨d,e,f⟩:=y;simp
 rw[hx,hy];rw[hx,hy] at a4 a1;refine GPW.evP (Ev.o9 (xs:=[x.1,x.2.1,x.2.2]) (ys:=[y.1,y.2.1,y.2.2]) (cs:=aj x) (ds:=aj y) (hc:=⟨rfl⟩) (hd:=⟨rfl⟩) rfl rfl rfl rfl) ag ?_;by_cases q:x=y
 ·rw[aG (fun h:¬ [x.1,x.2.1,x.2.2]=[y.1,y.2.1,y.2.2]=>h (a2.1 q))];refine YK ?_;intros;refine⟨i+1,⟨ab,a1 q⟩,ab,?_,Ent.refl _⟩;rw[aV i];exact av
 ·rw[aS (show ¬ [x.1,x.2.1,x.2.2]=[y.1,y.2.1,y.2.2] from fun h=>q (a2.2 h))];refine YK ?_;intros;exact KX.d7 al (Ent.refl _) ⟨by rw[a4 q];rfl,rfl⟩
abbrev Aw:=ay5 [.ev 8]
def YQ{φ ψ:Prop}(k:ψ)(h:Hid ψ→φ:=by intro k;(repeat (first|refine aa ?_|intro zzz|refine G.dr 26 6 Aw ?_));(repeat revert zzz);exact Hid.out k):φ:=h ⟨k⟩
def Ee{L:LH}(a0 ad2:OA)(n1 n2 c1 c2:Nat)(xs ys:List Int)[Rds L a0 Int (encZ .i64) 1 xs][Rds L ad2 Int (encZ .i64) 1 ys](h1:n1=xs.length)(h2:n2=ys.length)(hl:ys.length≤1000000000) :
  Tri ai 106 #[ah a0 n1 c1,ah ad2 n2 c2] L (fun v L'=>v=.bool (dB (xs=ys))∧L' = L):=by
 subst h1 h2;refine Tri.bd ?_;by_cases he:xs.length=ys.length
 case neg =>
  refine YQ ?_;intros;exact KX.d7 al (Ent.refl _) ⟨by rw[aG (fun q:xs=ys=>he (by rw[q]))];rfl,rfl⟩
 refine YQ ?_;intros;refine G.loop (α:=Nat) (fun i=>i≤xs.length∧∀j,j<i→xs[j]! = ys[j]!) (fun i=>[(0,ah a0 xs.length c1),(1,ah ad2 ys.length c2),(11,ah a0 xs.length c1),(12,ac xs.length),(13,ac (i:Int))]) (fun _=>L) (fun i=>xs.length - i) 0 ⟨aw _,fun j h=>absurd h (cl j)⟩ av (Ent.refl _) ?_;rintro i ⟨hi,a1⟩;by_cases a5:i<xs.length
 case neg =>
  have e:xs=ys:=uv he (fun j hj=>a1 j ab);refine YQ ?_;intros;exact KX.d7 al (Ent.refl _) ⟨by rw[aS e];rfl,rfl⟩
 have a4:(i:Int).toNat=i:=aC i;have a6 : (i:Int).toNat<xs.length:=ab;have a7 : (i:Int).toNat<ys.length:=ab;have a3:¬xs[(i:Int).toNat]! = ys[(i:Int).toNat]!→dB (xs=ys)=false:=fun q=>aG (fun r=>q (by rw[r]))
 have a2:xs[(i:Int).toNat]! = ys[(i:Int).toNat]!→∀j,j<i+1→xs[j]! = ys[j]!:=fun q j hj=>by
  rcases cc j i with h|h
  ·exact a1 j h
  ·obtain rfl:j=i:=ab;rw[a4] at q;exact q
 by_cases q:xs[(i:Int).toNat]! = ys[(i:Int).toNat]!
 ·refine YQ ?_;intros;refine⟨i+1,⟨ab,a2 q⟩,ab,?_,Ent.refl _⟩;rw[aV i];exact av
 ·refine YQ ?_;intros;exact KX.d7 al (Ent.refl _) ⟨by rw[a3 q];rfl,rfl⟩
def vP{L:LH}(f g:FlV)[Rds L f.pad Lot aj 3 f.m.parts][Rds L g.pad Lot aj 3 g.m.parts][Rds L f.mad Int (encZ .i64) 1 f.m.made][Rds L g.mad Int (encZ .i64) 1 g.m.made](h1:g.m.parts.length≤1000000000)(h2:g.m.made.length≤1000000000) :
  Tri ai 48 #[aN (bL f),aN (bL g)] L (fun v L'=>v=.bool (dB (f.m=g.m))∧L' = L):=by
 refine Tri.bd ?_;have a0:∀{p:Prop},¬p→(f.m=g.m→p)→dB (f.m=g.m)=false:=fun h q=>aG (fun r=>h (q r));simp only[bL];simp only[List.append];by_cases c0:f.m.id=g.m.id
 case neg =>
  refine Jq ?_;intros;exact KX.d7 al ae ⟨by rw[a0 c0 (fun q=>by rw[q])];rfl,rfl⟩
 by_cases c1:f.m.step=g.m.step
 case neg =>
  refine Jq ?_;intros;exact KX.d7 al ae ⟨by rw[a0 c1 (fun q=>by rw[q])];rfl,rfl⟩
 by_cases c2:f.m.kind=g.m.kind
 case neg =>
  refine Jq ?_;intros;exact KX.d7 al ae ⟨by rw[a0 c2 (fun q=>by rw[q])];rfl,rfl⟩
 by_cases c3:f.m.tick=g.m.tick
 case neg =>
  refine Jq ?_;intros;exact KX.d7 al ae ⟨by rw[a0 c3 (fun q=>by rw[q])];rfl,rfl⟩
 by_cases c4:f.m.actor=g.m.actor
 case neg =>
  refine Jq ?_;intros;exact KX.d7 al ae ⟨by rw[a0 c4 (fun q=>by rw[q])];rfl,rfl⟩
 by_cases c5:f.m.frm=g.m.frm
 case neg =>
  refine Jq ?_;intros;exact KX.d7 al ae ⟨by rw[a0 c5 (fun q=>by rw[q])];rfl,rfl⟩
 by_cases c6:f.m.to=g.m.to
 case neg =>
  refine Jq ?_;intros;exact KX.d7 al ae ⟨by rw[a0 c6 (fun q=>by rw[q])];rfl,rfl⟩
 by_cases c7:f.m.item=g.m.item
 case neg =>
  refine Jq ?_;intros;exact KX.d7 al ae ⟨by rw[a0 c7 (fun q=>by rw[q])];rfl,rfl⟩
 by_cases c8:f.m.n=g.m.n
 case neg =>
  refine Jq ?_;intros;exact KX.d7 al ae ⟨by rw[a0 c8 (fun q=>by rw[q])];rfl,rfl⟩
 refine Jq ?_;intros;refine GO.cr (Ed f.pad g.pad f.m.parts.length g.m.parts.length f.pcap g.pcap f.m.parts g.m.parts rfl rfl h1) ?_;by_cases c9:f.m.parts=g.m.parts
 case neg =>
  rw[aG c9];refine Jq ?_;intros;exact KX.d7 al ae ⟨by rw[a0 c9 (fun q=>by rw[q])];rfl,rfl⟩
 rw[aS c9];refine Jq ?_;intros;refine GO.cr (Ee f.mad g.mad f.m.made.length g.m.made.length f.mcap g.mcap f.m.made g.m.made rfl rfl h2) ?_;refine Jq ?_;intros;refine KX.d7 al ae ⟨?_,rfl⟩;by_cases ca:f.m.made=g.m.made
 ·have e:f.m=g.m:=by
   obtain⟨⟨i1,i2,i3,i4,i5,i6,i7,i8,i9,ia,ib⟩,_⟩:=f;obtain⟨⟨j1,j2,j3,j4,j5,j6,j7,j8,j9,ja,jb⟩,_⟩:=g;dsimp only at c0 c1 c2 c3 c4 c5 c6 c7 c8 c9 ca;rw[c0,c1,c2,c3,c4,c5,c6,c7,c8,c9,ca]
  rw[aS ca,aS e];rfl
 ·rw[aG ca,a0 ca (fun q=>by rw[q])];rfl
def Ge{L:LH}(a0 ad2:OA)(n1 n2 c1 c2:Nat)(fs gs:List FlV)[Rds L a0 FlV bL 11 fs][Rds L ad2 FlV bL 11 gs](h1:n1=fs.length)(h2:n2=gs.length)(hl:gs.length≤1000000000)(hp:∀f∈gs,f.m.parts.length≤1000000000∧f.m.made.length≤1000000000)(hA:∀f∈fs,Ent L (flP f::L))(hB:∀f∈gs,Ent L (flP f::L)) :
  Tri ai 47 #[ah a0 n1 c1,ah ad2 n2 c2,.func (.func 48) #[] #[]] L (fun v L'=>v=.bool (dB (fs.map FlV.m=gs.map FlV.m))∧L' = L):=by
 subst h1 h2;refine Tri.bd ?_;by_cases he:fs.length=gs.length
 case neg =>
  refine Jq ?_;intros;exact KX.d7 al (Ent.refl _) ⟨by rw[aG (fun q:fs.map FlV.m=gs.map FlV.m=>he (by simpa using congrArg List.length q))];rfl,rfl⟩
 refine Jq ?_;intros;refine G.loop (α:=Nat) (fun i=>i≤fs.length∧∀j,j<i→fs[j]!.m=gs[j]!.m) (fun i=>[(0,ah a0 fs.length c1),(1,ah ad2 gs.length c2),(2,.func (.func 48) #[] #[]),(15,ah a0 fs.length c1),(16,ac fs.length),(17,ac (i:Int))]) (fun _=>L) (fun i=>fs.length - i) 0 ⟨aw _,fun j h=>absurd h (cl j)⟩ av (Ent.refl _) ?_;rintro i ⟨hi,a2⟩;by_cases a8:i<fs.length
 case neg =>
  have e:fs.map FlV.m=gs.map FlV.m:=uv (by simpa using he) (fun j hj=>by
   rw[aA] at hj;rw[el FlV.m hj,el FlV.m ab];exact a2 j ab)
  refine Jq ?_;intros;exact KX.d7 al (Ent.refl _) ⟨by rw[aS e];rfl,rfl⟩
 have a7:(i:Int).toNat=i:=aC i;have a3 : (i:Int).toNat<fs.length:=ab;have a1 : (i:Int).toNat<gs.length:=ab
 have a6:¬fs[(i:Int).toNat]!.m=gs[(i:Int).toNat]!.m→dB (fs.map FlV.m=gs.map FlV.m)=false:=fun q=>aG (fun r=>q (by
  rw[←el FlV.m a3,←el FlV.m a1,r]))
 have a4:=hp _ (aI a1)
 have a5:fs[(i:Int).toNat]!.m=gs[(i:Int).toNat]!.m→∀j,j<i+1→fs[j]!.m=gs[j]!.m:=fun q j hj=>by
  rcases cc j i with h|h
  ·exact a2 j h
  ·obtain rfl:j=i:=ab;rw[a7] at q;exact q
 refine G.ent (L':=isl aj 3 fs[(i:Int).toNat]!.pad fs[(i:Int).toNat]!.m.parts::isl (encZ .i64) 1 fs[(i:Int).toNat]!.mad fs[(i:Int).toNat]!.m.made::isl aj 3 gs[(i:Int).toNat]!.pad gs[(i:Int).toNat]!.m.parts::isl (encZ .i64) 1 gs[(i:Int).toNat]!.mad gs[(i:Int).toNat]!.m.made::L) ?_ ?_
 ·refine(hA _ (aI a3)).trans (Ent.andE.trans ?_);refine Ent.trans (Ent.d7 (Ent.d7 ((hB _ (aI a1)).trans Ent.andE))) ?_;exact ae
 refine Jq ?_;intros;refine GO.ef (Ef.d8 rfl rfl (vP fs[(i:Int).toNat]! gs[(i:Int).toNat]! a4.1 a4.2)) ag ?_;rintro _ _⟨rfl,rfl⟩;by_cases q:fs[(i:Int).toNat]!.m=gs[(i:Int).toNat]!.m
 ·rw[aS q];refine Jq ?_;intros;refine⟨i+1,⟨ab,a5 q⟩,ab,?_,by exact ae⟩;rw[aV i];exact av
 ·rw[aG q];refine Jq ?_;intros;exact KX.d7 al ae ⟨by rw[a6 q];rfl,rfl⟩
abbrev tFnd:Nat:=46
abbrev Fd:=Int×Int×Int
def gA(x:Fd):LV:=[ac x.1,ac x.2.1,ac x.2.2]
def nC(t:Fd):∀u∈gA t,u.oneCell' = true:=by simp[gA,Value.oneCell']
instance:EncC gA:=⟨nC⟩
def pnc(x:Fd):List PanicEntry:=[{ v:=.iface tFnd (aN (gA x)),recovered:=false }]
set_option maxRecDepth 20000 in
def Em{L R:LH}{θ:Th}{w:World}(b:Nat)(x:Fd)(s:Sat θ ((obj b tFnd (gA x)::L)++R) w) :
  CallsD ai 100 #[ax b] .returning w (fun e u' w'=>e=.returned (.tuple #[])∧u' = .returning∧Sat θ ((obj b tFnd (gA x)::L)++R) w'):=by
 refine callsD_of_wpS Tryz.func100 rfl fun c₀ cs hu=>?_;have i:=AtD.mk (L:=obj b tFnd (gA x)::L) (R:=R) (D:=[]) (EnvOk.d7 (N:=10) (fn:=Tryz.f100) (args:=[ax b]) rfl bZ) rfl s;have a0:recoverD (c₀::cs)=none:=by simp[recoverD,hu]
 refine wpS_seq (wpS_region ?_);show wpOpsS _ _ _ [0,1,2,3,4,5,6,7] _ _ _;refine Gv rfl i a0 ag ?_;intro a1 w1 i;refine jA rfl i (Ev.A8 (z:=.agg #[ac 0,ac 0,ac 0]) krStd0 rfl) ag ?_;intro a2 w2 i;refine jA rfl i (Ev.move rfl) ag ?_;intro a3 w3 i;refine jA rfl i (Ev.extract rfl rfl) ag ?_;intro a4 w4 i;refine jA rfl i (Ev.extract rfl rfl) ag ?_;intro a5 w5 i;refine wt rfl i Ef.alloc ag ?_;rintro _ _ a6 w6 ⟨b1,rfl,rfl⟩ i;refine uf rfl i (Ef.f7 (vs:=[ac 0,ac 0,ac 0]) rfl rfl aK aK (by simp[Value.oneCell'])) ?_;rintro _ _ a7 w7 rfl i;refine jA rfl i (Ev.assign rfl) ag ?_;intro a8 w8 i;show Code.wpS _ _ _ _ _ _;refine wpS_seq (wpS_region ?_);show wpOpsS _ _ _ [0] _ _ _;refine jA rfl i (Ev.move rfl) ag ?_;intro a9 w9 i;show Code.wpS _ _ _ _ _ _;refine wpS_cond (t:=false) (aP i.eok.agr rfl) ?_;refine wpS_of_wp (wp_skip ?_);exact⟨i.def_,.returning,by rw[←hu],.tuple #[],ki (rs:=[]) (vs:=[]) i.eok i.sat rfl ResOk.nil,rfl,rfl,Ent.sat ae i.sat⟩
set_option maxRecDepth 20000 in
def Eo{L R:LH}{θ:Th}{w:World}(b:Nat)(x y:Fd)(s:Sat θ ((obj b tFnd (gA x)::L)++R) w) :
  CallsD ai 100 #[ax b] (.panicking (pnc y)) w (fun e u' w'=>e=.returned (.tuple #[])∧settle u' = .returning∧Sat θ ((obj b tFnd (gA y)::L)++R) w'):=by
 refine callsD_of_wpS Tryz.func100 rfl fun c₀ cs hu=>?_;have i:=AtD.mk (L:=obj b tFnd (gA x)::L) (R:=R) (D:=[]) (EnvOk.d7 (N:=10) (fn:=Tryz.f100) (args:=[ax b]) rfl bZ) rfl s;have a0:recoverD (c₀::cs)=some (.iface tFnd (aN (gA y)),{ c₀ with mode:=.panicking [{ v:=.iface tFnd (aN (gA y)),recovered:=true }] }::cs):=by simp[recoverD,hu,pnc]
 refine wpS_seq (wpS_region ?_);show wpOpsS _ _ _ [0,1,2,3,4,5,6,7] _ _ _;refine HN rfl i a0 ag ?_;intro a1 w1 i;refine jA rfl i (Ev.A9 rfl) ag ?_;intro a2 w2 i;refine jA rfl i (Ev.move rfl) ag ?_;intro a3 w3 i;refine jA rfl i (Ev.extract rfl rfl) ag ?_;intro a4 w4 i;refine jA rfl i (Ev.extract rfl rfl) ag ?_;intro a5 w5 i;refine wt rfl i Ef.alloc ag ?_;rintro _ _ a6 w6 ⟨b1,rfl,rfl⟩ i;refine uf rfl i (Ef.f7 (vs:=gA y) rfl rfl aK aK (nC y)) ?_;rintro _ _ a7 w7 rfl i;refine jA rfl i (Ev.assign rfl) ag ?_;intro a8 w8 i;show Code.wpS _ _ _ _ _ _;refine wpS_seq (wpS_region ?_);show wpOpsS _ _ _ [0] _ _ _;refine jA rfl i (Ev.move rfl) ag ?_;intro a9 w9 i;show Code.wpS _ _ _ _ _ _;refine wpS_cond (t:=true) (aP i.eok.agr rfl) ?_;refine wpS_region ?_;show wpOpsS _ _ _ [0,1] _ _ _;refine jA rfl i (Ev.d7 rfl aK) ag ?_;intro b3 b4 i;refine uf rfl i (Ef.f7 (vs:=gA y) rfl rfl aK aK (nC y)) ?_;rintro _ _ b0 b2 rfl i;exact⟨i.def_,_,rfl,.tuple #[],ki (rs:=[]) (vs:=[]) i.eok i.sat rfl ResOk.nil,rfl,rfl,Ent.sat ae i.sat⟩
set_option maxRecDepth 20000 in
def El{L:LH}(g:FuncId)(cap:LV)(pr:LH→Prop)(pp:Fd→LH→Prop)(h:TriE ai g cap.toArray L (fun _ L'=>pr L') (fun ch L'=>∃x,ch=pnc x∧pp x L')) :
  Tri ai 43 #[.func (.func g) #[] cap.toArray] L (fun v L'=>∃x:Fd,v=aN (gA x)∧((x=(0,0,0)∧pr L')∨pp x L')):=by
 refine⟨en43,fun θ R w s=>calls_of_wp_defers Tryz.func43 rfl ?_⟩;have i:=AtD.mk (L:=L) (R:=R) (D:=[]) (EnvOk.d7 (N:=7) (fn:=Tryz.f43) (args:=[Value.func (.func g) #[] cap.toArray]) rfl bZ) rfl s;refine wp_seq (wp_region_lit ?_);refine EE i Ef.alloc ag ?_;rintro _ _ a1 w1 ⟨b,rfl,rfl⟩ i;show Code.wp _ _ _ _ _;refine wp_seq (wp_region_lit ?_);refine wu i (Ev.makeFunc rfl rfl) ag ?_;intro a2 w2 i;refine EF i rfl ?_;intro a3 w3 i;show Code.wp _ _ _ _ _;refine wp_seq (wp_region_lit ?_);refine wu i (Ev.move rfl) ag ?_;intro a4 w4 i;have a0:∀w,(invoke (.fn (.func 100) #[ax b]) #[]).run ai w=.ok (.enter 100 #[ax b]) w:=fun w=>(Jm).go _ _;refine EG (R':=[obj b tFnd (gA (0,0,0))]) i h rfl (Ent.perm (dW _ L).symm) ag ?_ ?_
 ·intro v L' a5 w5 a8 i;have i:=i.ent (Ent.perm (dW _ L'));show Code.wp _ _ _ _ _;refine wp_seq (wp_region_lit ?_);refine wu i (Ev.build rfl rfl) ag ?_;intro a6 w6 i;refine HO i (Ef.f7 (vs:=gA (0,0,0)) rfl rfl aK aK (nC _)) ?_;rintro _ _ a7 w7 rfl i;show Code.wp _ _ _ _ _;refine wp_ret ?_;show Leaves _ _ _ _ a7.defers .returning w7;rw[i.def_];refine leaves_cons bZ (a0 w7) (CallsD.mono (Em b (0,0,0) i.sat) ?_);rintro _ _ w8 ⟨rfl,rfl,s8⟩;exact⟨_,ki (rs:=[.cell 2 tFnd]) (vs:=[aN (gA (0,0,0))]) i.eok s8 rfl (ResOk.cell rfl aK ResOk.nil),_,L',rfl,⟨(0,0,0),rfl,.inl ⟨rfl,a8⟩⟩,Ent.sat ae s8⟩
 ·rintro ch L' w5 ⟨x,rfl,b0⟩ i;have i:=i.ent (Ent.perm (dW _ L'));show Leaves _ _ _ _ a4.defers (.panicking (pnc x)) w5;rw[i.def_];refine leaves_cons bZ (a0 w5) (CallsD.mono (Eo b (0,0,0) x i.sat) ?_);rintro _ u' w8 ⟨rfl,a9,s8⟩;show Leaves _ _ _ _ [] (settle u') w8;rw[a9];exact⟨_,ki (rs:=[.cell 2 tFnd]) (vs:=[aN (gA x)]) i.eok s8 rfl (ResOk.cell rfl aK ResOk.nil),_,L',rfl,⟨x,rfl,.inr b0⟩,Ent.sat ae s8⟩
