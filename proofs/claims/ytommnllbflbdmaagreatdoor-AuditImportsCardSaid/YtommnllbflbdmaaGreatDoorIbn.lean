/- Lemmas. -/
import Derived.Test.YtommnllbflbdmaaGreatDoorIbl
import Derived.Test.YtommnllbflbdmaaGreatDoorIbm
set_option linter.all false
set_option maxHeartbeats 16000000
namespace Go.Proofs.YtommnllbflbdmaaGreatDoor
section
open Go.V
attribute [local irreducible] G GO GP GPW GPK Ev Ef EfR Ent CB GB V.Enters
structure BkI (S:LedM) (fl:List FlM) (ia ra:LL) (f:Int→Int→LL) (t:Int→Int) (x:BkX):Prop where
 cat:x.cat.m=S.cat
 catB:x.cat.B
 count:x.count=S.steps.length
 tick:x.tick=S.now
 flows:x.flows.map (·.m)=fl
 stk:∀a i,(fW x.stk (a,i)).lots=f a i
 cap:∀a i,(f a i).length≤(fW x.stk (a,i)).cap
 tot:∀i,(glk x.tot i).getD 0=t i
 imp:jp x.imp ia
 ret:jp x.ret ra
def ud{l:LL}{f g:Nat→Int}(h:∀k,k<l.length→f k=g k):divF l f l.length=divF l g l.length∧divR l f l.length=divR l g l.length:=by
 have e1:(List.range l.length).map (pcF l f)=(List.range l.length).map (pcF l g):=cU (fun k hk=>by unfold pcF;rw[h k (List.mem_range.1 hk)]);have e2:(List.range l.length).map (pcR l f)=(List.range l.length).map (pcR l g):=cU (fun k hk=>by unfold pcR;rw[h k (List.mem_range.1 hk)]);unfold divF divR;rw[e1,e2];exact⟨rfl,rfl⟩
def mR(n:Nat)(f:Nat→Int){k:Nat}(h:k<n):((List.range n).map f)[k]! = f k:=by
 rw[getElem!_of (by simpa using h)];simp
def lT{m:List ((Int×Int)×Stk)}{k q:Int×Int}{s:Stk}:fW (gins m k s) q=if q=k then s else fW m q:=by
 unfold fW;rw[km];split<;>rfl
def iaOf(s:StM)(m:MvM):LL:=if s.kind=5 then m.parts else[]
def raOf(s:StM)(m:MvM):LL:=if s.kind=9∧m.frm=0 then m.parts else[]
abbrev zb:List Stp:=[.ev 0,.ev 1,.ev 2,.ev 3,.ef 4,.ev 5,.ev 6]
abbrev za:List Stp:=[.ev 0,.ev 1,.ev 2,.ev 3,.ef 4,.ev 5,.ev 6]
abbrev yZ:List Stp:=[.ev 0,.ev 1,.ev 2,.ev 3,.ev 4,.ev 5,.ev 6]
abbrev wo:List Stp:=[.ev 0,.ev 1,.ev 2,.ev 3,.ev 4,.ev 5,.ef 6]
abbrev wn:List Stp:=[.ev 0,.ev 1,.ev 2,.ev 3,.ev 4,.ev 5,.ev 6,.ev 7,.ev 8,.ev 9]
abbrev wm:List Stp:=[.ev 0,.ev 1,.ev 2,.ev 3,.ev 4,.ev 5,.ef 6]
def Vt{φ ψ:Prop}(k:ψ)(h:Hid ψ→φ:=by intro k;(repeat (first|refine aa ?_|intro zzz|((with_reducible apply G.d8);first|refine G.d7 (N:=122) (id:=2) zb mixed aw ?_|refine G.d7 (N:=122) (id:=4) za mixed aw ?_|refine G.d7 (N:=122) (id:=8) yZ mixed aw ?_|refine G.d7 (N:=122) (id:=13) wo mixed aw ?_|refine G.d7 (N:=122) (id:=24) wn mixed aw ?_|refine G.d7 (N:=122) (id:=27) wm mixed aw ?_)));(repeat revert zzz);exact Hid.out k):φ:=h ⟨k⟩
def xN{L:LH}(b:Nat)(S:LedM)(hS:0≤S.shard∧S.shard<12)(k:Nat)(x:BkX)(W:Wk)(d5:S.flows.length+W.flows.length≤8000000)(hx:BkI S (S.flows++W.flows) (eG (S.flows++W.flows)) (fy (S.flows++W.flows)) W.stk W.tot x)(hW:WkA S.shard S.flows k W)(s:StM)(m:MvV)(hm:MvA s.kind m.m)(hk:k+m.m.parts.length≤2000)(d0:0≤m.m.item∧m.m.item<S.cat.items.length)(hb:∀p∈m.m.parts,p.1≤9223372036854775807)(b0:(W.stk m.m.frm m.m.item).length<20) :
  Tri ag 102 #[av b,ac s.kind,.agg (aQ m).toArray] (isl ao 3 m.pad m.m.parts::bkL b S.shard x L) (fun v L' =>
   (gErr S.shard (S.flows++W.flows) s W m.m=0∧∃pad cap x',v=.tuple #[.slice pad (gPts (bL S.cat) s W m.m).length cap,ac 0]∧BkI S (S.flows++W.flows) (eG (S.flows++W.flows)++iaOf s m.m) (fy (S.flows++W.flows)++raOf s m.m) (gStk (bL S.cat) W m.m) W.tot x'∧L' = isl ao 3 pad (gPts (bL S.cat) s W m.m)::bkL b S.shard x' L) ∨
   (gErr S.shard (S.flows++W.flows) s W m.m≠0∧∃ad n c,v=.tuple #[.slice ad n c,ac (gErr S.shard (S.flows++W.flows) s W m.m)]∧L' = L)):=by
 have a0:=hm.g.lots
 have e4:x.flows.length=S.flows.length+W.flows.length:=by
  have:=congrArg List.length hx.flows
  rwa [aA,aD] at this
 have e5:=hW.il;have e0:=hW.rl;have b6:=DD hW.fa;have b9:=CZ hW.fa;obtain⟨⟨frm,to,item,mn,parts⟩,pad,pcap⟩:=m;dsimp only at hm hk d0 hb b0 a0 ⊢;refine Tri.bd (args:=[av b,ac s.kind,.agg (aQ ⟨⟨frm,to,item,mn,parts⟩,pad,pcap⟩).toArray]) ?_;simp only[aQ,bkL,bI];by_cases h0:frm=0
 ·subst h0;have c4:gStk (bL S.cat) W ⟨0,to,item,mn,parts⟩=W.stk:=by unfold gStk;rw[if_pos rfl]
  rw[c4];by_cases h5:s.kind=5
  ·have eE:gErr S.shard (S.flows++W.flows) s W ⟨0,to,item,mn,parts⟩=arrG S.shard (S.flows++W.flows) parts:=by unfold gErr;rw[if_pos rfl,if_pos h5]
   have eP:gPts (bL S.cat) s W ⟨0,to,item,mn,parts⟩=parts:=by unfold gPts;rw[if_pos rfl,if_pos (.inl h5)]
   have eI:iaOf s ⟨0,to,item,mn,parts⟩=parts:=if_pos h5;have eR:raOf s ⟨0,to,item,mn,parts⟩=[]:=if_neg ab;have a6:=hm.st (.inl h5);rw[eE,eP,eI,eR,←Gm hW.fa a0 a6.2.1,aY];refine Vt ?_;intros;(first|refine GPW.ef (Ef.call (rn (L:=[isl ao 3 pad parts]) b S.shard x (eG (S.flows++W.flows)) hx.imp ab b6 ⟨⟨0,to,item,mn,parts⟩,pad,pcap⟩ a0 hb (by dsimp only;omega)) rfl (by repeat (first|exact Ent.refl _|apply Ent.take))) ah ?_);rintro _ _⟨_,⟨b2,rfl,a8,rfl⟩,hL⟩;simp only[ax,ap] at hL;subst hL;dsimp only at a8;simp only[bI];by_cases he:impG S.shard parts (eG (S.flows++W.flows))=0
   ·rw[he];refine Vt ?_;intros;refine KX.d7 an ?_ (.inl ⟨rfl,pad,pcap,{ x with imp:=b2 },rfl,⟨hx.cat,hx.catB,hx.count,hx.tick,hx.flows,hx.stk,hx.cap,hx.tot,a8 he,hx.ret⟩,rfl⟩);simp only[bkL,bI];exact ae
   ·refine Vt ?_;intros;exact KX.en (.inr ⟨he,pad,parts.length,pcap,rfl,rfl⟩)
  by_cases h9:s.kind=9
  ·have eE:gErr S.shard (S.flows++W.flows) s W ⟨0,to,item,mn,parts⟩=revG (S.flows++W.flows) item parts:=by unfold gErr;rw[if_pos rfl,if_neg h5,if_pos h9]
   have eP:gPts (bL S.cat) s W ⟨0,to,item,mn,parts⟩=parts:=by unfold gPts;rw[if_pos rfl,if_pos (.inr h9)]
   have eI:iaOf s ⟨0,to,item,mn,parts⟩=[]:=if_neg h5;have eR:raOf s ⟨0,to,item,mn,parts⟩=parts:=if_pos ⟨h9,rfl⟩;have a6:=hm.st (.inr (.inr h9));rw[eE,eP,eI,eR,←FY hS.1 hW.fa hW.fn item a0 a6.2.1,aY];refine Vt ?_;intros;(first|refine GPW.ef (Ef.call (qZ (L:=[isl ao 3 pad parts]) b S.shard hS x ab (fy (S.flows++W.flows)) hx.ret ab b9 ⟨⟨0,to,item,mn,parts⟩,pad,pcap⟩ a0 hb (by dsimp only;omega)) rfl (by repeat (first|exact Ent.refl _|apply Ent.take))) ah ?_);rintro _ _⟨_,⟨c5,rfl,a8,rfl⟩,hL⟩;simp only[ax,ap] at hL;subst hL;dsimp only at a8;rw[hx.flows] at a8 ⊢;simp only[bI];by_cases he:retG S.shard (S.flows++W.flows) item parts (fy (S.flows++W.flows))=0
   ·rw[he];refine Vt ?_;intros;refine KX.d7 an ?_ (.inl ⟨rfl,pad,pcap,{ x with ret:=c5 },rfl,⟨hx.cat,hx.catB,hx.count,hx.tick,hx.flows,hx.stk,hx.cap,hx.tot,hx.imp,a8 he⟩,rfl⟩);simp only[bkL,bI];exact ae
   ·refine Vt ?_;intros;exact KX.en (.inr ⟨he,pad,parts.length,pcap,rfl,rfl⟩)
  have eE:gErr S.shard (S.flows++W.flows) s W ⟨0,to,item,mn,parts⟩=0:=by unfold gErr;rw[if_pos rfl,if_neg h5,if_neg h9]
  have eP:gPts (bL S.cat) s W ⟨0,to,item,mn,parts⟩=[]:=by unfold gPts;rw[if_pos rfl,if_neg ab]
  have eI:iaOf s ⟨0,to,item,mn,parts⟩=[]:=if_neg h5;have eR:raOf s ⟨0,to,item,mn,parts⟩=[]:=if_neg ab;rw[eE,eP,eI,eR,aY,aY];refine Vt ?_;intros;refine KX.d7 an ?_ (.inl ⟨rfl,none,0,x,rfl,hx,rfl⟩);refine Ent.trans ?_ (Ent.f7 ao 3 none);exact ae
 have eI:iaOf s ⟨frm,to,item,mn,parts⟩=[]:=if_neg (fun q=>h0 (hm.imp q));have eR:raOf s ⟨frm,to,item,mn,parts⟩=[]:=if_neg (fun q=>h0 q.2);rw[eI,eR,aY,aY];have hG:=hW.g.stk frm item;have c6:=hG.len;have a4:=hG.lots;have a3:=hx.stk frm item;rw[←a3] at b0 c6 a4;have hw:∀q∈(fW x.stk (frm,item)).lots,LotW q:=fun q hq=>(a4 q hq).w;have b3:=hm.g.n;dsimp only at b3;refine G.ent (L':=stkP (fW x.stk (frm,item))::isl bU 7 x.cat.iad x.cat.items::isl ao 3 pad parts::bkL b S.shard x L) ?_ ?_
 ·refine(Ent.at (A:=catP x.cat) rA).trans ?_;refine(Ent.at (A:=allP (fun p:(Int×Int)×Stk=>stkP p.2) x.stk) (pb (frm,item))).trans ?_;simp only[bkL,bI];exact ae
 have b7:∀(sk:Stk) (l:LL),sk.lots=l→sk.lots.length≤sk.cap→gStk (bL S.cat) W ⟨frm,to,item,mn,parts⟩=upd2 W.stk frm item l→BkI S (S.flows++W.flows) (eG (S.flows++W.flows)) (fy (S.flows++W.flows)) (gStk (bL S.cat) W ⟨frm,to,item,mn,parts⟩) W.tot { x with stk:=gins x.stk (frm,item) sk }:=fun sk l e1 e2 e3=>by
  refine⟨hx.cat,hx.catB,hx.count,hx.tick,hx.flows,fun a i=>?_,fun a i=>?_,hx.tot,hx.imp,hx.ret⟩
  ·dsimp only;rw[lT,e3];unfold upd2;by_cases q:a=frm∧i=item
   ·rw[if_pos q,if_pos (by rw[q.1,q.2])];exact e1
   ·rw[if_neg q,if_neg (fun r=>q ⟨congrArg Prod.fst r,congrArg Prod.snd r⟩)];exact hx.stk a i
  ·dsimp only;rw[lT,e3];unfold upd2;by_cases q:a=frm∧i=item
   ·rw[if_pos q,if_pos (by rw[q.1,q.2]),←e1];exact e2
   ·rw[if_neg q,if_neg (fun r=>q ⟨congrArg Prod.fst r,congrArg Prod.snd r⟩)];exact hx.cap a i
 simp only[bkL,bI];have hv:=td x.stk (frm,item);generalize hske:fW x.stk (frm,item)=sk at *;obtain⟨sad,scap,lots⟩:=sk;simp only[Stk.v] at hv;dsimp only at a3 b0 c6 a4 hw;refine Vt ?_;intros;refine GO.ev (Ev.m6 rfl rfl) ah ?_;refine Vt ?_;intros;refine GPW.evL (Ev.d7 rfl rfl) ah ?_;rw[hv];by_cases hp:parts.length=0
 case neg =>
  have a5:parts≠[]:=fun q=>hp (by rw[q];rfl)
  have a6:gt parts mn:=by
   rcases hm.g.parts with q|q
   ·exact absurd q a5
   ·exact partsA_iff.2 q
  have eE:gErr S.shard (S.flows++W.flows) s W ⟨frm,to,item,mn,parts⟩=if lsum parts - OO parts lots=0 then 0 else 10:=by
   unfold gErr;rw[if_neg h0,if_neg a5];have c7:=rH a6.1 a6.2.1 (own:=W.stk frm item) ⟨fun z hz=>a4 z (by rw[a3];exact hz),by rw[←a3];omega⟩ hG.apt;by_cases q:fV parts (W.stk frm item)
   ·rw[if_pos q,a3,if_pos (c7.1 q)]
   ·rw[if_neg q,a3,if_neg (fun r=>q (c7.2 r))]
  have eP:gPts (bL S.cat) s W ⟨frm,to,item,mn,parts⟩=parts:=by unfold gPts;rw[if_neg h0,if_neg a5]
  have eL:gStk (bL S.cat) W ⟨frm,to,item,mn,parts⟩=upd2 W.stk frm item (el lots parts):=by unfold gStk lv;rw[if_neg h0,if_neg a5,a3]
  rw[eE,eP];refine Vt ?_;intros;refine GO.ca (vz sad lots.length scap lots pad parts.length pcap parts rfl rfl a4 ab a0 a6.1.2 a6.2.1) ?_;rintro _ _⟨ad2,c2,rfl,rfl⟩;by_cases hq:lsum parts - OO parts lots=0
  case neg =>
   rw[aH hq,if_neg hq];refine Vt ?_;intros;exact KX.d7 an ae (.inr ⟨by decide,none,0,0,rfl,rfl⟩)
  rw[aT hq,if_pos hq];refine GO.d9 (fX (ad:=ad2) (cap:=c2) (xs:=el lots parts) (enc:=ao) (sz:=3) (E:=tLot)) ?_;rintro⟨a2,_⟩;refine Vt ?_;intros;refine GPW.efu (Ef.e8 (enc:=Stk.v) (e:=(⟨ad2,c2,el lots parts⟩:Stk)) rfl rfl rfl rfl) ?_;rintro _ _⟨rfl,rfl⟩;refine Vt ?_;intros;refine KX.d7 an ?_ (.inl ⟨rfl,pad,pcap,_,rfl,b7 ⟨ad2,c2,el lots parts⟩ (el lots parts) rfl a2 eL,rfl⟩);refine(Ent.frz ad2).trans ?_;refine(Ent.at (A:=allP (fun p:(Int×Int)×Stk=>stkP p.2) x.stk) (Ent.refl _)).trans ?_;refine(Ent.at (A:=stkP ⟨ad2,c2,el lots parts⟩) (iO (k:=(frm,item)))).trans ?_;simp only[bkL,bI];exact ae
 have a5:parts=[]:=aW hp;have eE:gErr S.shard (S.flows++W.flows) s W ⟨frm,to,item,mn,parts⟩=if lsum lots<mn then 10 else 0:=by unfold gErr;rw[if_neg h0,if_pos a5,a3]
 have eP:gPts (bL S.cat) s W ⟨frm,to,item,mn,parts⟩=gV (bL S.cat item) lots mn:=by unfold gPts;rw[if_neg h0,if_pos a5,a3]
 have eL:gStk (bL S.cat) W ⟨frm,to,item,mn,parts⟩=upd2 W.stk frm item (eM (bL S.cat item) lots mn):=by unfold gStk lv;rw[if_neg h0,if_pos a5,a3]
 have d3:item<x.cat.items.length:=by
  have e:x.cat.m.items.length=x.cat.items.length:=by simp[CatV.m]
  rw[hx.cat] at e;omega
 have b4:bL S.cat item=x.cat.items[item.toNat]!.mixed:=by
  unfold bL;rw[←hx.cat];rfl
 rw[b4] at eP eL;rw[eE,eP];refine Vt ?_;intros;rename_i b5 b8;refine G.loop (α:=Nat) (fun i=>i≤lots.length) (fun i=>[(0,av b),(5,av b5),(8,av b8),(9,.slice sad lots.length scap),(12,ac (lsum (lots.take i))),(80,.slice sad lots.length scap),(81,ac lots.length),(82,ac (i:Int))]) (fun _=>obj b8 116 [ac frm,ac item]::obj b5 tMv [ac frm,ac to,ac item,ac mn,.slice pad parts.length pcap]::isl ao 3 sad lots::isl bU 7 x.cat.iad x.cat.items::bkL b S.shard x L) (fun i=>lots.length - i) 0 (aj _) ai (by simp only[bkL,bI];exact ae) ?_;intro i hi;by_cases d1:i<lots.length
 case pos =>
  have d4:(i:Int).toNat=i:=ay i;have c0 : (i:Int).toNat<lots.length:=ab;have d6:=gD a4 i ab;have c8:=dX lots d1;have d2:=a4 _ (aG c0);unfold LotOk at d2;simp only[bkL,bI];refine Vt ?_;intros;refine⟨i+1,ab,ab,?_,by exact ae⟩;rw[c8,aK i,show lots[i]! = lots[(i:Int).toNat]! by rw[d4]];exact ai
 obtain rfl:i=lots.length:=ab;rw[gS];simp only[bkL,bI];by_cases hq:lsum lots<mn
 ·rw[if_pos hq];refine Vt ?_;intros;exact KX.d7 an ae (.inr ⟨by decide,none,0,0,rfl,rfl⟩)
 rw[if_neg hq]
 have c9:lots≠[]:=fun q=>by
  rw[q,iD] at hq;omega
 have a9:∀(mx:Bool) (k:Nat),k<lots.length→(if mx=true then shC lots mn k else fuC lots mn k)=tkC mx lots mn k:=fun mx k _=>by
  unfold tkC;cases mx
  ·rw[if_neg ah,if_neg (fun q=>absurd q.1 ah)]
  ·rw[if_pos rfl,if_pos ⟨rfl,ab⟩]
 cases hmx:x.cat.items[item.toNat]!.mixed with
 | true =>
  rw[hmx] at eL;refine Vt ?_;intros;rw[hmx];refine Vt ?_;intros;refine GO.ef (Ef.d8 rfl rfl (qn sad lots.length scap lots mn rfl b0 a4 c9 ab ab b3.2)) ah ?_;rintro _ _⟨b1,c1,rfl,rfl⟩;refine Vt ?_;intros;refine GO.ca (uL sad lots.length scap lots b1 lots.length c1 ((List.range lots.length).map (shC lots mn)) rfl (by simp) ab (by simp) hw (fun k hk=>by rw[mR _ _ hk,show shC lots mn k=tkC true lots mn k from a9 true k hk];exact nA true lots mn a4 ab ab k hk)) ?_;rintro _ _⟨ad2,c2,a1,c3,rfl,rfl⟩;have a7:=ud (l:=lots) (f:=fun k=>((List.range lots.length).map (shC lots mn))[k]!) (g:=tkC true lots mn) (fun k hk=>by rw[mR _ _ hk,show shC lots mn k=tkC true lots mn k from a9 true k hk]);rw[a7.1,a7.2,show divF lots (tkC true lots mn) lots.length=gV true lots mn from rfl,show divR lots (tkC true lots mn) lots.length=eM true lots mn from rfl];clear a7;refine GO.d9 (fX (ad:=a1) (cap:=c3) (xs:=eM true lots mn) (enc:=ao) (sz:=3) (E:=tLot)) ?_;rintro⟨a2,_⟩;refine Vt ?_;intros;refine GPW.efu (Ef.e8 (enc:=Stk.v) (e:=(⟨a1,c3,eM true lots mn⟩:Stk)) rfl rfl rfl rfl) ?_;rintro _ _⟨rfl,rfl⟩;refine Vt ?_;intros;refine KX.d7 an ?_ (.inl ⟨rfl,ad2,c2,_,rfl,b7 ⟨a1,c3,eM true lots mn⟩ (eM true lots mn) rfl a2 eL,rfl⟩);refine(Ent.frz ad2).trans ((Ent.frz a1).trans ?_);refine(Ent.at (A:=allP (fun p:(Int×Int)×Stk=>stkP p.2) x.stk) (Ent.refl _)).trans ?_;refine(Ent.at (A:=stkP ⟨a1,c3,eM true lots mn⟩) (iO (k:=(frm,item)))).trans ?_;simp only[bkL,bI];exact ae
 | false =>
  rw[hmx] at eL;refine Vt ?_;intros;rw[hmx];refine Vt ?_;intros;refine GO.ef (Ef.d8 rfl rfl (zt sad lots.length scap lots mn rfl ab hw ab b3.2)) ah ?_;rintro _ _⟨b1,c1,rfl,rfl⟩;refine Vt ?_;intros;refine GO.ca (uL sad lots.length scap lots b1 lots.length c1 ((List.range lots.length).map (fuC lots mn)) rfl (by simp) ab (by simp) hw (fun k hk=>by rw[mR _ _ hk,show fuC lots mn k=tkC false lots mn k from a9 false k hk];exact nA false lots mn a4 ab ab k hk)) ?_;rintro _ _⟨ad2,c2,a1,c3,rfl,rfl⟩;have a7:=ud (l:=lots) (f:=fun k=>((List.range lots.length).map (fuC lots mn))[k]!) (g:=tkC false lots mn) (fun k hk=>by rw[mR _ _ hk,show fuC lots mn k=tkC false lots mn k from a9 false k hk]);rw[a7.1,a7.2,show divF lots (tkC false lots mn) lots.length=gV false lots mn from rfl,show divR lots (tkC false lots mn) lots.length=eM false lots mn from rfl];clear a7;refine GO.d9 (fX (ad:=a1) (cap:=c3) (xs:=eM false lots mn) (enc:=ao) (sz:=3) (E:=tLot)) ?_;rintro⟨a2,_⟩;refine Vt ?_;intros;refine GPW.efu (Ef.e8 (enc:=Stk.v) (e:=(⟨a1,c3,eM false lots mn⟩:Stk)) rfl rfl rfl rfl) ?_;rintro _ _⟨rfl,rfl⟩;refine Vt ?_;intros;refine KX.d7 an ?_ (.inl ⟨rfl,ad2,c2,_,rfl,b7 ⟨a1,c3,eM false lots mn⟩ (eM false lots mn) rfl a2 eL,rfl⟩);refine(Ent.frz ad2).trans ((Ent.frz a1).trans ?_);refine(Ent.at (A:=allP (fun p:(Int×Int)×Stk=>stkP p.2) x.stk) (Ent.refl _)).trans ?_;refine(Ent.at (A:=stkP ⟨a1,c3,eM false lots mn⟩) (iO (k:=(frm,item)))).trans ?_;simp only[bkL,bI];exact ae
def bk0(c:CatV)(ms mt mi mr:Nat):BkX:=⟨c,ms,mt,mi,mr,0,0,[],[],[],[],[],none,0⟩
def vb{L:LH}(sh:Int)(c:CatV) :
  Tri ag 45 #[ac sh,.agg c.cells.toArray] (catP c::L) (fun v L'=>∃b ms mt mi mr,v=av b∧L' = bkL b sh (bk0 c ms mt mi mr) L):=by
 refine Tri.bd ?_;simp only[CatV.cells];refine Hz ?_;intros;refine GO.ef (Ef.d9 kvP Stk.v (.inl rfl)) ah ?_;rintro _ _⟨ms,rfl,rfl⟩;refine Hz ?_;intros;refine GO.ef (Ef.d9 kvI encN (.inl rfl)) ah ?_;rintro _ _⟨mt,rfl,rfl⟩;refine Hz ?_;intros;refine GO.ef (Ef.d9 kvI Stk.v (.inl rfl)) ah ?_;rintro _ _⟨mi,rfl,rfl⟩;refine Hz ?_;intros;refine GO.ef (Ef.d9 kvI Stk.v (.inl rfl)) ah ?_;rintro _ _⟨mr,rfl,rfl⟩;refine Hz ?_;intros;rename_i b;refine KX.d7 an ?_ ⟨b,ms,mt,mi,mr,rfl,rfl⟩;simp only[bkL,bI,bk0];refine Ent.trans (Ent.l0 dO) (Ent.trans (Ent.l0 dO) (Ent.trans (Ent.d9 aM 11 bY) ?_));refine Ent.trans (Ent.e7 (fun p:(Int×Int)×Stk=>stkP p.2)) (Ent.trans (Ent.e7 flP) ?_);exact ae
end
end Go.Proofs.YtommnllbflbdmaaGreatDoor
namespace Go.V
section
variable {P:Program}{L:LH}{env:Env}{ty:TypeId}
def Ev.A7{t:TypeId}{x hi mx:Operand}{ad:OA}{n c E sz bb:Nat}{z:LV}{k k' : IntKind}{j:Int}[ht:TySl P t E sz bb z](hx:evE env x=some (.slice ad n c))(hh:evE env hi=some (.int k j))(hm:evE env mx=some (.int k' j))(h0:0≤j)(h1:j≤c):Ev P L env (.slice t x none (some hi) (some mx)) ty (.slice ad j.toNat j.toNat) :=
 Ev.mk (fun _ _ _ w ea _ _ _ _ _=>by
  obtain⟨ii,z0,i1,i2,i3,i4,i5⟩:=ht.parts;have h2:j≤(j.toNat:Int):=ab;simp[execOp,aP ea hx,aP ea hh,aP ea hm,Instr.sliceAt,Instr.slice,run_underlying ht.under,Instr.sliceBounds,Instr.sliceBound,asIntOf,h0,h1,h2,sizeOf,typeInfo,i1];rw[if_pos ab];cases ad<;>simp[Addr.add])
end
end Go.V
namespace Go.Proofs.YtommnllbflbdmaaGreatDoor
open Go.V
attribute [local irreducible] G GO GP GPW GPK Ev Ef EfR Ent CB GB V.Enters
def pQ{L:LH}(ad:OA)(n c:Nat)(h:n≤c):Tri ag 157 #[.slice ad n c] L (fun v L'=>v=.slice ad n n∧L' = L):=by
 refine Tri.bd ?_;refine Hz ?_;intros;refine GO.ev (Ev.A7 rfl rfl rfl ab ab) ah ?_;rw[ay];refine Hz ?_;intros;exact KX.en ⟨rfl,rfl⟩
end Go.Proofs.YtommnllbflbdmaaGreatDoor
namespace Go.V
section
variable {P:Program}{N:Nat}{ops:Array Oper}{done:List Nat}{plan:List Stp}{pend:List PE}{env:Env}{L:LH}{K:Post}
def GP.fct{φ:Prop}(h:∀θ R w,Sat θ (L++R) w→φ)(k:φ→GP P N ops done plan pend env L K):GP P N ops done plan pend env L K:=fun hK hp hs a2 θ Y a w S i a0 a1=>let ⟨_,_,_,s⟩:=i;k (h θ _ w s) hK hp hs a2 θ Y a w S i a0 a1
def GPW.fct{s:Stp}{a0:Option Tmp}{op:Op}{ty:TypeId}{φ:Prop}(h:∀θ R w,Sat θ (L++R) w→φ)(k:φ→GPW P N ops done s plan a0 op ty pend env L K):GPW P N ops done s plan a0 op ty pend env L K:=fun pos af g h1 h2=>GP.fct h (fun hφ=>k hφ pos af g h1 h2)
