/- Lemmas. -/
import Derived.Test.YtommnllbflbdmaaGreatDoorLbl
import Derived.Test.YtommnllbflbdmaaGreatDoorLbm
set_option linter.all false
set_option maxHeartbeats 16000000
namespace Go.Proofs.YtommnllbflbdmaaGreatDoor
section
open Go.V
attribute [local irreducible] G GO GP GPW GPK Ev Ef EfR Ent CB GB V.Enters
structure BkI (S:LedM) (fl:List FlM) (ia ra:LL) (f:Int→Int→LL) (t:Int→Int) (x:BkX):Prop where
 cat:x.cat.m=S.cat
 catB:x.cat.B
 count:x.count=S.steps.length
 tick:x.tick=S.now
 flows:x.flows.map (·.m)=fl
 stk:∀a i,(fU x.stk (a,i)).lots=f a i
 cap:∀a i,(f a i).length≤(fU x.stk (a,i)).cap
 tot:∀i,(glk x.tot i).getD 0=t i
 imp:ld x.imp ia
 ret:ld x.ret ra
theorem tL{l:LL}{f g:Nat→Int}(h:∀k,k<l.length→f k=g k):divF l f l.length=divF l g l.length∧divR l f l.length=divR l g l.length:=by
 have e1:(List.range l.length).map (pcF l f)=(List.range l.length).map (pcF l g):=cU (fun k hk=>by unfold pcF;rw[h k (List.mem_range.1 hk)]);have e2:(List.range l.length).map (pcR l f)=(List.range l.length).map (pcR l g):=cU (fun k hk=>by unfold pcR;rw[h k (List.mem_range.1 hk)]);unfold divF divR;rw[e1,e2];exact⟨rfl,rfl⟩
theorem mz(n:Nat)(f:Nat→Int){k:Nat}(h:k<n):((List.range n).map f)[k]! = f k:=by
 rw[getElem!_of (by simpa using h)];simp
theorem lF{m:List ((Int×Int)×Stk)}{k q:Int×Int}{s:Stk}:fU (gins m k s) q=if q=k then s else fU m q:=by
 unfold fU;rw[jY];split<;>rfl
def iaOf(s:StM)(m:MvM):LL:=if s.kind=5 then m.parts else[]
def raOf(s:StM)(m:MvM):LL:=if s.kind=9∧m.frm=0 then m.parts else[]
abbrev yD:List Stp:=[.ev 0,.ev 1,.ev 2,.ev 3,.ef 4,.ev 5,.ev 6]
abbrev yC:List Stp:=[.ev 0,.ev 1,.ev 2,.ev 3,.ef 4,.ev 5,.ev 6]
abbrev yB:List Stp:=[.ev 0,.ev 1,.ev 2,.ev 3,.ev 4,.ev 5,.ev 6]
abbrev vT:List Stp:=[.ev 0,.ev 1,.ev 2,.ev 3,.ev 4,.ev 5,.ef 6]
abbrev vS:List Stp:=[.ev 0,.ev 1,.ev 2,.ev 3,.ev 4,.ev 5,.ev 6,.ev 7,.ev 8,.ev 9]
abbrev vR:List Stp:=[.ev 0,.ev 1,.ev 2,.ev 3,.ev 4,.ev 5,.ef 6]
theorem bZ{φ ψ:Prop}(k:ψ)(h:Hid ψ→φ:=by intro k;(with_reducible apply G.d8);first|refine G.d7 (N:=122) (id:=2) yD mixed ap (Hid.out k)|refine G.d7 (N:=122) (id:=4) yC mixed ap (Hid.out k)|refine G.d7 (N:=122) (id:=8) yB mixed ap (Hid.out k)|refine G.d7 (N:=122) (id:=13) vT mixed ap (Hid.out k)|refine G.d7 (N:=122) (id:=24) vS mixed ap (Hid.out k)|refine G.d7 (N:=122) (id:=27) vR mixed ap (Hid.out k)):φ:=h ⟨k⟩
theorem xl{L:LH}(b:Nat)(S:LedM)(hS:0≤S.shard∧S.shard<12)(k:Nat)(x:BkX)(W:Wk)(hfl:S.flows.length+W.flows.length≤8000000)(hx:BkI S (S.flows++W.flows) (fO (S.flows++W.flows)) (fu (S.flows++W.flows)) W.stk W.tot x)(hW:WkA S.shard S.flows k W)(s:StM)(m:MvV)(hm:MvA s.kind m.m)(hk:k+m.m.parts.length≤2000)(hit:0≤m.m.item∧m.m.item<S.cat.items.length)(hb:∀p∈m.m.parts,p.1≤9223372036854775807)(h20:(W.stk m.m.frm m.m.item).length<20) :
  Tri ah 102 #[au b,ab s.kind,.agg (aM m).toArray] (isl an 3 m.pad m.m.parts::bkL b S.shard x L) (fun v L' =>
   (gErr S.shard (S.flows++W.flows) s W m.m=0∧∃pad cap x',v=.tuple #[.slice pad (gPts (bK S.cat) s W m.m).length cap,ab 0]∧BkI S (S.flows++W.flows) (fO (S.flows++W.flows)++iaOf s m.m) (fu (S.flows++W.flows)++raOf s m.m) (gStk (bK S.cat) W m.m) W.tot x'∧L' = isl an 3 pad (gPts (bK S.cat) s W m.m)::bkL b S.shard x' L) ∨
   (gErr S.shard (S.flows++W.flows) s W m.m≠0∧∃ad n c,v=.tuple #[.slice ad n c,ab (gErr S.shard (S.flows++W.flows) s W m.m)]∧L' = L)):=by
 have hlots:=hm.g.lots
 have hxf:x.flows.length=S.flows.length+W.flows.length:=by
  have:=congrArg List.length hx.flows
  rwa [aG,az] at this
 have hil:=hW.il;have hrl:=hW.rl;have hiok:=De hW.fa;have hrok:=Cw hW.fa;obtain⟨⟨frm,to,item,mn,parts⟩,pad,pcap⟩:=m;dsimp only at hm hk hit hb h20 hlots ⊢;refine Tri.body (args:=[au b,ab s.kind,.agg (aM ⟨⟨frm,to,item,mn,parts⟩,pad,pcap⟩).toArray]) 122 Km Tryz.func102 rfl rfl rfl (by simp) ?_;simp only[aM,bkL,bJ];by_cases h0:frm=0
 ·subst h0;have hstk:gStk (bK S.cat) W ⟨0,to,item,mn,parts⟩=W.stk:=by unfold gStk;rw[if_pos rfl]
  rw[hstk];by_cases h5:s.kind=5
  ·have eE:gErr S.shard (S.flows++W.flows) s W ⟨0,to,item,mn,parts⟩=arrG S.shard (S.flows++W.flows) parts:=by unfold gErr;rw[if_pos rfl,if_pos h5]
   have eP:gPts (bK S.cat) s W ⟨0,to,item,mn,parts⟩=parts:=by unfold gPts;rw[if_pos rfl,if_pos (.inl h5)]
   have eI:iaOf s ⟨0,to,item,mn,parts⟩=parts:=if_pos h5;have eR:raOf s ⟨0,to,item,mn,parts⟩=[]:=if_neg ac;have hpa:=hm.st (.inl h5);rw[eE,eP,eI,eR,←FV hW.fa hlots hpa.2.1,ba];repeat first|refine aa ?_|intro _|refine bZ ?_
   (first|refine GPW.ef (Ef.call (qT (L:=[isl an 3 pad parts]) b S.shard x (fO (S.flows++W.flows)) hx.imp ac hiok ⟨⟨0,to,item,mn,parts⟩,pad,pcap⟩ hlots hb (by dsimp only;omega)) rfl (by repeat (first|exact Ent.refl _|apply Ent.take))) ae ?_);rintro _ _⟨_,⟨imp',rfl,him,rfl⟩,hL⟩;simp only[ax,aq] at hL;subst hL;dsimp only at him;simp only[bJ];by_cases he:impG S.shard parts (fO (S.flows++W.flows))=0
   ·rw[he];repeat first|refine aa ?_|intro _|refine bZ ?_
    refine KX.d7 ai ?_ (.inl ⟨rfl,pad,pcap,{ x with imp:=imp' },rfl,⟨hx.cat,hx.catB,hx.count,hx.tick,hx.flows,hx.stk,hx.cap,hx.tot,him he,hx.ret⟩,rfl⟩);simp only[bkL,bJ];exact ag
   ·repeat first|refine aa ?_|intro _|refine bZ ?_
    exact KX.d7 ai ag (.inr ⟨he,pad,parts.length,pcap,rfl,rfl⟩)
  by_cases h9:s.kind=9
  ·have eE:gErr S.shard (S.flows++W.flows) s W ⟨0,to,item,mn,parts⟩=revG (S.flows++W.flows) item parts:=by unfold gErr;rw[if_pos rfl,if_neg h5,if_pos h9]
   have eP:gPts (bK S.cat) s W ⟨0,to,item,mn,parts⟩=parts:=by unfold gPts;rw[if_pos rfl,if_pos (.inr h9)]
   have eI:iaOf s ⟨0,to,item,mn,parts⟩=[]:=if_neg h5;have eR:raOf s ⟨0,to,item,mn,parts⟩=parts:=if_pos ⟨h9,rfl⟩;have hpa:=hm.st (.inr (.inr h9));rw[eE,eP,eI,eR,←FE hS.1 hW.fa hW.fn item hlots hpa.2.1,ba];repeat first|refine aa ?_|intro _|refine bZ ?_
   (first|refine GPW.ef (Ef.call (qJ (L:=[isl an 3 pad parts]) b S.shard hS x ac (fu (S.flows++W.flows)) hx.ret ac hrok ⟨⟨0,to,item,mn,parts⟩,pad,pcap⟩ hlots hb (by dsimp only;omega)) rfl (by repeat (first|exact Ent.refl _|apply Ent.take))) ae ?_);rintro _ _⟨_,⟨ret',rfl,him,rfl⟩,hL⟩;simp only[ax,aq] at hL;subst hL;dsimp only at him;rw[hx.flows] at him ⊢;simp only[bJ];by_cases he:retG S.shard (S.flows++W.flows) item parts (fu (S.flows++W.flows))=0
   ·rw[he];repeat first|refine aa ?_|intro _|refine bZ ?_
    refine KX.d7 ai ?_ (.inl ⟨rfl,pad,pcap,{ x with ret:=ret' },rfl,⟨hx.cat,hx.catB,hx.count,hx.tick,hx.flows,hx.stk,hx.cap,hx.tot,hx.imp,him he⟩,rfl⟩);simp only[bkL,bJ];exact ag
   ·repeat first|refine aa ?_|intro _|refine bZ ?_
    exact KX.d7 ai ag (.inr ⟨he,pad,parts.length,pcap,rfl,rfl⟩)
  have eE:gErr S.shard (S.flows++W.flows) s W ⟨0,to,item,mn,parts⟩=0:=by unfold gErr;rw[if_pos rfl,if_neg h5,if_neg h9]
  have eP:gPts (bK S.cat) s W ⟨0,to,item,mn,parts⟩=[]:=by unfold gPts;rw[if_pos rfl,if_neg ac]
  have eI:iaOf s ⟨0,to,item,mn,parts⟩=[]:=if_neg h5;have eR:raOf s ⟨0,to,item,mn,parts⟩=[]:=if_neg ac;rw[eE,eP,eI,eR,ba,ba];repeat first|refine aa ?_|intro _|refine bZ ?_
  refine KX.d7 ai ?_ (.inl ⟨rfl,none,0,x,rfl,hx,rfl⟩);refine Ent.trans ?_ (Ent.e9 an 3 none);exact ag
 have eI:iaOf s ⟨frm,to,item,mn,parts⟩=[]:=if_neg (fun q=>h0 (hm.imp q));have eR:raOf s ⟨frm,to,item,mn,parts⟩=[]:=if_neg (fun q=>h0 q.2);rw[eI,eR,ba,ba];have hG:=hW.g.stk frm item;have hGl:=hG.len;have hGo:=hG.lots;have hsk:=hx.stk frm item;rw[←hsk] at h20 hGl hGo;have hw:∀q∈(fU x.stk (frm,item)).lots,LotW q:=fun q hq=>(hGo q hq).w;have hmn:=hm.g.n;dsimp only at hmn;refine G.ent (L':=stkP (fU x.stk (frm,item))::isl bS 7 x.cat.iad x.cat.items::isl an 3 pad parts::bkL b S.shard x L) ?_ ?_
 ·refine(Ent.at (A:=catP x.cat) rg).trans ?_;refine(Ent.at (A:=allP (fun p:(Int×Int)×Stk=>stkP p.2) x.stk) (oF (frm,item))).trans ?_;simp only[bkL,bJ];exact ag
 have hxE:∀(sk:Stk) (l:LL),sk.lots=l→sk.lots.length≤sk.cap→gStk (bK S.cat) W ⟨frm,to,item,mn,parts⟩=upd2 W.stk frm item l→BkI S (S.flows++W.flows) (fO (S.flows++W.flows)) (fu (S.flows++W.flows)) (gStk (bK S.cat) W ⟨frm,to,item,mn,parts⟩) W.tot { x with stk:=gins x.stk (frm,item) sk }:=fun sk l e1 e2 e3=>by
  refine⟨hx.cat,hx.catB,hx.count,hx.tick,hx.flows,fun a i=>?_,fun a i=>?_,hx.tot,hx.imp,hx.ret⟩
  ·dsimp only;rw[lF,e3];unfold upd2;by_cases q:a=frm∧i=item
   ·rw[if_pos q,if_pos (by rw[q.1,q.2])];exact e1
   ·rw[if_neg q,if_neg (fun r=>q ⟨congrArg Prod.fst r,congrArg Prod.snd r⟩)];exact hx.stk a i
  ·dsimp only;rw[lF,e3];unfold upd2;by_cases q:a=frm∧i=item
   ·rw[if_pos q,if_pos (by rw[q.1,q.2]),←e1];exact e2
   ·rw[if_neg q,if_neg (fun r=>q ⟨congrArg Prod.fst r,congrArg Prod.snd r⟩)];exact hx.cap a i
 simp only[bkL,bJ];have hv:=sI x.stk (frm,item);generalize hske:fU x.stk (frm,item)=sk at *;obtain⟨sad,scap,lots⟩:=sk;simp only[Stk.v] at hv;dsimp only at hsk h20 hGl hGo hw;repeat first|refine aa ?_|intro _|refine bZ ?_
 refine GO.ev (Ev.m5 rfl rfl) ae ?_;repeat first|refine aa ?_|intro _|refine bZ ?_
 refine GPW.evL (Ev.e8 rfl rfl) ae ?_;rw[hv];by_cases hp:parts.length=0
 case neg =>
  have hpn:parts≠[]:=fun q=>hp (by rw[q];rfl)
  have hpa:gj parts mn:=by
   rcases hm.g.parts with q|q
   ·exact absurd q hpn
   ·exact partsA_iff.2 q
  have eE:gErr S.shard (S.flows++W.flows) s W ⟨frm,to,item,mn,parts⟩=if lsum parts - OO parts lots=0 then 0 else 10:=by
   unfold gErr;rw[if_neg h0,if_neg hpn];have hwi:=ro hpa.1 hpa.2.1 (own:=W.stk frm item) ⟨fun z hz=>hGo z (by rw[hsk];exact hz),by rw[←hsk];omega⟩ hG.apt;by_cases q:fT parts (W.stk frm item)
   ·rw[if_pos q,hsk,if_pos (hwi.1 q)]
   ·rw[if_neg q,hsk,if_neg (fun r=>q (hwi.2 r))]
  have eP:gPts (bK S.cat) s W ⟨frm,to,item,mn,parts⟩=parts:=by unfold gPts;rw[if_neg h0,if_neg hpn]
  have eL:gStk (bK S.cat) W ⟨frm,to,item,mn,parts⟩=upd2 W.stk frm item (eh lots parts):=by unfold gStk kY;rw[if_neg h0,if_neg hpn,hsk]
  rw[eE,eP];repeat first|refine aa ?_|intro _|refine bZ ?_
  refine GO.ef (Ef.d7 (ve sad lots.length scap lots pad parts.length pcap parts rfl rfl hGo ac hlots hpa.1.2 hpa.2.1) rfl) ae ?_;rintro _ _⟨ad2,c2,rfl,rfl⟩;by_cases hq:lsum parts - OO parts lots=0
  case neg =>
   rw[aF hq,if_neg hq];repeat first|refine aa ?_|intro _|refine bZ ?_
   exact KX.d7 ai ag (.inr ⟨by decide,none,0,0,rfl,rfl⟩)
  rw[aU hq,if_pos hq];refine GO.e8 (fI (ad:=ad2) (cap:=c2) (xs:=eh lots parts) (enc:=an) (sz:=3) (E:=tLot)) ?_;rintro⟨hcap,_⟩;repeat first|refine aa ?_|intro _|refine bZ ?_
  refine GPW.efu (Ef.f8 (enc:=Stk.v) (e:=(⟨ad2,c2,eh lots parts⟩:Stk)) rfl rfl rfl rfl) ?_;rintro _ _⟨rfl,rfl⟩;repeat first|refine aa ?_|intro _|refine bZ ?_
  refine KX.d7 ai ?_ (.inl ⟨rfl,pad,pcap,_,rfl,hxE ⟨ad2,c2,eh lots parts⟩ (eh lots parts) rfl hcap eL,rfl⟩);refine(Ent.frz ad2).trans ?_;refine(Ent.at (A:=allP (fun p:(Int×Int)×Stk=>stkP p.2) x.stk) (Ent.refl _)).trans ?_;refine(Ent.at (A:=stkP ⟨ad2,c2,eh lots parts⟩) (iH (k:=(frm,item)))).trans ?_;simp only[bkL,bJ];exact ag
 have hpn:parts=[]:=aW hp;have eE:gErr S.shard (S.flows++W.flows) s W ⟨frm,to,item,mn,parts⟩=if lsum lots<mn then 10 else 0:=by unfold gErr;rw[if_neg h0,if_pos hpn,hsk]
 have eP:gPts (bK S.cat) s W ⟨frm,to,item,mn,parts⟩=gN (bK S.cat item) lots mn:=by unfold gPts;rw[if_neg h0,if_pos hpn,hsk]
 have eL:gStk (bK S.cat) W ⟨frm,to,item,mn,parts⟩=upd2 W.stk frm item (eJ (bK S.cat item) lots mn):=by unfold gStk kY;rw[if_neg h0,if_pos hpn,hsk]
 have hit2:item<x.cat.items.length:=by
  have e:x.cat.m.items.length=x.cat.items.length:=by simp[CatV.m]
  rw[hx.cat] at e;omega
 have hmx0:bK S.cat item=x.cat.items[item.toNat]!.mixed:=by
  unfold bK;rw[←hx.cat];rfl
 rw[hmx0] at eP eL;rw[eE,eP];repeat first|refine aa ?_|intro _|refine bZ ?_
 rename_i b5 b8;refine G.loop (α:=Nat) (fun i=>i≤lots.length) (fun i=>[(0,au b),(5,au b5),(8,au b8),(9,.slice sad lots.length scap),(12,ab (lsum (lots.take i))),(80,.slice sad lots.length scap),(81,ab lots.length),(82,ab (i:Int))]) (fun _=>obj b8 116 [ab frm,ab item]::obj b5 tMv [ab frm,ab to,ab item,ab mn,.slice pad parts.length pcap]::isl an 3 sad lots::isl bS 7 x.cat.iad x.cat.items::bkL b S.shard x L) (fun i=>lots.length - i) 0 (ao _) aj (by simp only[bkL,bJ];exact ag) ?_;intro i hi;by_cases hlt:i<lots.length
 case pos =>
  have hii:(i:Int).toNat=i:=aA i;have hlt' : (i:Int).toNat<lots.length:=ac;have hb1:=gx hGo i ac;have hb2:=dV lots hlt;have hok:=hGo _ (aI hlt');unfold LotOk at hok;simp only[bkL,bJ];repeat first|refine aa ?_|intro _|refine bZ ?_
  refine⟨i+1,ac,ac,?_,by exact ag⟩;rw[hb2,aP i,show lots[i]! = lots[(i:Int).toNat]! by rw[hii]];exact aj
 obtain rfl:i=lots.length:=ac;rw[gM];simp only[bkL,bJ];by_cases hq:lsum lots<mn
 ·rw[if_pos hq];repeat first|refine aa ?_|intro _|refine bZ ?_
  exact KX.d7 ai ag (.inr ⟨by decide,none,0,0,rfl,rfl⟩)
 rw[if_neg hq]
 have hne:lots≠[]:=fun q=>by
  rw[q,iv] at hq;omega
 have htk:∀(mx:Bool) (k:Nat),k<lots.length→(if mx=true then shC lots mn k else fuC lots mn k)=tkC mx lots mn k:=fun mx k _=>by
  unfold tkC;cases mx
  ·rw[if_neg ae,if_neg (fun q=>absurd q.1 ae)]
  ·rw[if_pos rfl,if_pos ⟨rfl,ac⟩]
 cases hmx:x.cat.items[item.toNat]!.mixed with
 | true =>
  rw[hmx] at eL;repeat first|refine aa ?_|intro _|refine bZ ?_
  rw[hmx];repeat first|refine aa ?_|intro _|refine bZ ?_
  refine GO.ef (Ef.d9 rfl rfl (pU sad lots.length scap lots mn rfl h20 hGo hne ac ac hmn.2)) ae ?_;rintro _ _⟨ad1,c1,rfl,rfl⟩;repeat first|refine aa ?_|intro _|refine bZ ?_
  refine GO.ef (Ef.d7 (ul sad lots.length scap lots ad1 lots.length c1 ((List.range lots.length).map (shC lots mn)) rfl (by simp) ac (by simp) hw (fun k hk=>by rw[mz _ _ hk,show shC lots mn k=tkC true lots mn k from htk true k hk];exact mZ true lots mn hGo ac ac k hk)) rfl) ae ?_;rintro _ _⟨ad2,c2,ad3,c3,rfl,rfl⟩;have hpc:=tL (l:=lots) (f:=fun k=>((List.range lots.length).map (shC lots mn))[k]!) (g:=tkC true lots mn) (fun k hk=>by rw[mz _ _ hk,show shC lots mn k=tkC true lots mn k from htk true k hk]);rw[hpc.1,hpc.2,show divF lots (tkC true lots mn) lots.length=gN true lots mn from rfl,show divR lots (tkC true lots mn) lots.length=eJ true lots mn from rfl];clear hpc;refine GO.e8 (fI (ad:=ad3) (cap:=c3) (xs:=eJ true lots mn) (enc:=an) (sz:=3) (E:=tLot)) ?_;rintro⟨hcap,_⟩;repeat first|refine aa ?_|intro _|refine bZ ?_
  refine GPW.efu (Ef.f8 (enc:=Stk.v) (e:=(⟨ad3,c3,eJ true lots mn⟩:Stk)) rfl rfl rfl rfl) ?_;rintro _ _⟨rfl,rfl⟩;repeat first|refine aa ?_|intro _|refine bZ ?_
  refine KX.d7 ai ?_ (.inl ⟨rfl,ad2,c2,_,rfl,hxE ⟨ad3,c3,eJ true lots mn⟩ (eJ true lots mn) rfl hcap eL,rfl⟩);refine(Ent.frz ad2).trans ((Ent.frz ad3).trans ?_);refine(Ent.at (A:=allP (fun p:(Int×Int)×Stk=>stkP p.2) x.stk) (Ent.refl _)).trans ?_;refine(Ent.at (A:=stkP ⟨ad3,c3,eJ true lots mn⟩) (iH (k:=(frm,item)))).trans ?_;simp only[bkL,bJ];exact ag
 | false =>
  rw[hmx] at eL;repeat first|refine aa ?_|intro _|refine bZ ?_
  rw[hmx];repeat first|refine aa ?_|intro _|refine bZ ?_
  refine GO.ef (Ef.d9 rfl rfl (yV sad lots.length scap lots mn rfl ac hw ac hmn.2)) ae ?_;rintro _ _⟨ad1,c1,rfl,rfl⟩;repeat first|refine aa ?_|intro _|refine bZ ?_
  refine GO.ef (Ef.d7 (ul sad lots.length scap lots ad1 lots.length c1 ((List.range lots.length).map (fuC lots mn)) rfl (by simp) ac (by simp) hw (fun k hk=>by rw[mz _ _ hk,show fuC lots mn k=tkC false lots mn k from htk false k hk];exact mZ false lots mn hGo ac ac k hk)) rfl) ae ?_;rintro _ _⟨ad2,c2,ad3,c3,rfl,rfl⟩;have hpc:=tL (l:=lots) (f:=fun k=>((List.range lots.length).map (fuC lots mn))[k]!) (g:=tkC false lots mn) (fun k hk=>by rw[mz _ _ hk,show fuC lots mn k=tkC false lots mn k from htk false k hk]);rw[hpc.1,hpc.2,show divF lots (tkC false lots mn) lots.length=gN false lots mn from rfl,show divR lots (tkC false lots mn) lots.length=eJ false lots mn from rfl];clear hpc;refine GO.e8 (fI (ad:=ad3) (cap:=c3) (xs:=eJ false lots mn) (enc:=an) (sz:=3) (E:=tLot)) ?_;rintro⟨hcap,_⟩;repeat first|refine aa ?_|intro _|refine bZ ?_
  refine GPW.efu (Ef.f8 (enc:=Stk.v) (e:=(⟨ad3,c3,eJ false lots mn⟩:Stk)) rfl rfl rfl rfl) ?_;rintro _ _⟨rfl,rfl⟩;repeat first|refine aa ?_|intro _|refine bZ ?_
  refine KX.d7 ai ?_ (.inl ⟨rfl,ad2,c2,_,rfl,hxE ⟨ad3,c3,eJ false lots mn⟩ (eJ false lots mn) rfl hcap eL,rfl⟩);refine(Ent.frz ad2).trans ((Ent.frz ad3).trans ?_);refine(Ent.at (A:=allP (fun p:(Int×Int)×Stk=>stkP p.2) x.stk) (Ent.refl _)).trans ?_;refine(Ent.at (A:=stkP ⟨ad3,c3,eJ false lots mn⟩) (iH (k:=(frm,item)))).trans ?_;simp only[bkL,bJ];exact ag
def bk0(c:CatV)(ms mt mi mr:Nat):BkX:=⟨c,ms,mt,mi,mr,0,0,[],[],[],[],[],none,0⟩
theorem uD{L:LH}(sh:Int)(c:CatV) :
  Tri ah 45 #[ab sh,.agg c.cells.toArray] (catP c::L) (fun v L'=>∃b ms mt mi mr,v=au b∧L' = bkL b sh (bk0 c ms mt mi mr) L):=by
 refine Tri.body (args:=[ab sh,.agg c.cells.toArray]) 13 en45 Tryz.func45 rfl rfl rfl (by simp) ?_;simp only[CatV.cells];repeat first|refine aa ?_|intro
 refine GO.ef (Ef.f7 kvP Stk.v (.inl rfl)) ae ?_;rintro _ _⟨ms,rfl,rfl⟩;repeat first|refine aa ?_|intro
 refine GO.ef (Ef.f7 kvI encN (.inl rfl)) ae ?_;rintro _ _⟨mt,rfl,rfl⟩;repeat first|refine aa ?_|intro
 refine GO.ef (Ef.f7 kvI Stk.v (.inl rfl)) ae ?_;rintro _ _⟨mi,rfl,rfl⟩;repeat first|refine aa ?_|intro
 refine GO.ef (Ef.f7 kvI Stk.v (.inl rfl)) ae ?_;rintro _ _⟨mr,rfl,rfl⟩;repeat first|refine aa ?_|intro
 rename_i b;refine KX.d7 ai ?_ ⟨b,ms,mt,mi,mr,rfl,rfl⟩;simp only[bkL,bJ,bk0];refine Ent.trans (Ent.l0 fk) (Ent.trans (Ent.l0 fk) (Ent.trans (Ent.d8 aL 11 bz) ?_));refine Ent.trans (Ent.e7 (fun p:(Int×Int)×Stk=>stkP p.2)) (Ent.trans (Ent.e7 flP) ?_);exact ag
end
end Go.Proofs.YtommnllbflbdmaaGreatDoor
namespace Go.V
section
variable {P:Program}{L:LH}{env:Env}{ty:TypeId}
theorem Ev.B1{t:TypeId}{x hi mx:Operand}{ad:OA}{n c E sz bb:Nat}{z:LV}{k k' : IntKind}{j:Int}[ht:TySl P t E sz bb z](hx:evE env x=some (.slice ad n c))(hh:evE env hi=some (.int k j))(hm:evE env mx=some (.int k' j))(h0:0≤j)(h1:j≤c):Ev P L env (.slice t x none (some hi) (some mx)) ty (.slice ad j.toNat j.toNat) :=
 Ev.mk (fun _ _ _ w ea _ _ _ _ _=>by
  obtain⟨ii,z0,i1,i2,i3,i4,i5⟩:=ht.parts;have h2:j≤(j.toNat:Int):=ac;simp[execOp,aO ea hx,aO ea hh,aO ea hm,Instr.sliceAt,Instr.slice,run_underlying ht.under,Instr.sliceBounds,Instr.sliceBound,asIntOf,h0,h1,h2,sizeOf,typeInfo,i1];rw[if_pos ac];cases ad<;>simp[Addr.add])
end
end Go.V
namespace Go.Proofs.YtommnllbflbdmaaGreatDoor
open Go.V
attribute [local irreducible] G GO GP GPW GPK Ev Ef EfR Ent CB GB V.Enters
theorem pu{L:LH}(ad:OA)(n c:Nat)(h:n≤c):Tri ah 157 #[.slice ad n c] L (fun v L'=>v=.slice ad n n∧L' = L):=by
 refine Tri.body (args:=[.slice ad n c]) 9 Jq Tryz.func157 rfl rfl rfl (by simp) ?_;repeat first|refine aa ?_|intro
 refine GO.ev (Ev.B1 rfl rfl rfl ac ac) ae ?_;rw[aA];repeat first|refine aa ?_|intro
 exact KX.d7 ai (Ent.refl _) ⟨rfl,rfl⟩
end Go.Proofs.YtommnllbflbdmaaGreatDoor
namespace Go.V
section
variable {P:Program}{N:Nat}{ops:Array Oper}{done:List Nat}{plan:List Stp}{pend:List PE}{env:Env}{L:LH}{K:Post}
theorem GP.fct{φ:Prop}(h:∀θ R w,Sat θ (L++R) w→φ)(k:φ→GP P N ops done plan pend env L K):GP P N ops done plan pend env L K:=fun hK hp hs hcl θ Y a w S i hpo hpw=>let ⟨_,_,_,s⟩:=i;k (h θ _ w s) hK hp hs hcl θ Y a w S i hpo hpw
theorem GPW.fct{s:Stp}{dst:Option Tmp}{op:Op}{ty:TypeId}{φ:Prop}(h:∀θ R w,Sat θ (L++R) w→φ)(k:φ→GPW P N ops done s plan dst op ty pend env L K):GPW P N ops done s plan dst op ty pend env L K:=fun pos af g h1 h2=>GP.fct h (fun hφ=>k hφ pos af g h1 h2)
