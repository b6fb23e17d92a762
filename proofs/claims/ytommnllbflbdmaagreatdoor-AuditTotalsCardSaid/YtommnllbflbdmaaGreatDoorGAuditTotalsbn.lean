/- Lemmas and contracts of functions. -/
import Derived.Test.YtommnllbflbdmaaGreatDoorGAuditTotalsbl
import Derived.Test.YtommnllbflbdmaaGreatDoorGAuditTotalsbm
import Derived.Test.YtommnllbflbdmaaGreatDoorGAuditTotalsbk
import Derived.Test.YtommnllbflbdmaaGreatDoorSAuditTotalsV20
import Derived.Test.YtommnllbflbdmaaGreatDoorGAuditTotalsal
set_option linter.all false
set_option maxHeartbeats 16000000
namespace Go.Proofs.YtommnllbflbdmaaGreatDoor
section
open Go.V
attribute [local irreducible] G GO GP GPW GPK Ev Ef EfR Ent CB GB V.Enters
structure BkI (S:LedM) (fl:List FlM) (ia ra:List Lot) (f:Int→Int→List Lot) (t:Int→Int) (x:BkX):Prop where
 cat:x.cat.m=S.cat
 catB:x.cat.B
 count:x.count=S.steps.length
 tick:x.tick=S.now
 flows:x.flows.map (·.m)=fl
 stk:∀ a i,(fB x.stk (a,i)).lots=f a i
 cap:∀ a i,(f a i).length≤(fB x.stk (a,i)).cap
 tot:∀ i,(glk x.tot i).getD 0=t i
 imp:kD x.imp ia
 ret:kD x.ret ra
theorem sI {l:List Lot} {f g:Nat→Int} (h:∀ k,k<l.length→f k=g k):divF l f l.length=divF l g l.length∧divR l f l.length=divR l g l.length:=by
 have e1:(List.range l.length).map (pcF l f)=(List.range l.length).map (pcF l g):=cH (fun k hk=>by unfold pcF;rw [h k (List.mem_range.1 hk)])
 have e2:(List.range l.length).map (pcR l f)=(List.range l.length).map (pcR l g):=cH (fun k hk=>by unfold pcR;rw [h k (List.mem_range.1 hk)])
 unfold divF divR
 rw [e1,e2]
 exact ⟨rfl,rfl⟩
theorem lQ (n:Nat) (f:Nat→Int) {k:Nat} (h:k<n):((List.range n).map f)[k]! = f k:=by
 rw [getElem!_of (by simpa using h)]
 simp
theorem kY {m:List ((Int×Int)×Stk)} {k q:Int×Int} {s:Stk}:fB (gins m k s) q=if q=k then s else fB m q:=by
 unfold fB
 rw [jD]
 split<;>rfl
def iaOf (s:StM) (m:MvM):List Lot:=if s.kind=5 then m.parts else []
def raOf (s:StM) (m:MvM):List Lot:=if s.kind=9∧m.frm=0 then m.parts else []
abbrev xI:List Stp:=[.ev 0,.ev 1,.ev 2,.ev 3,.ef 4,.ev 5,.ev 6]
abbrev xH:List Stp:=[.ev 0,.ev 1,.ev 2,.ev 3,.ef 4,.ev 5,.ev 6]
abbrev xG:List Stp:=[.ev 0,.ev 1,.ev 2,.ev 3,.ev 4,.ev 5,.ev 6]
abbrev vc:List Stp:=[.ev 0,.ev 1,.ev 2,.ev 3,.ev 4,.ev 5,.ef 6]
abbrev vb:List Stp:=[.ev 0,.ev 1,.ev 2,.ev 3,.ev 4,.ev 5,.ev 6,.ev 7,.ev 8,.ev 9]
abbrev va:List Stp:=[.ev 0,.ev 1,.ev 2,.ev 3,.ev 4,.ev 5,.ef 6]
theorem bO {φ ψ:Prop} (k:ψ) (h:Hid ψ→φ:=by intro k;(with_reducible apply G.d8);first|refine G.d7 (N:=122) (id:=2) xI mixed an (Hid.out k)|refine G.d7 (N:=122) (id:=4) xH mixed an (Hid.out k)|refine G.d7 (N:=122) (id:=8) xG mixed an (Hid.out k)|refine G.d7 (N:=122) (id:=13) vc mixed an (Hid.out k)|refine G.d7 (N:=122) (id:=24) vb mixed an (Hid.out k)|refine G.d7 (N:=122) (id:=27) va mixed an (Hid.out k)):φ:=h ⟨k⟩
theorem ww {L:List HP} (b:Nat) (S:LedM) (hS:0≤S.shard∧S.shard<12) (k:Nat) (x:BkX) (W:Wk) (hfl:S.flows.length+W.flows.length≤8000000) (hx:BkI S (S.flows++W.flows) (fu (S.flows++W.flows)) (eV (S.flows++W.flows)) W.stk W.tot x) (hW:WkA S.shard S.flows k W) (s:StM) (m:MvV) (hm:MvA s.kind m.m) (hk:k+m.m.parts.length≤2000) (hit:0≤m.m.item∧m.m.item<S.cat.items.length) (hb:∀ p∈m.m.parts,p.1≤9223372036854775807) (h20:(W.stk m.m.frm m.m.item).length<20) :
  Tri Tryz.prog 102 #[.pointer (some ⟨b,0,none⟩),.int .i64 s.kind,.agg (aF m).toArray] (isl ah 3 m.pad m.m.parts::bkL b S.shard x L) (fun v L' =>
   (gErr S.shard (S.flows++W.flows) s W m.m=0∧∃ pad cap x',v=.tuple #[.slice pad (gPts (bC S.cat) s W m.m).length cap,.int .i64 0]∧BkI S (S.flows++W.flows) (fu (S.flows++W.flows)++iaOf s m.m) (eV (S.flows++W.flows)++raOf s m.m) (gStk (bC S.cat) W m.m) W.tot x'∧L' = isl ah 3 pad (gPts (bC S.cat) s W m.m)::bkL b S.shard x' L) ∨
   (gErr S.shard (S.flows++W.flows) s W m.m≠0∧∃ ad n c,v=.tuple #[.slice ad n c,.int .i64 (gErr S.shard (S.flows++W.flows) s W m.m)]∧L' = L)):=by
 have hlots:=hm.g.lots
 have hxf:x.flows.length=S.flows.length+W.flows.length:=by
  have:=congrArg List.length hx.flows
  rwa [aD,ax] at this
 have hil:=hW.il
 have hrl:=hW.rl
 have hiok:=BZ hW.fa
 have hrok:=Bt hW.fa
 obtain ⟨⟨frm,to,item,mn,parts⟩,pad,pcap⟩:=m
 dsimp only at hm hk hit hb h20 hlots ⊢
 refine Tri.body (args:=[.pointer (some ⟨b,0,none⟩),.int .i64 s.kind,.agg (aF ⟨⟨frm,to,item,mn,parts⟩,pad,pcap⟩).toArray]) 122 IN Tryz.func102 rfl rfl rfl (by simp) ?_
 simp only [aF,bkL,bz]
 by_cases h0:frm=0
 ·subst h0
  have hstk:gStk (bC S.cat) W ⟨0,to,item,mn,parts⟩=W.stk:=by unfold gStk;rw [if_pos rfl]
  rw [hstk]
  by_cases h5:s.kind=5
  ·have eE:gErr S.shard (S.flows++W.flows) s W ⟨0,to,item,mn,parts⟩=arrG S.shard (S.flows++W.flows) parts:=by unfold gErr;rw [if_pos rfl,if_pos h5]
   have eP:gPts (bC S.cat) s W ⟨0,to,item,mn,parts⟩=parts:=by unfold gPts;rw [if_pos rfl,if_pos (.inl h5)]
   have eI:iaOf s ⟨0,to,item,mn,parts⟩=parts:=if_pos h5
   have eR:raOf s ⟨0,to,item,mn,parts⟩=[]:=if_neg ab
   have hpa:=hm.st (.inl h5)
   rw [eE,eP,eI,eR,← EE hW.fa hlots hpa.2.1,aV]
   repeat first|refine aa ?_|intro _|refine bO ?_
   (first|refine GPW.ef (Ef.call (qo (L:=[isl ah 3 pad parts]) b S.shard x (fu (S.flows++W.flows)) hx.imp ab hiok ⟨⟨0,to,item,mn,parts⟩,pad,pcap⟩ hlots hb (by dsimp only;omega)) rfl (by repeat (first|exact Ent.refl _|apply Ent.take))) ac ?_)
   rintro _ _ ⟨_,⟨imp',rfl,him,rfl⟩,hL⟩
   simp only [aq,aj] at hL;subst hL
   dsimp only at him
   simp only [bz]
   by_cases he:impG S.shard parts (fu (S.flows++W.flows))=0
   ·rw [he]
    repeat first|refine aa ?_|intro _|refine bO ?_
    refine KX.d7 ag ?_ (.inl ⟨rfl,pad,pcap,{ x with imp:=imp' },rfl,⟨hx.cat,hx.catB,hx.count,hx.tick,hx.flows,hx.stk,hx.cap,hx.tot,him he,hx.ret⟩,rfl⟩)
    simp only [bkL,bz]
    exact ae
   ·repeat first|refine aa ?_|intro _|refine bO ?_
    exact KX.d7 ag ae (.inr ⟨he,pad,parts.length,pcap,rfl,rfl⟩)
  by_cases h9:s.kind=9
  ·have eE:gErr S.shard (S.flows++W.flows) s W ⟨0,to,item,mn,parts⟩=revG (S.flows++W.flows) item parts:=by unfold gErr;rw [if_pos rfl,if_neg h5,if_pos h9]
   have eP:gPts (bC S.cat) s W ⟨0,to,item,mn,parts⟩=parts:=by unfold gPts;rw [if_pos rfl,if_pos (.inr h9)]
   have eI:iaOf s ⟨0,to,item,mn,parts⟩=[]:=if_neg h5
   have eR:raOf s ⟨0,to,item,mn,parts⟩=parts:=if_pos ⟨h9,rfl⟩
   have hpa:=hm.st (.inr (.inr h9))
   rw [eE,eP,eI,eR,← Eq hS.1 hW.fa hW.fn item hlots hpa.2.1,aV]
   repeat first|refine aa ?_|intro _|refine bO ?_
   (first|refine GPW.ef (Ef.call (qf (L:=[isl ah 3 pad parts]) b S.shard hS x ab (eV (S.flows++W.flows)) hx.ret ab hrok ⟨⟨0,to,item,mn,parts⟩,pad,pcap⟩ hlots hb (by dsimp only;omega)) rfl (by repeat (first|exact Ent.refl _|apply Ent.take))) ac ?_)
   rintro _ _ ⟨_,⟨ret',rfl,him,rfl⟩,hL⟩
   simp only [aq,aj] at hL;subst hL
   dsimp only at him
   rw [hx.flows] at him ⊢
   simp only [bz]
   by_cases he:retG S.shard (S.flows++W.flows) item parts (eV (S.flows++W.flows))=0
   ·rw [he]
    repeat first|refine aa ?_|intro _|refine bO ?_
    refine KX.d7 ag ?_ (.inl ⟨rfl,pad,pcap,{ x with ret:=ret' },rfl,⟨hx.cat,hx.catB,hx.count,hx.tick,hx.flows,hx.stk,hx.cap,hx.tot,hx.imp,him he⟩,rfl⟩)
    simp only [bkL,bz]
    exact ae
   ·repeat first|refine aa ?_|intro _|refine bO ?_
    exact KX.d7 ag ae (.inr ⟨he,pad,parts.length,pcap,rfl,rfl⟩)
  have eE:gErr S.shard (S.flows++W.flows) s W ⟨0,to,item,mn,parts⟩=0:=by unfold gErr;rw [if_pos rfl,if_neg h5,if_neg h9]
  have eP:gPts (bC S.cat) s W ⟨0,to,item,mn,parts⟩=[]:=by unfold gPts;rw [if_pos rfl,if_neg ab]
  have eI:iaOf s ⟨0,to,item,mn,parts⟩=[]:=if_neg h5
  have eR:raOf s ⟨0,to,item,mn,parts⟩=[]:=if_neg ab
  rw [eE,eP,eI,eR,aV,aV]
  repeat first|refine aa ?_|intro _|refine bO ?_
  refine KX.d7 ag ?_ (.inl ⟨rfl,none,0,x,rfl,hx,rfl⟩)
  refine Ent.trans ?_ (Ent.e8 ah 3 none)
  exact ae
 have eI:iaOf s ⟨frm,to,item,mn,parts⟩=[]:=if_neg (fun q=>h0 (hm.imp q))
 have eR:raOf s ⟨frm,to,item,mn,parts⟩=[]:=if_neg (fun q=>h0 q.2)
 rw [eI,eR,aV,aV]
 have hG:=hW.g.stk frm item
 have hGl:=hG.len
 have hGo:=hG.lots
 have hsk:=hx.stk frm item
 rw [← hsk] at h20 hGl hGo
 have hw:∀ q∈(fB x.stk (frm,item)).lots,LotW q:=fun q hq=>(hGo q hq).w
 have hmn:=hm.g.n
 dsimp only at hmn
 refine G.ent (L':=stkP (fB x.stk (frm,item))::isl cU 7 x.cat.iad x.cat.items::isl ah 3 pad parts::bkL b S.shard x L) ?_ ?_
 ·refine (Ent.at (A:=catP x.cat) qy).trans ?_
  refine (Ent.at (A:=allP (fun p:(Int×Int)×Stk=>stkP p.2) x.stk) (nZ (frm,item))).trans ?_
  simp only [bkL,bz]
  exact ae
 have hxE:∀ (sk:Stk) (l:List Lot),sk.lots=l→sk.lots.length≤sk.cap→gStk (bC S.cat) W ⟨frm,to,item,mn,parts⟩=upd2 W.stk frm item l→BkI S (S.flows++W.flows) (fu (S.flows++W.flows)) (eV (S.flows++W.flows)) (gStk (bC S.cat) W ⟨frm,to,item,mn,parts⟩) W.tot { x with stk:=gins x.stk (frm,item) sk }:=fun sk l e1 e2 e3=>by
  refine ⟨hx.cat,hx.catB,hx.count,hx.tick,hx.flows,fun a i=>?_,fun a i=>?_,hx.tot,hx.imp,hx.ret⟩
  ·dsimp only
   rw [kY,e3]
   unfold upd2
   by_cases q:a=frm∧i=item
   ·rw [if_pos q,if_pos (by rw [q.1,q.2])]
    exact e1
   ·rw [if_neg q,if_neg (fun r=>q ⟨congrArg Prod.fst r,congrArg Prod.snd r⟩)]
    exact hx.stk a i
  ·dsimp only
   rw [kY,e3]
   unfold upd2
   by_cases q:a=frm∧i=item
   ·rw [if_pos q,if_pos (by rw [q.1,q.2]),← e1]
    exact e2
   ·rw [if_neg q,if_neg (fun r=>q ⟨congrArg Prod.fst r,congrArg Prod.snd r⟩)]
    exact hx.cap a i
 simp only [bkL,bz]
 have hv:=rO x.stk (frm,item)
 generalize hske:fB x.stk (frm,item)=sk at *
 obtain ⟨sad,scap,lots⟩:=sk
 simp only [Stk.v] at hv
 dsimp only at hsk h20 hGl hGo hw
 repeat first|refine aa ?_|intro _|refine bO ?_
 refine GO.ev (Ev.l9 rfl rfl) ac ?_
 repeat first|refine aa ?_|intro _|refine bO ?_
 refine GPW.evL (Ev.e7 rfl rfl) ac ?_
 rw [hv]
 by_cases hp:parts.length=0
 case neg =>
  have hpn:parts≠[]:=fun q=>hp (by rw [q];rfl)
  have hpa:fO parts mn:=by
   rcases hm.g.parts with q|q
   ·exact absurd q hpn
   ·exact partsA_iff.2 q
  have eE:gErr S.shard (S.flows++W.flows) s W ⟨frm,to,item,mn,parts⟩=if lsum parts - OO parts lots=0 then 0 else 10:=by
   unfold gErr
   rw [if_neg h0,if_neg hpn]
   have hwi:=qE hpa.1 hpa.2.1 (own:=W.stk frm item) ⟨fun z hz=>hGo z (by rw [hsk];exact hz),by rw [← hsk];omega⟩ hG.apt
   by_cases q:fA parts (W.stk frm item)
   ·rw [if_pos q,hsk,if_pos (hwi.1 q)]
   ·rw [if_neg q,hsk,if_neg (fun r=>q (hwi.2 r))]
  have eP:gPts (bC S.cat) s W ⟨frm,to,item,mn,parts⟩=parts:=by unfold gPts;rw [if_neg h0,if_neg hpn]
  have eL:gStk (bC S.cat) W ⟨frm,to,item,mn,parts⟩=upd2 W.stk frm item (dN lots parts):=by unfold gStk kA;rw [if_neg h0,if_neg hpn,hsk]
  rw [eE,eP]
  repeat first|refine aa ?_|intro _|refine bO ?_
  refine GO.ef (Ef.d7 (um sad lots.length scap lots pad parts.length pcap parts rfl rfl hGo ab hlots hpa.1.2 hpa.2.1) rfl) ac ?_
  rintro _ _ ⟨ad2,c2,rfl,rfl⟩
  by_cases hq:lsum parts - OO parts lots=0
  case neg =>
   rw [aC hq,if_neg hq]
   repeat first|refine aa ?_|intro _|refine bO ?_
   exact KX.d7 ag ae (.inr ⟨by decide,none,0,0,rfl,rfl⟩)
  rw [aL hq,if_pos hq]
  refine GO.e8 (gG (ad:=ad2) (cap:=c2) (xs:=dN lots parts) (enc:=ah) (sz:=3) (E:=tLot)) ?_
  rintro ⟨hcap,_⟩
  repeat first|refine aa ?_|intro _|refine bO ?_
  refine GPW.efu (Ef.f7 (enc:=Stk.v) (e:=(⟨ad2,c2,dN lots parts⟩:Stk)) rfl rfl rfl rfl) ?_
  rintro _ _ ⟨rfl,rfl⟩
  repeat first|refine aa ?_|intro _|refine bO ?_
  refine KX.d7 ag ?_ (.inl ⟨rfl,pad,pcap,_,rfl,hxE ⟨ad2,c2,dN lots parts⟩ (dN lots parts) rfl hcap eL,rfl⟩)
  refine (Ent.frz ad2).trans ?_
  refine (Ent.at (A:=allP (fun p:(Int×Int)×Stk=>stkP p.2) x.stk) (Ent.refl _)).trans ?_
  refine (Ent.at (A:=stkP ⟨ad2,c2,dN lots parts⟩) (ik (k:=(frm,item)))).trans ?_
  simp only [bkL,bz]
  exact ae
 have hpn:parts=[]:=aQ hp
 have eE:gErr S.shard (S.flows++W.flows) s W ⟨frm,to,item,mn,parts⟩=if lsum lots<mn then 10 else 0:=by unfold gErr;rw [if_neg h0,if_pos hpn,hsk]
 have eP:gPts (bC S.cat) s W ⟨frm,to,item,mn,parts⟩=gt (bC S.cat item) lots mn:=by unfold gPts;rw [if_neg h0,if_pos hpn,hsk]
 have eL:gStk (bC S.cat) W ⟨frm,to,item,mn,parts⟩=upd2 W.stk frm item (dW (bC S.cat item) lots mn):=by unfold gStk kA;rw [if_neg h0,if_pos hpn,hsk]
 have hit2:item<x.cat.items.length:=by
  have e:x.cat.m.items.length=x.cat.items.length:=by simp [CatV.m]
  rw [hx.cat] at e
  omega
 have hmx0:bC S.cat item=x.cat.items[item.toNat]!.mixed:=by
  unfold bC
  rw [← hx.cat]
  rfl
 rw [hmx0] at eP eL
 rw [eE,eP]
 repeat first|refine aa ?_|intro _|refine bO ?_
 rename_i b5 b8
 refine G.loop (α:=Nat) (fun i=>i≤lots.length) (fun i=>[(0,.pointer (some ⟨b,0,none⟩)),(5,.pointer (some ⟨b5,0,none⟩)),(8,.pointer (some ⟨b8,0,none⟩)),(9,.slice sad lots.length scap),(12,.int .i64 (lsum (lots.take i))),(80,.slice sad lots.length scap),(81,.int .i64 lots.length),(82,.int .i64 (i:Int))]) (fun _=>obj b8 116 [.int .i64 frm,.int .i64 item]::obj b5 tMv [.int .i64 frm,.int .i64 to,.int .i64 item,.int .i64 mn,.slice pad parts.length pcap]::isl ah 3 sad lots::isl cU 7 x.cat.iad x.cat.items::bkL b S.shard x L) (fun i=>lots.length - i) 0 (al _) ai (by simp only [bkL,bz];exact ae) ?_
 intro i hi
 by_cases hlt:i<lots.length
 case pos =>
  have hii:(i:Int).toNat=i:=av i
  have hlt' : (i:Int).toNat<lots.length:=ab
  have hb1:=fX hGo i ab
  have hb2:=dI lots hlt
  have hok:=hGo _ (aG hlt')
  unfold LotOk at hok
  simp only [bkL,bz]
  repeat first|refine aa ?_|intro _|refine bO ?_
  refine ⟨i+1,ab,ab,?_,by exact ae⟩
  rw [hb2,aM i,show lots[i]! = lots[(i:Int).toNat]! by rw [hii]]
  exact ai
 obtain rfl:i=lots.length:=ab
 rw [gi]
 simp only [bkL,bz]
 by_cases hq:lsum lots<mn
 ·rw [if_pos hq]
  repeat first|refine aa ?_|intro _|refine bO ?_
  exact KX.d7 ag ae (.inr ⟨by decide,none,0,0,rfl,rfl⟩)
 rw [if_neg hq]
 have hne:lots≠[]:=fun q=>by
  rw [q,gN] at hq
  omega
 have htk:∀ (mx:Bool) (k:Nat),k<lots.length→(if mx=true then shC lots mn k else fuC lots mn k)=tkC mx lots mn k:=fun mx k _=>by
  unfold tkC
  cases mx
  ·rw [if_neg ac,if_neg (fun q=>absurd q.1 ac)]
  ·rw [if_pos rfl,if_pos ⟨rfl,ab⟩]
 cases hmx:x.cat.items[item.toNat]!.mixed with
 | true =>
  rw [hmx] at eL
  repeat first|refine aa ?_|intro _|refine bO ?_
  rw [hmx]
  repeat first|refine aa ?_|intro _|refine bO ?_
  refine GO.ef (Ef.d9 rfl rfl (pt sad lots.length scap lots mn rfl h20 hGo hne ab ab hmn.2)) ac ?_
  rintro _ _ ⟨ad1,c1,rfl,rfl⟩
  repeat first|refine aa ?_|intro _|refine bO ?_
  refine GO.ef (Ef.d7 (tv sad lots.length scap lots ad1 lots.length c1 ((List.range lots.length).map (shC lots mn)) rfl (by simp) ab (by simp) hw (fun k hk=>by rw [lQ _ _ hk,show shC lots mn k=tkC true lots mn k from htk true k hk];exact mC true lots mn hGo ab ab k hk)) rfl) ac ?_
  rintro _ _ ⟨ad2,c2,ad3,c3,rfl,rfl⟩
  have hpc:=sI (l:=lots) (f:=fun k=>((List.range lots.length).map (shC lots mn))[k]!) (g:=tkC true lots mn) (fun k hk=>by rw [lQ _ _ hk,show shC lots mn k=tkC true lots mn k from htk true k hk])
  rw [hpc.1,hpc.2,show divF lots (tkC true lots mn) lots.length=gt true lots mn from rfl,show divR lots (tkC true lots mn) lots.length=dW true lots mn from rfl]
  clear hpc
  refine GO.e8 (gG (ad:=ad3) (cap:=c3) (xs:=dW true lots mn) (enc:=ah) (sz:=3) (E:=tLot)) ?_
  rintro ⟨hcap,_⟩
  repeat first|refine aa ?_|intro _|refine bO ?_
  refine GPW.efu (Ef.f7 (enc:=Stk.v) (e:=(⟨ad3,c3,dW true lots mn⟩:Stk)) rfl rfl rfl rfl) ?_
  rintro _ _ ⟨rfl,rfl⟩
  repeat first|refine aa ?_|intro _|refine bO ?_
  refine KX.d7 ag ?_ (.inl ⟨rfl,ad2,c2,_,rfl,hxE ⟨ad3,c3,dW true lots mn⟩ (dW true lots mn) rfl hcap eL,rfl⟩)
  refine (Ent.frz ad2).trans ((Ent.frz ad3).trans ?_)
  refine (Ent.at (A:=allP (fun p:(Int×Int)×Stk=>stkP p.2) x.stk) (Ent.refl _)).trans ?_
  refine (Ent.at (A:=stkP ⟨ad3,c3,dW true lots mn⟩) (ik (k:=(frm,item)))).trans ?_
  simp only [bkL,bz]
  exact ae
 | false =>
  rw [hmx] at eL
  repeat first|refine aa ?_|intro _|refine bO ?_
  rw [hmx]
  repeat first|refine aa ?_|intro _|refine bO ?_
  refine GO.ef (Ef.d9 rfl rfl (xZ sad lots.length scap lots mn rfl ab hw ab hmn.2)) ac ?_
  rintro _ _ ⟨ad1,c1,rfl,rfl⟩
  repeat first|refine aa ?_|intro _|refine bO ?_
  refine GO.ef (Ef.d7 (tv sad lots.length scap lots ad1 lots.length c1 ((List.range lots.length).map (fuC lots mn)) rfl (by simp) ab (by simp) hw (fun k hk=>by rw [lQ _ _ hk,show fuC lots mn k=tkC false lots mn k from htk false k hk];exact mC false lots mn hGo ab ab k hk)) rfl) ac ?_
  rintro _ _ ⟨ad2,c2,ad3,c3,rfl,rfl⟩
  have hpc:=sI (l:=lots) (f:=fun k=>((List.range lots.length).map (fuC lots mn))[k]!) (g:=tkC false lots mn) (fun k hk=>by rw [lQ _ _ hk,show fuC lots mn k=tkC false lots mn k from htk false k hk])
  rw [hpc.1,hpc.2,show divF lots (tkC false lots mn) lots.length=gt false lots mn from rfl,show divR lots (tkC false lots mn) lots.length=dW false lots mn from rfl]
  clear hpc
  refine GO.e8 (gG (ad:=ad3) (cap:=c3) (xs:=dW false lots mn) (enc:=ah) (sz:=3) (E:=tLot)) ?_
  rintro ⟨hcap,_⟩
  repeat first|refine aa ?_|intro _|refine bO ?_
  refine GPW.efu (Ef.f7 (enc:=Stk.v) (e:=(⟨ad3,c3,dW false lots mn⟩:Stk)) rfl rfl rfl rfl) ?_
  rintro _ _ ⟨rfl,rfl⟩
  repeat first|refine aa ?_|intro _|refine bO ?_
  refine KX.d7 ag ?_ (.inl ⟨rfl,ad2,c2,_,rfl,hxE ⟨ad3,c3,dW false lots mn⟩ (dW false lots mn) rfl hcap eL,rfl⟩)
  refine (Ent.frz ad2).trans ((Ent.frz ad3).trans ?_)
  refine (Ent.at (A:=allP (fun p:(Int×Int)×Stk=>stkP p.2) x.stk) (Ent.refl _)).trans ?_
  refine (Ent.at (A:=stkP ⟨ad3,c3,dW false lots mn⟩) (ik (k:=(frm,item)))).trans ?_
  simp only [bkL,bz]
  exact ae
end
section
open Go.V
attribute [local irreducible] G GO GP GPW GPK Ev Ef EfR Ent CB GB V.Enters
def bk0 (c:CatV) (ms mt mi mr:Nat):BkX:=⟨c,ms,mt,mi,mr,0,0,[],[],[],[],[],none,0⟩
theorem tN {L:List HP} (sh:Int) (c:CatV) :
  Tri Tryz.prog 45 #[.int .i64 sh,.agg c.cells.toArray] (catP c::L) (fun v L'=>∃ b ms mt mi mr,v=.pointer (some ⟨b,0,none⟩)∧L' = bkL b sh (bk0 c ms mt mi mr) L):=by
 refine Tri.body (args:=[.int .i64 sh,.agg c.cells.toArray]) 13 en45 Tryz.func45 rfl rfl rfl (by simp) ?_
 simp only [CatV.cells]
 repeat first|refine aa ?_|intro
 refine GO.ef (Ef.e9 kvP Stk.v (.inl rfl)) ac ?_
 rintro _ _ ⟨ms,rfl,rfl⟩
 repeat first|refine aa ?_|intro
 refine GO.ef (Ef.e9 kvI encN (.inl rfl)) ac ?_
 rintro _ _ ⟨mt,rfl,rfl⟩
 repeat first|refine aa ?_|intro
 refine GO.ef (Ef.e9 kvI Stk.v (.inl rfl)) ac ?_
 rintro _ _ ⟨mi,rfl,rfl⟩
 repeat first|refine aa ?_|intro
 refine GO.ef (Ef.e9 kvI Stk.v (.inl rfl)) ac ?_
 rintro _ _ ⟨mr,rfl,rfl⟩
 repeat first|refine aa ?_|intro
 rename_i b
 refine KX.d7 ag ?_ ⟨b,ms,mt,mi,mr,rfl,rfl⟩
 simp only [bkL,bz,bk0]
 refine Ent.trans (Ent.j0 eM) (Ent.trans (Ent.j0 eM) (Ent.trans (Ent.d8 bF 11 cq) ?_))
 refine Ent.trans (Ent.d9 (fun p:(Int×Int)×Stk=>stkP p.2)) (Ent.trans (Ent.d9 flP) ?_)
 exact ae
end
end Go.Proofs.YtommnllbflbdmaaGreatDoor
namespace Go.V
section
variable {P:Program} {L:List HP} {env:Env} {ty:TypeId}
theorem Ev.A2 {t:TypeId} {x hi mx:Operand} {ad:Option Addr} {n c E sz bb:Nat} {z:List Value} {k k' : IntKind} {j:Int} [ht:TySl P t E sz bb z] (hx:evE env x=some (.slice ad n c)) (hh:evE env hi=some (.int k j)) (hm:evE env mx=some (.int k' j)) (h0:0≤j) (h1:j≤c):Ev P L env (.slice t x none (some hi) (some mx)) ty (.slice ad j.toNat j.toNat) :=
 Ev.mk (fun _ _ _ w ea _ _ _ _ _=>by
  obtain ⟨ii,z0,i1,i2,i3,i4,i5⟩:=ht.parts
  have h2:j≤(j.toNat:Int):=ab
  simp [execOp,aI ea hx,aI ea hh,aI ea hm,Instr.sliceAt,Instr.slice,run_underlying ht.under,Instr.sliceBounds,Instr.sliceBound,asIntOf,h0,h1,h2,sizeOf,typeInfo,i1]
  rw [if_pos ab]
  cases ad<;>simp [Addr.add])
end
end Go.V
namespace Go.Proofs.YtommnllbflbdmaaGreatDoor
open Go.V
attribute [local irreducible] G GO GP GPW GPK Ev Ef EfR Ent CB GB V.Enters
theorem oL {L:List HP} (ad:Option Addr) (n c:Nat) (h:n≤c):Tri Tryz.prog 157 #[.slice ad n c] L (fun v L'=>v=.slice ad n n∧L' = L):=by
 refine Tri.body (args:=[.slice ad n c]) 9 HV Tryz.func157 rfl rfl rfl (by simp) ?_
 repeat first|refine aa ?_|intro
 refine GO.ev (Ev.A2 rfl rfl rfl ab ab) ac ?_
 rw [av]
 repeat first|refine aa ?_|intro
 exact KX.d7 ag (Ent.refl _) ⟨rfl,rfl⟩
end Go.Proofs.YtommnllbflbdmaaGreatDoor
namespace Go.V
section
variable {P:Program} {N:Nat} {ops:Array Oper} {done:List Nat} {plan:List Stp} {pend:List PE} {env:Env} {L:List HP} {K:Post}
theorem GP.fct {φ:Prop} (h:∀ θ R w,Sat θ (L++R) w→φ) (k:φ→GP P N ops done plan pend env L K):GP P N ops done plan pend env L K:=fun hK hp hs hcl θ Y a w S i hpo hpw=>let ⟨_,_,_,s⟩:=i;k (h θ _ w s) hK hp hs hcl θ Y a w S i hpo hpw
theorem GPW.fct {s:Stp} {dst:Option Tmp} {op:Op} {ty:TypeId} {φ:Prop} (h:∀ θ R w,Sat θ (L++R) w→φ) (k:φ→GPW P N ops done s plan dst op ty pend env L K):GPW P N ops done s plan dst op ty pend env L K:=fun pos af g h1 h2=>GP.fct h (fun hφ=>k hφ pos af g h1 h2)
end
end Go.V
