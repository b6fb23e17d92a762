/- Lemmas. -/
import Derived.Test.YtommnllbflbdmaaGreatDoorAbl
import Derived.Test.YtommnllbflbdmaaGreatDoorAbm
set_option linter.all false
set_option maxHeartbeats 16000000
namespace Go.V
section
variable {P:Program}{N:Nat}{ops:Array Oper}{done:List Nat}{plan:List Stp}{pend:List PE}{env:Env}{L:LH}{K:Post}
def GP.fct{φ:Prop}(h:∀θ R w,Sat θ (L++R) w→φ)(k:φ→GP P N ops done plan pend env L K):GP P N ops done plan pend env L K:=fun hK hp hs a1 θ Y a w S i a2 a0=>let ⟨_,_,_,s⟩:=i;k (h θ _ w s) hK hp hs a1 θ Y a w S i a2 a0
def GPW.fct{s:Stp}{a0:Option Tmp}{op:Op}{ty:TypeId}{φ:Prop}(h:∀θ R w,Sat θ (L++R) w→φ)(k:φ→GPW P N ops done s plan a0 op ty pend env L K):GPW P N ops done s plan a0 op ty pend env L K:=fun pos af g h1 h2=>GP.fct h (fun hφ=>k hφ pos af g h1 h2)
end
end Go.V
namespace Go.Proofs.YtommnllbflbdmaaGreatDoor
open Go.V
attribute [local irreducible] G GO GP GPW GPK Ev Ef EfR Ent CB GB V.Enters
def bk0(c:CatV)(ms mt mi mr:Nat):BkX:=⟨c,ms,mt,mi,mr,0,0,[],[],[],[],[],none,0⟩
def vV{L:LH}(sh:Int)(c:CatV) :
  Tri ai 45 #[ac sh,aN c.cells] (catP c::L) (fun v L'=>∃b ms mt mi mr,v=ax b∧L' = bkL b sh (bk0 c ms mt mi mr) L):=by
 refine Tri.bd ?_;simp only[CatV.cells];refine Jq ?_;intros;refine GO.ef (Ef.d9 kvP Stk.v (.inl rfl)) ag ?_;rintro _ _⟨ms,rfl,rfl⟩;refine Jq ?_;intros;refine GO.ef (Ef.d9 kvI encN (.inl rfl)) ag ?_;rintro _ _⟨mt,rfl,rfl⟩;refine Jq ?_;intros;refine GO.ef (Ef.d9 kvI Stk.v (.inl rfl)) ag ?_;rintro _ _⟨mi,rfl,rfl⟩;refine Jq ?_;intros;refine GO.ef (Ef.d9 kvI Stk.v (.inl rfl)) ag ?_;rintro _ _⟨mr,rfl,rfl⟩;refine Jq ?_;intros;rename_i b;refine KX.d7 al ?_ ⟨b,ms,mt,mi,mr,rfl,rfl⟩;simp only[bkL,bP,bk0];refine Ent.trans (Ent.l0 gd) (Ent.trans (Ent.l0 gd) (Ent.trans (Ent.d8 bL 11 cz) ?_));refine Ent.trans (Ent.d9 (fun p:(Int×Int)×Stk=>stkP p.2)) (Ent.trans (Ent.d9 flP) ?_);exact ae
end Go.Proofs.YtommnllbflbdmaaGreatDoor
namespace Go.V
section
variable {P:Program}{L:LH}{env:Env}{ty:TypeId}
def Ev.A2{t:TypeId}{x hi mx:Operand}{ad:OA}{n c E sz bb:Nat}{z:LV}{k k' : IntKind}{j:Int}[ht:TySl P t E sz bb z](hx:evE env x=some (.slice ad n c))(hh:evE env hi=some (.int k j))(hm:evE env mx=some (.int k' j))(h0:0≤j)(h1:j≤c):Ev P L env (.slice t x none (some hi) (some mx)) ty (.slice ad j.toNat j.toNat) :=
 Ev.mk (fun _ _ _ w ea _ _ _ _ _=>by
  obtain⟨ii,z0,i1,i2,i3,i4,i5⟩:=ht.parts;have h2:j≤(j.toNat:Int):=ab;simp[execOp,aP ea hx,aP ea hh,aP ea hm,Instr.sliceAt,Instr.slice,run_underlying ht.under,Instr.sliceBounds,Instr.sliceBound,asIntOf,h0,h1,h2,sizeOf,typeInfo,i1];rw[if_pos ab];cases ad<;>simp[Addr.add])
end
end Go.V
namespace Go.Proofs.YtommnllbflbdmaaGreatDoor
section
open Go.V
attribute [local irreducible] G GO GP GPW GPK Ev Ef EfR Ent CB GB V.Enters
def jE{L:LH}(ad:OA)(n c:Nat)(h:n≤c):Tri ai 157 #[ah ad n c] L (fun v L'=>v=ah ad n n∧L' = L):=by
 refine Tri.bd ?_;refine Jq ?_;intros;refine GO.ev (Ev.A2 rfl rfl rfl ab ab) ag ?_;rw[aC];refine Jq ?_;intros;exact KX.en ⟨rfl,rfl⟩
structure BkI (S:LedM) (fl:List FlM) (ia ra:LL) (f:Int→Int→LL) (t:Int→Int) (x:BkX):Prop where
 cat:x.cat.m=S.cat
 catB:x.cat.B
 count:x.count=S.steps.length
 tick:x.tick=S.now
 flows:x.flows.map (·.m)=fl
 stk:∀a i,(eA x.stk (a,i)).lots=f a i
 cap:∀a i,(f a i).length≤(eA x.stk (a,i)).cap
 tot:∀i,(glk x.tot i).getD 0=t i
 imp:lW x.imp ia
 ret:lW x.ret ra
def va{l:LL}{f g:Nat→Int}(h:∀k,k<l.length→f k=g k):divF l f l.length=divF l g l.length∧divR l f l.length=divR l g l.length:=by
 have e1:(List.range l.length).map (pcF l f)=(List.range l.length).map (pcF l g):=dc (fun k hk=>by unfold pcF;rw[h k (List.mem_range.1 hk)]);have e2:(List.range l.length).map (pcR l f)=(List.range l.length).map (pcR l g):=dc (fun k hk=>by unfold pcR;rw[h k (List.mem_range.1 hk)]);unfold divF divR;rw[e1,e2];exact⟨rfl,rfl⟩
def nq(n:Nat)(f:Nat→Int){k:Nat}(h:k<n):((List.range n).map f)[k]! = f k:=by
 rw[getElem!_of (by simpa using h)];simp
def mF{m:List ((Int×Int)×Stk)}{k q:Int×Int}{s:Stk}:eA (gins m k s) q=if q=k then s else eA m q:=by
 unfold eA;rw[ke];split<;>rfl
def iaOf(s:StM)(m:MvM):LL:=if s.kind=5 then m.parts else[]
def raOf(s:StM)(m:MvM):LL:=if s.kind=9∧m.frm=0 then m.parts else[]
abbrev AE:=ay3 [.ef 4,.ev 5,.ev 6]
abbrev AD:=ay3 [.ef 4,.ev 5,.ev 6]
abbrev AC:=ay4 [.ev 6]
abbrev xA:=ay4 [.ef 6]
abbrev xz:=ay6 []
abbrev xy:=ay4 [.ef 6]
def WD{φ ψ:Prop}(k:ψ)(h:Hid ψ→φ:=by intro k;(repeat (first|refine aa ?_|intro zzz|refine G.dr 122 2 AE ?_|refine G.dr 122 4 AD ?_|refine G.dr 122 8 AC ?_|refine G.dr 122 13 xA ?_|refine G.dr 122 24 xz ?_|refine G.dr 122 27 xy ?_));(repeat revert zzz);exact Hid.out k):φ:=h ⟨k⟩
def yZ{L:LH}(b:Nat)(S:LedM)(hS:0≤S.shard∧S.shard<12)(k:Nat)(x:BkX)(W:Wk)(e5:S.flows.length+W.flows.length≤8000000)(hx:BkI S (S.flows++W.flows) (fC (S.flows++W.flows)) (fe (S.flows++W.flows)) W.stk W.tot x)(hW:WkA S.shard S.flows k W)(s:StM)(m:MvV)(hm:MvA s.kind m.m)(hk:k+m.m.parts.length≤2000)(c9:0≤m.m.item∧m.m.item<S.cat.items.length)(hb:∀p∈m.m.parts,p.1≤9223372036854775807)(a9:(W.stk m.m.frm m.m.item).length<20) :
  Tri ai 102 #[ax b,ac s.kind,aN (aM m)] (isl aj 3 m.pad m.m.parts::bkL b S.shard x L) (fun v L' =>
   (gErr S.shard (S.flows++W.flows) s W m.m=0∧∃pad cap x',v=.tuple #[ah pad (gPts (bA S.cat) s W m.m).length cap,ac 0]∧BkI S (S.flows++W.flows) (fC (S.flows++W.flows)++iaOf s m.m) (fe (S.flows++W.flows)++raOf s m.m) (gStk (bA S.cat) W m.m) W.tot x'∧L' = isl aj 3 pad (gPts (bA S.cat) s W m.m)::bkL b S.shard x' L) ∨
   (gErr S.shard (S.flows++W.flows) s W m.m≠0∧∃ad n c,v=.tuple #[ah ad n c,ac (gErr S.shard (S.flows++W.flows) s W m.m)]∧L' = L)):=by
 have a0:=hm.g.lots
 have d5:x.flows.length=S.flows.length+W.flows.length:=by
  have:=congrArg List.length hx.flows
  rwa [aA,ay] at this
 have d6:=hW.il;have e0:=hW.rl;have c4:=vo hW.fa;have b9:=uY hW.fa;obtain⟨⟨frm,to,item,mn,parts⟩,pad,pcap⟩:=m;dsimp only at hm hk c9 hb a9 a0 ⊢;refine Tri.bd (args:=[ax b,ac s.kind,aN (aM ⟨⟨frm,to,item,mn,parts⟩,pad,pcap⟩)]) ?_;simp only[aM,bkL,bP];by_cases h0:frm=0
 ·subst h0;have b4:gStk (bA S.cat) W ⟨0,to,item,mn,parts⟩=W.stk:=by unfold gStk;rw[if_pos rfl]
  rw[b4];by_cases h5:s.kind=5
  ·have eE:gErr S.shard (S.flows++W.flows) s W ⟨0,to,item,mn,parts⟩=arrG S.shard (S.flows++W.flows) parts:=by unfold gErr;rw[if_pos rfl,if_pos h5]
   have eP:gPts (bA S.cat) s W ⟨0,to,item,mn,parts⟩=parts:=by unfold gPts;rw[if_pos rfl,if_pos (.inl h5)]
   have eI:iaOf s ⟨0,to,item,mn,parts⟩=parts:=if_pos h5;have eR:raOf s ⟨0,to,item,mn,parts⟩=[]:=if_neg ab;have a6:=hm.st (.inl h5);rw[eE,eP,eI,eR,←BH hW.fa a0 a6.2.1,aQ];refine WD ?_;intros;(first|refine GPW.ef (Ef.call (sx (L:=[isl aj 3 pad parts]) b S.shard x (fC (S.flows++W.flows)) hx.imp ab c4 ⟨⟨0,to,item,mn,parts⟩,pad,pcap⟩ a0 hb fm) rfl cJ) ag ?_);rintro _ _⟨_,⟨b2,rfl,a8,rfl⟩,hL⟩;simp only[ao,an] at hL;subst hL;dsimp only at a8;simp only[bP];by_cases he:impG S.shard parts (fC (S.flows++W.flows))=0
   ·rw[he];refine WD ?_;intros;refine KX.d7 al ?_ (.inl ⟨rfl,pad,pcap,{ x with imp:=b2 },rfl,⟨hx.cat,hx.catB,hx.count,hx.tick,hx.flows,hx.stk,hx.cap,hx.tot,a8 he,hx.ret⟩,rfl⟩);simp only[bkL,bP];exact ae
   ·refine WD ?_;intros;exact KX.en (.inr ⟨he,pad,parts.length,pcap,rfl,rfl⟩)
  by_cases h9:s.kind=9
  ·have eE:gErr S.shard (S.flows++W.flows) s W ⟨0,to,item,mn,parts⟩=revG (S.flows++W.flows) item parts:=by unfold gErr;rw[if_pos rfl,if_neg h5,if_pos h9]
   have eP:gPts (bA S.cat) s W ⟨0,to,item,mn,parts⟩=parts:=by unfold gPts;rw[if_pos rfl,if_pos (.inr h9)]
   have eI:iaOf s ⟨0,to,item,mn,parts⟩=[]:=if_neg h5;have eR:raOf s ⟨0,to,item,mn,parts⟩=parts:=if_pos ⟨h9,rfl⟩;have a6:=hm.st (.inr (.inr h9));rw[eE,eP,eI,eR,←Bv hS.1 hW.fa hW.fn item a0 a6.2.1,aQ];refine WD ?_;intros;(first|refine GPW.ef (Ef.call (sd (L:=[isl aj 3 pad parts]) b S.shard hS x ab (fe (S.flows++W.flows)) hx.ret ab b9 ⟨⟨0,to,item,mn,parts⟩,pad,pcap⟩ a0 hb fm) rfl cJ) ag ?_);rintro _ _⟨_,⟨c0,rfl,a8,rfl⟩,hL⟩;simp only[ao,an] at hL;subst hL;dsimp only at a8;rw[hx.flows] at a8 ⊢;simp only[bP];by_cases he:retG S.shard (S.flows++W.flows) item parts (fe (S.flows++W.flows))=0
   ·rw[he];refine WD ?_;intros;refine KX.d7 al ?_ (.inl ⟨rfl,pad,pcap,{ x with ret:=c0 },rfl,⟨hx.cat,hx.catB,hx.count,hx.tick,hx.flows,hx.stk,hx.cap,hx.tot,hx.imp,a8 he⟩,rfl⟩);simp only[bkL,bP];exact ae
   ·refine WD ?_;intros;exact KX.en (.inr ⟨he,pad,parts.length,pcap,rfl,rfl⟩)
  have eE:gErr S.shard (S.flows++W.flows) s W ⟨0,to,item,mn,parts⟩=0:=by unfold gErr;rw[if_pos rfl,if_neg h5,if_neg h9]
  have eP:gPts (bA S.cat) s W ⟨0,to,item,mn,parts⟩=[]:=by unfold gPts;rw[if_pos rfl,if_neg ab]
  have eI:iaOf s ⟨0,to,item,mn,parts⟩=[]:=if_neg h5;have eR:raOf s ⟨0,to,item,mn,parts⟩=[]:=if_neg ab;rw[eE,eP,eI,eR,aQ,aQ];refine WD ?_;intros;refine KX.d7 al ?_ (.inl ⟨rfl,none,0,x,rfl,hx,rfl⟩);refine Ent.trans ?_ (Ent.e8 aj 3 none);exact ae
 have eI:iaOf s ⟨frm,to,item,mn,parts⟩=[]:=if_neg (fun q=>h0 (hm.imp q));have eR:raOf s ⟨frm,to,item,mn,parts⟩=[]:=if_neg (fun q=>h0 q.2);rw[eI,eR,aQ,aQ];have hG:=hW.g.stk frm item;have c7:=hG.len;have a4:=hG.lots;have a3:=hx.stk frm item;rw[←a3] at a9 c7 a4;have hw:∀q∈(eA x.stk (frm,item)).lots,LotW q:=fun q hq=>(a4 q hq).w;have b3:=hm.g.n;dsimp only at b3;refine G.ent (L':=stkP (eA x.stk (frm,item))::isl dE 7 x.cat.iad x.cat.items::isl aj 3 pad parts::bkL b S.shard x L) ?_ ?_
 ·refine(Ent.at (A:=catP x.cat) pq).trans ?_;refine(Ent.at (A:=allP (fun p:(Int×Int)×Stk=>stkP p.2) x.stk) (nm (frm,item))).trans ?_;simp only[bkL,bP];exact ae
 have c5:∀(sk:Stk) (l:LL),sk.lots=l→sk.lots.length≤sk.cap→gStk (bA S.cat) W ⟨frm,to,item,mn,parts⟩=upd2 W.stk frm item l→BkI S (S.flows++W.flows) (fC (S.flows++W.flows)) (fe (S.flows++W.flows)) (gStk (bA S.cat) W ⟨frm,to,item,mn,parts⟩) W.tot { x with stk:=gins x.stk (frm,item) sk }:=fun sk l e1 e2 e3=>by
  refine⟨hx.cat,hx.catB,hx.count,hx.tick,hx.flows,fun a i=>?_,fun a i=>?_,hx.tot,hx.imp,hx.ret⟩
  ·dsimp only;rw[mF,e3];unfold upd2;by_cases q:a=frm∧i=item
   ·rw[if_pos q,if_pos (by rw[q.1,q.2])];exact e1
   ·rw[if_neg q,if_neg (fun r=>q ⟨congrArg Prod.fst r,congrArg Prod.snd r⟩)];exact hx.stk a i
  ·dsimp only;rw[mF,e3];unfold upd2;by_cases q:a=frm∧i=item
   ·rw[if_pos q,if_pos (by rw[q.1,q.2]),←e1];exact e2
   ·rw[if_neg q,if_neg (fun r=>q ⟨congrArg Prod.fst r,congrArg Prod.snd r⟩)];exact hx.cap a i
 simp only[bkL,bP];have hv:=nZ x.stk (frm,item);generalize hske:eA x.stk (frm,item)=sk at *;obtain⟨sad,scap,lots⟩:=sk;simp only[Stk.v] at hv;dsimp only at a3 a9 c7 a4 hw;refine WD ?_;intros;refine GO.ev (Ev.m8 rfl rfl) ag ?_;refine WD ?_;intros;refine GPW.evL (Ev.e8 rfl rfl) ag ?_;rw[hv];by_cases hp:parts.length=0
 case neg =>
  have a5:parts≠[]:=fun q=>hp (by rw[q];rfl)
  have a6:fY parts mn:=by
   rcases hm.g.parts with q|q
   ·exact absurd q a5
   ·exact partsA_iff.2 q
  have eE:gErr S.shard (S.flows++W.flows) s W ⟨frm,to,item,mn,parts⟩=if lsum parts - OO parts lots=0 then 0 else 10:=by
   unfold gErr;rw[if_neg h0,if_neg a5];have c6:=oz a6.1 a6.2.1 (own:=W.stk frm item) ⟨fun z hz=>a4 z (by rw[a3];exact hz),by rw[←a3];omega⟩ hG.apt;by_cases q:fF parts (W.stk frm item)
   ·rw[if_pos q,a3,if_pos (c6.1 q)]
   ·rw[if_neg q,a3,if_neg (fun r=>q (c6.2 r))]
  have eP:gPts (bA S.cat) s W ⟨frm,to,item,mn,parts⟩=parts:=by unfold gPts;rw[if_neg h0,if_neg a5]
  have eL:gStk (bA S.cat) W ⟨frm,to,item,mn,parts⟩=upd2 W.stk frm item (dP lots parts):=by unfold gStk lu;rw[if_neg h0,if_neg a5,a3]
  rw[eE,eP];refine WD ?_;intros;refine GO.ca (wv sad lots.length scap lots pad parts.length pcap parts rfl rfl a4 ab a0 a6.1.2 a6.2.1) ?_;rintro _ _⟨ad2,c2,rfl,rfl⟩;by_cases hq:lsum parts - OO parts lots=0
  case neg =>
   rw[aG hq,if_neg hq];refine WD ?_;intros;exact KX.d7 al ae (.inr ⟨by decide,none,0,0,rfl,rfl⟩)
  rw[aS hq,if_pos hq];refine GO.d9 (iq (ad:=ad2) (cap:=c2) (xs:=dP lots parts) (enc:=aj) (sz:=3) (E:=tLot)) ?_;rintro⟨a2,_⟩;refine WD ?_;intros;refine GPW.efu (Ef.e7 (enc:=Stk.v) (e:=(⟨ad2,c2,dP lots parts⟩:Stk)) rfl rfl rfl rfl) ?_;rintro _ _⟨rfl,rfl⟩;refine WD ?_;intros;refine KX.d7 al ?_ (.inl ⟨rfl,pad,pcap,_,rfl,c5 ⟨ad2,c2,dP lots parts⟩ (dP lots parts) rfl a2 eL,rfl⟩);refine(Ent.frz ad2).trans ?_;refine(Ent.at (A:=allP (fun p:(Int×Int)×Stk=>stkP p.2) x.stk) (Ent.refl _)).trans ?_;refine(Ent.at (A:=stkP ⟨ad2,c2,dP lots parts⟩) (ji (k:=(frm,item)))).trans ?_;simp only[bkL,bP];exact ae
 have a5:parts=[]:=aX hp;have eE:gErr S.shard (S.flows++W.flows) s W ⟨frm,to,item,mn,parts⟩=if lsum lots<mn then 10 else 0:=by unfold gErr;rw[if_neg h0,if_pos a5,a3]
 have eP:gPts (bA S.cat) s W ⟨frm,to,item,mn,parts⟩=gS (bA S.cat item) lots mn:=by unfold gPts;rw[if_neg h0,if_pos a5,a3]
 have eL:gStk (bA S.cat) W ⟨frm,to,item,mn,parts⟩=upd2 W.stk frm item (eN (bA S.cat item) lots mn):=by unfold gStk lu;rw[if_neg h0,if_pos a5,a3]
 have d1:item<x.cat.items.length:=by
  have e:x.cat.m.items.length=x.cat.items.length:=by simp[CatV.m]
  rw[hx.cat] at e;omega
 have b1:bA S.cat item=x.cat.items[item.toNat]!.mixed:=by
  unfold bA;rw[←hx.cat];rfl
 rw[b1] at eP eL;rw[eE,eP];refine WD ?_;intros;rename_i b5 b8;refine G.loop (α:=Nat) (fun i=>i≤lots.length) (fun i=>[(0,ax b),(5,ax b5),(8,ax b8),(9,ah sad lots.length scap),(12,ac (lsum (lots.take i))),(80,ah sad lots.length scap),(81,ac lots.length),(82,ac (i:Int))]) (fun _=>obj b8 116 [ac frm,ac item]::obj b5 tMv [ac frm,ac to,ac item,ac mn,ah pad parts.length pcap]::isl aj 3 sad lots::isl dE 7 x.cat.iad x.cat.items::bkL b S.shard x L) (fun i=>lots.length - i) 0 (aw _) av (by simp only[bkL,bP];exact ae) ?_;intro i hi;by_cases c8:i<lots.length
 case pos =>
  have d2:(i:Int).toNat=i:=aC i;have b7 : (i:Int).toNat<lots.length:=ab;have e4:=gV a4 i ab;have d4:=eJ lots c8;have d3:=a4 _ (aI b7);unfold LotOk at d3;simp only[bkL,bP];refine WD ?_;intros;refine⟨i+1,ab,ab,?_,by exact ae⟩;rw[d4,aV i,show lots[i]! = lots[(i:Int).toNat]! by rw[d2]];exact av
 obtain rfl:i=lots.length:=ab;rw[iu];simp only[bkL,bP];by_cases hq:lsum lots<mn
 ·rw[if_pos hq];refine WD ?_;intros;exact KX.d7 al ae (.inr ⟨by decide,none,0,0,rfl,rfl⟩)
 rw[if_neg hq]
 have d0:lots≠[]:=fun q=>by
  rw[q,ir] at hq;omega
 have b0:∀(mx:Bool) (k:Nat),k<lots.length→(if mx=true then shC lots mn k else fuC lots mn k)=tkC mx lots mn k:=fun mx k _=>by
  unfold tkC;cases mx
  ·rw[if_neg ag,if_neg (fun q=>absurd q.1 ag)]
  ·rw[if_pos rfl,if_pos ⟨rfl,ab⟩]
 cases hmx:x.cat.items[item.toNat]!.mixed with
 | true =>
  rw[hmx] at eL;refine WD ?_;intros;rw[hmx];refine WD ?_;intros;refine GO.ef (Ef.d8 rfl rfl (rj sad lots.length scap lots mn rfl a9 a4 d0 ab ab b3.2)) ag ?_;rintro _ _⟨b6,c1,rfl,rfl⟩;refine WD ?_;intros;refine GO.ca (vI sad lots.length scap lots b6 lots.length c1 ((List.range lots.length).map (shC lots mn)) rfl bZ ab bZ hw (fun k hk=>by rw[nq _ _ hk,show shC lots mn k=tkC true lots mn k from b0 true k hk];exact nX true lots mn a4 ab ab k hk)) ?_;rintro _ _⟨ad2,c2,a1,c3,rfl,rfl⟩;have a7:=va (l:=lots) (f:=fun k=>((List.range lots.length).map (shC lots mn))[k]!) (g:=tkC true lots mn) (fun k hk=>by rw[nq _ _ hk,show shC lots mn k=tkC true lots mn k from b0 true k hk]);rw[a7.1,a7.2,show divF lots (tkC true lots mn) lots.length=gS true lots mn from rfl,show divR lots (tkC true lots mn) lots.length=eN true lots mn from rfl];clear a7;refine GO.d9 (iq (ad:=a1) (cap:=c3) (xs:=eN true lots mn) (enc:=aj) (sz:=3) (E:=tLot)) ?_;rintro⟨a2,_⟩;refine WD ?_;intros;refine GPW.efu (Ef.e7 (enc:=Stk.v) (e:=(⟨a1,c3,eN true lots mn⟩:Stk)) rfl rfl rfl rfl) ?_;rintro _ _⟨rfl,rfl⟩;refine WD ?_;intros;refine KX.d7 al ?_ (.inl ⟨rfl,ad2,c2,_,rfl,c5 ⟨a1,c3,eN true lots mn⟩ (eN true lots mn) rfl a2 eL,rfl⟩);refine(Ent.frz ad2).trans ((Ent.frz a1).trans ?_);refine(Ent.at (A:=allP (fun p:(Int×Int)×Stk=>stkP p.2) x.stk) (Ent.refl _)).trans ?_;refine(Ent.at (A:=stkP ⟨a1,c3,eN true lots mn⟩) (ji (k:=(frm,item)))).trans ?_;simp only[bkL,bP];exact ae
 | false =>
  rw[hmx] at eL;refine WD ?_;intros;rw[hmx];refine WD ?_;intros;refine GO.ef (Ef.d8 rfl rfl (AV sad lots.length scap lots mn rfl ab hw ab b3.2)) ag ?_;rintro _ _⟨b6,c1,rfl,rfl⟩;refine WD ?_;intros;refine GO.ca (vI sad lots.length scap lots b6 lots.length c1 ((List.range lots.length).map (fuC lots mn)) rfl bZ ab bZ hw (fun k hk=>by rw[nq _ _ hk,show fuC lots mn k=tkC false lots mn k from b0 false k hk];exact nX false lots mn a4 ab ab k hk)) ?_;rintro _ _⟨ad2,c2,a1,c3,rfl,rfl⟩;have a7:=va (l:=lots) (f:=fun k=>((List.range lots.length).map (fuC lots mn))[k]!) (g:=tkC false lots mn) (fun k hk=>by rw[nq _ _ hk,show fuC lots mn k=tkC false lots mn k from b0 false k hk]);rw[a7.1,a7.2,show divF lots (tkC false lots mn) lots.length=gS false lots mn from rfl,show divR lots (tkC false lots mn) lots.length=eN false lots mn from rfl];clear a7;refine GO.d9 (iq (ad:=a1) (cap:=c3) (xs:=eN false lots mn) (enc:=aj) (sz:=3) (E:=tLot)) ?_;rintro⟨a2,_⟩;refine WD ?_;intros;refine GPW.efu (Ef.e7 (enc:=Stk.v) (e:=(⟨a1,c3,eN false lots mn⟩:Stk)) rfl rfl rfl rfl) ?_;rintro _ _⟨rfl,rfl⟩;refine WD ?_;intros;refine KX.d7 al ?_ (.inl ⟨rfl,ad2,c2,_,rfl,c5 ⟨a1,c3,eN false lots mn⟩ (eN false lots mn) rfl a2 eL,rfl⟩);refine(Ent.frz ad2).trans ((Ent.frz a1).trans ?_);refine(Ent.at (A:=allP (fun p:(Int×Int)×Stk=>stkP p.2) x.stk) (Ent.refl _)).trans ?_;refine(Ent.at (A:=stkP ⟨a1,c3,eN false lots mn⟩) (ji (k:=(frm,item)))).trans ?_;simp only[bkL,bP];exact ae
def wB(m:List (Int×Int))(k d:Int):((@List.lookup _ _ instBEqOfDecidableEq k m).map encN).getD (ac d)=ac ((glk m k).getD d):=by
 unfold glk;cases @List.lookup _ _ instBEqOfDecidableEq k m<;>rfl
def BJ(m:List (Int×Int))(k v q:Int):(glk (gins m k v) q).getD 0=if q=k then v else(glk m q).getD 0:=by
 rw[ke];split<;>rfl
def sT(t:Int→Int)(f:FlM):Int:=t f.item+(if f.frm=0 then f.n else 0) - (if f.to=0 then f.n else 0)
abbrev AB:=ay6 [.ef 10]
abbrev AA:=ay6 [.ef 10]
abbrev Az:=ay5 []
abbrev Ay:=ay4 [.ef 6,.ef 7,.ev 8,.ev 9,.ef 10]
abbrev xx:=ay5 []
def ce{φ ψ:Prop}(k:ψ)(h:Hid ψ→φ:=by intro k;(with_reducible apply G.d7);first|refine G.dr 85 2 AB (Hid.out k)|refine G.dr 85 4 AA (Hid.out k)|refine G.dr 85 5 Az (Hid.out k)|refine G.dr 85 7 Ay (Hid.out k)|refine G.dr 85 11 xx (Hid.out k)):φ:=h ⟨k⟩
def Xd{φ ψ:Prop}(k:ψ)(h:Hid ψ→φ:=by intro k;(repeat (first|refine aa ?_|intro zzz|refine G.dr 85 2 AB ?_|refine G.dr 85 4 AA ?_|refine G.dr 85 5 Az ?_|refine G.dr 85 7 Ay ?_|refine G.dr 85 11 xx ?_));(repeat revert zzz);exact Hid.out k):φ:=h ⟨k⟩
def Bo{L:LH}(b:Nat)(S:LedM)(x:BkX)(fl:List FlM)(ia ra:LL)(g:Int→Int→LL)(t:Int→Int)(hx:BkI S fl ia ra g t x)(c2:fl.length≤8000000)(fv:FlV)(hn:1≤fv.m.n∧fv.m.n≤1099511627776)(ht : -(9000000000000000000 - 1099511627776*4)≤t fv.m.item∧t fv.m.item≤1099511627776)(hg:(g fv.m.to fv.m.item).length≤5000) :
  Tri ai 104 #[ax b,aN (bL fv)] (isl aj 3 fv.pad fv.m.parts::isl (encZ .i64) 1 fv.mad fv.m.made::bkL b S.shard x L) (fun v L' =>
   ((1099511627776<sT t fv.m∨(fv.m.to≠0∧4096≤(g fv.m.to fv.m.item).length))∧v=ac 4∧L' = L) ∨
   (¬(1099511627776<sT t fv.m∨(fv.m.to≠0∧4096≤(g fv.m.to fv.m.item).length))∧v=ac 0∧∃x',BkI S (fl++[fv.m]) ia ra (if fv.m.to=0 then g else upd2 g fv.m.to fv.m.item (g fv.m.to fv.m.item++[(fv.m.id,0,fv.m.n)])) (upd t fv.m.item (sT t fv.m)) x'∧L' = bkL b S.shard x' L)):=by
 have b5:x.flows.length=fl.length:=by
  have:=congrArg List.length hx.flows
  rwa [aA] at this
 obtain⟨⟨id,step,kind,tick,actor,frm,to,item,n,parts,made⟩,pad,pcap,mad,mcap⟩:=fv;dsimp only at hn ht hg ⊢;obtain⟨c0,b7⟩:=hn;obtain⟨b6,c3⟩:=ht;generalize hT:sT t ⟨id,step,kind,tick,actor,frm,to,item,n,parts,made⟩=T;unfold sT at hT;dsimp only at hT;refine Tri.bd (args:=[ax b,aN (bL ⟨⟨id,step,kind,tick,actor,frm,to,item,n,parts,made⟩,pad,pcap,mad,mcap⟩)]) ?_;simp only[bL,bkL,bP];repeat first|((fail_if_success (with_reducible refine G.d9 1 ?_));(with_reducible apply G.seq))|refine bW ?_|intro _|refine ce ?_
 rename_i b3;have c1:∀(z:BkX),Ent (obj b3 cz [ac id,ac step,ac kind,ac tick,ac actor,ac frm,ac to,ac item,ac n,ah pad parts.length pcap,ah mad made.length mcap]::isl aj 3 pad parts::isl (encZ .i64) 1 mad made::bkL b S.shard z L) L:=fun z=>by simp only[bkL,bP];exact ae
 refine G.d8 (α:=List (Int×Int)) (fun m=>∀i,(glk m i).getD 0=if i=item then t item+(if frm=0 then n else 0) else t i) (fun _=>[(0,ax b),(3,ax b3)]) (fun m=>obj b3 cz [ac id,ac step,ac kind,ac tick,ac actor,ac frm,ac to,ac item,ac n,ah pad parts.length pcap,ah mad made.length mcap]::isl aj 3 pad parts::isl (encZ .i64) 1 mad made::bkL b S.shard { x with tot:=m } L) ?_ ?_
 ·by_cases h0:frm=0
  ·have hv:=wB x.tot item 0;rw[hx.tot item] at hv;refine Xd ?_;intros;refine GPW.evL (Ev.e8 rfl rfl) ag ?_;rw[hv];refine Xd ?_;intros;refine GPW.efu (Ef.e7 (enc:=encN) (e:=t item+n) rfl rfl rfl rfl) ?_;rintro _ _⟨rfl,rfl⟩;refine Xd ?_;intros;refine⟨gins x.tot item (t item+n),fun i=>?_,av,by simp only[bkL,bP];exact ae⟩;rw[BJ,if_pos h0,hx.tot i]
  ·refine Xd ?_;intros;refine⟨x.tot,fun i=>?_,av,by simp only[bkL,bP];exact ae⟩;rw[if_neg h0,hx.tot i];split
   ·rename_i e;rw[e,da]
   ·rfl
 intro m1 b1;simp only[bkL,bP];refine G.d8 (α:=List (Int×Int)) (fun m=>∀i,(glk m i).getD 0=if i=item then T else t i) (fun _=>[(0,ax b),(3,ax b3)]) (fun m=>obj b3 cz [ac id,ac step,ac kind,ac tick,ac actor,ac frm,ac to,ac item,ac n,ah pad parts.length pcap,ah mad made.length mcap]::isl aj 3 pad parts::isl (encZ .i64) 1 mad made::bkL b S.shard { x with tot:=m } L) ?_ ?_
 ·have a7:=b1 item;rw[if_pos rfl] at a7;by_cases h0:to=0
  ·rw[if_pos h0] at hT;have hv:=wB m1 item 0;rw[a7] at hv;have b9:0≤(if frm=0 then n else 0)∧(if frm=0 then n else 0)≤n:=by split<;>omega
   generalize (if frm=0 then n else 0)=nn at *;refine Xd ?_;intros;refine GPW.evL (Ev.e8 rfl rfl) ag ?_;rw[hv];refine Xd ?_;intros;refine GPW.efu (Ef.e7 (enc:=encN) (e:=t item+nn - n) rfl rfl rfl rfl) ?_;rintro _ _⟨rfl,rfl⟩;refine Xd ?_;intros;refine⟨gins m1 item (t item+nn - n),fun i=>?_,av,by simp only[bkL,bP];exact ae⟩;rw[BJ,hT,b1 i];split<;>rfl
  ·rw[if_neg h0] at hT;refine Xd ?_;intros;refine⟨m1,fun i=>?_,av,by simp only[bkL,bP];exact ae⟩;rw[b1 i,←hT,fG]
 intro m2 b4;clear b1
 have b8 : -9000000000000000000≤T∧T≤1099511627776*3:=by
  rw[←hT];split<;>split<;>omega
 simp only[bkL,bP];have a7:=b4 item;rw[if_pos rfl] at a7;have hv:=wB m2 item 0;rw[a7] at hv;refine Xd ?_;intros;refine GPW.evL (Ev.e8 rfl rfl) ag ?_;rw[hv];by_cases a2:1099511627776<T
 ·refine Xd ?_;intros;exact KX.en (.inl ⟨.inl a2,rfl,rfl⟩)
 have hI:∀(m:List ((Int×Int)×Stk)) (g2:Int→Int→LL) (ad:OA) (cp:Nat),(∀a i,(eA m (a,i)).lots=g2 a i)→(∀a i,(g2 a i).length≤(eA m (a,i)).cap)→BkI S (fl++[⟨id,step,kind,tick,actor,frm,to,item,n,parts,made⟩]) ia ra g2 (upd t item T) { x with tot:=m2,stk:=m,flows:=x.flows++[⟨⟨id,step,kind,tick,actor,frm,to,item,n,parts,made⟩,pad,pcap,mad,mcap⟩],fad:=ad,fcap:=cp }:=fun m g2 ad cp e1 e2 =>
  ⟨hx.cat,hx.catB,hx.count,hx.tick,by dsimp only;rw[aW,hx.flows];rfl,e1,e2,fun i=>by dsimp only;rw[b4 i];rfl,hx.imp,hx.ret⟩
 refine Xd ?_;intros;refine GPW.ef (Ef.d7 (enc:=bL) (e:=⟨⟨id,step,kind,tick,actor,frm,to,item,n,parts,made⟩,pad,pcap,mad,mcap⟩) rfl rfl rfl rfl rfl aK (jf _) ab ab) ag ?_;rintro _ _⟨a8,a4,rfl,rfl⟩
 have a5:∀(M:LH),Ent (isl aj 3 pad parts::isl (encZ .i64) 1 mad made::allP flP x.flows::M) (allP flP (x.flows++[⟨⟨id,step,kind,tick,actor,frm,to,item,n,parts,made⟩,pad,pcap,mad,mcap⟩])::M):=fun M=>by
  refine(Ent.e9 (bN _ _ _ _) (bN _ _ _ _)).trans ?_;exact nF (f:=flP) (e:=⟨⟨id,step,kind,tick,actor,frm,to,item,n,parts,made⟩,pad,pcap,mad,mcap⟩) kG
 by_cases h0:to=0
 ·rw[if_pos h0];refine Xd ?_;intros;refine KX.d7 al ?_ (.inr ⟨fun q=>q.elim a2 (fun r=>r.1 h0),rfl,_,hI x.stk g a8 a4 hx.stk hx.cap,rfl⟩);simp only[bkL,bP];refine(Ent.at (A:=allP flP x.flows) (Ent.refl _)).trans ?_;refine(Ent.at (A:=isl (encZ .i64) 1 mad made) (Ent.refl _)).trans ?_;refine(Ent.at (A:=isl aj 3 pad parts) (a5 _)).trans ?_;exact ae
 rw[if_neg h0];have a9:=hx.stk to item;have a3:=hx.cap to item;rw[←a9] at a3 hg
 have b0:∀(sk:Stk),sk.lots=g to item++[(id,0,n)]→sk.lots.length≤sk.cap→BkI S (fl++[⟨id,step,kind,tick,actor,frm,to,item,n,parts,made⟩]) ia ra (upd2 g to item (g to item++[(id,0,n)])) (upd t item T) { x with tot:=m2,stk:=gins x.stk (to,item) sk,flows:=x.flows++[⟨⟨id,step,kind,tick,actor,frm,to,item,n,parts,made⟩,pad,pcap,mad,mcap⟩],fad:=a8,fcap:=a4 }:=fun sk e1 e2=>by
  refine hI _ _ _ _ (fun a i=>?_) (fun a i=>?_)
  ·rw[mF];unfold upd2;by_cases q:a=to∧i=item
   ·rw[if_pos q,if_pos (by rw[q.1,q.2])];exact e1
   ·rw[if_neg q,if_neg (fun r=>q ⟨congrArg Prod.fst r,congrArg Prod.snd r⟩)];exact hx.stk a i
  ·rw[mF];unfold upd2;by_cases q:a=to∧i=item
   ·rw[if_pos q,if_pos (by rw[q.1,q.2]),←e1];exact e2
   ·rw[if_neg q,if_neg (fun r=>q ⟨congrArg Prod.fst r,congrArg Prod.snd r⟩)];exact hx.cap a i
 rw[←a9] at b0 ⊢;have a6:=nZ x.stk (to,item);refine Xd ?_;intros;refine GO.ev (Ev.m8 rfl rfl) ag ?_;refine GO.ent (Ent.at (A:=allP (fun p:(Int×Int)×Stk=>stkP p.2) x.stk) (nm (to,item))) ?_;generalize hske:eA x.stk (to,item)=sk at *;obtain⟨sad,scap,lots⟩:=sk;simp only[Stk.v] at a6;dsimp only at a9 a3 hg b0 ⊢;refine Xd ?_;intros;refine GPW.evL (Ev.e8 rfl rfl) ag ?_;rw[a6];by_cases hl:4096≤lots.length
 ·refine Xd ?_;intros;exact KX.en (.inl ⟨.inr ⟨h0,hl⟩,rfl,rfl⟩)
 repeat first|((fail_if_success (with_reducible refine G.atS 13 ?_));(with_reducible apply G.seq))|refine bW ?_|intro _|refine ce ?_
 refine G.ent (Ent.at (A:=stkP ⟨sad,scap,lots⟩) (Ent.m7 (E:=tLot) (by simp only[maxLen];omega))) ?_;dsimp only;apply G.seq;refine G.e9 mixed krStd0 ?_;refine GF.evP (i:=0) rfl krStd0 (Ev.move rfl) ag ?_;refine GF.evP (i:=1) rfl krStd0 (Ev.nilCheck rfl) ag ?_;refine GF.evP (i:=2) rfl krStd0 (Ev.fieldAddr rfl) ag ?_;refine GF.evL (i:=3) rfl krStd0 (Ev.d8 rfl rfl) ag ?_;refine GF.evL (i:=4) rfl krStd0 (Ev.d7 rfl aK) ag ?_;refine GF.evP (i:=5) rfl krStd0 (Ev.move rfl) ag ?_;refine GF.evP (i:=6) rfl krStd0 (Ev.nilCheck rfl) ag ?_;refine GF.evP (i:=7) rfl krStd0 (Ev.fieldAddr rfl) ag ?_;refine GF.evL (i:=8) rfl krStd0 (Ev.d8 rfl rfl) ag ?_;refine GF.evL (i:=9) rfl krStd0 (Ev.d7 rfl aK) ag ?_;refine GF.evL (i:=10) rfl krStd0 (Ev.e8 rfl rfl) ag ?_;rw[a6];refine GF.evP (i:=12) rfl krStd0 (Ev.fieldAddr rfl) ag ?_;refine GF.evL (i:=13) rfl krStd0 (Ev.d8 rfl rfl) ag ?_;refine GF.evP (i:=14) rfl krStd0 (Ev.fieldAddr rfl) ag ?_;refine GF.evL (i:=15) rfl krStd0 (Ev.d8 rfl rfl) ag ?_;refine GF.evP (i:=16) rfl krStd0 (Ev.build rfl rfl) ag ?_;refine GF.d7 11 17 krStd0 ?_ ?_
 ·refine GE.ef rfl (Ef.f8 (jE sad lots.length scap a3) rfl) ag ?_;rintro _ _⟨rfl,rfl⟩;refine⟨(by intro pe hp;simp only[bj,aU,or_false] at hp;rcases hp with rfl|rfl|rfl|rfl|rfl|rfl|rfl<;>first|exact Ev.d8 rfl rfl|exact Ev.d7 rfl aK|(rw[←a6];exact Ev.e8 rfl rfl)),?_⟩;refine GF.plan [.ef 17,.ef 18,.ef 19] krStd0 rfl ?_;refine Xd ?_;intros;refine GPK.keep (by rw[←a6];exact Ev.e8 rfl rfl) ?_;refine Xd ?_;intros;refine GPW.ef (Ef.j0 (enc:=aj) (e:=((id,0,n):Lot)) rfl rfl rfl rfl rfl aK (co _) ab ab) ag ?_;rintro _ _⟨a1,a0,rfl,rfl⟩;refine Xd ?_;intros;refine GPW.fct (BQ (ad:=a1) (cap:=a0) (xs:=lots++[((id,0,n):Lot)]) (enc:=aj) (sz:=3) (E:=tLot)) ?_;rintro⟨b2,_⟩;refine GPW.efu (Ef.e7 (enc:=Stk.v) (e:=(⟨a1,a0,lots++[((id,0,n):Lot)]⟩:Stk)) rfl rfl rfl rfl) ?_;rintro _ _⟨rfl,rfl⟩;refine Xd ?_;intros;refine KX.d7 al ?_ (.inr ⟨fun q=>q.elim a2 (fun r=>hl r.2),rfl,_,b0 ⟨a1,a0,lots++[((id,0,n):Lot)]⟩ (by rw[a9]) b2,rfl⟩);simp only[bkL,bP];refine(Ent.at (A:=allP flP x.flows) (Ent.refl _)).trans ?_;refine(Ent.at (A:=isl (encZ .i64) 1 mad made) (Ent.refl _)).trans ?_;refine(Ent.at (A:=isl aj 3 pad parts) (a5 _)).trans ?_;refine(Ent.at (A:=asl aj 3 tLot a1 a0 (lots++[((id,0,n):Lot)])) Ent.m9).trans ?_;refine(Ent.at (A:=allP (fun p:(Int×Int)×Stk=>stkP p.2) x.stk) (Ent.refl _)).trans ?_;refine(Ent.at (A:=isl aj 3 a1 (lots++[((id,0,n):Lot)])) (ji (s:=⟨a1,a0,lots++[((id,0,n):Lot)]⟩) (k:=(to,item)))).trans ?_;exact ae
 ·refine GE.ef rfl (Ef.lit rfl rfl ag rfl) ag ?_;rintro _ _⟨bl,rfl,rfl⟩;refine⟨(by intro pe hp;simp only[bj,aU,or_false] at hp;rcases hp with rfl|rfl|rfl|rfl|rfl|rfl|rfl<;>first|exact Ev.d8 rfl rfl|exact Ev.d7 rfl aK|(rw[←a6];exact Ev.e8 rfl rfl)),?_⟩;refine GF.plan [.ef 11,.ef 18,.ef 19] krStd0 rfl ?_;refine Xd ?_;intros;refine GPW.cr (jE sad lots.length scap a3) ?_;refine Xd ?_;intros;refine GPW.ef (Ef.j0 (enc:=aj) (e:=((id,0,n):Lot)) rfl rfl rfl rfl rfl aK (co _) ab ab) ag ?_;rintro _ _⟨a1,a0,rfl,rfl⟩;refine Xd ?_;intros;refine GPW.fct (BQ (ad:=a1) (cap:=a0) (xs:=lots++[((id,0,n):Lot)]) (enc:=aj) (sz:=3) (E:=tLot)) ?_;rintro⟨b2,_⟩;refine GPW.efu (Ef.e7 (enc:=Stk.v) (e:=(⟨a1,a0,lots++[((id,0,n):Lot)]⟩:Stk)) rfl rfl rfl rfl) ?_;rintro _ _⟨rfl,rfl⟩;refine Xd ?_;intros;refine KX.d7 al ?_ (.inr ⟨fun q=>q.elim a2 (fun r=>hl r.2),rfl,_,b0 ⟨a1,a0,lots++[((id,0,n):Lot)]⟩ (by rw[a9]) b2,rfl⟩);simp only[bkL,bP];refine(Ent.at (A:=allP flP x.flows) (Ent.refl _)).trans ?_;refine(Ent.at (A:=isl (encZ .i64) 1 mad made) (Ent.refl _)).trans ?_;refine(Ent.at (A:=isl aj 3 pad parts) (a5 _)).trans ?_;refine(Ent.at (A:=asl aj 3 tLot a1 a0 (lots++[((id,0,n):Lot)])) Ent.m9).trans ?_;refine(Ent.at (A:=allP (fun p:(Int×Int)×Stk=>stkP p.2) x.stk) (Ent.refl _)).trans ?_;refine(Ent.at (A:=isl aj 3 a1 (lots++[((id,0,n):Lot)])) (ji (s:=⟨a1,a0,lots++[((id,0,n):Lot)]⟩) (k:=(to,item)))).trans ?_;exact ae
