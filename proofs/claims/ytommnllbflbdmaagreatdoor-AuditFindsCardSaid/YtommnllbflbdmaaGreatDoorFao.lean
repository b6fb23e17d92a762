/- Lemmas. -/
import Derived.Test.YtommnllbflbdmaaGreatDoorFan
set_option linter.all false
set_option maxHeartbeats 2000000
namespace Go.Proofs.YtommnllbflbdmaaGreatDoor
section
open Go.V
attribute [local irreducible] G GO GP GPW GPK Ev Ef EfR Ent CB GB Enters
def HS(m:List (Int×Int))(k d:Int):((@List.lookup _ _ instBEqOfDecidableEq k m).map encN).getD (ac d)=ac ((glk m k).getD d):=by
 unfold glk;cases @List.lookup _ _ instBEqOfDecidableEq k m<;>rfl
abbrev flV(f:FlM)(pad:OA)(pcap:Nat)(mad:OA)(mcap:Nat):FlV:=⟨f,pad,pcap,mad,mcap⟩
abbrev zX:=aH2 [.ev 10,.ev 11]
abbrev zW:=aH2 [.ev 10]
abbrev xE:=aH0 [.ev 6,.ef 7]
abbrev xD:=aH4 [.ev 17,.ev 18,.ev 19,.ev 20,.ev 21,.ev 22,.ev 23,.ev 24,.ev 25,.ev 26,.ev 27,.ev 28,.ev 29,.ev 30,.ev 31,.ev 32,.ev 33,.ev 34,.ev 35,.ev 36,.ev 37,.ev 38,.ev 39,.ev 40,.ev 41,.ev 42,.ev 43,.ev 44,.ev 45,.ev 46,.ev 47,.ev 48,.ev 49,.ev 50,.ev 51,.ev 52,.ef 53,.ef 54]
abbrev xC:=aH0 [.ef 6,.ef 7,.ev 8,.ev 9,.ef 10]
abbrev xB:=aH0 [.ev 6,.ef 7,.ef 8,.ev 9,.ev 10,.ef 11]
abbrev xA:=aH3 [.ev 13,.ev 14,.ef 15,.ef 16]
def cq{φ ψ:Prop}(k:ψ)(h:Hid ψ→φ:=by intro k;(with_reducible apply G.d7);first|refine G.dr 186 4 zX (Hid.out k)|refine G.dr 186 6 zW (Hid.out k)|refine G.dr 186 13 xE (Hid.out k)|refine G.dr 186 14 xD (Hid.out k)|refine G.dr 186 17 xC (Hid.out k)|refine G.dr 186 19 xB (Hid.out k)|refine G.dr 186 24 xA (Hid.out k)):φ:=h ⟨k⟩
def LK{φ ψ:Prop}(k:ψ)(h:Hid ψ→φ:=by intro k;(repeat (first|refine aa ?_|intro zzz|refine cq ?_));(repeat revert zzz);exact Hid.out k):φ:=h ⟨k⟩
def FN{L:LH}(b bc:Nat)(sh:Int)(x:LedX)(s:StV)(z:ChX)(m:MvV)(W:Wk)(hW:WkF x z W)(hO:W.Ok x.flows.length)(h:MvFit x m.m)(hk:lm s.kind)(hT:∀mx,TakeC mx)(d5:x.cat.items.length≤64)(e3:0≤sh∧sh<12)(g0:x.flows.length≤4194304)(e6:W.flows.length<64) :
  Tri ai 124 #[ay bc,aO (aL m)] (chL b bc s z (ledL b sh x L)) (fun v L'=>∃z',v=ac (hU sh x.flows.length (bN x) s.m W m.m).1 ∧
   ((hU sh x.flows.length (bN x) s.m W m.m).1=0→WkF x z' (hU sh x.flows.length (bN x) s.m W m.m).2)∧L' = chL b bc s z' (ledL b sh x L)):=by
 obtain⟨f4,f5⟩:=e3;obtain⟨f1,f2⟩:=h.n;have f3:=h.ne;obtain⟨f6,f9⟩:=hO.tot m.m.item;have e4:z.flows.length=W.flows.length:=by rw[←hW.flows];simp
 have f0:z.sunk.length≤64:=by rw[hW.sunk];have:=hO.sunk;omega
 refine Tri.bd ?_;refine LK ?_;intros;rename_i b3;refine GO.ent (L':=chL b bc s z (ledL b sh x (obj b3 tMv (aL m)::L))) (by simp only[chL,ledL];exact ag) ?_;refine GO.ca (BF b bc sh x s z m W hW hO h hk hT d5) ?_;rintro _ _ (⟨h1,rfl,rfl⟩|⟨h1,pad,pcap,a0,rfl,a6,rfl⟩)
 ·have e:hU sh x.flows.length (bN x) s.m W m.m=(10,W):=by unfold hU;rw[if_pos h1]
  rw[e];refine LK ?_;intros;exact KX.d7 an (by simp only[chL,ledL];exact ag) ⟨z,rfl,(fun h=>absurd (show(_:Int)=0 from h) fi),rfl⟩
 have c6:cL sh x.flows.length W=sh*4294967296+(x.flows.length:Int)+(z.flows.length:Int):=by unfold cL;rw[e4]
 have e1:hU sh x.flows.length (bN x) s.m W m.m=if cw W m.m>1099511627776 then(4,W)
   else if m.m.to=0 then(0,⟨gM (bN x) W m.m,upd W.tot m.m.item (cw W m.m),W.flows++[kQ sh x.flows.length (bN x) s.m W m.m],W.sunk++[cL sh x.flows.length W]⟩)
   else if 4096≤(gM (bN x) W m.m m.m.to m.m.item).length then(4,W)
   else(0,⟨upd2 (gM (bN x) W m.m) m.m.to m.m.item (aZ (gM (bN x) W m.m m.m.to m.m.item) (cL sh x.flows.length W,0,m.m.n)),upd W.tot m.m.item (cw W m.m),W.flows++[kQ sh x.flows.length (bN x) s.m W m.m],W.sunk⟩):=by unfold hU;rw[if_neg h1]
 have a9:kQ sh x.flows.length (bN x) s.m W m.m=⟨cL sh x.flows.length W,s.id,s.kind,s.tick,s.actor,m.m.frm,m.m.to,m.m.item,m.m.n,jn (bN x) W m.m,cW s.m W m.m⟩:=rfl;rw[e1];generalize kQ sh x.flows.length (bN x) s.m W m.m=fl at *;generalize jn (bN x) W m.m=pts at *;have c9:cw W m.m=W.tot m.m.item+(if m.m.frm=0 then m.m.n else 0) - (if m.m.to=0 then m.m.n else 0):=rfl;have d0:=hW.tot m.m.item;simp only[chL,ledL,gm];refine LK ?_;intros;refine GPW.evL (Ev.l9 rfl rfl) ae ?_;repeat first|refine G.sm 5 ?_|refine bV ?_|intro _|refine cq ?_
 refine G.d8 (α:=Unit) (fun _=>True) (fun _=>[(0,ay bc),(3,ay b3),(4,ac 0),(5,ah pad pts.length pcap),(7,ac (W.tot m.m.item))]) (fun _=>isl aj 3 pad pts::chL b bc s { z with stk:=a0 } (ledL b sh x (obj b3 tMv (aL m)::L))) ?_ ?_
 ·cases hl:@List.lookup _ _ instBEqOfDecidableEq m.m.item z.tot with
  | some t =>
   simp only[fm,gn,Option.isSome_some];have e:W.tot m.m.item=t:=by rw[←d0];unfold glk;rw[hl];rfl
   rw[e];refine LK ?_;intros;exact⟨(),trivial,av,Ent.refl _⟩
  | none =>
   simp only[eO,el,Option.isSome_none];have e:W.tot m.m.item=(glk x.tot m.m.item).getD 0:=by rw[←d0];unfold glk;rw[hl];rfl
   rw[e];refine LK ?_;intros;refine GPW.evL (Ev.e8 rfl rfl) ae ?_;rw[HS];refine LK ?_;intros;exact⟨(),trivial,av,Ent.refl _⟩
 rintro _ _;simp only[chL,ledL,gm];refine G.d8 (α:=Unit) (fun _=>True) (fun _=>[(0,ay bc),(3,ay b3),(4,ac 0),(5,ah pad pts.length pcap),(7,ac (W.tot m.m.item+(if m.m.frm=0 then m.m.n else 0)))]) (fun _=>isl aj 3 pad pts::chL b bc s { z with stk:=a0 } (ledL b sh x (obj b3 tMv (aL m)::L))) ?_ ?_
 ·by_cases h0:m.m.frm=0
  ·rw[if_pos h0];refine LK ?_;intros;exact⟨(),trivial,av,Ent.refl _⟩
  ·rw[if_neg h0,gd];refine LK ?_;intros;exact⟨(),trivial,av,Ent.refl _⟩
 rintro _ _;simp only[chL,ledL,gm];have b1 : -9223372036854775808+1099511627776≤W.tot m.m.item+(if m.m.frm=0 then m.m.n else 0)∧W.tot m.m.item+(if m.m.frm=0 then m.m.n else 0)≤2199023255552:=by split<;>omega
 obtain⟨b1,d1⟩:=b1;refine G.d8 (α:=Unit) (fun _=>True) (fun _=>[(0,ay bc),(3,ay b3),(4,ac 0),(5,ah pad pts.length pcap),(7,ac (cw W m.m))]) (fun _=>isl aj 3 pad pts::chL b bc s { z with stk:=a0 } (ledL b sh x (obj b3 tMv (aL m)::L))) ?_ ?_
 ·rw[c9];generalize W.tot m.m.item+(if m.m.frm=0 then m.m.n else 0)=t1 at *;by_cases h0:m.m.to=0
  ·rw[if_pos h0];refine LK ?_;intros;exact⟨(),trivial,av,Ent.refl _⟩
  ·rw[if_neg h0,fE];refine LK ?_;intros;exact⟨(),trivial,av,Ent.refl _⟩
 rintro _ _;simp only[chL,ledL,gm];by_cases a7:cw W m.m>1099511627776
 ·rw[if_pos a7];refine LK ?_;intros;exact KX.d7 an ag ⟨{ z with stk:=a0 },rfl,(fun h=>absurd (show(_:Int)=0 from h) fi),rfl⟩
 rw[if_neg a7];clear c9 b1 d1;refine LK ?_;intros;refine GPW.efu (Ef.e8 (enc:=encN) (e:=cw W m.m) rfl rfl rfl rfl) ?_;rintro _ _ rfl;repeat first|refine G.sm 15 ?_|refine bV ?_|intro _|refine cq ?_
 rename_i b9
 have a3:∀(mad:OA) (mcap:Nat),aQ (flV fl pad pcap mad mcap)=[ac (sh*4294967296+(x.flows.length:Int)+(z.flows.length:Int)),ac s.id,ac s.kind,ac s.tick,ac s.actor,ac m.m.frm,ac m.m.to,ac m.m.item,ac m.m.n,ah pad pts.length pcap,ah mad (cW s.m W m.m).length mcap]:=by
  intro mad mcap;rw[a9,c6];rfl
 refine G.d8 (α:=OA×Nat) (fun _=>True) (fun _=>[(0,ay bc),(3,ay b3),(4,ac 0),(9,ay b9)]) (fun g=>obj b9 bE (aQ (flV fl pad pcap g.1 g.2))::isl (encZ .i64) 1 g.1 (cW s.m W m.m)::isl aj 3 pad pts::chL b bc s { z with stk:=a0,tot:=gins z.tot m.m.item (cw W m.m) } (ledL b sh x (obj b3 tMv (aL m)::L))) ?_ ?_
 ·by_cases b7:m.m.frm=0∧s.kind=4
  ·obtain⟨b8,c0⟩:=b7;have e:cW s.m W m.m=z.sunk:=by unfold cW;rw[if_pos ⟨b8,.inl c0⟩,hW.sunk]
   refine LK ?_;intros;refine GO.ca (iO z.kad z.sunk.length z.kcap z.sunk rfl ab) ?_;rintro _ _⟨mad,mcap,rfl,rfl⟩;refine LK ?_;intros;refine⟨(mad,mcap),trivial,av,?_⟩;rw[a3,e];refine(Ent.frz mad).trans ?_;exact ag
  ·have b5:¬s.kind=10:=by unfold lm at hk;omega
   have e:cW s.m W m.m=[]:=by
    unfold cW
    exact if_neg (fun h=>by
     obtain⟨h3,h4⟩:=h;rcases h4 with h4|h4
     ·exact b7 ⟨h3,h4⟩
     ·exact b5 h4)
   by_cases h0:m.m.frm=0
   ·have e5:¬s.kind=4:=fun h=>b7 ⟨h0,h⟩;refine LK ?_;intros;refine⟨(none,0),trivial,av,?_⟩;rw[a3,e];refine Ent.trans ?_ (Ent.d7 (Ent.e8 (encZ .i64) 1 none));exact ag
   ·refine LK ?_;intros;refine⟨(none,0),trivial,av,?_⟩;rw[a3,e];refine Ent.trans ?_ (Ent.d7 (Ent.e8 (encZ .i64) 1 none));exact ag
 rintro⟨mad,mcap⟩ _;simp only[chL,ledL,gm];refine LK ?_;intros;refine GPW.ef (Ef.d7 (enc:=aQ) (e:=flV fl pad pcap mad mcap) rfl rfl rfl rfl rfl aK (fZ _) ab ab) ae ?_;rintro _ _⟨a2,a1,rfl,rfl⟩;repeat first|refine G.sm 18 ?_|refine bV ?_|intro _|refine cq ?_
 have a4:fl.id=cL sh x.flows.length W:=by rw[a9]
 have a8:fl.n=m.m.n:=by rw[a9]
 have b2:fl.made=cW s.m W m.m:=by rw[a9]
 have b4:fl.parts=pts:=by rw[a9]
 refine G.ent (L':=obj b9 bE (aQ (flV fl pad pcap mad mcap))::chL b bc s { z with stk:=a0,tot:=gins z.tot m.m.item (cw W m.m),flows:=z.flows++[flV fl pad pcap mad mcap],fad:=a2,fcap:=a1 } (ledL b sh x (obj b3 tMv (aL m)::L))) ?_ ?_
 ·simp only[chL,ledL,gm];refine(Ent.at (A:=isl (encZ .i64) 1 mad (cW s.m W m.m)) (Ent.refl _)).trans ?_;refine(Ent.at (A:=isl aj 3 pad pts) (Ent.refl _)).trans ?_;rw[←b4,←b2];refine(Ent.e9 (bM _ _ _ _) (bM _ _ _ _)).trans ?_;refine(Ent.at (A:=allP flP z.flows) (Ent.refl _)).trans ?_;refine((Ent.d7 (Ent.f8 (f:=flP) (x:=flV fl pad pcap mad mcap) jK)).trans (Ent.g7 jK)).trans ?_;exact ag
 have c4:∀i,(glk (gins z.tot m.m.item (cw W m.m)) i).getD ((glk x.tot i).getD 0)=upd W.tot m.m.item (cw W m.m) i:=by
  intro i;unfold glk upd;have hq:=ip (m:=z.tot) (k:=m.m.item) (q:=i) (a:=cw W m.m);refine(congrArg (fun o:Option Int=>o.getD ((glk x.tot i).getD 0)) hq).trans ?_;by_cases hi:i=m.m.item
  ·rw[if_pos hi,if_pos hi];rfl
  ·rw[if_neg hi,if_neg hi];exact hW.tot i
 have c3:(z.flows++[flV fl pad pcap mad mcap]).map FlV.m=W.flows++[fl]:=by rw[aW,hW.flows];rfl
 simp only[chL,ledL,gm];by_cases h0:m.m.to=0
 ·rw[if_pos h0];refine LK ?_;intros;refine GPW.ef (Ef.d7 (enc:=encZ .i64) (e:=(flV fl pad pcap mad mcap).m.id) rfl rfl rfl rfl rfl aK (by simp[encZ,Value.oneCell']) ab ab) ae ?_;rintro _ _⟨c2,b0,rfl,rfl⟩;refine LK ?_;intros;refine KX.d7 an ?_ ⟨{ z with stk:=a0,tot:=gins z.tot m.m.item (cw W m.m),flows:=z.flows++[flV fl pad pcap mad mcap],fad:=a2,fcap:=a1,sunk:=z.sunk++[fl.id],kad:=c2,kcap:=b0 },rfl,fun _=>⟨a6,c4,c3,?_⟩,rfl⟩
  ·simp only[chL,ledL,gm];exact ag
  ·show z.sunk++[fl.id]=W.sunk++[cL sh x.flows.length W];rw[hW.sunk,a4]
 rw[if_neg h0];refine LK ?_;intros;have d3:∀q,curS x { z with stk:=a0,tot:=gins z.tot m.m.item (cw W m.m),flows:=z.flows++[flV fl pad pcap mad mcap],fad:=a2,fcap:=a1 } q=curS x { z with stk:=a0 } q:=fun _=>rfl;refine GO.ent (L':=stkP (curS x { z with stk:=a0 } (m.m.to,m.m.item))::obj b9 bE (aQ (flV fl pad pcap mad mcap))::chL b bc s { z with stk:=a0,tot:=gins z.tot m.m.item (cw W m.m),flows:=z.flows++[flV fl pad pcap mad mcap],fad:=a2,fcap:=a1 } (ledL b sh x (obj b3 tMv (aL m)::L))) ?_ ?_
 ·simp only[chL,ledL,gm];refine(Ent.at (A:=allP (fun p:(Int×Int)×Stk=>stkP p.2) a0) (Ent.refl _)).trans ?_;refine(Ent.d7 (Ent.at (A:=allP (fun p:(Int×Int)×Stk=>stkP p.2) x.stk) (Ent.refl _))).trans ?_;refine(yS (x:=x) (z:={ z with stk:=a0 }) (m.m.to,m.m.item)).trans ?_;exact ag
 simp only[chL,ledL];refine GO.cr (qM (b:=b) (sh:=sh) (x:=x) (s:=s) (z:={ z with stk:=a0,tot:=gins z.tot m.m.item (cw W m.m),flows:=z.flows++[flV fl pad pcap mad mcap],fad:=a2,fcap:=a1 }) m.m.to m.m.item) ?_;rw[d3];have d2:=a6 m.m.to m.m.item
 have e2:∀a i,((gM (bN x) W m.m a i).length≤4096∧∀l∈gM (bN x) W m.m a i,LotOk l):=by
  intro a i;unfold gM;split
  ·exact hO.stk a i
  ·rename_i d4;unfold upd2;split
   ·have c1:m.m.n≤lsum (W.stk m.m.frm m.m.item):=by
     rcases Int.lt_or_le (lsum (W.stk m.m.frm m.m.item)) m.m.n with e0|d6
     ·exact absurd ⟨d4,e0⟩ h1
     ·exact d6
    obtain⟨o1,o2⟩:=hO.stk m.m.frm m.m.item;exact⟨cO (kn _ _ _).2 o1,(ub o2 ((hT _).bd _ _ o2 ab c1)).2⟩
   ·exact hO.stk a i
 obtain⟨c7,c8⟩:=e2 m.m.to m.m.item;rw[←d2] at c7 c8 ⊢;generalize hsk:curS x { z with stk:=a0 } (m.m.to,m.m.item)=sk at *;simp only[Stk.v,gm];by_cases c5:4096≤sk.lots.length
 ·rw[if_pos c5];refine LK ?_;intros;refine KX.d7 an ?_ ⟨{ z with stk:=a0,tot:=gins z.tot m.m.item (cw W m.m),flows:=z.flows++[flV fl pad pcap mad mcap],fad:=a2,fcap:=a1 },rfl,(fun h=>absurd (show(_:Int)=0 from h) fi),rfl⟩;exact ag
 rw[if_neg c5];refine LK ?_;intros;refine GPW.ent (Ent.at (A:=stkP sk) (Ent.refl _)) ?_
 have b6:LotOk ((flV fl pad pcap mad mcap).m.id,0,(flV fl pad pcap mad mcap).m.n):=by
  show LotOk (fl.id,0,fl.n);rw[a4,a8,c6];unfold LotOk;dsimp only;omega
 refine GPW.ca (vw sk.ad sk.cap sk.lots ((flV fl pad pcap mad mcap).m.id,0,(flV fl pad pcap mad mcap).m.n) c7 c8 b6) ?_;rintro _ _⟨ad2,a5,rfl,rfl⟩;refine LK ?_;intros;refine GPW.efu (Ef.e8 (enc:=Stk.v) (e:=(⟨ad2,a5,aZ sk.lots (fl.id,0,fl.n)⟩:Stk)) rfl rfl rfl rfl) ?_;rintro _ _ rfl;refine LK ?_;intros;refine KX.d7 an ?_ ⟨{ z with stk:=gins a0 (m.m.to,m.m.item) ⟨ad2,a5,aZ sk.lots (fl.id,0,fl.n)⟩,tot:=gins z.tot m.m.item (cw W m.m),flows:=z.flows++[flV fl pad pcap mad mcap],fad:=a2,fcap:=a1 },rfl,fun _=>⟨?_,c4,c3,hW.sunk⟩,rfl⟩
 ·simp only[chL,ledL,gm];refine(Ent.frz ad2).trans ?_;refine(Ent.at (A:=allP (fun p:(Int×Int)×Stk=>stkP p.2) a0) (Ent.refl _)).trans ?_;refine(Ent.at (A:=stkP ⟨ad2,a5,aZ sk.lots (fl.id,0,fl.n)⟩) (jg (k:=(m.m.to,m.m.item)))).trans ?_;exact ag
 ·intro a i;show(curS x { ({ z with stk:=a0 }:ChX) with stk:=gins ({ z with stk:=a0 }:ChX).stk (m.m.to,m.m.item) ⟨ad2,a5,aZ sk.lots (fl.id,0,fl.n)⟩ } (a,i)).lots=_;rw[yR];dsimp only;unfold upd2;by_cases hq:a=m.m.to∧i=m.m.item
  ·obtain⟨rfl,rfl⟩:=hq;rw[if_pos rfl,if_pos ⟨rfl,rfl⟩];dsimp only;rw[a4,a8]
  ·rw[if_neg (fun h=>hq (by simpa using h)),if_neg hq];exact a6 a i
def iL(sh:Int)(nf:Nat)(mix:Int→Bool)(s:StM):Wk→List MvM→Int×Wk
 | W,[]=>(0,W)
 | W,m::ms=>if(hU sh nf mix s W m).1=0 then iL sh nf mix s (hU sh nf mix s W m).2 ms else((hU sh nf mix s W m).1,W)
def Cz{mix:Int→Bool}{W:Wk}{m:MvM}{nf:Nat}(hO:W.Ok nf)(hT:∀mx,TakeC mx)(hn:1≤m.n)(h1:¬(m.frm≠0∧lsum (W.stk m.frm m.item)<m.n)) :
  ∀a i,((gM mix W m a i).length≤4096∧∀l∈gM mix W m a i,LotOk l):=by
 intro a i;unfold gM;split
 ·exact hO.stk a i
 ·rename_i a1;unfold upd2;split
  ·have a0:m.n≤lsum (W.stk m.frm m.item):=by
    rcases Int.lt_or_le (lsum (W.stk m.frm m.item)) m.n with a3|a2
    ·exact absurd ⟨a1,a3⟩ h1
    ·exact a2
   obtain⟨o1,o2⟩:=hO.stk m.frm m.item;exact⟨cO (kn _ _ _).2 o1,(ub o2 ((hT _).bd _ _ o2 ab a0)).2⟩
  ·exact hO.stk a i
def yd{sh:Int}{nf:Nat}{mix:Int→Bool}{s:StM}{W:Wk}{m:MvM}(hO:W.Ok nf)(hT:∀mx,TakeC mx)(hn:1≤m.n∧m.n≤1099511627776)(a4:0≤sh)(he:(hU sh nf mix s W m).1=0) :
  (hU sh nf mix s W m).2.Ok nf∧(hU sh nf mix s W m).2.flows.length=W.flows.length+1:=by
 obtain⟨a2,a3⟩:=hn;unfold hU at he ⊢;by_cases h1:m.frm≠0∧lsum (W.stk m.frm m.item)<m.n
 ·rw[if_pos h1] at he;exact absurd (show(10:Int)=0 from he) ab
 rw[if_neg h1] at he ⊢;by_cases h2:cw W m>1099511627776
 ·rw[if_pos h2] at he;exact absurd (show(4:Int)=0 from he) ab
 rw[if_neg h2] at he ⊢;have a1:=Cz (mix:=mix) hO hT a2 h1
 have a0:∀i,-(((nf:Int)+(W.flows.length+1:Nat))*1099511627776)≤upd W.tot m.item (cw W m) i∧upd W.tot m.item (cw W m) i≤1099511627776:=by
  intro i;unfold upd;split
  ·obtain⟨o1,o2⟩:=hO.tot m.item;refine⟨?_,ab⟩;unfold cw;split<;>split<;>omega
  ·obtain⟨o1,o2⟩:=hO.tot i;omega
 by_cases h3:m.to=0
 ·rw[if_pos h3] at he ⊢;refine⟨⟨a1,?_,?_⟩,by simp⟩
  ·intro i;rw[show(W.flows++[kQ sh nf mix s W m]).length=W.flows.length+1 by simp];exact a0 i
  ·have:=hO.sunk
   simp only[aq,bD,cB];omega
 rw[if_neg h3] at he ⊢;by_cases h4:4096≤(gM mix W m m.to m.item).length
 ·rw[if_pos h4] at he;exact absurd (show(4:Int)=0 from he) ab
 rw[if_neg h4] at he ⊢;refine⟨⟨?_,?_,?_⟩,by simp⟩
 ·intro a i;dsimp only;unfold upd2;split
  ·refine⟨cO (kU _ _) ab,oX (a1 m.to m.item).2 ?_⟩;unfold LotW cL;dsimp only;omega
  ·exact a1 a i
 ·intro i;rw[show(W.flows++[kQ sh nf mix s W m]).length=W.flows.length+1 by simp];exact a0 i
 ·have:=hO.sunk
  simp only[aq,bD,cB];omega
def StM.at(s:StM)(id:Int):StM:={ s with id:=id }
def StV.at(s:StV)(id:Int):StV:={ s with id:=id }
def wk0(S:LedM):Wk:=⟨S.stk,S.tot,[],[]⟩
def EV{S:LedM}(h:S.Ok):(wk0 S).Ok S.flows.length:=⟨h.stk,fun i=>by have:=h.tot i;simpa [wk0] using this,by simp[wk0]⟩
structure StIn (s:StV):Prop where
 kind:lm s.kind
 len:s.moves.length≤1000000
 cap:s.moves.length≤s.mcap
 rule:I64 s.rule
 parts:∀m∈s.moves,m.m.parts.length≤1000000
def aP(S:LedM):Int:=S.shard*4294967296+(S.steps.length:Int)
def bF(c:CatM)(i:Int):Bool:=c.items[i.toNat]!.mixed
noncomputable def tryM(S:LedM)(s:StM):Int×Wk :=
 if 65536≤S.steps.length then(4,wk0 S)
 else if ¬mH S.cat S.now s then(1,wk0 S)
 else iL S.shard S.flows.length (bF S.cat) (s.at (aP S)) (wk0 S) s.moves
abbrev Do:=aH3 [.ev 13,.ev 14,.ef 15]
def Mk{φ ψ:Prop}(k:ψ)(h:Hid ψ→φ:=by intro k;(repeat (first|refine aa ?_|intro zzz|refine G.dr 62 6 Do ?_));(repeat revert zzz);exact Hid.out k):φ:=h ⟨k⟩
def GX{L:LH}(b:Nat)(S:LedM)(hS:S.Ok)(hc:S.cat.Ok)(x:LedX)(hF:LedF S x)(s:StV)(hs:StIn s)(hT:∀mx,TakeC mx) :
  Tri ai 64 #[ay b,aO (aN s)] (ledL b S.shard x (stM s::stP s::L)) (fun v L' =>
   ((tryM S s.m).1≠0∧v=.tuple #[.pointer none,ac (tryM S s.m).1]∧L' = ledL b S.shard x (stM s::stP s::L)) ∨
   ((tryM S s.m).1=0∧∃bc s' z,v=.tuple #[ay bc,ac 0]∧(s'.m=s.m.at (aP S)∧WkF x z (tryM S s.m).2)∧L' = chL b bc s' z (ledL b S.shard x (stM s'::stP s'::stM s::stP s::L)))):=by
 obtain⟨a6,b6⟩:=hS.shard;have d1:=hS.steps;have d0:=hS.flows;have c8:x.steps.length=S.steps.length:=by rw[←hF.steps];simp
 have b7:x.flows.length=S.flows.length:=by rw[←hF.flows];simp
 have hB:=hF.catB;have c5:=hs.len;have a7:=hF.cat;have c4:=hB.items;have b4:xnow x=S.now:=Je hF;have b1:bN x=bF S.cat:=by funext i;unfold bN bF;rw[←a7];rfl
 refine Tri.bd ?_;simp only[ledL,bR];by_cases h1:65536≤S.steps.length
 ·have e:tryM S s.m=(4,wk0 S):=by unfold tryM;rw[if_pos h1]
  rw[e];refine Mk ?_;intros;exact KX.d7 an ag (.inl ⟨by dsimp only;omega,rfl,rfl⟩)
 refine Mk ?_;intros;refine GO.ent (Ent.at (A:=catP x.cat) (Ent.refl _)) ?_;refine GO.cr (Ft (b:=b) (sh:=S.shard) (x:=x) s hs.kind (a7▸hc) hB ab c5 hs.cap hs.rule) ?_;rw[a7,b4];by_cases h2:mH S.cat S.now s.m
 case neg =>
  have e:tryM S s.m=(1,wk0 S):=by unfold tryM;rw[if_neg h1,if_pos h2]
  rw[e,aH h2];refine Mk ?_;intros;exact KX.d7 an ag (.inl ⟨by dsimp only;omega,rfl,rfl⟩)
 have e:tryM S s.m=iL S.shard S.flows.length (bF S.cat) (s.m.at (aP S)) (wk0 S) s.m.moves:=by unfold tryM;rw[if_neg h1,if_neg (fun h=>h h2)]
 rw[e,aU h2];have b0:s.moves.length≤64:=by have:=h2.2.2.1.2;simpa [StV.m] using this
 refine Mk ?_;intros;refine GO.ent (Ent.at (A:=stM s) (Ent.d7 (Ent.at (A:=stP s) (Ent.refl _)))) ?_;refine GO.ca (qJ s b0 hs.parts) ?_;rintro _ _⟨s',rfl,b5,rfl⟩;have a8:s'.moves.map MvV.m=s.m.moves:=congrArg StM.moves b5;have c7:s'.moves.length=s.moves.length:=by have:=congrArg List.length a8;simpa [StV.m] using this
 have c6:s'.kind=s.kind:=congrArg StM.kind b5;simp only[aN];refine Mk ?_;intros;refine GO.ef (Ef.e7 kvP Stk.v (.inl rfl)) ae ?_;rintro _ _⟨cs,rfl,rfl⟩;refine Mk ?_;intros;refine GO.ef (Ef.e7 kvI encN (.inl rfl)) ae ?_;rintro _ _⟨ct,rfl,rfl⟩;refine Mk ?_;intros;refine GO.ef (Ef.e7 kvI Stk.v (.inl rfl)) ae ?_;rintro _ _⟨ci,rfl,rfl⟩;refine Mk ?_;intros;refine GO.ef (Ef.e7 kvI Stk.v (.inl rfl)) ae ?_;rintro _ _⟨cr,rfl,rfl⟩;refine Mk ?_;intros;rename_i bc;have c2:S.shard*4294967296+(x.steps.length:Int)=aP S:=by unfold aP;rw[c8]
 rw[c2]
 have a5:(s'.at (aP S)).m=s.m.at (aP S):=by
  show StM.at s'.m (aP S)=_;rw[b5]
 have a4:WkF x ⟨cs,ct,ci,cr,[],[],[],none,0,[],none,0⟩ (wk0 S):=⟨fun a i=>hF.stk a i,fun i=>hF.tot i,rfl,rfl⟩
 refine G.loop (α:=Nat×ChX×Wk) (fun g=>g.1≤s'.moves.length∧WkF x g.2.1 g.2.2∧g.2.2.Ok x.flows.length∧g.2.2.flows.length=g.1∧iL S.shard S.flows.length (bF S.cat) (s.m.at (aP S)) (wk0 S) s.m.moves=iL S.shard S.flows.length (bF S.cat) (s.m.at (aP S)) g.2.2 (s.m.moves.drop g.1))
  (fun g=>[(0,ay b),(4,.pointer none),(5,ac 0),(6,ay bc),(48,ah s'.mad s'.moves.length s'.mcap),(49,ac (s'.moves.length:Int)),(50,ac (g.1:Int))])
  (fun g=>chL b bc (s'.at (aP S)) g.2.1 (ledL b S.shard x (stM s'::stP s'::stM s::stP s::L))) (fun g=>s'.moves.length - g.1) (0,⟨cs,ct,ci,cr,[],[],[],none,0,[],none,0⟩,wk0 S) ⟨ax _,a4,b7▸EV hS,rfl,rfl⟩ av ?_ ?_
 ·simp only[chL,ledL,gm,bR,StV.at,cB];refine(Ent.d8 aQ 11 bE).trans ?_;refine(Ent.d8 (encZ .i64) 1 tInt).trans ?_;refine(Ent.d9 (fun p:(Int×Int)×Stk=>stkP p.2)).trans ?_;refine(Ent.d9 flP).trans ?_;exact ag
 rintro⟨i,z,W⟩ ⟨hi,hW,hO,b8,a1⟩;dsimp only at hi hW hO b8 a1 ⊢;by_cases c1:i<s'.moves.length
 case neg =>
  have a9:s.m.moves.drop i=[]:=bG (by rw[←a8,az];omega);rw[a9] at a1;rw[a1];simp only[chL,ledL,gm,bR];refine Mk ?_;intros;exact KX.d7 an (Ent.refl _) (.inr ⟨rfl,bc,s'.at (aP S),z,rfl,⟨a5,hW⟩,rfl⟩)
 have c3:(i:Int).toNat=i:=ab;have b9:s'.moves[i]!.m=s.m.moves[i]!:=by rw[←a8];exact(dI MvV.m c1).symm
 have c0:i<s.m.moves.length:=by rw[←a8,az];exact c1
 have a9:s.m.moves.drop i=s'.moves[i]!.m::s.m.moves.drop (i+1):=by rw[b9];exact ej c0
 have a3:=h2.2.2.2.1 s'.moves[i]!.m (by rw[b9];exact aJ c0)
 have a2:MvFit x s'.moves[i]!.m:=by
  unfold iN at a3;rw[fu] at a3;have h3:=of_decide_eq_true a3;exact⟨⟨h3.1.1,by have h4:=h3.1.2;rw[←a7] at h4;exact h4⟩,h3.2.1,h3.2.2.1,h3.2.2.2.1,h3.2.2.2.2.1,h3.2.2.2.2.2.2.2⟩
 rw[a9] at a1;have b3:iL S.shard S.flows.length (bF S.cat) (s.m.at (aP S)) W (s'.moves[i]!.m::s.m.moves.drop (i+1))=if(hU S.shard S.flows.length (bF S.cat) (s.m.at (aP S)) W s'.moves[i]!.m).1=0 then iL S.shard S.flows.length (bF S.cat) (s.m.at (aP S)) (hU S.shard S.flows.length (bF S.cat) (s.m.at (aP S)) W s'.moves[i]!.m).2 (s.m.moves.drop (i+1)) else((hU S.shard S.flows.length (bF S.cat) (s.m.at (aP S)) W s'.moves[i]!.m).1,W):=rfl;rw[b3] at a1;have b2:=yd (sh:=S.shard) (mix:=bF S.cat) (s:=s.m.at (aP S)) (m:=s'.moves[i]!.m) hO hT a2.n a6;have a0:=FN (L:=stM s'::stP s'::stM s::stP s::L) b bc S.shard x (s'.at (aP S)) z s'.moves[i]! W hW hO a2 (show lm s'.kind by rw[c6];exact hs.kind) hT c4 ⟨a6,b6⟩ ab ab;rw[a5,b1] at a0;rw[b7] at a0 b2;generalize hU S.shard S.flows.length (bF S.cat) (s.m.at (aP S)) W s'.moves[i]!.m=r at *;simp only[chL,ledL,gm,bR,stM];refine Mk ?_;intros;rw[c3];refine GO.ent Ent.drop ?_;refine GO.ca (a0) ?_;rintro _ _⟨z',rfl,c9,rfl⟩;by_cases hr:r.1=0
 ·rw[if_pos hr] at a1;simp only[chL,ledL,gm,bR];refine Mk ?_;intros;refine⟨(i+1,z',r.2),⟨by dsimp only;omega,c9 hr,by rw[b7];exact(b2 hr).1,by dsimp only;rw[(b2 hr).2,b8],a1⟩,by dsimp only;omega,?_,Ent.refl _⟩;dsimp only;rw[aY i];exact av
 ·rw[if_neg hr] at a1;rw[a1];simp only[chL,ledL,gm,bR];refine Mk ?_;intros;exact KX.en (.inl ⟨hr,rfl,rfl⟩)
end
section
open Go.V
attribute [local irreducible] G GO GP GPW GPK Ev Ef EfR Ent CB GB V.Enters
def ly(n:Nat)(l:List (Int×Int)):Prop:=(∀a∈l,0≤a.1∧a.1<n∧1≤a.2∧a.2≤1099511627776)∧l.Pairwise (fun a b=>a.1<b.1)
def je(l:List (Int×Int))(i:Int):Int:=l.foldl (fun s a=>if a.1=i then s+a.2 else s) 0
structure ItGood (x:ItG):Prop where
 word:IsWord x.name
 form:if x.obj=true then x.mixed=false∧x.coin=false∧0≤x.bind∧x.bind≤2 else x.wear=0∧x.bind=0∧x.level=0
 num:(x.obj=true→1≤x.wear∧x.wear≤1048576)∧0≤x.level∧x.level≤100
structure RuGood (n:Nat) (r:RuM):Prop where
 word:IsWord r.name
 lim:r.take.length+r.give.length≤64∧r.take.length+r.back.length≤64
 take:ly n r.take
 give:ly n r.give
 back:ly n r.back
 form:(r.back.length=0∨r.chance≠r.of_)∧(if r.spawn=true then r.take.length=0∧r.back.length=0∧r.level=0∧r.time=0∧r.chance=r.of_ else 0<r.take.length∨r.time≠0)
 cont:∀a∈r.back,je r.back a.1≤je r.take a.1
 num:(0≤r.level∧r.level≤100)∧(0≤r.time∧r.time≤1000000)∧(1≤r.of_∧r.of_≤1000000)∧1≤r.chance∧r.chance≤r.of_
structure RwGood (n:Nat) (r:RwM):Prop where
 num:1≤r.weight∧r.weight≤1099511627776
 give:ly n r.give
structure TbGood (n:Nat) (t:TbM):Prop where
 word:IsWord t.name
 rows:0<t.rows.length∧t.rows.length≤64
 good:∀r∈t.rows,RwGood n r
structure TxGood (t:TxM):Prop where
 word:IsWord t.name
 brs:0<t.brs.length∧t.brs.length≤16
 first:t.brs[0]!.1=0
 srt:∀i,i+1<t.brs.length→t.brs[i]!.1<t.brs[i+1]!.1
 num:∀b∈t.brs,(0≤b.1∧b.1≤1099511627776)∧0≤b.2∧b.2≤10000
structure CatGood (c:CatM):Prop where
 items:c.items.length≤64
 rules:c.rules.length≤64
 tables:c.tables.length≤32
 taxes:c.taxes.length≤32
 it:∀x∈c.items,ItGood x
 ru:∀r∈c.rules,RuGood c.items.length r
 tb:∀t∈c.tables,TbGood c.items.length t
 tx:∀t∈c.taxes,TxGood t
 di:(c.items.map (·.name)).Nodup
 dr:(c.rules.map (·.name)).Nodup
 dt:(c.tables.map (·.name)).Nodup
 dx:(c.taxes.map (·.name)).Nodup
def IW(n:Nat)(r:RuV)(h:RuGood n r.m):fS 169 [] cX ruP (dA True) r:=by
 intro L;obtain⟨h1,h2⟩:=h.lim;change r.take.l.length+r.give.l.length≤64 at h1;change r.take.l.length+r.back.l.length≤64 at h2;refine Tri.bd (args:=[aO (cX r)]) ?_;refine JM ?_;intros;exact KX.d7 an Ent.drop ⟨by rw[aU ab];rfl,rfl⟩
def IV(n:Nat)(t:TbV)(h:TbGood n t.m):fS 171 [] eG tbP (dA True) t:=by
 intro L;have h1:t.rows.length≤64:=by have:=h.rows.2;simpa [TbV.m] using this
 refine Tri.bd (args:=[aO (eG t)]) ?_;refine JM ?_;intros;exact KX.d7 an Ent.drop ⟨by rw[aU ab];rfl,rfl⟩
def IU(t:TxV)(h:TxGood t.m):fS 173 [] eD txP (dA True) t:=by
 intro L;have h1:t.brs.length≤16:=h.brs.2;refine Tri.bd (args:=[aO (eD t)]) ?_;refine JM ?_;intros;exact KX.d7 an Ent.drop ⟨by rw[aU ab];rfl,rfl⟩
abbrev catS(c:CatV)(L:LH):LH:=isl dD 7 c.iad c.items::isl cX 9 c.rad c.rules::allP ruP c.rules::isl eG 2 c.tad c.tables::allP tbP c.tables::isl eD 2 c.xad c.taxes::allP txP c.taxes::L
def catS_open{c:CatV}{L:LH}:Ent (catP c::L) (catS c (catP c::L)) :=
 (Ent.dup (kr c).pers).trans (Ent.andE.trans (Ent.d7 (Ent.andE.trans (Ent.andE.trans (Ent.d7 (Ent.d7 (Ent.andE.trans (Ent.andE.trans (Ent.d7 (Ent.d7 Ent.andE))))))))))
def pD{c:CatV}(h:CatGood c.m):∀r∈c.rules,RuGood c.items.length r.m:=fun _ hr=>h.ru _ (alStd0List_mem_map_of_mem hr)
def pC{c:CatV}(h:CatGood c.m):∀t∈c.tables,TbGood c.items.length t.m:=fun _ ht=>h.tb _ (alStd0List_mem_map_of_mem ht)
def pB{c:CatV}(h:CatGood c.m):∀t∈c.taxes,TxGood t.m:=fun _ ht=>h.tx _ (alStd0List_mem_map_of_mem ht)
def lens{c:CatV}(h:CatGood c.m):c.items.length≤64∧c.rules.length≤64∧c.tables.length≤32∧c.taxes.length≤32:=by
 have h1:=h.items;have h2:=h.rules;have h3:=h.tables;have h4:=h.taxes;simp only[CatV.m,az] at h1 h2 h3 h4;exact⟨h1,h2,h3,h4⟩
def sS{L:LH}(c:CatV)(h:CatGood c.m):Tri ai 111 #[aO c.cells] (catS c (bZ::L)) (rtQ (.bool true) (catS c (bZ::L))):=by
 obtain⟨l1,l2,l3,l4⟩:=lens h;refine Tri.bd ?_;simp only[catS,CatV.cells];refine JM ?_;intros;refine GO.ent (Ent.pure trivial (Ent.refl _)) ?_;(first|refine GO.ef (Ef.call (nz (L:=[]) _ [] (dA True) c.rad c.rcap c.rules l2 (fun r hr=>IW _ r (pD h r hr))) rfl cN) ae ?_);rintro _ _⟨_,⟨rfl,rfl⟩,hL⟩;simp only[ao,al] at hL;subst hL;refine JM ?_;intros;(first|refine GO.ef (Ef.call (ny (L:=[]) _ [] (dA True) c.tad c.tcap c.tables ab (fun r hr=>IV _ r (pC h r hr))) rfl cN) ae ?_);rintro _ _⟨_,⟨rfl,rfl⟩,hL⟩;simp only[ao,al] at hL;subst hL;refine JM ?_;intros;(first|refine GO.ef (Ef.call (nx (L:=[]) _ [] (dA True) c.xad c.xcap c.taxes ab (fun r hr=>IU r (pB h r hr))) rfl cN) ae ?_);rintro _ _⟨_,⟨rfl,rfl⟩,hL⟩;simp only[ao,al] at hL;subst hL;refine JM ?_;intros;exact KX.en ⟨rfl,rfl⟩
def Ji(x:ItG)(h:IsWord x.name):fS 175 [] dD noP bZ x:=by
 intro L;refine Tri.bd (args:=[aO (dD x)]) ?_;refine JM ?_;intros;refine GO.cr (mJ x.name h) ?_;refine JM ?_;intros;exact KX.d7 an Ent.drop ⟨rfl,rfl⟩
def Jh(x:RuV)(h:IsWord x.name):fS 177 [] cX ruP bZ x:=by
 intro L;refine Tri.bd (args:=[aO (cX x)]) ?_;refine JM ?_;intros;refine GO.cr (mJ x.name h) ?_;refine JM ?_;intros;exact KX.d7 an Ent.drop ⟨rfl,rfl⟩
def Jg(x:TbV)(h:IsWord x.name):fS 178 [] eG tbP bZ x:=by
 intro L;refine Tri.bd (args:=[aO (eG x)]) ?_;refine JM ?_;intros;refine GO.cr (mJ x.name h) ?_;refine JM ?_;intros;exact KX.d7 an Ent.drop ⟨rfl,rfl⟩
def Jf(x:TxV)(h:IsWord x.name):fS 179 [] eD txP bZ x:=by
 intro L;refine Tri.bd (args:=[aO (eD x)]) ?_;refine JM ?_;intros;refine GO.cr (mJ x.name h) ?_;refine JM ?_;intros;exact KX.d7 an Ent.drop ⟨rfl,rfl⟩
def Bo{L:LH}(c:CatV)(h:CatGood c.m):Tri ai 112 #[aO c.cells] (catS c (bZ::L)) (rtQ (.bool true) (catS c (bZ::L))):=by
 obtain⟨l1,l2,l3,l4⟩:=lens h;refine Tri.bd ?_;simp only[catS,CatV.cells];refine JM ?_;intros;refine GO.ent (oq c.items) ?_;(first|refine GO.ef (Ef.call (qE (L:=[]) _ [] bZ c.iad c.icap c.items l1 (fun x hx=>Ji x (h.it x hx).word)) rfl cN) ae ?_);rintro _ _⟨_,⟨rfl,rfl⟩,hL⟩;simp only[ao,al] at hL;subst hL;refine JM ?_;intros;(first|refine GO.ef (Ef.call (nz (L:=[]) _ [] bZ c.rad c.rcap c.rules l2 (fun r hr=>Jh r (pD h r hr).word)) rfl cN) ae ?_);rintro _ _⟨_,⟨rfl,rfl⟩,hL⟩;simp only[ao,al] at hL;subst hL;refine JM ?_;intros;(first|refine GO.ef (Ef.call (ny (L:=[]) _ [] bZ c.tad c.tcap c.tables ab (fun r hr=>Jg r (pC h r hr).word)) rfl cN) ae ?_);rintro _ _⟨_,⟨rfl,rfl⟩,hL⟩;simp only[ao,al] at hL;subst hL;refine JM ?_;intros;(first|refine GO.ef (Ef.call (nx (L:=[]) _ [] bZ c.xad c.xcap c.taxes ab (fun r hr=>Jf r (pB h r hr).word)) rfl cN) ae ?_);rintro _ _⟨_,⟨rfl,rfl⟩,hL⟩;simp only[ao,al] at hL;subst hL;refine JM ?_;intros;exact KX.en ⟨rfl,rfl⟩
def uA{L:LH}(c:CatV)(h:CatGood c.m):Tri ai 113 #[aO c.cells] (catS c (bZ::L)) (rtQ (.bool true) (catS c (bZ::L))):=by
 obtain⟨l1,l2,l3,l4⟩:=lens h;have d1:(c.items.map (·.name)).Nodup:=h.di;have d2:(c.rules.map (·.name)).Nodup:=by have:=h.dr;simpa [CatV.m,RuV.m,TbV.m,TxV.m,Function.comp_def] using this
 have d3:(c.tables.map (·.name)).Nodup:=by have:=h.dt;simpa [CatV.m,RuV.m,TbV.m,TxV.m,Function.comp_def] using this
 have d4:(c.taxes.map (·.name)).Nodup:=by have:=h.dx;simpa [CatV.m,RuV.m,TbV.m,TxV.m,Function.comp_def] using this
 refine Tri.bd ?_;simp only[catS,CatV.cells];refine JM ?_;intros;(first|refine GO.ef (Ef.call (EB (L:=[]) c.iad c.icap c.items l1 d1) rfl cN) ae ?_);rintro _ _⟨_,⟨rfl,rfl⟩,hL⟩;simp only[ao,al] at hL;subst hL;refine JM ?_;intros;(first|refine GO.ef (Ef.call (EA (L:=[]) c.rad c.rcap c.rules l2 d2) rfl cN) ae ?_);rintro _ _⟨_,⟨rfl,rfl⟩,hL⟩;simp only[ao,al] at hL;subst hL;refine JM ?_;intros;(first|refine GO.ef (Ef.call (Ez (L:=[]) c.tad c.tcap c.tables ab d3) rfl cN) ae ?_);rintro _ _⟨_,⟨rfl,rfl⟩,hL⟩;simp only[ao,al] at hL;subst hL;refine JM ?_;intros;(first|refine GO.ef (Ef.call (Ey (L:=[]) c.xad c.xcap c.taxes ab d4) rfl cN) ae ?_);rintro _ _⟨_,⟨rfl,rfl⟩,hL⟩;simp only[ao,al] at hL;subst hL;refine JM ?_;intros;exact KX.en ⟨rfl,rfl⟩
abbrev tCat:Nat:=33
def sT{L:LH}(b1:Nat)(c:CatV)(ad:OA)(cap:Nat)(l:List (Int×Int))(hl:l.length≤64)(hc:c.items.length≤64)(h:ly c.items.length l) :
  Tri ai 188 #[ah ad l.length cap,ay b1] (obj b1 tCat c.cells::isl cA 2 ad l::L) (rtQ (.bool true) (obj b1 tCat c.cells::isl cA 2 ad l::L)):=by
 obtain⟨h1,h2⟩:=h;refine Tri.bd ?_;simp only[CatV.cells];refine JM ?_;intros;refine G.loop (α:=Nat×Int) (fun x=>x.1≤l.length∧∀j,x.1≤j→j<l.length→x.2<l[j]!.1) (fun x=>[(1,ay b1),(4,ac x.2),(7,ah ad l.length cap),(8,ac l.length),(9,ac (x.1:Int))]) (fun _=>obj b1 tCat [ah c.iad c.items.length c.icap,ah c.rad c.rules.length c.rcap,ah c.tad c.tables.length c.tcap,ah c.xad c.taxes.length c.xcap]::isl cA 2 ad l::L) (fun x=>l.length - x.1) (0,-1) ⟨ax _,fun j _ hj=>by have:=h1 _ (aJ hj);dsimp only;omega⟩ av (Ent.refl _) ?_;rintro⟨i,a4⟩ ⟨hi,a0⟩;dsimp only at hi a0 ⊢;by_cases a1:i<l.length
 case neg =>
  refine JM ?_;intros;exact KX.en ⟨rfl,rfl⟩
 have a3:(i:Int).toNat=i:=ab;have ha:=h1 _ (aJ a1);have hb:=a0 i (aB _) a1;refine JM ?_;intros;rw[a3];refine JM ?_;intros;refine⟨(i+1,l[i]!.1),⟨by dsimp only;omega,?_⟩,by dsimp only;omega,?_,Ent.drop⟩
 ·intro j hj a2;dsimp only at hj ⊢;rw[getElem!_of a1,getElem!_of a2];exact List.pairwise_iff_getElem.1 h2 i j a1 a2 ab
 ·dsimp only;rw[aY i];exact av
def wk(x:ItG)(h:ItGood x):fS 189 [] dD noP (dA True) x:=by
 intro L;have hf:=h.form;refine Tri.bd (args:=[aO (dD x)]) ?_;cases hx:x.obj with
 | true =>
  rw[if_pos hx] at hf;obtain⟨f1,f2,f3,f4⟩:=hf;have e:dD x=[.string x.name,.bool true,.bool false,.bool false,ac x.wear,ac x.bind,ac x.level]:=by unfold dD;rw[hx,f1,f2]
  rw[e];refine JM ?_;intros;exact KX.d7 an Ent.drop ⟨by rw[aU f4];rfl,rfl⟩
 | false =>
  rw[if_neg (by rw[hx];decide)] at hf;obtain⟨f1,f2,f3⟩:=hf;have e:dD x=[.string x.name,.bool false,.bool x.mixed,.bool x.coin,ac 0,ac 0,ac 0]:=by unfold dD;rw[hx,f1,f2,f3]
  rw[e];refine JM ?_;intros;exact KX.d7 an Ent.drop ⟨by rw[aU rfl];rfl,rfl⟩
def wc{L:LH}(n:Nat)(r:RuV)(h:RuGood n r.m):Tri ai 191 #[aO (cX r)] L (rtQ (.bool true) L):=by
 obtain⟨a1,a0⟩:=h.form;change (r.back.l.length=0∨r.chance≠r.of_) at a1
 have hg:∀{q:Prop},(r.back.l.length=0→q)→(¬r.back.l.length=0→r.chance≠r.of_→q)→q:=by
  intro q a b;by_cases h0:r.back.l.length=0
  ·exact a h0
  ·exact b h0 (a1.resolve_left h0)
 change (if r.spawn=true then r.take.l.length=0∧r.back.l.length=0∧r.level=0∧r.time=0∧r.chance=r.of_ else 0<r.take.l.length∨r.time≠0) at a0;refine Tri.bd ?_;cases hx:r.spawn with
 | true =>
  rw[if_pos hx] at a0;obtain⟨f1,f2,f3,f4,f5⟩:=a0;have e:cX r=[.string r.name,.bool true,ac r.level,ac r.time,ac r.chance,ac r.of_,ah r.take.ad r.take.l.length r.take.cap,ah r.give.ad r.give.l.length r.give.cap,ah r.back.ad r.back.l.length r.back.cap]:=by unfold cX;rw[hx]
  rw[e];refine JM ?_;intros;exact KX.d7 an Ent.drop ⟨by rw[aU f5];rfl,rfl⟩
 | false =>
  rw[if_neg (by rw[hx];decide)] at a0;have e:cX r=[.string r.name,.bool false,ac r.level,ac r.time,ac r.chance,ac r.of_,ah r.take.ad r.take.l.length r.take.cap,ah r.give.ad r.give.l.length r.give.cap,ah r.back.ad r.back.l.length r.back.cap]:=by unfold cX;rw[hx]
  rw[e];refine hg ?_ ?_
  ·intro h0;by_cases h5:0<r.take.l.length
   ·refine JM ?_;intros;exact KX.d7 an Ent.drop ⟨rfl,rfl⟩
   ·have h6:r.time≠0:=a0.resolve_left h5;refine JM ?_;intros;exact KX.d7 an Ent.drop ⟨by rw[aU h6];rfl,rfl⟩
  ·intro h0 a2;by_cases h5:0<r.take.l.length
   ·refine JM ?_;intros;exact KX.d7 an Ent.drop ⟨rfl,rfl⟩
   ·have h6:r.time≠0:=a0.resolve_left h5;refine JM ?_;intros;exact KX.d7 an Ent.drop ⟨by rw[aU h6];rfl,rfl⟩
def amU(l:List (Int×Int))(m:List (Int×Int)):Prop:=∀i,(glk m i).getD 0=je l i
def uh(l:List (Int×Int))(a:Int×Int)(i:Int):je (l++[a]) i=if a.1=i then je l i+a.2 else je l i:=by
 unfold je;rw[cv];rfl
def zb{n:Nat}{l:List (Int×Int)}(h:∀a∈l,0≤a.1∧a.1<n∧1≤a.2∧a.2≤1099511627776)(i:Int):∀k,k≤l.length→0≤je (l.take k) i∧je (l.take k) i≤k*1099511627776:=by
 intro k;induction k with
 | zero=>intro _;simp[je]
 | succ k ih =>
  intro hk;have h1:=ih ab;have h2:=h _ (ew (ab:k<l.length));rw[aG ab,uh];split<;>omega
def Gc(m:List (Int×Int))(k q a:Int):glk (gins m k a) q=if q=k then some a else glk m q:=ip
def sY(m:List (Int×Int))(k d:Int):((@List.lookup _ _ instBEqOfDecidableEq k m).map encN).getD (ac d)=ac ((glk m k).getD d):=by
 unfold glk;cases @List.lookup _ _ instBEqOfDecidableEq k m<;>rfl
def Ck:amU [] []:=fun _=>rfl
def Cl{l:List (Int×Int)}{m:List (Int×Int)}(h:amU l m)(a:Int×Int):amU (l++[a]) (gins m a.1 (je l a.1+a.2)):=by
 intro i;rw[uh,Gc];by_cases hi:a.1=i
 ·subst hi;rw[if_pos rfl,if_pos rfl];rfl
 ·rw[if_neg (fun e=>hi e.symm),if_neg hi];exact h i
def BD{L:LH}(n:Nat)(a0 ad2:OA)(c1 c2:Nat)(tk bk:List (Int×Int))(h1:tk.length≤64)(h2:bk.length≤64)(ht:ly n tk)(hb:ly n bk)(hc:∀a∈bk,je bk a.1≤je tk a.1) :
  Tri ai 192 #[ah a0 tk.length c1,ah ad2 bk.length c2] (isl cA 2 a0 tk::isl cA 2 ad2 bk::L) (rtQ (.bool true) (isl cA 2 a0 tk::isl cA 2 ad2 bk::L)):=by
 refine Tri.bd ?_;refine JM ?_;intros;refine GO.ef (Ef.e7 kvI encN (.inl rfl)) ae ?_;rintro _ _⟨b1,rfl,rfl⟩;refine JM ?_;intros;refine GO.ef (Ef.e7 kvI encN (.inl rfl)) ae ?_;rintro _ _⟨b2,rfl,rfl⟩;repeat first|refine G.sm 2 ?_|refine bV ?_|intro
 refine G.d8 (α:=List (Int×Int)) (fun m=>amU tk m) (fun _=>[(1,ah ad2 bk.length c2),(5,.map (some b1)),(6,.map (some b2))]) (fun m=>gmap kvI encN b2 []::gmap kvI encN b1 m::isl cA 2 a0 tk::isl cA 2 ad2 bk::L) ?_ ?_
 ·refine JM ?_;intros;refine G.loop (α:=Nat×List (Int×Int)) (fun x=>x.1≤tk.length∧amU (tk.take x.1) x.2) (fun x=>[(1,ah ad2 bk.length c2),(5,.map (some b1)),(6,.map (some b2)),(15,ah a0 tk.length c1),(16,ac tk.length),(17,ac (x.1:Int))]) (fun x=>gmap kvI encN b2 []::gmap kvI encN b1 x.2::isl cA 2 a0 tk::isl cA 2 ad2 bk::L) (fun x=>tk.length - x.1) (0,[]) ⟨ax _,Ck⟩ av (Ent.refl _) ?_;rintro⟨i,m⟩ ⟨hi,hm⟩;dsimp only at hi hm ⊢;by_cases a1:i<tk.length
  case neg =>
   rw[aD ab] at hm;refine JM ?_;intros;exact⟨m,hm,av,Ent.refl _⟩
  have a2:(i:Int).toNat=i:=ab;have ha:=ht.1 _ (aJ a1);have a4:=zb ht.1 tk[i]!.1 i ab;have a3:=hm tk[i]!.1;refine JM ?_;intros;rw[a2];refine GO.ev (Ev.e8 rfl rfl) ae ?_;rw[sY,a3];refine JM ?_;intros;refine GO.efu (Ef.e8 (enc:=encN) (e:=je (tk.take i) tk[i]!.1+tk[i]!.2) rfl rfl rfl rfl) ?_;rintro _ _ rfl;refine JM ?_;intros;refine⟨(i+1,gins m tk[i]!.1 (je (tk.take i) tk[i]!.1+tk[i]!.2)),⟨by dsimp only;omega,?_⟩,by dsimp only;omega,?_,by exact ag⟩
  ·dsimp only;rw[aG a1,←getElem!_of a1];exact Cl hm _
  ·dsimp only;rw[aY i];exact av
 intro m1 a5;refine G.d8 (α:=List (Int×Int)) (fun m=>amU bk m) (fun _=>[(1,ah ad2 bk.length c2),(5,.map (some b1)),(6,.map (some b2))]) (fun m=>gmap kvI encN b2 m::gmap kvI encN b1 m1::isl cA 2 a0 tk::isl cA 2 ad2 bk::L) ?_ ?_
 ·refine JM ?_;intros;refine G.loop (α:=Nat×List (Int×Int)) (fun x=>x.1≤bk.length∧amU (bk.take x.1) x.2) (fun x=>[(1,ah ad2 bk.length c2),(5,.map (some b1)),(6,.map (some b2)),(29,ah ad2 bk.length c2),(30,ac bk.length),(31,ac (x.1:Int))]) (fun x=>gmap kvI encN b2 x.2::gmap kvI encN b1 m1::isl cA 2 a0 tk::isl cA 2 ad2 bk::L) (fun x=>bk.length - x.1) (0,[]) ⟨ax _,Ck⟩ av (Ent.refl _) ?_;rintro⟨i,m⟩ ⟨hi,hm⟩;dsimp only at hi hm ⊢;by_cases a1:i<bk.length
  case neg =>
   rw[aD ab] at hm;refine JM ?_;intros;exact⟨m,hm,av,Ent.refl _⟩
  have a2:(i:Int).toNat=i:=ab;have ha:=hb.1 _ (aJ a1);have a4:=zb hb.1 bk[i]!.1 i ab;have a3:=hm bk[i]!.1;refine JM ?_;intros;rw[a2];refine GO.ev (Ev.e8 rfl rfl) ae ?_;rw[sY,a3];refine JM ?_;intros;refine GO.efu (Ef.e8 (enc:=encN) (e:=je (bk.take i) bk[i]!.1+bk[i]!.2) rfl rfl rfl rfl) ?_;rintro _ _ rfl;refine JM ?_;intros;refine⟨(i+1,gins m bk[i]!.1 (je (bk.take i) bk[i]!.1+bk[i]!.2)),⟨by dsimp only;omega,?_⟩,by dsimp only;omega,?_,by exact ag⟩
  ·dsimp only;rw[aG a1,←getElem!_of a1];exact Cl hm _
  ·dsimp only;rw[aY i];exact av
 intro m2 a6;refine JM ?_;intros;refine G.loop (α:=Nat) (fun i=>i≤bk.length) (fun i=>[(5,.map (some b1)),(6,.map (some b2)),(43,ah ad2 bk.length c2),(44,ac bk.length),(45,ac (i:Int))]) (fun _=>gmap kvI encN b2 m2::gmap kvI encN b1 m1::isl cA 2 a0 tk::isl cA 2 ad2 bk::L) (fun i=>bk.length - i) 0 (ax _) av (Ent.refl _) ?_;intro i hi;by_cases a1:i<bk.length
 case neg =>
  refine JM ?_;intros;exact KX.en ⟨rfl,rfl⟩
 have a2:(i:Int).toNat=i:=ab;have e1:=a5 bk[i]!.1;have e2:=a6 bk[i]!.1;have a7:=hc _ (aJ a1);refine JM ?_;intros;rw[a2];refine GO.ev (Ev.e8 rfl rfl) ae ?_;rw[sY,e1];refine JM ?_;intros;refine GO.ev (Ev.e8 rfl rfl) ae ?_;rw[sY,e2];refine JM ?_;intros;refine⟨i+1,ab,ab,?_,by exact ag⟩;rw[aY i];exact av
