/- Lemmas. -/
import Derived.Test.YtommnllbflbdmaaGreatDoorIan
set_option linter.all false
set_option maxHeartbeats 2000000
namespace Go.Proofs.YtommnllbflbdmaaGreatDoor
section
open Go.V
attribute [local irreducible] G GO GP GPW GPK Ev Ef EfR Ent CB GB Enters
def Hf(m:List (Int×Int))(k d:Int):((@List.lookup _ _ instBEqOfDecidableEq k m).map encN).getD (ac d)=ac ((glk m k).getD d):=by
 unfold glk;cases @List.lookup _ _ instBEqOfDecidableEq k m<;>rfl
abbrev flV(f:FlM)(pad:OA)(pcap:Nat)(mad:OA)(mcap:Nat):FlV:=⟨f,pad,pcap,mad,mcap⟩
abbrev yr:List Stp:=[.ev 0,.ev 1,.ev 2,.ev 3,.ev 4,.ev 5,.ev 6,.ev 7,.ev 8,.ev 9,.ev 10,.ev 11]
abbrev yq:List Stp:=[.ev 0,.ev 1,.ev 2,.ev 3,.ev 4,.ev 5,.ev 6,.ev 7,.ev 8,.ev 9,.ev 10]
abbrev wk:List Stp:=[.ev 0,.ev 1,.ev 2,.ev 3,.ev 4,.ev 5,.ev 6,.ef 7]
abbrev wj:List Stp:=[.ev 0,.ev 1,.ev 2,.ev 3,.ev 4,.ev 5,.ev 6,.ev 7,.ev 8,.ev 9,.ev 10,.ev 11,.ev 12,.ev 13,.ev 14,.ev 15,.ev 16,.ev 17,.ev 18,.ev 19,.ev 20,.ev 21,.ev 22,.ev 23,.ev 24,.ev 25,.ev 26,.ev 27,.ev 28,.ev 29,.ev 30,.ev 31,.ev 32,.ev 33,.ev 34,.ev 35,.ev 36,.ev 37,.ev 38,.ev 39,.ev 40,.ev 41,.ev 42,.ev 43,.ev 44,.ev 45,.ev 46,.ev 47,.ev 48,.ev 49,.ev 50,.ev 51,.ev 52,.ef 53,.ef 54]
abbrev wi:List Stp:=[.ev 0,.ev 1,.ev 2,.ev 3,.ev 4,.ev 5,.ef 6,.ef 7,.ev 8,.ev 9,.ef 10]
abbrev wh:List Stp:=[.ev 0,.ev 1,.ev 2,.ev 3,.ev 4,.ev 5,.ev 6,.ef 7,.ef 8,.ev 9,.ev 10,.ef 11]
abbrev wg:List Stp:=[.ev 0,.ev 1,.ev 2,.ev 3,.ev 4,.ev 5,.ev 6,.ev 7,.ev 8,.ev 9,.ev 10,.ev 11,.ev 12,.ev 13,.ev 14,.ef 15,.ef 16]
def bT{φ ψ:Prop}(k:ψ)(h:Hid ψ→φ:=by intro k;(with_reducible apply G.d8);first|refine G.d7 (N:=186) (id:=4) yr mixed aw (Hid.out k)|refine G.d7 (N:=186) (id:=6) yq mixed aw (Hid.out k)|refine G.d7 (N:=186) (id:=13) wk mixed aw (Hid.out k)|refine G.d7 (N:=186) (id:=14) wj mixed aw (Hid.out k)|refine G.d7 (N:=186) (id:=17) wi mixed aw (Hid.out k)|refine G.d7 (N:=186) (id:=19) wh mixed aw (Hid.out k)|refine G.d7 (N:=186) (id:=24) wg mixed aw (Hid.out k)):φ:=h ⟨k⟩
def Js{φ ψ:Prop}(k:ψ)(h:Hid ψ→φ:=by intro k;(repeat (first|refine aa ?_|intro zzz|((with_reducible apply G.d8);first|refine G.d7 (N:=186) (id:=4) yr mixed aw ?_|refine G.d7 (N:=186) (id:=6) yq mixed aw ?_|refine G.d7 (N:=186) (id:=13) wk mixed aw ?_|refine G.d7 (N:=186) (id:=14) wj mixed aw ?_|refine G.d7 (N:=186) (id:=17) wi mixed aw ?_|refine G.d7 (N:=186) (id:=19) wh mixed aw ?_|refine G.d7 (N:=186) (id:=24) wg mixed aw ?_)));(repeat revert zzz);exact Hid.out k):φ:=h ⟨k⟩
def Ds{L:LH}(b bc:Nat)(sh:Int)(x:LedX)(s:StV)(z:ChX)(m:MvV)(W:Wk)(hW:WkF x z W)(hO:W.Ok x.flows.length)(h:MvFit x m.m)(hk:kR s.kind)(hT:∀mx,TakeC mx)(e1:x.cat.items.length≤64)(e3:0≤sh∧sh<12)(f3:x.flows.length≤4194304)(f1:W.flows.length<64) :
  Tri ag 124 #[av bc,.agg (aQ m).toArray] (chL b bc s z (ledL b sh x L)) (fun v L'=>∃z',v=ac (gN sh x.flows.length (dM x) s.m W m.m).1 ∧
   ((gN sh x.flows.length (dM x) s.m W m.m).1=0→WkF x z' (gN sh x.flows.length (dM x) s.m W m.m).2)∧L' = chL b bc s z' (ledL b sh x L)):=by
 obtain⟨f6,f5⟩:=e3;obtain⟨e4,e5⟩:=h.n;have e6:=h.ne;obtain⟨f0,f2⟩:=hO.tot m.m.item;have d3:z.flows.length=W.flows.length:=by rw[←hW.flows];simp
 have f4:z.sunk.length≤64:=by rw[hW.sunk];have:=hO.sunk;omega
 refine Tri.bd ?_;refine Js ?_;intros;rename_i b3;refine GO.ent (L':=chL b bc s z (ledL b sh x (obj b3 tMv (aQ m)::L))) (by simp only[chL,ledL];exact ae) ?_;refine GO.ca (zO b bc sh x s z m W hW hO h hk hT e1) ?_;rintro _ _ (⟨h1,rfl,rfl⟩|⟨h1,pad,pcap,a0,rfl,a5,rfl⟩)
 ·have e:gN sh x.flows.length (dM x) s.m W m.m=(10,W):=by unfold gN;rw[if_pos h1]
  rw[e];refine Js ?_;intros;exact KX.d7 an (by simp only[chL,ledL];exact ae) ⟨z,rfl,(fun h=>absurd (show(_:Int)=0 from h) (by dsimp only;omega)),rfl⟩
 have c9:cO sh x.flows.length W=sh*4294967296+(x.flows.length:Int)+(z.flows.length:Int):=by unfold cO;rw[d3]
 have d1:gN sh x.flows.length (dM x) s.m W m.m=if df W m.m>1099511627776 then(4,W)
   else if m.m.to=0 then(0,⟨gh (dM x) W m.m,upd W.tot m.m.item (df W m.m),W.flows++[kB sh x.flows.length (dM x) s.m W m.m],W.sunk++[cO sh x.flows.length W]⟩)
   else if 4096≤(gh (dM x) W m.m m.m.to m.m.item).length then(4,W)
   else(0,⟨upd2 (gh (dM x) W m.m) m.m.to m.m.item (ba (gh (dM x) W m.m m.m.to m.m.item) (cO sh x.flows.length W,0,m.m.n)),upd W.tot m.m.item (df W m.m),W.flows++[kB sh x.flows.length (dM x) s.m W m.m],W.sunk⟩):=by unfold gN;rw[if_neg h1]
 have a8:kB sh x.flows.length (dM x) s.m W m.m=⟨cO sh x.flows.length W,s.id,s.kind,s.tick,s.actor,m.m.frm,m.m.to,m.m.item,m.m.n,jc (dM x) W m.m,dq s.m W m.m⟩:=rfl;rw[d1];generalize kB sh x.flows.length (dM x) s.m W m.m=fl at *;generalize jc (dM x) W m.m=pts at *;have c4:df W m.m=W.tot m.m.item+(if m.m.frm=0 then m.m.n else 0) - (if m.m.to=0 then m.m.n else 0):=rfl;have c8:=hW.tot m.m.item;simp only[chL,ledL,fE];refine Js ?_;intros;refine GPW.evL (Ev.z7 rfl rfl) ah ?_;repeat first|((fail_if_success (with_reducible refine G.e7 5 ?_));(with_reducible apply G.seq))|refine bA ?_|intro _|refine bT ?_
 refine G.d9 (α:=Unit) (fun _=>True) (fun _=>[(0,av bc),(3,av b3),(4,ac 0),(5,.slice pad pts.length pcap),(7,ac (W.tot m.m.item))]) (fun _=>isl ao 3 pad pts::chL b bc s { z with stk:=a0 } (ledL b sh x (obj b3 tMv (aQ m)::L))) ?_ ?_
 ·cases hl:@List.lookup _ _ instBEqOfDecidableEq m.m.item z.tot with
  | some t =>
   simp only[gu,Option.getD_some,Option.isSome_some];have e:W.tot m.m.item=t:=by rw[←c8];unfold glk;rw[hl];rfl
   rw[e];refine Js ?_;intros;exact⟨(),trivial,ai,Ent.refl _⟩
  | none =>
   simp only[fN,fF,Option.isSome_none];have e:W.tot m.m.item=(glk x.tot m.m.item).getD 0:=by rw[←c8];unfold glk;rw[hl];rfl
   rw[e];refine Js ?_;intros;refine GPW.evL (Ev.d7 rfl rfl) ah ?_;rw[Hf];refine Js ?_;intros;exact⟨(),trivial,ai,Ent.refl _⟩
 rintro _ _;simp only[chL,ledL,fE];refine G.d9 (α:=Unit) (fun _=>True) (fun _=>[(0,av bc),(3,av b3),(4,ac 0),(5,.slice pad pts.length pcap),(7,ac (W.tot m.m.item+(if m.m.frm=0 then m.m.n else 0)))]) (fun _=>isl ao 3 pad pts::chL b bc s { z with stk:=a0 } (ledL b sh x (obj b3 tMv (aQ m)::L))) ?_ ?_
 ·by_cases h0:m.m.frm=0
  ·rw[if_pos h0];refine Js ?_;intros;exact⟨(),trivial,ai,Ent.refl _⟩
  ·rw[if_neg h0,Int.add_zero];refine Js ?_;intros;exact⟨(),trivial,ai,Ent.refl _⟩
 rintro _ _;simp only[chL,ledL,fE];have b4 : -9223372036854775808+1099511627776≤W.tot m.m.item+(if m.m.frm=0 then m.m.n else 0)∧W.tot m.m.item+(if m.m.frm=0 then m.m.n else 0)≤2199023255552:=by split<;>omega
 obtain⟨b4,d0⟩:=b4;refine G.d9 (α:=Unit) (fun _=>True) (fun _=>[(0,av bc),(3,av b3),(4,ac 0),(5,.slice pad pts.length pcap),(7,ac (df W m.m))]) (fun _=>isl ao 3 pad pts::chL b bc s { z with stk:=a0 } (ledL b sh x (obj b3 tMv (aQ m)::L))) ?_ ?_
 ·rw[c4];generalize W.tot m.m.item+(if m.m.frm=0 then m.m.n else 0)=t1 at *;by_cases h0:m.m.to=0
  ·rw[if_pos h0];refine Js ?_;intros;exact⟨(),trivial,ai,Ent.refl _⟩
  ·rw[if_neg h0,fu];refine Js ?_;intros;exact⟨(),trivial,ai,Ent.refl _⟩
 rintro _ _;simp only[chL,ledL,fE];by_cases a9:df W m.m>1099511627776
 ·rw[if_pos a9];refine Js ?_;intros;exact KX.d7 an ae ⟨{ z with stk:=a0 },rfl,(fun h=>absurd (show(_:Int)=0 from h) (by dsimp only;omega)),rfl⟩
 rw[if_neg a9];clear c4 b4 d0;refine Js ?_;intros;refine GPW.efu (Ef.e8 (enc:=encN) (e:=df W m.m) rfl rfl rfl rfl) ?_;rintro _ _ rfl;repeat first|((fail_if_success (with_reducible refine G.e7 15 ?_));(with_reducible apply G.seq))|refine bA ?_|intro _|refine bT ?_
 rename_i b9
 have a4:∀(mad:OA) (mcap:Nat),aM (flV fl pad pcap mad mcap)=[ac (sh*4294967296+(x.flows.length:Int)+(z.flows.length:Int)),ac s.id,ac s.kind,ac s.tick,ac s.actor,ac m.m.frm,ac m.m.to,ac m.m.item,ac m.m.n,.slice pad pts.length pcap,.slice mad (dq s.m W m.m).length mcap]:=by
  intro mad mcap;rw[a8,c9];rfl
 refine G.d9 (α:=OA×Nat) (fun _=>True) (fun _=>[(0,av bc),(3,av b3),(4,ac 0),(9,av b9)]) (fun g=>obj b9 bY (aM (flV fl pad pcap g.1 g.2))::isl (encZ .i64) 1 g.1 (dq s.m W m.m)::isl ao 3 pad pts::chL b bc s { z with stk:=a0,tot:=gins z.tot m.m.item (df W m.m) } (ledL b sh x (obj b3 tMv (aQ m)::L))) ?_ ?_
 ·by_cases b1:m.m.frm=0∧s.kind=4
  ·obtain⟨b8,b7⟩:=b1;have e:dq s.m W m.m=z.sunk:=by unfold dq;rw[if_pos ⟨b8,.inl b7⟩,hW.sunk]
   refine Js ?_;intros;refine GO.ca (ki z.kad z.sunk.length z.kcap z.sunk rfl ab) ?_;rintro _ _⟨mad,mcap,rfl,rfl⟩;refine Js ?_;intros;refine⟨(mad,mcap),trivial,ai,?_⟩;rw[a4,e];refine(Ent.frz mad).trans ?_;exact ae
  ·have b6:¬s.kind=10:=by unfold kR at hk;omega
   have e:dq s.m W m.m=[]:=by
    unfold dq
    exact if_neg (fun h=>by
     obtain⟨h3,h4⟩:=h;rcases h4 with h4|h4
     ·exact b1 ⟨h3,h4⟩
     ·exact b6 h4)
   by_cases h0:m.m.frm=0
   ·have f8:¬s.kind=4:=fun h=>b1 ⟨h0,h⟩;refine Js ?_;intros;refine⟨(none,0),trivial,ai,?_⟩;rw[a4,e];refine Ent.trans ?_ (Ent.d7 (Ent.f7 (encZ .i64) 1 none));exact ae
   ·refine Js ?_;intros;refine⟨(none,0),trivial,ai,?_⟩;rw[a4,e];refine Ent.trans ?_ (Ent.d7 (Ent.f7 (encZ .i64) 1 none));exact ae
 rintro⟨mad,mcap⟩ _;simp only[chL,ledL,fE];refine Js ?_;intros;refine GPW.ef (Ef.d7 (enc:=aM) (e:=flV fl pad pcap mad mcap) rfl rfl rfl rfl rfl (by rfl) (jf _) ab ab) ah ?_;rintro _ _⟨a2,a1,rfl,rfl⟩;repeat first|((fail_if_success (with_reducible refine G.e7 18 ?_));(with_reducible apply G.seq))|refine bA ?_|intro _|refine bT ?_
 have a3:fl.id=cO sh x.flows.length W:=by rw[a8]
 have a6:fl.n=m.m.n:=by rw[a8]
 have b5:fl.made=dq s.m W m.m:=by rw[a8]
 have b0:fl.parts=pts:=by rw[a8]
 refine G.ent (L':=obj b9 bY (aM (flV fl pad pcap mad mcap))::chL b bc s { z with stk:=a0,tot:=gins z.tot m.m.item (df W m.m),flows:=z.flows++[flV fl pad pcap mad mcap],fad:=a2,fcap:=a1 } (ledL b sh x (obj b3 tMv (aQ m)::L))) ?_ ?_
 ·simp only[chL,ledL,fE];refine(Ent.at (A:=isl (encZ .i64) 1 mad (dq s.m W m.m)) (Ent.refl _)).trans ?_;refine(Ent.at (A:=isl ao 3 pad pts) (Ent.refl _)).trans ?_;rw[←b0,←b5];refine(Ent.e8 (bQ _ _ _ _) (bQ _ _ _ _)).trans ?_;refine(Ent.at (A:=allP flP z.flows) (Ent.refl _)).trans ?_;refine((Ent.d7 (Ent.g9 (f:=flP) (x:=flV fl pad pcap mad mcap) lw)).trans (Ent.j0 lw)).trans ?_;exact ae
 have c5:∀i,(glk (gins z.tot m.m.item (df W m.m)) i).getD ((glk x.tot i).getD 0)=upd W.tot m.m.item (df W m.m) i:=by
  intro i;unfold glk upd;have hq:=ix (m:=z.tot) (k:=m.m.item) (q:=i) (a:=df W m.m);refine(congrArg (fun o:Option Int=>o.getD ((glk x.tot i).getD 0)) hq).trans ?_;by_cases hi:i=m.m.item
  ·rw[if_pos hi,if_pos hi];rfl
  ·rw[if_neg hi,if_neg hi];exact hW.tot i
 have c7:(z.flows++[flV fl pad pcap mad mcap]).map FlV.m=W.flows++[fl]:=by rw[aZ,hW.flows];rfl
 simp only[chL,ledL,fE];by_cases h0:m.m.to=0
 ·rw[if_pos h0];refine Js ?_;intros;refine GPW.ef (Ef.d7 (enc:=encZ .i64) (e:=(flV fl pad pcap mad mcap).m.id) rfl rfl rfl rfl rfl (by rfl) (by simp[encZ,Value.oneCell']) ab ab) ah ?_;rintro _ _⟨c0,a7,rfl,rfl⟩;refine Js ?_;intros;refine KX.d7 an ?_ ⟨{ z with stk:=a0,tot:=gins z.tot m.m.item (df W m.m),flows:=z.flows++[flV fl pad pcap mad mcap],fad:=a2,fcap:=a1,sunk:=z.sunk++[fl.id],kad:=c0,kcap:=a7 },rfl,fun _=>⟨a5,c5,c7,?_⟩,rfl⟩
  ·simp only[chL,ledL,fE];exact ae
  ·show z.sunk++[fl.id]=W.sunk++[cO sh x.flows.length W];rw[hW.sunk,a3]
 rw[if_neg h0];refine Js ?_;intros;have d4:∀q,curS x { z with stk:=a0,tot:=gins z.tot m.m.item (df W m.m),flows:=z.flows++[flV fl pad pcap mad mcap],fad:=a2,fcap:=a1 } q=curS x { z with stk:=a0 } q:=fun _=>rfl;refine GO.ent (L':=stkP (curS x { z with stk:=a0 } (m.m.to,m.m.item))::obj b9 bY (aM (flV fl pad pcap mad mcap))::chL b bc s { z with stk:=a0,tot:=gins z.tot m.m.item (df W m.m),flows:=z.flows++[flV fl pad pcap mad mcap],fad:=a2,fcap:=a1 } (ledL b sh x (obj b3 tMv (aQ m)::L))) ?_ ?_
 ·simp only[chL,ledL,fE];refine(Ent.at (A:=allP (fun p:(Int×Int)×Stk=>stkP p.2) a0) (Ent.refl _)).trans ?_;refine(Ent.d7 (Ent.at (A:=allP (fun p:(Int×Int)×Stk=>stkP p.2) x.stk) (Ent.refl _))).trans ?_;refine(xo (x:=x) (z:={ z with stk:=a0 }) (m.m.to,m.m.item)).trans ?_;exact ae
 simp only[chL,ledL];refine GO.cr (pS (b:=b) (sh:=sh) (x:=x) (s:=s) (z:={ z with stk:=a0,tot:=gins z.tot m.m.item (df W m.m),flows:=z.flows++[flV fl pad pcap mad mcap],fad:=a2,fcap:=a1 }) m.m.to m.m.item) ?_;rw[d4];have d2:=a5 m.m.to m.m.item
 have e0:∀a i,((gh (dM x) W m.m a i).length≤4096∧∀l∈gh (dM x) W m.m a i,LotOk l):=by
  intro a i;unfold gh;split
  ·exact hO.stk a i
  ·rename_i d5;unfold upd2;split
   ·have b2:m.m.n≤lsum (W.stk m.m.frm m.m.item):=by
     rcases Int.lt_or_le (lsum (W.stk m.m.frm m.m.item)) m.m.n with d6|e2
     ·exact absurd ⟨d5,d6⟩ h1
     ·exact e2
    obtain⟨o1,o2⟩:=hO.stk m.m.frm m.m.item;exact⟨cg (jR _ _ _).2 o1,(sQ o2 ((hT _).bd _ _ o2 ab b2)).2⟩
   ·exact hO.stk a i
 obtain⟨c3,c6⟩:=e0 m.m.to m.m.item;rw[←d2] at c3 c6 ⊢;generalize hsk:curS x { z with stk:=a0 } (m.m.to,m.m.item)=sk at *;simp only[Stk.v,fE];by_cases c2:4096≤sk.lots.length
 ·rw[if_pos c2];refine Js ?_;intros;refine KX.d7 an ?_ ⟨{ z with stk:=a0,tot:=gins z.tot m.m.item (df W m.m),flows:=z.flows++[flV fl pad pcap mad mcap],fad:=a2,fcap:=a1 },rfl,(fun h=>absurd (show(_:Int)=0 from h) (by dsimp only;omega)),rfl⟩;exact ae
 rw[if_neg c2];refine Js ?_;intros;refine GPW.ent (Ent.at (A:=stkP sk) (Ent.refl _)) ?_
 have c1:LotOk ((flV fl pad pcap mad mcap).m.id,0,(flV fl pad pcap mad mcap).m.n):=by
  show LotOk (fl.id,0,fl.n);rw[a3,a6,c9];unfold LotOk;dsimp only;omega
 refine GPW.ca (Dz sk.ad sk.cap sk.lots ((flV fl pad pcap mad mcap).m.id,0,(flV fl pad pcap mad mcap).m.n) c3 c6 c1) ?_;rintro _ _⟨ad2,cap2,rfl,rfl⟩;refine Js ?_;intros;refine GPW.efu (Ef.e8 (enc:=Stk.v) (e:=(⟨ad2,cap2,ba sk.lots (fl.id,0,fl.n)⟩:Stk)) rfl rfl rfl rfl) ?_;rintro _ _ rfl;refine Js ?_;intros;refine KX.d7 an ?_ ⟨{ z with stk:=gins a0 (m.m.to,m.m.item) ⟨ad2,cap2,ba sk.lots (fl.id,0,fl.n)⟩,tot:=gins z.tot m.m.item (df W m.m),flows:=z.flows++[flV fl pad pcap mad mcap],fad:=a2,fcap:=a1 },rfl,fun _=>⟨?_,c5,c7,hW.sunk⟩,rfl⟩
 ·simp only[chL,ledL,fE];refine(Ent.frz ad2).trans ?_;refine(Ent.at (A:=allP (fun p:(Int×Int)×Stk=>stkP p.2) a0) (Ent.refl _)).trans ?_;refine(Ent.at (A:=stkP ⟨ad2,cap2,ba sk.lots (fl.id,0,fl.n)⟩) (iO (k:=(m.m.to,m.m.item)))).trans ?_;exact ae
 ·intro a i;show(curS x { ({ z with stk:=a0 }:ChX) with stk:=gins ({ z with stk:=a0 }:ChX).stk (m.m.to,m.m.item) ⟨ad2,cap2,ba sk.lots (fl.id,0,fl.n)⟩ } (a,i)).lots=_;rw[xn];dsimp only;unfold upd2;by_cases hq:a=m.m.to∧i=m.m.item
  ·obtain⟨rfl,rfl⟩:=hq;rw[if_pos rfl,if_pos ⟨rfl,rfl⟩];dsimp only;rw[a3,a6]
  ·rw[if_neg (fun h=>hq (by simpa using h)),if_neg hq];exact a5 a i
def iC(sh:Int)(nf:Nat)(mix:Int→Bool)(s:StM):Wk→List MvM→Int×Wk
 | W,[]=>(0,W)
 | W,m::ms=>if(gN sh nf mix s W m).1=0 then iC sh nf mix s (gN sh nf mix s W m).2 ms else((gN sh nf mix s W m).1,W)
def AG{mix:Int→Bool}{W:Wk}{m:MvM}{nf:Nat}(hO:W.Ok nf)(hT:∀mx,TakeC mx)(hn:1≤m.n)(h1:¬(m.frm≠0∧lsum (W.stk m.frm m.item)<m.n)) :
  ∀a i,((gh mix W m a i).length≤4096∧∀l∈gh mix W m a i,LotOk l):=by
 intro a i;unfold gh;split
 ·exact hO.stk a i
 ·rename_i a2;unfold upd2;split
  ·have a0:m.n≤lsum (W.stk m.frm m.item):=by
    rcases Int.lt_or_le (lsum (W.stk m.frm m.item)) m.n with a3|a1
    ·exact absurd ⟨a2,a3⟩ h1
    ·exact a1
   obtain⟨o1,o2⟩:=hO.stk m.frm m.item;exact⟨cg (jR _ _ _).2 o1,(sQ o2 ((hT _).bd _ _ o2 ab a0)).2⟩
  ·exact hO.stk a i
def wD{sh:Int}{nf:Nat}{mix:Int→Bool}{s:StM}{W:Wk}{m:MvM}(hO:W.Ok nf)(hT:∀mx,TakeC mx)(hn:1≤m.n∧m.n≤1099511627776)(a3:0≤sh)(he:(gN sh nf mix s W m).1=0) :
  (gN sh nf mix s W m).2.Ok nf∧(gN sh nf mix s W m).2.flows.length=W.flows.length+1:=by
 obtain⟨a2,a4⟩:=hn;unfold gN at he ⊢;by_cases h1:m.frm≠0∧lsum (W.stk m.frm m.item)<m.n
 ·rw[if_pos h1] at he;exact absurd (show(10:Int)=0 from he) ab
 rw[if_neg h1] at he ⊢;by_cases h2:df W m>1099511627776
 ·rw[if_pos h2] at he;exact absurd (show(4:Int)=0 from he) ab
 rw[if_neg h2] at he ⊢;have a1:=AG (mix:=mix) hO hT a2 h1
 have a0:∀i,-(((nf:Int)+(W.flows.length+1:Nat))*1099511627776)≤upd W.tot m.item (df W m) i∧upd W.tot m.item (df W m) i≤1099511627776:=by
  intro i;unfold upd;split
  ·obtain⟨o1,o2⟩:=hO.tot m.item;refine⟨?_,ab⟩;unfold df;split<;>split<;>omega
  ·obtain⟨o1,o2⟩:=hO.tot i;omega
 by_cases h3:m.to=0
 ·rw[if_pos h3] at he ⊢;refine⟨⟨a1,?_,?_⟩,by simp⟩
  ·intro i;rw[show(W.flows++[kB sh nf mix s W m]).length=W.flows.length+1 by simp];exact a0 i
  ·have:=hO.sunk
   simp only[aD,bu,cx];omega
 rw[if_neg h3] at he ⊢;by_cases h4:4096≤(gh mix W m m.to m.item).length
 ·rw[if_pos h4] at he;exact absurd (show(4:Int)=0 from he) ab
 rw[if_neg h4] at he ⊢;refine⟨⟨?_,?_,?_⟩,by simp⟩
 ·intro a i;dsimp only;unfold upd2;split
  ·refine⟨cg (kC _ _) ab,oB (a1 m.to m.item).2 ?_⟩;unfold LotW cO;dsimp only;omega
  ·exact a1 a i
 ·intro i;rw[show(W.flows++[kB sh nf mix s W m]).length=W.flows.length+1 by simp];exact a0 i
 ·have:=hO.sunk
  simp only[aD,bu,cx];omega
def StM.at(s:StM)(id:Int):StM:={ s with id:=id }
def StV.at(s:StV)(id:Int):StV:={ s with id:=id }
def wk0(S:LedM):Wk:=⟨S.stk,S.tot,[],[]⟩
def CI{S:LedM}(h:S.Ok):(wk0 S).Ok S.flows.length:=⟨h.stk,fun i=>by have:=h.tot i;simpa [wk0] using this,by simp[wk0]⟩
structure StIn (s:StV):Prop where
 kind:kR s.kind
 len:s.moves.length≤1000000
 cap:s.moves.length≤s.mcap
 rule:I64 s.rule
 parts:∀m∈s.moves,m.m.parts.length≤1000000
def aR(S:LedM):Int:=S.shard*4294967296+(S.steps.length:Int)
def bL(c:CatM)(i:Int):Bool:=c.items[i.toNat]!.mixed
noncomputable def tryM(S:LedM)(s:StM):Int×Wk :=
 if 65536≤S.steps.length then(4,wk0 S)
 else if ¬lX S.cat S.now s then(1,wk0 S)
 else iC S.shard S.flows.length (bL S.cat) (s.at (aR S)) (wk0 S) s.moves
abbrev Bt:List Stp:=[.ev 0,.ev 1,.ev 2,.ev 3,.ev 4,.ev 5,.ev 6,.ev 7,.ev 8,.ev 9,.ev 10,.ev 11,.ev 12,.ev 13,.ev 14,.ef 15]
def JR{φ ψ:Prop}(k:ψ)(h:Hid ψ→φ:=by intro k;(repeat (first|refine aa ?_|intro zzz|((with_reducible apply G.d8);first|refine G.d7 (N:=62) (id:=6) Bt mixed aw ?_)));(repeat revert zzz);exact Hid.out k):φ:=h ⟨k⟩
def EB{L:LH}(b:Nat)(S:LedM)(hS:S.Ok)(hc:S.cat.Ok)(x:LedX)(hF:LedF S x)(s:StV)(hs:StIn s)(hT:∀mx,TakeC mx) :
  Tri ag 64 #[av b,.agg (aL s).toArray] (ledL b S.shard x (stM s::stP s::L)) (fun v L' =>
   ((tryM S s.m).1≠0∧v=.tuple #[.pointer none,ac (tryM S s.m).1]∧L' = ledL b S.shard x (stM s::stP s::L)) ∨
   ((tryM S s.m).1=0∧∃bc s' z,v=.tuple #[av bc,ac 0]∧(s'.m=s.m.at (aR S)∧WkF x z (tryM S s.m).2)∧L' = chL b bc s' z (ledL b S.shard x (stM s'::stP s'::stM s::stP s::L)))):=by
 obtain⟨a5,b5⟩:=hS.shard;have d1:=hS.steps;have d0:=hS.flows;have c9:x.steps.length=S.steps.length:=by rw[←hF.steps];simp
 have b0:x.flows.length=S.flows.length:=by rw[←hF.flows];simp
 have hB:=hF.catB;have c3:=hs.len;have a7:=hF.cat;have c2:=hB.items;have b4:xnow x=S.now:=GK hF;have b1:dM x=bL S.cat:=by funext i;unfold dM bL;rw[←a7];rfl
 refine Tri.bd ?_;simp only[ledL,fw];by_cases h1:65536≤S.steps.length
 ·have e:tryM S s.m=(4,wk0 S):=by unfold tryM;rw[if_pos h1]
  rw[e];refine JR ?_;intros;exact KX.d7 an ae (.inl ⟨by dsimp only;omega,rfl,rfl⟩)
 refine JR ?_;intros;refine GO.ent (Ent.at (A:=catP x.cat) (Ent.refl _)) ?_;refine GO.cr (Db (b:=b) (sh:=S.shard) (x:=x) s hs.kind (a7▸hc) hB ab c3 hs.cap hs.rule) ?_;rw[a7,b4];by_cases h2:lX S.cat S.now s.m
 case neg =>
  have e:tryM S s.m=(1,wk0 S):=by unfold tryM;rw[if_neg h1,if_pos h2]
  rw[e,aH h2];refine JR ?_;intros;exact KX.d7 an ae (.inl ⟨by dsimp only;omega,rfl,rfl⟩)
 have e:tryM S s.m=iC S.shard S.flows.length (bL S.cat) (s.m.at (aR S)) (wk0 S) s.m.moves:=by unfold tryM;rw[if_neg h1,if_neg (fun h=>h h2)]
 rw[e,aT h2];have b2:s.moves.length≤64:=by have:=h2.2.2.1.2;simpa [StV.m] using this
 refine JR ?_;intros;refine GO.ent (Ent.at (A:=stM s) (Ent.d7 (Ent.at (A:=stP s) (Ent.refl _)))) ?_;refine GO.ca (xq s b2 hs.parts) ?_;rintro _ _⟨s',rfl,b6,rfl⟩;have a8:s'.moves.map MvV.m=s.m.moves:=congrArg StM.moves b6;have c4:s'.moves.length=s.moves.length:=by have:=congrArg List.length a8;simpa [StV.m] using this
 have c5:s'.kind=s.kind:=congrArg StM.kind b6;simp only[aL];refine JR ?_;intros;refine GO.ef (Ef.d9 kvP Stk.v (.inl rfl)) ah ?_;rintro _ _⟨cs,rfl,rfl⟩;refine JR ?_;intros;refine GO.ef (Ef.d9 kvI encN (.inl rfl)) ah ?_;rintro _ _⟨ct,rfl,rfl⟩;refine JR ?_;intros;refine GO.ef (Ef.d9 kvI Stk.v (.inl rfl)) ah ?_;rintro _ _⟨ci,rfl,rfl⟩;refine JR ?_;intros;refine GO.ef (Ef.d9 kvI Stk.v (.inl rfl)) ah ?_;rintro _ _⟨cr,rfl,rfl⟩;refine JR ?_;intros;rename_i bc;have c7:S.shard*4294967296+(x.steps.length:Int)=aR S:=by unfold aR;rw[c9]
 rw[c7]
 have a6:(s'.at (aR S)).m=s.m.at (aR S):=by
  show StM.at s'.m (aR S)=_;rw[b6]
 have a4:WkF x ⟨cs,ct,ci,cr,[],[],[],none,0,[],none,0⟩ (wk0 S):=⟨fun a i=>hF.stk a i,fun i=>hF.tot i,rfl,rfl⟩
 refine G.loop (α:=Nat×ChX×Wk) (fun g=>g.1≤s'.moves.length∧WkF x g.2.1 g.2.2∧g.2.2.Ok x.flows.length∧g.2.2.flows.length=g.1∧iC S.shard S.flows.length (bL S.cat) (s.m.at (aR S)) (wk0 S) s.m.moves=iC S.shard S.flows.length (bL S.cat) (s.m.at (aR S)) g.2.2 (s.m.moves.drop g.1))
  (fun g=>[(0,av b),(4,.pointer none),(5,ac 0),(6,av bc),(48,.slice s'.mad s'.moves.length s'.mcap),(49,ac (s'.moves.length:Int)),(50,ac (g.1:Int))])
  (fun g=>chL b bc (s'.at (aR S)) g.2.1 (ledL b S.shard x (stM s'::stP s'::stM s::stP s::L))) (fun g=>s'.moves.length - g.1) (0,⟨cs,ct,ci,cr,[],[],[],none,0,[],none,0⟩,wk0 S) ⟨aj _,a4,b0▸CI hS,rfl,rfl⟩ ai ?_ ?_
 ·simp only[chL,ledL,fE,fw,StV.at,cx];refine(Ent.d9 aM 11 bY).trans ?_;refine(Ent.d9 (encZ .i64) 1 tInt).trans ?_;refine(Ent.e7 (fun p:(Int×Int)×Stk=>stkP p.2)).trans ?_;refine(Ent.e7 flP).trans ?_;exact ae
 rintro⟨i,z,W⟩ ⟨hi,hW,hO,b8,a1⟩;dsimp only at hi hW hO b8 a1 ⊢;by_cases b9:i<s'.moves.length
 case neg =>
  have b3:s.m.moves.drop i=[]:=bg (by rw[←a8,aA];omega);rw[b3] at a1;rw[a1];simp only[chL,ledL,fE,fw];refine JR ?_;intros;exact KX.d7 an (Ent.refl _) (.inr ⟨rfl,bc,s'.at (aR S),z,rfl,⟨a6,hW⟩,rfl⟩)
 have c6:(i:Int).toNat=i:=ab;have c0:s'.moves[i]!.m=s.m.moves[i]!:=by rw[←a8];exact(dP MvV.m b9).symm
 have c1:i<s.m.moves.length:=by rw[←a8,aA];exact b9
 have b3:s.m.moves.drop i=s'.moves[i]!.m::s.m.moves.drop (i+1):=by rw[c0];exact dF c1
 have a3:=h2.2.2.2.1 s'.moves[i]!.m (by rw[c0];exact aG c1)
 have a2:MvFit x s'.moves[i]!.m:=by
  unfold iH at a3;rw[fR] at a3;have h3:=of_decide_eq_true a3;exact⟨⟨h3.1.1,by have h4:=h3.1.2;rw[←a7] at h4;exact h4⟩,h3.2.1,h3.2.2.1,h3.2.2.2.1,h3.2.2.2.2.1,h3.2.2.2.2.2.2.2⟩
 rw[b3] at a1;have b7:iC S.shard S.flows.length (bL S.cat) (s.m.at (aR S)) W (s'.moves[i]!.m::s.m.moves.drop (i+1))=if(gN S.shard S.flows.length (bL S.cat) (s.m.at (aR S)) W s'.moves[i]!.m).1=0 then iC S.shard S.flows.length (bL S.cat) (s.m.at (aR S)) (gN S.shard S.flows.length (bL S.cat) (s.m.at (aR S)) W s'.moves[i]!.m).2 (s.m.moves.drop (i+1)) else((gN S.shard S.flows.length (bL S.cat) (s.m.at (aR S)) W s'.moves[i]!.m).1,W):=rfl;rw[b7] at a1;have a9:=wD (sh:=S.shard) (mix:=bL S.cat) (s:=s.m.at (aR S)) (m:=s'.moves[i]!.m) hO hT a2.n a5;have a0:=Ds (L:=stM s'::stP s'::stM s::stP s::L) b bc S.shard x (s'.at (aR S)) z s'.moves[i]! W hW hO a2 (show kR s'.kind by rw[c5];exact hs.kind) hT c2 ⟨a5,b5⟩ ab ab;rw[a6,b1] at a0;rw[b0] at a0 a9;generalize gN S.shard S.flows.length (bL S.cat) (s.m.at (aR S)) W s'.moves[i]!.m=r at *;simp only[chL,ledL,fE,fw,stM];refine JR ?_;intros;rw[c6];refine GO.ent Ent.drop ?_;refine GO.ca (a0) ?_;rintro _ _⟨z',rfl,c8,rfl⟩;by_cases hr:r.1=0
 ·rw[if_pos hr] at a1;simp only[chL,ledL,fE,fw];refine JR ?_;intros;refine⟨(i+1,z',r.2),⟨by dsimp only;omega,c8 hr,by rw[b0];exact(a9 hr).1,by dsimp only;rw[(a9 hr).2,b8],a1⟩,by dsimp only;omega,?_,Ent.refl _⟩;dsimp only;rw[aK i];exact ai
 ·rw[if_neg hr] at a1;rw[a1];simp only[chL,ledL,fE,fw];refine JR ?_;intros;exact KX.en (.inl ⟨hr,rfl,rfl⟩)
