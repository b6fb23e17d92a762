/- Lemmas. -/
import Derived.Test.YtommnllbflbdmaaGreatDoorCatan
set_option linter.all false
set_option maxHeartbeats 2000000
namespace Go.Proofs.YtommnllbflbdmaaGreatDoor
section
open Go.V
attribute [local irreducible] G GO GP GPW GPK Ev Ef EfR Ent CB GB Enters
def Gz(m:List (Int×Int))(k d:Int):((@List.lookup _ _ instBEqOfDecidableEq k m).map encN).getD (ac d)=ac ((glk m k).getD d):=by
 unfold glk;cases @List.lookup _ _ instBEqOfDecidableEq k m<;>rfl
abbrev flV(f:FlM)(pad:OA)(pcap:Nat)(mad:OA)(mcap:Nat):FlV:=⟨f,pad,pcap,mad,mcap⟩
abbrev yO:=ar6 [.ev 10,.ev 11]
abbrev yM:=ar6 [.ev 10]
abbrev wx:=ar4 [.ev 6,.ef 7]
abbrev ww:=ar8 [.ev 17,.ev 18,.ev 19,.ev 20,.ev 21,.ev 22,.ev 23,.ev 24,.ev 25,.ev 26,.ev 27,.ev 28,.ev 29,.ev 30,.ev 31,.ev 32,.ev 33,.ev 34,.ev 35,.ev 36,.ev 37,.ev 38,.ev 39,.ev 40,.ev 41,.ev 42,.ev 43,.ev 44,.ev 45,.ev 46,.ev 47,.ev 48,.ev 49,.ev 50,.ev 51,.ev 52,.ef 53,.ef 54]
abbrev wv:=ar4 [.ef 6,.ef 7,.ev 8,.ev 9,.ef 10]
abbrev wu:=ar4 [.ev 6,.ef 7,.ef 8,.ev 9,.ev 10,.ef 11]
abbrev wt:=ar7 [.ev 13,.ev 14,.ef 15,.ef 16]
def bW{φ ψ:Prop}(k:ψ)(h:Hid ψ→φ:=by intro k;(with_reducible apply G.d7);first|refine G.dr 186 4 yO (Hid.out k)|refine G.dr 186 6 yM (Hid.out k)|refine G.dr 186 13 wx (Hid.out k)|refine G.dr 186 14 ww (Hid.out k)|refine G.dr 186 17 wv (Hid.out k)|refine G.dr 186 19 wu (Hid.out k)|refine G.dr 186 24 wt (Hid.out k)):φ:=h ⟨k⟩
def Ky{φ ψ:Prop}(k:ψ)(h:Hid ψ→φ:=by intro k;(repeat (first|refine aa ?_|intro zzz|refine bW ?_));(repeat revert zzz);exact Hid.out k):φ:=h ⟨k⟩
def Ey{L:LH}(b bc:Nat)(sh:Int)(x:LedX)(s:StV)(z:ChX)(m:MvV)(W:Wk)(hW:WkF x z W)(hO:W.Ok x.flows.length)(h:MvFit x m.m)(hk:lp s.kind)(hT:∀mx,TakeC mx)(d6:x.cat.items.length≤64)(e4:0≤sh∧sh<12)(g0:x.flows.length≤4194304)(f0:W.flows.length<64) :
  Tri ai 124 #[aq bc,aN (aT m)] (chL b bc s z (ledL b sh x L)) (fun v L'=>∃z',v=ac (gW sh x.flows.length (bO x) s.m W m.m).1 ∧
   ((gW sh x.flows.length (bO x) s.m W m.m).1=0→WkF x z' (gW sh x.flows.length (bO x) s.m W m.m).2)∧L' = chL b bc s z' (ledL b sh x L)):=by
 obtain⟨f5,f6⟩:=e4;obtain⟨f2,f3⟩:=h.n;have f4:=h.ne;obtain⟨f7,f9⟩:=hO.tot m.m.item;have e5:z.flows.length=W.flows.length:=by rw[←hW.flows];simp
 have f1:z.sunk.length≤64:=by rw[hW.sunk];have:=hO.sunk;omega
 refine Tri.bd ?_;refine Ky ?_;intros;rename_i b3;refine GO.ent (L':=chL b bc s z (ledL b sh x (obj b3 tMv (aT m)::L))) (by simp only[chL,ledL];exact ah) ?_;refine GO.ca (Aw b bc sh x s z m W hW hO h hk hT d6) ?_;rintro _ _ (⟨h1,rfl,rfl⟩|⟨h1,pad,pcap,a0,rfl,a6,rfl⟩)
 ·have e:gW sh x.flows.length (bO x) s.m W m.m=(10,W):=by unfold gW;rw[if_pos h1]
  rw[e];refine Ky ?_;intros;exact KX.d7 av (by simp only[chL,ledL];exact ah) ⟨z,rfl,(fun h=>absurd (show(_:Int)=0 from h) gn),rfl⟩
 have c7:db sh x.flows.length W=sh*4294967296+(x.flows.length:Int)+(z.flows.length:Int):=by unfold db;rw[e5]
 have e2:gW sh x.flows.length (bO x) s.m W m.m=if cX W m.m>1099511627776 then(4,W)
   else if m.m.to=0 then(0,⟨gA (bO x) W m.m,upd W.tot m.m.item (cX W m.m),W.flows++[kO sh x.flows.length (bO x) s.m W m.m],W.sunk++[db sh x.flows.length W]⟩)
   else if 4096≤(gA (bO x) W m.m m.m.to m.m.item).length then(4,W)
   else(0,⟨upd2 (gA (bO x) W m.m) m.m.to m.m.item (ba (gA (bO x) W m.m m.m.to m.m.item) (db sh x.flows.length W,0,m.m.n)),upd W.tot m.m.item (cX W m.m),W.flows++[kO sh x.flows.length (bO x) s.m W m.m],W.sunk⟩):=by unfold gW;rw[if_neg h1]
 have b0:kO sh x.flows.length (bO x) s.m W m.m=⟨db sh x.flows.length W,s.id,s.kind,s.tick,s.actor,m.m.frm,m.m.to,m.m.item,m.m.n,jt (bO x) W m.m,eW s.m W m.m⟩:=rfl;rw[e2];generalize kO sh x.flows.length (bO x) s.m W m.m=fl at *;generalize jt (bO x) W m.m=pts at *;have d0:cX W m.m=W.tot m.m.item+(if m.m.frm=0 then m.m.n else 0) - (if m.m.to=0 then m.m.n else 0):=rfl;have d1:=hW.tot m.m.item;simp only[chL,ledL,fX];refine Ky ?_;intros;refine GPW.evL (Ev.m6 rfl rfl) ag ?_;repeat first|refine G.sm 5 ?_|refine bF ?_|intro _|refine bW ?_
 refine G.d8 (α:=Unit) (fun _=>True) (fun _=>[(0,aq bc),(3,aq b3),(4,ac 0),(5,ae pad pts.length pcap),(7,ac (W.tot m.m.item))]) (fun _=>isl ay 3 pad pts::chL b bc s { z with stk:=a0 } (ledL b sh x (obj b3 tMv (aT m)::L))) ?_ ?_
 ·cases hl:@List.lookup _ _ instBEqOfDecidableEq m.m.item z.tot with
  | some t =>
   simp only[eZ,fY,Option.isSome_some];have e:W.tot m.m.item=t:=by rw[←d1];unfold glk;rw[hl];rfl
   rw[e];refine Ky ?_;intros;exact⟨(),trivial,an,Ent.refl _⟩
  | none =>
   simp only[ez,dW,Option.isSome_none];have e:W.tot m.m.item=(glk x.tot m.m.item).getD 0:=by rw[←d1];unfold glk;rw[hl];rfl
   rw[e];refine Ky ?_;intros;refine GPW.evL (Ev.d8 rfl rfl) ag ?_;rw[Gz];refine Ky ?_;intros;exact⟨(),trivial,an,Ent.refl _⟩
 rintro _ _;simp only[chL,ledL,fX];refine G.d8 (α:=Unit) (fun _=>True) (fun _=>[(0,aq bc),(3,aq b3),(4,ac 0),(5,ae pad pts.length pcap),(7,ac (W.tot m.m.item+(if m.m.frm=0 then m.m.n else 0)))]) (fun _=>isl ay 3 pad pts::chL b bc s { z with stk:=a0 } (ledL b sh x (obj b3 tMv (aT m)::L))) ?_ ?_
 ·by_cases h0:m.m.frm=0
  ·rw[if_pos h0];refine Ky ?_;intros;exact⟨(),trivial,an,Ent.refl _⟩
  ·rw[if_neg h0,Int.add_zero];refine Ky ?_;intros;exact⟨(),trivial,an,Ent.refl _⟩
 rintro _ _;simp only[chL,ledL,fX];have b2 : -9223372036854775808+1099511627776≤W.tot m.m.item+(if m.m.frm=0 then m.m.n else 0)∧W.tot m.m.item+(if m.m.frm=0 then m.m.n else 0)≤2199023255552:=by split<;>omega
 obtain⟨b2,d2⟩:=b2;refine G.d8 (α:=Unit) (fun _=>True) (fun _=>[(0,aq bc),(3,aq b3),(4,ac 0),(5,ae pad pts.length pcap),(7,ac (cX W m.m))]) (fun _=>isl ay 3 pad pts::chL b bc s { z with stk:=a0 } (ledL b sh x (obj b3 tMv (aT m)::L))) ?_ ?_
 ·rw[d0];generalize W.tot m.m.item+(if m.m.frm=0 then m.m.n else 0)=t1 at *;by_cases h0:m.m.to=0
  ·rw[if_pos h0];refine Ky ?_;intros;exact⟨(),trivial,an,Ent.refl _⟩
  ·rw[if_neg h0,Int.sub_zero];refine Ky ?_;intros;exact⟨(),trivial,an,Ent.refl _⟩
 rintro _ _;simp only[chL,ledL,fX];by_cases a8:cX W m.m>1099511627776
 ·rw[if_pos a8];refine Ky ?_;intros;exact KX.d7 av ah ⟨{ z with stk:=a0 },rfl,(fun h=>absurd (show(_:Int)=0 from h) gn),rfl⟩
 rw[if_neg a8];clear d0 b2 d2;refine Ky ?_;intros;refine GPW.efu (Ef.e9 (enc:=encN) (e:=cX W m.m) rfl rfl rfl rfl) ?_;rintro _ _ rfl;repeat first|refine G.sm 15 ?_|refine bF ?_|intro _|refine bW ?_
 rename_i b9
 have a3:∀(mad:OA) (mcap:Nat),bT (flV fl pad pcap mad mcap)=[ac (sh*4294967296+(x.flows.length:Int)+(z.flows.length:Int)),ac s.id,ac s.kind,ac s.tick,ac s.actor,ac m.m.frm,ac m.m.to,ac m.m.item,ac m.m.n,ae pad pts.length pcap,ae mad (eW s.m W m.m).length mcap]:=by
  intro mad mcap;rw[b0,c7];rfl
 refine G.d8 (α:=OA×Nat) (fun _=>True) (fun _=>[(0,aq bc),(3,aq b3),(4,ac 0),(9,aq b9)]) (fun g=>obj b9 dz (bT (flV fl pad pcap g.1 g.2))::isl (encZ .i64) 1 g.1 (eW s.m W m.m)::isl ay 3 pad pts::chL b bc s { z with stk:=a0,tot:=gins z.tot m.m.item (cX W m.m) } (ledL b sh x (obj b3 tMv (aT m)::L))) ?_ ?_
 ·by_cases b8:m.m.frm=0∧s.kind=4
  ·obtain⟨c0,c1⟩:=b8;have e:eW s.m W m.m=z.sunk:=by unfold eW;rw[if_pos ⟨c0,.inl c1⟩,hW.sunk]
   refine Ky ?_;intros;refine GO.ca (iN z.kad z.sunk.length z.kcap z.sunk rfl ab) ?_;rintro _ _⟨mad,mcap,rfl,rfl⟩;refine Ky ?_;intros;refine⟨(mad,mcap),trivial,an,?_⟩;rw[a3,e];refine(Ent.frz mad).trans ?_;exact ah
  ·have b6:¬s.kind=10:=by unfold lp at hk;omega
   have e:eW s.m W m.m=[]:=by
    unfold eW
    exact if_neg (fun h=>by
     obtain⟨h3,h4⟩:=h;rcases h4 with h4|h4
     ·exact b8 ⟨h3,h4⟩
     ·exact b6 h4)
   by_cases h0:m.m.frm=0
   ·have e6:¬s.kind=4:=fun h=>b8 ⟨h0,h⟩;refine Ky ?_;intros;refine⟨(none,0),trivial,an,?_⟩;rw[a3,e];refine Ent.trans ?_ (Ent.d7 (Ent.f8 (encZ .i64) 1 none));exact ah
   ·refine Ky ?_;intros;refine⟨(none,0),trivial,an,?_⟩;rw[a3,e];refine Ent.trans ?_ (Ent.d7 (Ent.f8 (encZ .i64) 1 none));exact ah
 rintro⟨mad,mcap⟩ _;simp only[chL,ledL,fX];refine Ky ?_;intros;refine GPW.ef (Ef.d7 (enc:=bT) (e:=flV fl pad pcap mad mcap) rfl rfl rfl rfl rfl aJ (jT _) ab ab) ag ?_;rintro _ _⟨a2,a1,rfl,rfl⟩;repeat first|refine G.sm 18 ?_|refine bF ?_|intro _|refine bW ?_
 have a4:fl.id=db sh x.flows.length W:=by rw[b0]
 have a9:fl.n=m.m.n:=by rw[b0]
 have b4:fl.made=eW s.m W m.m:=by rw[b0]
 have b5:fl.parts=pts:=by rw[b0]
 refine G.ent (L':=obj b9 dz (bT (flV fl pad pcap mad mcap))::chL b bc s { z with stk:=a0,tot:=gins z.tot m.m.item (cX W m.m),flows:=z.flows++[flV fl pad pcap mad mcap],fad:=a2,fcap:=a1 } (ledL b sh x (obj b3 tMv (aT m)::L))) ?_ ?_
 ·simp only[chL,ledL,fX];refine(Ent.at (A:=isl (encZ .i64) 1 mad (eW s.m W m.m)) (Ent.refl _)).trans ?_;refine(Ent.at (A:=isl ay 3 pad pts) (Ent.refl _)).trans ?_;rw[←b5,←b4];refine(Ent.e8 (bI _ _ _ _) (bI _ _ _ _)).trans ?_;refine(Ent.at (A:=allP flP z.flows) (Ent.refl _)).trans ?_;refine((Ent.d7 (Ent.l0 (f:=flP) (x:=flV fl pad pcap mad mcap) lr)).trans (Ent.j0 lr)).trans ?_;exact ah
 have c5:∀i,(glk (gins z.tot m.m.item (cX W m.m)) i).getD ((glk x.tot i).getD 0)=upd W.tot m.m.item (cX W m.m) i:=by
  intro i;unfold glk upd;have hq:=hJ (m:=z.tot) (k:=m.m.item) (q:=i) (a:=cX W m.m);refine(congrArg (fun o:Option Int=>o.getD ((glk x.tot i).getD 0)) hq).trans ?_;by_cases hi:i=m.m.item
  ·rw[if_pos hi,if_pos hi];rfl
  ·rw[if_neg hi,if_neg hi];exact hW.tot i
 have c4:(z.flows++[flV fl pad pcap mad mcap]).map FlV.m=W.flows++[fl]:=by rw[aR,hW.flows];rfl
 simp only[chL,ledL,fX];by_cases h0:m.m.to=0
 ·rw[if_pos h0];refine Ky ?_;intros;refine GPW.ef (Ef.d7 (enc:=encZ .i64) (e:=(flV fl pad pcap mad mcap).m.id) rfl rfl rfl rfl rfl aJ (by simp[encZ,Value.oneCell']) ab ab) ag ?_;rintro _ _⟨c3,b1,rfl,rfl⟩;refine Ky ?_;intros;refine KX.d7 av ?_ ⟨{ z with stk:=a0,tot:=gins z.tot m.m.item (cX W m.m),flows:=z.flows++[flV fl pad pcap mad mcap],fad:=a2,fcap:=a1,sunk:=z.sunk++[fl.id],kad:=c3,kcap:=b1 },rfl,fun _=>⟨a6,c5,c4,?_⟩,rfl⟩
  ·simp only[chL,ledL,fX];exact ah
  ·show z.sunk++[fl.id]=W.sunk++[db sh x.flows.length W];rw[hW.sunk,a4]
 rw[if_neg h0];refine Ky ?_;intros;have d4:∀q,curS x { z with stk:=a0,tot:=gins z.tot m.m.item (cX W m.m),flows:=z.flows++[flV fl pad pcap mad mcap],fad:=a2,fcap:=a1 } q=curS x { z with stk:=a0 } q:=fun _=>rfl;refine GO.ent (L':=stkP (curS x { z with stk:=a0 } (m.m.to,m.m.item))::obj b9 dz (bT (flV fl pad pcap mad mcap))::chL b bc s { z with stk:=a0,tot:=gins z.tot m.m.item (cX W m.m),flows:=z.flows++[flV fl pad pcap mad mcap],fad:=a2,fcap:=a1 } (ledL b sh x (obj b3 tMv (aT m)::L))) ?_ ?_
 ·simp only[chL,ledL,fX];refine(Ent.at (A:=allP (fun p:(Int×Int)×Stk=>stkP p.2) a0) (Ent.refl _)).trans ?_;refine(Ent.d7 (Ent.at (A:=allP (fun p:(Int×Int)×Stk=>stkP p.2) x.stk) (Ent.refl _))).trans ?_;refine(xT (x:=x) (z:={ z with stk:=a0 }) (m.m.to,m.m.item)).trans ?_;exact ah
 simp only[chL,ledL];refine GO.cr (qg (b:=b) (sh:=sh) (x:=x) (s:=s) (z:={ z with stk:=a0,tot:=gins z.tot m.m.item (cX W m.m),flows:=z.flows++[flV fl pad pcap mad mcap],fad:=a2,fcap:=a1 }) m.m.to m.m.item) ?_;rw[d4];have d3:=a6 m.m.to m.m.item
 have e3:∀a i,((gA (bO x) W m.m a i).length≤4096∧∀l∈gA (bO x) W m.m a i,LotOk l):=by
  intro a i;unfold gA;split
  ·exact hO.stk a i
  ·rename_i d5;unfold upd2;split
   ·have c2:m.m.n≤lsum (W.stk m.m.frm m.m.item):=by
     rcases Int.lt_or_le (lsum (W.stk m.m.frm m.m.item)) m.m.n with e1|e0
     ·exact absurd ⟨d5,e1⟩ h1
     ·exact e0
    obtain⟨o1,o2⟩:=hO.stk m.m.frm m.m.item;exact⟨cN (ld _ _ _).2 o1,(sT o2 ((hT _).bd _ _ o2 ab c2)).2⟩
   ·exact hO.stk a i
 obtain⟨c8,c9⟩:=e3 m.m.to m.m.item;rw[←d3] at c8 c9 ⊢;generalize hsk:curS x { z with stk:=a0 } (m.m.to,m.m.item)=sk at *;simp only[Stk.v,fX];by_cases c6:4096≤sk.lots.length
 ·rw[if_pos c6];refine Ky ?_;intros;refine KX.d7 av ?_ ⟨{ z with stk:=a0,tot:=gins z.tot m.m.item (cX W m.m),flows:=z.flows++[flV fl pad pcap mad mcap],fad:=a2,fcap:=a1 },rfl,(fun h=>absurd (show(_:Int)=0 from h) gn),rfl⟩;exact ah
 rw[if_neg c6];refine Ky ?_;intros;refine GPW.ent (Ent.at (A:=stkP sk) (Ent.refl _)) ?_
 have b7:LotOk ((flV fl pad pcap mad mcap).m.id,0,(flV fl pad pcap mad mcap).m.n):=by
  show LotOk (fl.id,0,fl.n);rw[a4,a9,c7];unfold LotOk;dsimp only;omega
 refine GPW.ca (ux sk.ad sk.cap sk.lots ((flV fl pad pcap mad mcap).m.id,0,(flV fl pad pcap mad mcap).m.n) c8 c9 b7) ?_;rintro _ _⟨a7,a5,rfl,rfl⟩;refine Ky ?_;intros;refine GPW.efu (Ef.e9 (enc:=Stk.v) (e:=(⟨a7,a5,ba sk.lots (fl.id,0,fl.n)⟩:Stk)) rfl rfl rfl rfl) ?_;rintro _ _ rfl;refine Ky ?_;intros;refine KX.d7 av ?_ ⟨{ z with stk:=gins a0 (m.m.to,m.m.item) ⟨a7,a5,ba sk.lots (fl.id,0,fl.n)⟩,tot:=gins z.tot m.m.item (cX W m.m),flows:=z.flows++[flV fl pad pcap mad mcap],fad:=a2,fcap:=a1 },rfl,fun _=>⟨?_,c5,c4,hW.sunk⟩,rfl⟩
 ·simp only[chL,ledL,fX];refine(Ent.frz a7).trans ?_;refine(Ent.at (A:=allP (fun p:(Int×Int)×Stk=>stkP p.2) a0) (Ent.refl _)).trans ?_;refine(Ent.at (A:=stkP ⟨a7,a5,ba sk.lots (fl.id,0,fl.n)⟩) (jj (k:=(m.m.to,m.m.item)))).trans ?_;exact ah
 ·intro a i;show(curS x { ({ z with stk:=a0 }:ChX) with stk:=gins ({ z with stk:=a0 }:ChX).stk (m.m.to,m.m.item) ⟨a7,a5,ba sk.lots (fl.id,0,fl.n)⟩ } (a,i)).lots=_;rw[xS];dsimp only;unfold upd2;by_cases hq:a=m.m.to∧i=m.m.item
  ·obtain⟨rfl,rfl⟩:=hq;rw[if_pos rfl,if_pos ⟨rfl,rfl⟩];dsimp only;rw[a4,a9]
  ·rw[if_neg (fun h=>hq (by simpa using h)),if_neg hq];exact a6 a i
def iK(sh:Int)(nf:Nat)(mix:Int→Bool)(s:StM):Wk→List MvM→Int×Wk
 | W,[]=>(0,W)
 | W,m::ms=>if(gW sh nf mix s W m).1=0 then iK sh nf mix s (gW sh nf mix s W m).2 ms else((gW sh nf mix s W m).1,W)
def Bs{mix:Int→Bool}{W:Wk}{m:MvM}{nf:Nat}(hO:W.Ok nf)(hT:∀mx,TakeC mx)(hn:1≤m.n)(h1:¬(m.frm≠0∧lsum (W.stk m.frm m.item)<m.n)) :
  ∀a i,((gA mix W m a i).length≤4096∧∀l∈gA mix W m a i,LotOk l):=by
 intro a i;unfold gA;split
 ·exact hO.stk a i
 ·rename_i a1;unfold upd2;split
  ·have a0:m.n≤lsum (W.stk m.frm m.item):=by
    rcases Int.lt_or_le (lsum (W.stk m.frm m.item)) m.n with a3|a2
    ·exact absurd ⟨a1,a3⟩ h1
    ·exact a2
   obtain⟨o1,o2⟩:=hO.stk m.frm m.item;exact⟨cN (ld _ _ _).2 o1,(sT o2 ((hT _).bd _ _ o2 ab a0)).2⟩
  ·exact hO.stk a i
def xa{sh:Int}{nf:Nat}{mix:Int→Bool}{s:StM}{W:Wk}{m:MvM}(hO:W.Ok nf)(hT:∀mx,TakeC mx)(hn:1≤m.n∧m.n≤1099511627776)(a4:0≤sh)(he:(gW sh nf mix s W m).1=0) :
  (gW sh nf mix s W m).2.Ok nf∧(gW sh nf mix s W m).2.flows.length=W.flows.length+1:=by
 obtain⟨a2,a3⟩:=hn;unfold gW at he ⊢;by_cases h1:m.frm≠0∧lsum (W.stk m.frm m.item)<m.n
 ·rw[if_pos h1] at he;exact absurd (show(10:Int)=0 from he) ab
 rw[if_neg h1] at he ⊢;by_cases h2:cX W m>1099511627776
 ·rw[if_pos h2] at he;exact absurd (show(4:Int)=0 from he) ab
 rw[if_neg h2] at he ⊢;have a1:=Bs (mix:=mix) hO hT a2 h1
 have a0:∀i,-(((nf:Int)+(W.flows.length+1:Nat))*1099511627776)≤upd W.tot m.item (cX W m) i∧upd W.tot m.item (cX W m) i≤1099511627776:=by
  intro i;unfold upd;split
  ·obtain⟨o1,o2⟩:=hO.tot m.item;refine⟨?_,ab⟩;unfold cX;split<;>split<;>omega
  ·obtain⟨o1,o2⟩:=hO.tot i;omega
 by_cases h3:m.to=0
 ·rw[if_pos h3] at he ⊢;refine⟨⟨a1,?_,?_⟩,by simp⟩
  ·intro i;rw[show(W.flows++[kO sh nf mix s W m]).length=W.flows.length+1 by simp];exact a0 i
  ·have:=hO.sunk
   simp only[ax,bE,cU];omega
 rw[if_neg h3] at he ⊢;by_cases h4:4096≤(gA mix W m m.to m.item).length
 ·rw[if_pos h4] at he;exact absurd (show(4:Int)=0 from he) ab
 rw[if_neg h4] at he ⊢;refine⟨⟨?_,?_,?_⟩,by simp⟩
 ·intro a i;dsimp only;unfold upd2;split
  ·refine⟨cN (kP _ _) ab,rx (a1 m.to m.item).2 ?_⟩;unfold LotW db;dsimp only;omega
  ·exact a1 a i
 ·intro i;rw[show(W.flows++[kO sh nf mix s W m]).length=W.flows.length+1 by simp];exact a0 i
 ·have:=hO.sunk
  simp only[ax,bE,cU];omega
def StM.at(s:StM)(id:Int):StM:={ s with id:=id }
def StV.at(s:StV)(id:Int):StV:={ s with id:=id }
def wk0(S:LedM):Wk:=⟨S.stk,S.tot,[],[]⟩
def DM{S:LedM}(h:S.Ok):(wk0 S).Ok S.flows.length:=⟨h.stk,fun i=>by have:=h.tot i;simpa [wk0] using this,by simp[wk0]⟩
structure StIn (s:StV):Prop where
 kind:lp s.kind
 len:s.moves.length≤1000000
 cap:s.moves.length≤s.mcap
 rule:I64 s.rule
 parts:∀m∈s.moves,m.m.parts.length≤1000000
def bu(S:LedM):Int:=S.shard*4294967296+(S.steps.length:Int)
def cu(c:CatM)(i:Int):Bool:=c.items[i.toNat]!.mixed
noncomputable def tryM(S:LedM)(s:StM):Int×Wk :=
 if 65536≤S.steps.length then(4,wk0 S)
 else if ¬mA S.cat S.now s then(1,wk0 S)
 else iK S.shard S.flows.length (cu S.cat) (s.at (bu S)) (wk0 S) s.moves
abbrev Cc:=ar7 [.ev 13,.ev 14,.ef 15]
def KW{φ ψ:Prop}(k:ψ)(h:Hid ψ→φ:=by intro k;(repeat (first|refine aa ?_|intro zzz|refine G.dr 62 6 Cc ?_));(repeat revert zzz);exact Hid.out k):φ:=h ⟨k⟩
def FE{L:LH}(b:Nat)(S:LedM)(hS:S.Ok)(hc:S.cat.Ok)(x:LedX)(hF:LedF S x)(s:StV)(hs:StIn s)(hT:∀mx,TakeC mx) :
  Tri ai 64 #[aq b,aN (aX s)] (ledL b S.shard x (stM s::stP s::L)) (fun v L' =>
   ((tryM S s.m).1≠0∧v=.tuple #[.pointer none,ac (tryM S s.m).1]∧L' = ledL b S.shard x (stM s::stP s::L)) ∨
   ((tryM S s.m).1=0∧∃bc s' z,v=.tuple #[aq bc,ac 0]∧(s'.m=s.m.at (bu S)∧WkF x z (tryM S s.m).2)∧L' = chL b bc s' z (ledL b S.shard x (stM s'::stP s'::stM s::stP s::L)))):=by
 obtain⟨a6,b6⟩:=hS.shard;have d1:=hS.steps;have d0:=hS.flows;have c8:x.steps.length=S.steps.length:=by rw[←hF.steps];simp
 have b7:x.flows.length=S.flows.length:=by rw[←hF.flows];simp
 have hB:=hF.catB;have c5:=hs.len;have a7:=hF.cat;have c4:=hB.items;have b4:xnow x=S.now:=HT hF;have b1:bO x=cu S.cat:=by funext i;unfold bO cu;rw[←a7];rfl
 refine Tri.bd ?_;simp only[ledL,bS];by_cases h1:65536≤S.steps.length
 ·have e:tryM S s.m=(4,wk0 S):=by unfold tryM;rw[if_pos h1]
  rw[e];refine KW ?_;intros;exact KX.d7 av ah (.inl ⟨by dsimp only;omega,rfl,rfl⟩)
 refine KW ?_;intros;refine GO.ent (Ent.at (A:=catP x.cat) (Ent.refl _)) ?_;refine GO.cr (El (b:=b) (sh:=S.shard) (x:=x) s hs.kind (a7▸hc) hB ab c5 hs.cap hs.rule) ?_;rw[a7,b4];by_cases h2:mA S.cat S.now s.m
 case neg =>
  have e:tryM S s.m=(1,wk0 S):=by unfold tryM;rw[if_neg h1,if_pos h2]
  rw[e,aM h2];refine KW ?_;intros;exact KX.d7 av ah (.inl ⟨by dsimp only;omega,rfl,rfl⟩)
 have e:tryM S s.m=iK S.shard S.flows.length (cu S.cat) (s.m.at (bu S)) (wk0 S) s.m.moves:=by unfold tryM;rw[if_neg h1,if_neg (fun h=>h h2)]
 rw[e,aZ h2];have b0:s.moves.length≤64:=by have:=h2.2.2.1.2;simpa [StV.m] using this
 refine KW ?_;intros;refine GO.ent (Ent.at (A:=stM s) (Ent.d7 (Ent.at (A:=stP s) (Ent.refl _)))) ?_;refine GO.ca (pZ s b0 hs.parts) ?_;rintro _ _⟨s',rfl,b5,rfl⟩;have a8:s'.moves.map MvV.m=s.m.moves:=congrArg StM.moves b5;have c7:s'.moves.length=s.moves.length:=by have:=congrArg List.length a8;simpa [StV.m] using this
 have c6:s'.kind=s.kind:=congrArg StM.kind b5;simp only[aX];refine KW ?_;intros;refine GO.ef (Ef.e8 kvP Stk.v (.inl rfl)) ag ?_;rintro _ _⟨cs,rfl,rfl⟩;refine KW ?_;intros;refine GO.ef (Ef.e8 kvI encN (.inl rfl)) ag ?_;rintro _ _⟨ct,rfl,rfl⟩;refine KW ?_;intros;refine GO.ef (Ef.e8 kvI Stk.v (.inl rfl)) ag ?_;rintro _ _⟨ci,rfl,rfl⟩;refine KW ?_;intros;refine GO.ef (Ef.e8 kvI Stk.v (.inl rfl)) ag ?_;rintro _ _⟨cr,rfl,rfl⟩;refine KW ?_;intros;rename_i bc;have c2:S.shard*4294967296+(x.steps.length:Int)=bu S:=by unfold bu;rw[c8]
 rw[c2]
 have a5:(s'.at (bu S)).m=s.m.at (bu S):=by
  show StM.at s'.m (bu S)=_;rw[b5]
 have a4:WkF x ⟨cs,ct,ci,cr,[],[],[],none,0,[],none,0⟩ (wk0 S):=⟨fun a i=>hF.stk a i,fun i=>hF.tot i,rfl,rfl⟩
 refine G.loop (α:=Nat×ChX×Wk) (fun g=>g.1≤s'.moves.length∧WkF x g.2.1 g.2.2∧g.2.2.Ok x.flows.length∧g.2.2.flows.length=g.1∧iK S.shard S.flows.length (cu S.cat) (s.m.at (bu S)) (wk0 S) s.m.moves=iK S.shard S.flows.length (cu S.cat) (s.m.at (bu S)) g.2.2 (s.m.moves.drop g.1))
  (fun g=>[(0,aq b),(4,.pointer none),(5,ac 0),(6,aq bc),(48,ae s'.mad s'.moves.length s'.mcap),(49,ac (s'.moves.length:Int)),(50,ac (g.1:Int))])
  (fun g=>chL b bc (s'.at (bu S)) g.2.1 (ledL b S.shard x (stM s'::stP s'::stM s::stP s::L))) (fun g=>s'.moves.length - g.1) (0,⟨cs,ct,ci,cr,[],[],[],none,0,[],none,0⟩,wk0 S) ⟨az _,a4,b7▸DM hS,rfl,rfl⟩ an ?_ ?_
 ·simp only[chL,ledL,fX,bS,StV.at,cU];refine(Ent.d8 bT 11 dz).trans ?_;refine(Ent.d8 (encZ .i64) 1 tInt).trans ?_;refine(Ent.e7 (fun p:(Int×Int)×Stk=>stkP p.2)).trans ?_;refine(Ent.e7 flP).trans ?_;exact ah
 rintro⟨i,z,W⟩ ⟨hi,hW,hO,b8,a1⟩;dsimp only at hi hW hO b8 a1 ⊢;by_cases c1:i<s'.moves.length
 case neg =>
  have a9:s.m.moves.drop i=[]:=bM (by rw[←a8,aA];omega);rw[a9] at a1;rw[a1];simp only[chL,ledL,fX,bS];refine KW ?_;intros;exact KX.d7 av (Ent.refl _) (.inr ⟨rfl,bc,s'.at (bu S),z,rfl,⟨a5,hW⟩,rfl⟩)
 have c3:(i:Int).toNat=i:=ab;have b9:s'.moves[i]!.m=s.m.moves[i]!:=by rw[←a8];exact(eD MvV.m c1).symm
 have c0:i<s.m.moves.length:=by rw[←a8,aA];exact c1
 have a9:s.m.moves.drop i=s'.moves[i]!.m::s.m.moves.drop (i+1):=by rw[b9];exact fA c0
 have a3:=h2.2.2.2.1 s'.moves[i]!.m (by rw[b9];exact aL c0)
 have a2:MvFit x s'.moves[i]!.m:=by
  unfold iM at a3;rw[eY] at a3;have h3:=of_decide_eq_true a3;exact⟨⟨h3.1.1,by have h4:=h3.1.2;rw[←a7] at h4;exact h4⟩,h3.2.1,h3.2.2.1,h3.2.2.2.1,h3.2.2.2.2.1,h3.2.2.2.2.2.2.2⟩
 rw[a9] at a1;have b3:iK S.shard S.flows.length (cu S.cat) (s.m.at (bu S)) W (s'.moves[i]!.m::s.m.moves.drop (i+1))=if(gW S.shard S.flows.length (cu S.cat) (s.m.at (bu S)) W s'.moves[i]!.m).1=0 then iK S.shard S.flows.length (cu S.cat) (s.m.at (bu S)) (gW S.shard S.flows.length (cu S.cat) (s.m.at (bu S)) W s'.moves[i]!.m).2 (s.m.moves.drop (i+1)) else((gW S.shard S.flows.length (cu S.cat) (s.m.at (bu S)) W s'.moves[i]!.m).1,W):=rfl;rw[b3] at a1;have b2:=xa (sh:=S.shard) (mix:=cu S.cat) (s:=s.m.at (bu S)) (m:=s'.moves[i]!.m) hO hT a2.n a6;have a0:=Ey (L:=stM s'::stP s'::stM s::stP s::L) b bc S.shard x (s'.at (bu S)) z s'.moves[i]! W hW hO a2 (show lp s'.kind by rw[c6];exact hs.kind) hT c4 ⟨a6,b6⟩ ab ab;rw[a5,b1] at a0;rw[b7] at a0 b2;generalize gW S.shard S.flows.length (cu S.cat) (s.m.at (bu S)) W s'.moves[i]!.m=r at *;simp only[chL,ledL,fX,bS,stM];refine KW ?_;intros;rw[c3];refine GO.ent Ent.drop ?_;refine GO.ca (a0) ?_;rintro _ _⟨z',rfl,c9,rfl⟩;by_cases hr:r.1=0
 ·rw[if_pos hr] at a1;simp only[chL,ledL,fX,bS];refine KW ?_;intros;refine⟨(i+1,z',r.2),⟨by dsimp only;omega,c9 hr,by rw[b7];exact(b2 hr).1,by dsimp only;rw[(b2 hr).2,b8],a1⟩,by dsimp only;omega,?_,Ent.refl _⟩;dsimp only;rw[aU i];exact an
 ·rw[if_neg hr] at a1;rw[a1];simp only[chL,ledL,fX,bS];refine KW ?_;intros;exact KX.en (.inl ⟨hr,rfl,rfl⟩)
end
section
open Go.V
attribute [local irreducible] G GO GP GPW GPK Ev Ef EfR Ent CB GB V.Enters
def fS(n:Nat)(l:List (Int×Int)):Prop:=(∀a∈l,0≤a.1∧a.1<n∧1≤a.2∧a.2≤1099511627776)∧l.Pairwise (fun a b=>a.1<b.1)
def ey(l:List (Int×Int))(i:Int):Int:=l.foldl (fun s a=>if a.1=i then s+a.2 else s) 0
structure ItGood (x:ItG):Prop where
 word:IsWord x.name
 form:if x.obj=true then x.mixed=false∧x.coin=false∧0≤x.bind∧x.bind≤2 else x.wear=0∧x.bind=0∧x.level=0
 num:(x.obj=true→1≤x.wear∧x.wear≤1048576)∧0≤x.level∧x.level≤100
structure RuGood (n:Nat) (r:RuM):Prop where
 word:IsWord r.name
 lim:r.take.length+r.give.length≤64∧r.take.length+r.back.length≤64
 take:fS n r.take
 give:fS n r.give
 back:fS n r.back
 form:(r.back.length=0∨r.chance≠r.of_)∧(if r.spawn=true then r.take.length=0∧r.back.length=0∧r.level=0∧r.time=0∧r.chance=r.of_ else 0<r.take.length∨r.time≠0)
 cont:∀a∈r.back,ey r.back a.1≤ey r.take a.1
 num:(0≤r.level∧r.level≤100)∧(0≤r.time∧r.time≤1000000)∧(1≤r.of_∧r.of_≤1000000)∧1≤r.chance∧r.chance≤r.of_
structure RwGood (n:Nat) (r:RwM):Prop where
 num:1≤r.weight∧r.weight≤1099511627776
 give:fS n r.give
structure TbGood (n:Nat) (t:TbM):Prop where
 word:IsWord t.name
 rows:0<t.rows.length∧t.rows.length≤64
 good:∀r∈t.rows,RwGood n r
structure TxGood (t:TxM):Prop where
 word:IsWord t.name
 brs:0<t.brs.length∧t.brs.length≤16
 first:t.brs[0]!.1=0
 srt:∀i,i+1<t.brs.length→t.brs[i]!.1<t.brs[i+1]!.1
 num:∀b∈t.brs,(0≤b.1∧b.1≤1099511627776)∧0≤b.2∧b.2≤10000
structure CatGood (c:CatM):Prop where
 items:c.items.length≤64
 rules:c.rules.length≤64
 tables:c.tables.length≤32
 taxes:c.taxes.length≤32
 it:∀x∈c.items,ItGood x
 ru:∀r∈c.rules,RuGood c.items.length r
 tb:∀t∈c.tables,TbGood c.items.length t
 tx:∀t∈c.taxes,TxGood t
 di:(c.items.map (·.name)).Nodup
 dr:(c.rules.map (·.name)).Nodup
 dt:(c.tables.map (·.name)).Nodup
 dx:(c.taxes.map (·.name)).Nodup
def HL(n:Nat)(r:RuV)(h:RuGood n r.m):fG 169 [] bj ruP (dy True) r:=by
 intro L;obtain⟨h1,h2⟩:=h.lim;change r.take.l.length+r.give.l.length≤64 at h1;change r.take.l.length+r.back.l.length≤64 at h2;refine Tri.bd (args:=[aN (bj r)]) ?_;refine IF ?_;intros;exact KX.d7 av Ent.drop ⟨by rw[aZ ab];rfl,rfl⟩
def HK(n:Nat)(t:TbV)(h:TbGood n t.m):fG 171 [] bK tbP (dy True) t:=by
 intro L;have h1:t.rows.length≤64:=by have:=h.rows.2;simpa [TbV.m] using this
 refine Tri.bd (args:=[aN (bK t)]) ?_;refine IF ?_;intros;exact KX.d7 av Ent.drop ⟨by rw[aZ ab];rfl,rfl⟩
def HJ(t:TxV)(h:TxGood t.m):fG 173 [] bN txP (dy True) t:=by
 intro L;have h1:t.brs.length≤16:=h.brs.2;refine Tri.bd (args:=[aN (bN t)]) ?_;refine IF ?_;intros;exact KX.d7 av Ent.drop ⟨by rw[aZ ab];rfl,rfl⟩
abbrev catS(c:CatV)(L:LH):LH:=isl be 7 c.iad c.items::isl bj 9 c.rad c.rules::allP ruP c.rules::isl bK 2 c.tad c.tables::allP tbP c.tables::isl bN 2 c.xad c.taxes::allP txP c.taxes::L
def catS_open{c:CatV}{L:LH}:Ent (catP c::L) (catS c (catP c::L)) :=
 (Ent.dup (mY c).pers).trans (Ent.andE.trans (Ent.d7 (Ent.andE.trans (Ent.andE.trans (Ent.d7 (Ent.d7 (Ent.andE.trans (Ent.andE.trans (Ent.d7 (Ent.d7 Ent.andE))))))))))
def oT{c:CatV}(h:CatGood c.m):∀r∈c.rules,RuGood c.items.length r.m:=fun _ hr=>h.ru _ (alStd0List_mem_map_of_mem hr)
def mZ{c:CatV}(h:CatGood c.m):∀t∈c.tables,TbGood c.items.length t.m:=fun _ ht=>h.tb _ (alStd0List_mem_map_of_mem ht)
def oS{c:CatV}(h:CatGood c.m):∀t∈c.taxes,TxGood t.m:=fun _ ht=>h.tx _ (alStd0List_mem_map_of_mem ht)
def lens{c:CatV}(h:CatGood c.m):c.items.length≤64∧c.rules.length≤64∧c.tables.length≤32∧c.taxes.length≤32:=by
 have h1:=h.items;have h2:=h.rules;have h3:=h.tables;have h4:=h.taxes;simp only[CatV.m,aA] at h1 h2 h3 h4;exact⟨h1,h2,h3,h4⟩
def rP{L:LH}(c:CatV)(h:CatGood c.m):Tri ai 111 #[aN c.cells] (catS c (cn::L)) (rtQ (.bool true) (catS c (cn::L))):=by
 obtain⟨l1,l2,l3,l4⟩:=lens h;refine Tri.bd ?_;simp only[catS,CatV.cells];refine IF ?_;intros;refine GO.ent (Ent.pure trivial (Ent.refl _)) ?_;(first|refine GO.ef (Ef.call (nu (L:=[]) _ [] (dy True) c.rad c.rcap c.rules l2 (fun r hr=>HL _ r (oT h r hr))) rfl cT) ag ?_);rintro _ _⟨_,⟨rfl,rfl⟩,hL⟩;simp only[ak,aj] at hL;subst hL;refine IF ?_;intros;(first|refine GO.ef (Ef.call (nt (L:=[]) _ [] (dy True) c.tad c.tcap c.tables ab (fun r hr=>HK _ r (mZ h r hr))) rfl cT) ag ?_);rintro _ _⟨_,⟨rfl,rfl⟩,hL⟩;simp only[ak,aj] at hL;subst hL;refine IF ?_;intros;(first|refine GO.ef (Ef.call (ns (L:=[]) _ [] (dy True) c.xad c.xcap c.taxes ab (fun r hr=>HJ r (oS h r hr))) rfl cT) ag ?_);rintro _ _⟨_,⟨rfl,rfl⟩,hL⟩;simp only[ak,aj] at hL;subst hL;refine IF ?_;intros;exact KX.en ⟨rfl,rfl⟩
def HX(x:ItG)(h:IsWord x.name):fG 175 [] be noP cn x:=by
 intro L;refine Tri.bd (args:=[aN (be x)]) ?_;refine IF ?_;intros;refine GO.cr (mD x.name h) ?_;refine IF ?_;intros;exact KX.d7 av Ent.drop ⟨rfl,rfl⟩
def HW(x:RuV)(h:IsWord x.name):fG 177 [] bj ruP cn x:=by
 intro L;refine Tri.bd (args:=[aN (bj x)]) ?_;refine IF ?_;intros;refine GO.cr (mD x.name h) ?_;refine IF ?_;intros;exact KX.d7 av Ent.drop ⟨rfl,rfl⟩
def HV(x:TbV)(h:IsWord x.name):fG 178 [] bK tbP cn x:=by
 intro L;refine Tri.bd (args:=[aN (bK x)]) ?_;refine IF ?_;intros;refine GO.cr (mD x.name h) ?_;refine IF ?_;intros;exact KX.d7 av Ent.drop ⟨rfl,rfl⟩
def HU(x:TxV)(h:IsWord x.name):fG 179 [] bN txP cn x:=by
 intro L;refine Tri.bd (args:=[aN (bN x)]) ?_;refine IF ?_;intros;refine GO.cr (mD x.name h) ?_;refine IF ?_;intros;exact KX.d7 av Ent.drop ⟨rfl,rfl⟩
def Ag{L:LH}(c:CatV)(h:CatGood c.m):Tri ai 112 #[aN c.cells] (catS c (cn::L)) (rtQ (.bool true) (catS c (cn::L))):=by
 obtain⟨l1,l2,l3,l4⟩:=lens h;refine Tri.bd ?_;simp only[catS,CatV.cells];refine IF ?_;intros;refine GO.ent (nQ c.items) ?_;(first|refine GO.ef (Ef.call (pV (L:=[]) _ [] cn c.iad c.icap c.items l1 (fun x hx=>HX x (h.it x hx).word)) rfl cT) ag ?_);rintro _ _⟨_,⟨rfl,rfl⟩,hL⟩;simp only[ak,aj] at hL;subst hL;refine IF ?_;intros;(first|refine GO.ef (Ef.call (nu (L:=[]) _ [] cn c.rad c.rcap c.rules l2 (fun r hr=>HW r (oT h r hr).word)) rfl cT) ag ?_);rintro _ _⟨_,⟨rfl,rfl⟩,hL⟩;simp only[ak,aj] at hL;subst hL;refine IF ?_;intros;(first|refine GO.ef (Ef.call (nt (L:=[]) _ [] cn c.tad c.tcap c.tables ab (fun r hr=>HV r (mZ h r hr).word)) rfl cT) ag ?_);rintro _ _⟨_,⟨rfl,rfl⟩,hL⟩;simp only[ak,aj] at hL;subst hL;refine IF ?_;intros;(first|refine GO.ef (Ef.call (ns (L:=[]) _ [] cn c.xad c.xcap c.taxes ab (fun r hr=>HU r (oS h r hr).word)) rfl cT) ag ?_);rintro _ _⟨_,⟨rfl,rfl⟩,hL⟩;simp only[ak,aj] at hL;subst hL;refine IF ?_;intros;exact KX.en ⟨rfl,rfl⟩
def tE{L:LH}(c:CatV)(h:CatGood c.m):Tri ai 113 #[aN c.cells] (catS c (cn::L)) (rtQ (.bool true) (catS c (cn::L))):=by
 obtain⟨l1,l2,l3,l4⟩:=lens h;have d1:(c.items.map (·.name)).Nodup:=h.di;have d2:(c.rules.map (·.name)).Nodup:=by have:=h.dr;simpa [CatV.m,RuV.m,TbV.m,TxV.m,Function.comp_def] using this
 have d3:(c.tables.map (·.name)).Nodup:=by have:=h.dt;simpa [CatV.m,RuV.m,TbV.m,TxV.m,Function.comp_def] using this
 have d4:(c.taxes.map (·.name)).Nodup:=by have:=h.dx;simpa [CatV.m,RuV.m,TbV.m,TxV.m,Function.comp_def] using this
 refine Tri.bd ?_;simp only[catS,CatV.cells];refine IF ?_;intros;(first|refine GO.ef (Ef.call (Dn (L:=[]) c.iad c.icap c.items l1 d1) rfl cT) ag ?_);rintro _ _⟨_,⟨rfl,rfl⟩,hL⟩;simp only[ak,aj] at hL;subst hL;refine IF ?_;intros;(first|refine GO.ef (Ef.call (Dm (L:=[]) c.rad c.rcap c.rules l2 d2) rfl cT) ag ?_);rintro _ _⟨_,⟨rfl,rfl⟩,hL⟩;simp only[ak,aj] at hL;subst hL;refine IF ?_;intros;(first|refine GO.ef (Ef.call (Dl (L:=[]) c.tad c.tcap c.tables ab d3) rfl cT) ag ?_);rintro _ _⟨_,⟨rfl,rfl⟩,hL⟩;simp only[ak,aj] at hL;subst hL;refine IF ?_;intros;(first|refine GO.ef (Ef.call (Dk (L:=[]) c.xad c.xcap c.taxes ab d4) rfl cT) ag ?_);rintro _ _⟨_,⟨rfl,rfl⟩,hL⟩;simp only[ak,aj] at hL;subst hL;refine IF ?_;intros;exact KX.en ⟨rfl,rfl⟩
abbrev tCat:Nat:=33
def rR{L:LH}(b1:Nat)(c:CatV)(ad:OA)(cap:Nat)(l:List (Int×Int))(hl:l.length≤64)(hc:c.items.length≤64)(h:fS c.items.length l) :
  Tri ai 188 #[ae ad l.length cap,aq b1] (obj b1 tCat c.cells::isl aV 2 ad l::L) (rtQ (.bool true) (obj b1 tCat c.cells::isl aV 2 ad l::L)):=by
 obtain⟨h1,h2⟩:=h;refine Tri.bd ?_;simp only[CatV.cells];refine IF ?_;intros;refine G.loop (α:=Nat×Int) (fun x=>x.1≤l.length∧∀j,x.1≤j→j<l.length→x.2<l[j]!.1) (fun x=>[(1,aq b1),(4,ac x.2),(7,ae ad l.length cap),(8,ac l.length),(9,ac (x.1:Int))]) (fun _=>obj b1 tCat [ae c.iad c.items.length c.icap,ae c.rad c.rules.length c.rcap,ae c.tad c.tables.length c.tcap,ae c.xad c.taxes.length c.xcap]::isl aV 2 ad l::L) (fun x=>l.length - x.1) (0,-1) ⟨az _,fun j _ hj=>by have:=h1 _ (aL hj);dsimp only;omega⟩ an (Ent.refl _) ?_;rintro⟨i,a4⟩ ⟨hi,a0⟩;dsimp only at hi a0 ⊢;by_cases a1:i<l.length
 case neg =>
  refine IF ?_;intros;exact KX.en ⟨rfl,rfl⟩
 have a3:(i:Int).toNat=i:=ab;have ha:=h1 _ (aL a1);have hb:=a0 i (aI _) a1;refine IF ?_;intros;rw[a3];refine IF ?_;intros;refine⟨(i+1,l[i]!.1),⟨by dsimp only;omega,?_⟩,by dsimp only;omega,?_,Ent.drop⟩
 ·intro j hj a2;dsimp only at hj ⊢;rw[getElem!_of a1,getElem!_of a2];exact List.pairwise_iff_getElem.1 h2 i j a1 a2 ab
 ·dsimp only;rw[aU i];exact an
def vh(x:ItG)(h:ItGood x):fG 189 [] be noP (dy True) x:=by
 intro L;have hf:=h.form;refine Tri.bd (args:=[aN (be x)]) ?_;cases hx:x.obj with
 | true =>
  rw[if_pos hx] at hf;obtain⟨f1,f2,f3,f4⟩:=hf;have e:be x=[.string x.name,.bool true,.bool false,.bool false,ac x.wear,ac x.bind,ac x.level]:=by unfold be;rw[hx,f1,f2]
  rw[e];refine IF ?_;intros;exact KX.d7 av Ent.drop ⟨by rw[aZ f4];rfl,rfl⟩
 | false =>
  rw[if_neg (by rw[hx];decide)] at hf;obtain⟨f1,f2,f3⟩:=hf;have e:be x=[.string x.name,.bool false,.bool x.mixed,.bool x.coin,ac 0,ac 0,ac 0]:=by unfold be;rw[hx,f1,f2,f3]
  rw[e];refine IF ?_;intros;exact KX.d7 av Ent.drop ⟨by rw[aZ rfl];rfl,rfl⟩
def va{L:LH}(n:Nat)(r:RuV)(h:RuGood n r.m):Tri ai 191 #[aN (bj r)] L (rtQ (.bool true) L):=by
 obtain⟨a1,a0⟩:=h.form;change (r.back.l.length=0∨r.chance≠r.of_) at a1
 have hg:∀{q:Prop},(r.back.l.length=0→q)→(¬r.back.l.length=0→r.chance≠r.of_→q)→q:=by
  intro q a b;by_cases h0:r.back.l.length=0
  ·exact a h0
  ·exact b h0 (a1.resolve_left h0)
 change (if r.spawn=true then r.take.l.length=0∧r.back.l.length=0∧r.level=0∧r.time=0∧r.chance=r.of_ else 0<r.take.l.length∨r.time≠0) at a0;refine Tri.bd ?_;cases hx:r.spawn with
 | true =>
  rw[if_pos hx] at a0;obtain⟨f1,f2,f3,f4,f5⟩:=a0;have e:bj r=[.string r.name,.bool true,ac r.level,ac r.time,ac r.chance,ac r.of_,ae r.take.ad r.take.l.length r.take.cap,ae r.give.ad r.give.l.length r.give.cap,ae r.back.ad r.back.l.length r.back.cap]:=by unfold bj;rw[hx]
  rw[e];refine IF ?_;intros;exact KX.d7 av Ent.drop ⟨by rw[aZ f5];rfl,rfl⟩
 | false =>
  rw[if_neg (by rw[hx];decide)] at a0;have e:bj r=[.string r.name,.bool false,ac r.level,ac r.time,ac r.chance,ac r.of_,ae r.take.ad r.take.l.length r.take.cap,ae r.give.ad r.give.l.length r.give.cap,ae r.back.ad r.back.l.length r.back.cap]:=by unfold bj;rw[hx]
  rw[e];refine hg ?_ ?_
  ·intro h0;by_cases h5:0<r.take.l.length
   ·refine IF ?_;intros;exact KX.d7 av Ent.drop ⟨rfl,rfl⟩
   ·have h6:r.time≠0:=a0.resolve_left h5;refine IF ?_;intros;exact KX.d7 av Ent.drop ⟨by rw[aZ h6];rfl,rfl⟩
  ·intro h0 a2;by_cases h5:0<r.take.l.length
   ·refine IF ?_;intros;exact KX.d7 av Ent.drop ⟨rfl,rfl⟩
   ·have h6:r.time≠0:=a0.resolve_left h5;refine IF ?_;intros;exact KX.d7 av Ent.drop ⟨by rw[aZ h6];rfl,rfl⟩
def amU(l:List (Int×Int))(m:List (Int×Int)):Prop:=∀i,(glk m i).getD 0=ey l i
def mE(l:List (Int×Int))(a:Int×Int)(i:Int):ey (l++[a]) i=if a.1=i then ey l i+a.2 else ey l i:=by
 unfold ey;rw[cB];rfl
def ye{n:Nat}{l:List (Int×Int)}(h:∀a∈l,0≤a.1∧a.1<n∧1≤a.2∧a.2≤1099511627776)(i:Int):∀k,k≤l.length→0≤ey (l.take k) i∧ey (l.take k) i≤k*1099511627776:=by
 intro k;induction k with
 | zero=>intro _;simp[ey]
 | succ k ih =>
  intro hk;have h1:=ih ab;have h2:=h _ (eO (ab:k<l.length));rw[aC ab,mE];split<;>omega
def EN(m:List (Int×Int))(k q a:Int):glk (gins m k a) q=if q=k then some a else glk m q:=hJ
def rV(m:List (Int×Int))(k d:Int):((@List.lookup _ _ instBEqOfDecidableEq k m).map encN).getD (ac d)=ac ((glk m k).getD d):=by
 unfold glk;cases @List.lookup _ _ instBEqOfDecidableEq k m<;>rfl
def Bd:amU [] []:=fun _=>rfl
def Be{l:List (Int×Int)}{m:List (Int×Int)}(h:amU l m)(a:Int×Int):amU (l++[a]) (gins m a.1 (ey l a.1+a.2)):=by
 intro i;rw[mE,EN];by_cases hi:a.1=i
 ·subst hi;rw[if_pos rfl,if_pos rfl];rfl
 ·rw[if_neg (fun e=>hi e.symm),if_neg hi];exact h i
def Au{L:LH}(n:Nat)(a1 a0:OA)(c1 c2:Nat)(tk bk:List (Int×Int))(h1:tk.length≤64)(h2:bk.length≤64)(ht:fS n tk)(hb:fS n bk)(hc:∀a∈bk,ey bk a.1≤ey tk a.1) :
  Tri ai 192 #[ae a1 tk.length c1,ae a0 bk.length c2] (isl aV 2 a1 tk::isl aV 2 a0 bk::L) (rtQ (.bool true) (isl aV 2 a1 tk::isl aV 2 a0 bk::L)):=by
 refine Tri.bd ?_;refine IF ?_;intros;refine GO.ef (Ef.e8 kvI encN (.inl rfl)) ag ?_;rintro _ _⟨b1,rfl,rfl⟩;refine IF ?_;intros;refine GO.ef (Ef.e8 kvI encN (.inl rfl)) ag ?_;rintro _ _⟨b2,rfl,rfl⟩;repeat first|refine G.sm 2 ?_|refine bF ?_|intro
 refine G.d8 (α:=List (Int×Int)) (fun m=>amU tk m) (fun _=>[(1,ae a0 bk.length c2),(5,.map (some b1)),(6,.map (some b2))]) (fun m=>gmap kvI encN b2 []::gmap kvI encN b1 m::isl aV 2 a1 tk::isl aV 2 a0 bk::L) ?_ ?_
 ·refine IF ?_;intros;refine G.loop (α:=Nat×List (Int×Int)) (fun x=>x.1≤tk.length∧amU (tk.take x.1) x.2) (fun x=>[(1,ae a0 bk.length c2),(5,.map (some b1)),(6,.map (some b2)),(15,ae a1 tk.length c1),(16,ac tk.length),(17,ac (x.1:Int))]) (fun x=>gmap kvI encN b2 []::gmap kvI encN b1 x.2::isl aV 2 a1 tk::isl aV 2 a0 bk::L) (fun x=>tk.length - x.1) (0,[]) ⟨az _,Bd⟩ an (Ent.refl _) ?_;rintro⟨i,m⟩ ⟨hi,hm⟩;dsimp only at hi hm ⊢;by_cases a2:i<tk.length
  case neg =>
   rw[aB ab] at hm;refine IF ?_;intros;exact⟨m,hm,an,Ent.refl _⟩
  have a3:(i:Int).toNat=i:=ab;have ha:=ht.1 _ (aL a2);have a5:=ye ht.1 tk[i]!.1 i ab;have a4:=hm tk[i]!.1;refine IF ?_;intros;rw[a3];refine GO.ev (Ev.d8 rfl rfl) ag ?_;rw[rV,a4];refine IF ?_;intros;refine GO.efu (Ef.e9 (enc:=encN) (e:=ey (tk.take i) tk[i]!.1+tk[i]!.2) rfl rfl rfl rfl) ?_;rintro _ _ rfl;refine IF ?_;intros;refine⟨(i+1,gins m tk[i]!.1 (ey (tk.take i) tk[i]!.1+tk[i]!.2)),⟨by dsimp only;omega,?_⟩,by dsimp only;omega,?_,by exact ah⟩
  ·dsimp only;rw[aC a2,←getElem!_of a2];exact Be hm _
  ·dsimp only;rw[aU i];exact an
 intro m1 a6;refine G.d8 (α:=List (Int×Int)) (fun m=>amU bk m) (fun _=>[(1,ae a0 bk.length c2),(5,.map (some b1)),(6,.map (some b2))]) (fun m=>gmap kvI encN b2 m::gmap kvI encN b1 m1::isl aV 2 a1 tk::isl aV 2 a0 bk::L) ?_ ?_
 ·refine IF ?_;intros;refine G.loop (α:=Nat×List (Int×Int)) (fun x=>x.1≤bk.length∧amU (bk.take x.1) x.2) (fun x=>[(1,ae a0 bk.length c2),(5,.map (some b1)),(6,.map (some b2)),(29,ae a0 bk.length c2),(30,ac bk.length),(31,ac (x.1:Int))]) (fun x=>gmap kvI encN b2 x.2::gmap kvI encN b1 m1::isl aV 2 a1 tk::isl aV 2 a0 bk::L) (fun x=>bk.length - x.1) (0,[]) ⟨az _,Bd⟩ an (Ent.refl _) ?_;rintro⟨i,m⟩ ⟨hi,hm⟩;dsimp only at hi hm ⊢;by_cases a2:i<bk.length
  case neg =>
   rw[aB ab] at hm;refine IF ?_;intros;exact⟨m,hm,an,Ent.refl _⟩
  have a3:(i:Int).toNat=i:=ab;have ha:=hb.1 _ (aL a2);have a5:=ye hb.1 bk[i]!.1 i ab;have a4:=hm bk[i]!.1;refine IF ?_;intros;rw[a3];refine GO.ev (Ev.d8 rfl rfl) ag ?_;rw[rV,a4];refine IF ?_;intros;refine GO.efu (Ef.e9 (enc:=encN) (e:=ey (bk.take i) bk[i]!.1+bk[i]!.2) rfl rfl rfl rfl) ?_;rintro _ _ rfl;refine IF ?_;intros;refine⟨(i+1,gins m bk[i]!.1 (ey (bk.take i) bk[i]!.1+bk[i]!.2)),⟨by dsimp only;omega,?_⟩,by dsimp only;omega,?_,by exact ah⟩
  ·dsimp only;rw[aC a2,←getElem!_of a2];exact Be hm _
  ·dsimp only;rw[aU i];exact an
 intro m2 a7;refine IF ?_;intros;refine G.loop (α:=Nat) (fun i=>i≤bk.length) (fun i=>[(5,.map (some b1)),(6,.map (some b2)),(43,ae a0 bk.length c2),(44,ac bk.length),(45,ac (i:Int))]) (fun _=>gmap kvI encN b2 m2::gmap kvI encN b1 m1::isl aV 2 a1 tk::isl aV 2 a0 bk::L) (fun i=>bk.length - i) 0 (az _) an (Ent.refl _) ?_;intro i hi;by_cases a2:i<bk.length
 case neg =>
  refine IF ?_;intros;exact KX.en ⟨rfl,rfl⟩
 have a3:(i:Int).toNat=i:=ab;have e1:=a6 bk[i]!.1;have e2:=a7 bk[i]!.1;have a8:=hc _ (aL a2);refine IF ?_;intros;rw[a3];refine GO.ev (Ev.d8 rfl rfl) ag ?_;rw[rV,e1];refine IF ?_;intros;refine GO.ev (Ev.d8 rfl rfl) ag ?_;rw[rV,e2];refine IF ?_;intros;refine⟨i+1,ab,ab,?_,by exact ah⟩;rw[aU i];exact an
