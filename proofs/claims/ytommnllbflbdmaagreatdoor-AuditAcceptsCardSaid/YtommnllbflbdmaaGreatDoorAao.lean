/- Lemmas. -/
import Derived.Test.YtommnllbflbdmaaGreatDoorAan
set_option linter.all false
set_option maxHeartbeats 2000000
namespace Go.Proofs.YtommnllbflbdmaaGreatDoor
section
open Go.V
attribute [local irreducible] G GO GP GPW GPK Ev Ef EfR Ent CB GB Enters
def Ch(m:List (Int×Int))(k d:Int):((@List.lookup _ _ instBEqOfDecidableEq k m).map encN).getD (ac d)=ac ((glk m k).getD d):=by
 unfold glk;cases @List.lookup _ _ instBEqOfDecidableEq k m<;>rfl
abbrev flV(f:FlM)(pad:OA)(pcap:Nat)(mad:OA)(mcap:Nat):FlV:=⟨f,pad,pcap,mad,mcap⟩
abbrev zH:=ay6 [.ev 10,.ev 11]
abbrev zG:=ay6 [.ev 10]
abbrev xm:=ay4 [.ev 6,.ef 7]
abbrev xl:=ay8 [.ev 17,.ev 18,.ev 19,.ev 20,.ev 21,.ev 22,.ev 23,.ev 24,.ev 25,.ev 26,.ev 27,.ev 28,.ev 29,.ev 30,.ev 31,.ev 32,.ev 33,.ev 34,.ev 35,.ev 36,.ev 37,.ev 38,.ev 39,.ev 40,.ev 41,.ev 42,.ev 43,.ev 44,.ev 45,.ev 46,.ev 47,.ev 48,.ev 49,.ev 50,.ev 51,.ev 52,.ef 53,.ef 54]
abbrev xk:=ay4 [.ef 6,.ef 7,.ev 8,.ev 9,.ef 10]
abbrev xj:=ay4 [.ev 6,.ef 7,.ef 8,.ev 9,.ev 10,.ef 11]
abbrev xi:=ay7 [.ev 13,.ev 14,.ef 15,.ef 16]
def bU{φ ψ:Prop}(k:ψ)(h:Hid ψ→φ:=by intro k;(with_reducible apply G.d7);first|refine G.dr 186 4 zH (Hid.out k)|refine G.dr 186 6 zG (Hid.out k)|refine G.dr 186 13 xm (Hid.out k)|refine G.dr 186 14 xl (Hid.out k)|refine G.dr 186 17 xk (Hid.out k)|refine G.dr 186 19 xj (Hid.out k)|refine G.dr 186 24 xi (Hid.out k)):φ:=h ⟨k⟩
def Ln{φ ψ:Prop}(k:ψ)(h:Hid ψ→φ:=by intro k;(repeat (first|refine aa ?_|intro zzz|refine G.dr 186 4 zH ?_|refine G.dr 186 6 zG ?_|refine G.dr 186 13 xm ?_|refine G.dr 186 14 xl ?_|refine G.dr 186 17 xk ?_|refine G.dr 186 19 xj ?_|refine G.dr 186 24 xi ?_));(repeat revert zzz);exact Hid.out k):φ:=h ⟨k⟩
def Fy{L:LH}(b bc:Nat)(sh:Int)(x:LedX)(s:StV)(z:ChX)(m:MvV)(W:Wk)(hW:WkF x z W)(hO:W.Ok x.flows.length)(h:MvFit x m.m)(hk:lr s.kind)(hT:∀mx,TakeC mx)(d4:x.cat.items.length≤64)(d3:0≤sh∧sh<12)(e5:x.flows.length≤4194304)(f9:W.flows.length<64) :
  Tri ai 124 #[ax bc,aN (aM m)] (chL b bc s z (ledL b sh x L)) (fun v L'=>∃z',v=ac (ij sh x.flows.length (bO x) s.m W m.m).1 ∧
   ((ij sh x.flows.length (bO x) s.m W m.m).1=0→WkF x z' (ij sh x.flows.length (bO x) s.m W m.m).2)∧L' = chL b bc s z' (ledL b sh x L)):=by
 obtain⟨f6,f2⟩:=d3;obtain⟨f5,f1⟩:=h.n;have f4:=h.ne;obtain⟨f0,g0⟩:=hO.tot m.m.item;have e1:z.flows.length=W.flows.length:=by rw[←hW.flows];simp
 have f3:z.sunk.length≤64:=by rw[hW.sunk];have:=hO.sunk;omega
 refine Tri.bd ?_;refine Ln ?_;intros;rename_i b3;refine GO.ent (L':=chL b bc s z (ledL b sh x (obj b3 tMv (aM m)::L))) (by simp only[chL,ledL];exact ae) ?_;refine GO.ca (Bn b bc sh x s z m W hW hO h hk hT d4) ?_;rintro _ _ (⟨h1,rfl,rfl⟩|⟨h1,pad,pcap,a0,rfl,a6,rfl⟩)
 ·have e:ij sh x.flows.length (bO x) s.m W m.m=(10,W):=by unfold ij;rw[if_pos h1]
  rw[e];refine Ln ?_;intros;exact KX.d7 al (by simp only[chL,ledL];exact ae) ⟨z,rfl,(fun h=>absurd (show(_:Int)=0 from h) fm),rfl⟩
 have c8:cB sh x.flows.length W=sh*4294967296+(x.flows.length:Int)+(z.flows.length:Int):=by unfold cB;rw[e1]
 have d2:ij sh x.flows.length (bO x) s.m W m.m=if cq W m.m>1099511627776 then(4,W)
   else if m.m.to=0 then(0,⟨gG (bO x) W m.m,upd W.tot m.m.item (cq W m.m),W.flows++[kV sh x.flows.length (bO x) s.m W m.m],W.sunk++[cB sh x.flows.length W]⟩)
   else if 4096≤(gG (bO x) W m.m m.m.to m.m.item).length then(4,W)
   else(0,⟨upd2 (gG (bO x) W m.m) m.m.to m.m.item (aY (gG (bO x) W m.m m.m.to m.m.item) (cB sh x.flows.length W,0,m.m.n)),upd W.tot m.m.item (cq W m.m),W.flows++[kV sh x.flows.length (bO x) s.m W m.m],W.sunk⟩):=by unfold ij;rw[if_neg h1]
 have b0:kV sh x.flows.length (bO x) s.m W m.m=⟨cB sh x.flows.length W,s.id,s.kind,s.tick,s.actor,m.m.frm,m.m.to,m.m.item,m.m.n,jC (bO x) W m.m,cX s.m W m.m⟩:=rfl;rw[d2];generalize kV sh x.flows.length (bO x) s.m W m.m=fl at *;generalize jC (bO x) W m.m=pts at *;have c4:cq W m.m=W.tot m.m.item+(if m.m.frm=0 then m.m.n else 0) - (if m.m.to=0 then m.m.n else 0):=rfl;have d0:=hW.tot m.m.item;simp only[chL,ledL,gj];refine Ln ?_;intros;refine GPW.evL (Ev.l8 rfl rfl) ag ?_;repeat first|((fail_if_success (with_reducible refine G.d9 5 ?_));(with_reducible apply G.seq))|refine bW ?_|intro _|refine bU ?_
 refine G.d8 (α:=Unit) (fun _=>True) (fun _=>[(0,ax bc),(3,ax b3),(4,ac 0),(5,ah pad pts.length pcap),(7,ac (W.tot m.m.item))]) (fun _=>isl aj 3 pad pts::chL b bc s { z with stk:=a0 } (ledL b sh x (obj b3 tMv (aM m)::L))) ?_ ?_
 ·cases hl:@List.lookup _ _ instBEqOfDecidableEq m.m.item z.tot with
  | some t =>
   simp only[fq,gk,Option.isSome_some];have e:W.tot m.m.item=t:=by rw[←d0];unfold glk;rw[hl];rfl
   rw[e];refine Ln ?_;intros;exact⟨(),trivial,av,Ent.refl _⟩
  | none =>
   simp only[eK,dY,Option.isSome_none];have e:W.tot m.m.item=(glk x.tot m.m.item).getD 0:=by rw[←d0];unfold glk;rw[hl];rfl
   rw[e];refine Ln ?_;intros;refine GPW.evL (Ev.e8 rfl rfl) ag ?_;rw[Ch];refine Ln ?_;intros;exact⟨(),trivial,av,Ent.refl _⟩
 rintro _ _;simp only[chL,ledL,gj];refine G.d8 (α:=Unit) (fun _=>True) (fun _=>[(0,ax bc),(3,ax b3),(4,ac 0),(5,ah pad pts.length pcap),(7,ac (W.tot m.m.item+(if m.m.frm=0 then m.m.n else 0)))]) (fun _=>isl aj 3 pad pts::chL b bc s { z with stk:=a0 } (ledL b sh x (obj b3 tMv (aM m)::L))) ?_ ?_
 ·by_cases h0:m.m.frm=0
  ·rw[if_pos h0];refine Ln ?_;intros;exact⟨(),trivial,av,Ent.refl _⟩
  ·rw[if_neg h0,da];refine Ln ?_;intros;exact⟨(),trivial,av,Ent.refl _⟩
 rintro _ _;simp only[chL,ledL,gj];have b5 : -9223372036854775808+1099511627776≤W.tot m.m.item+(if m.m.frm=0 then m.m.n else 0)∧W.tot m.m.item+(if m.m.frm=0 then m.m.n else 0)≤2199023255552:=by split<;>omega
 obtain⟨b5,e4⟩:=b5;refine G.d8 (α:=Unit) (fun _=>True) (fun _=>[(0,ax bc),(3,ax b3),(4,ac 0),(5,ah pad pts.length pcap),(7,ac (cq W m.m))]) (fun _=>isl aj 3 pad pts::chL b bc s { z with stk:=a0 } (ledL b sh x (obj b3 tMv (aM m)::L))) ?_ ?_
 ·rw[c4];generalize W.tot m.m.item+(if m.m.frm=0 then m.m.n else 0)=t1 at *;by_cases h0:m.m.to=0
  ·rw[if_pos h0];refine Ln ?_;intros;exact⟨(),trivial,av,Ent.refl _⟩
  ·rw[if_neg h0,fG];refine Ln ?_;intros;exact⟨(),trivial,av,Ent.refl _⟩
 rintro _ _;simp only[chL,ledL,gj];by_cases a9:cq W m.m>1099511627776
 ·rw[if_pos a9];refine Ln ?_;intros;exact KX.d7 al ae ⟨{ z with stk:=a0 },rfl,(fun h=>absurd (show(_:Int)=0 from h) fm),rfl⟩
 rw[if_neg a9];clear c4 b5 e4;refine Ln ?_;intros;refine GPW.efu (Ef.e7 (enc:=encN) (e:=cq W m.m) rfl rfl rfl rfl) ?_;rintro _ _ rfl;repeat first|((fail_if_success (with_reducible refine G.d9 15 ?_));(with_reducible apply G.seq))|refine bW ?_|intro _|refine bU ?_
 rename_i b9
 have a4:∀(mad:OA) (mcap:Nat),bL (flV fl pad pcap mad mcap)=[ac (sh*4294967296+(x.flows.length:Int)+(z.flows.length:Int)),ac s.id,ac s.kind,ac s.tick,ac s.actor,ac m.m.frm,ac m.m.to,ac m.m.item,ac m.m.n,ah pad pts.length pcap,ah mad (cX s.m W m.m).length mcap]:=by
  intro mad mcap;rw[b0,c8];rfl
 refine G.d8 (α:=OA×Nat) (fun _=>True) (fun _=>[(0,ax bc),(3,ax b3),(4,ac 0),(9,ax b9)]) (fun g=>obj b9 cz (bL (flV fl pad pcap g.1 g.2))::isl (encZ .i64) 1 g.1 (cX s.m W m.m)::isl aj 3 pad pts::chL b bc s { z with stk:=a0,tot:=gins z.tot m.m.item (cq W m.m) } (ledL b sh x (obj b3 tMv (aM m)::L))) ?_ ?_
 ·by_cases b4:m.m.frm=0∧s.kind=4
  ·obtain⟨b7,c2⟩:=b4;have e:cX s.m W m.m=z.sunk:=by unfold cX;rw[if_pos ⟨b7,.inl c2⟩,hW.sunk]
   refine Ln ?_;intros;refine GO.ca (iZ z.kad z.sunk.length z.kcap z.sunk rfl ab) ?_;rintro _ _⟨mad,mcap,rfl,rfl⟩;refine Ln ?_;intros;refine⟨(mad,mcap),trivial,av,?_⟩;rw[a4,e];refine(Ent.frz mad).trans ?_;exact ae
  ·have b1:¬s.kind=10:=by unfold lr at hk;omega
   have e:cX s.m W m.m=[]:=by
    unfold cX
    exact if_neg (fun h=>by
     obtain⟨h3,h4⟩:=h;rcases h4 with h4|h4
     ·exact b4 ⟨h3,h4⟩
     ·exact b1 h4)
   by_cases h0:m.m.frm=0
   ·have e6:¬s.kind=4:=fun h=>b4 ⟨h0,h⟩;refine Ln ?_;intros;refine⟨(none,0),trivial,av,?_⟩;rw[a4,e];refine Ent.trans ?_ (Ent.d7 (Ent.e8 (encZ .i64) 1 none));exact ae
   ·refine Ln ?_;intros;refine⟨(none,0),trivial,av,?_⟩;rw[a4,e];refine Ent.trans ?_ (Ent.d7 (Ent.e8 (encZ .i64) 1 none));exact ae
 rintro⟨mad,mcap⟩ _;simp only[chL,ledL,gj];refine Ln ?_;intros;refine GPW.ef (Ef.d7 (enc:=bL) (e:=flV fl pad pcap mad mcap) rfl rfl rfl rfl rfl aK (jf _) ab ab) ag ?_;rintro _ _⟨a2,a1,rfl,rfl⟩;repeat first|((fail_if_success (with_reducible refine G.d9 18 ?_));(with_reducible apply G.seq))|refine bW ?_|intro _|refine bU ?_
 have a3:fl.id=cB sh x.flows.length W:=by rw[b0]
 have a8:fl.n=m.m.n:=by rw[b0]
 have c0:fl.made=cX s.m W m.m:=by rw[b0]
 have c1:fl.parts=pts:=by rw[b0]
 refine G.ent (L':=obj b9 cz (bL (flV fl pad pcap mad mcap))::chL b bc s { z with stk:=a0,tot:=gins z.tot m.m.item (cq W m.m),flows:=z.flows++[flV fl pad pcap mad mcap],fad:=a2,fcap:=a1 } (ledL b sh x (obj b3 tMv (aM m)::L))) ?_ ?_
 ·simp only[chL,ledL,gj];refine(Ent.at (A:=isl (encZ .i64) 1 mad (cX s.m W m.m)) (Ent.refl _)).trans ?_;refine(Ent.at (A:=isl aj 3 pad pts) (Ent.refl _)).trans ?_;rw[←c1,←c0];refine(Ent.e9 (bN _ _ _ _) (bN _ _ _ _)).trans ?_;refine(Ent.at (A:=allP flP z.flows) (Ent.refl _)).trans ?_;refine((Ent.d7 (Ent.f8 (f:=flP) (x:=flV fl pad pcap mad mcap) kG)).trans (Ent.g7 kG)).trans ?_;exact ae
 have c3:∀i,(glk (gins z.tot m.m.item (cq W m.m)) i).getD ((glk x.tot i).getD 0)=upd W.tot m.m.item (cq W m.m) i:=by
  intro i;unfold glk upd;have hq:=iw (m:=z.tot) (k:=m.m.item) (q:=i) (a:=cq W m.m);refine(congrArg (fun o:Option Int=>o.getD ((glk x.tot i).getD 0)) hq).trans ?_;by_cases hi:i=m.m.item
  ·rw[if_pos hi,if_pos hi];rfl
  ·rw[if_neg hi,if_neg hi];exact hW.tot i
 have c6:(z.flows++[flV fl pad pcap mad mcap]).map FlV.m=W.flows++[fl]:=by rw[aW,hW.flows];rfl
 simp only[chL,ledL,gj];by_cases h0:m.m.to=0
 ·rw[if_pos h0];refine Ln ?_;intros;refine GPW.ef (Ef.d7 (enc:=encZ .i64) (e:=(flV fl pad pcap mad mcap).m.id) rfl rfl rfl rfl rfl aK (by simp[encZ,Value.oneCell']) ab ab) ag ?_;rintro _ _⟨b2,a7,rfl,rfl⟩;refine Ln ?_;intros;refine KX.d7 al ?_ ⟨{ z with stk:=a0,tot:=gins z.tot m.m.item (cq W m.m),flows:=z.flows++[flV fl pad pcap mad mcap],fad:=a2,fcap:=a1,sunk:=z.sunk++[fl.id],kad:=b2,kcap:=a7 },rfl,fun _=>⟨a6,c3,c6,?_⟩,rfl⟩
  ·simp only[chL,ledL,gj];exact ae
  ·show z.sunk++[fl.id]=W.sunk++[cB sh x.flows.length W];rw[hW.sunk,a3]
 rw[if_neg h0];refine Ln ?_;intros;have d5:∀q,curS x { z with stk:=a0,tot:=gins z.tot m.m.item (cq W m.m),flows:=z.flows++[flV fl pad pcap mad mcap],fad:=a2,fcap:=a1 } q=curS x { z with stk:=a0 } q:=fun _=>rfl;refine GO.ent (L':=stkP (curS x { z with stk:=a0 } (m.m.to,m.m.item))::obj b9 cz (bL (flV fl pad pcap mad mcap))::chL b bc s { z with stk:=a0,tot:=gins z.tot m.m.item (cq W m.m),flows:=z.flows++[flV fl pad pcap mad mcap],fad:=a2,fcap:=a1 } (ledL b sh x (obj b3 tMv (aM m)::L))) ?_ ?_
 ·simp only[chL,ledL,gj];refine(Ent.at (A:=allP (fun p:(Int×Int)×Stk=>stkP p.2) a0) (Ent.refl _)).trans ?_;refine(Ent.d7 (Ent.at (A:=allP (fun p:(Int×Int)×Stk=>stkP p.2) x.stk) (Ent.refl _))).trans ?_;refine(yB (x:=x) (z:={ z with stk:=a0 }) (m.m.to,m.m.item)).trans ?_;exact ae
 simp only[chL,ledL];refine GO.cr (qI (b:=b) (sh:=sh) (x:=x) (s:=s) (z:={ z with stk:=a0,tot:=gins z.tot m.m.item (cq W m.m),flows:=z.flows++[flV fl pad pcap mad mcap],fad:=a2,fcap:=a1 }) m.m.to m.m.item) ?_;rw[d5];have d6:=a6 m.m.to m.m.item
 have e3:∀a i,((gG (bO x) W m.m a i).length≤4096∧∀l∈gG (bO x) W m.m a i,LotOk l):=by
  intro a i;unfold gG;split
  ·exact hO.stk a i
  ·rename_i e2;unfold upd2;split
   ·have b6:m.m.n≤lsum (W.stk m.m.frm m.m.item):=by
     rcases Int.lt_or_le (lsum (W.stk m.m.frm m.m.item)) m.m.n with e0|d1
     ·exact absurd ⟨e2,e0⟩ h1
     ·exact d1
    obtain⟨o1,o2⟩:=hO.stk m.m.frm m.m.item;exact⟨cK (kq _ _ _).2 o1,(tU o2 ((hT _).bd _ _ o2 ab b6)).2⟩
   ·exact hO.stk a i
 obtain⟨c7,c5⟩:=e3 m.m.to m.m.item;rw[←d6] at c7 c5 ⊢;generalize hsk:curS x { z with stk:=a0 } (m.m.to,m.m.item)=sk at *;simp only[Stk.v,gj];by_cases c9:4096≤sk.lots.length
 ·rw[if_pos c9];refine Ln ?_;intros;refine KX.d7 al ?_ ⟨{ z with stk:=a0,tot:=gins z.tot m.m.item (cq W m.m),flows:=z.flows++[flV fl pad pcap mad mcap],fad:=a2,fcap:=a1 },rfl,(fun h=>absurd (show(_:Int)=0 from h) fm),rfl⟩;exact ae
 rw[if_neg c9];refine Ln ?_;intros;refine GPW.ent (Ent.at (A:=stkP sk) (Ent.refl _)) ?_
 have b8:LotOk ((flV fl pad pcap mad mcap).m.id,0,(flV fl pad pcap mad mcap).m.n):=by
  show LotOk (fl.id,0,fl.n);rw[a3,a8,c8];unfold LotOk;dsimp only;omega
 refine GPW.ca (vl sk.ad sk.cap sk.lots ((flV fl pad pcap mad mcap).m.id,0,(flV fl pad pcap mad mcap).m.n) c7 c5 b8) ?_;rintro _ _⟨ad2,a5,rfl,rfl⟩;refine Ln ?_;intros;refine GPW.efu (Ef.e7 (enc:=Stk.v) (e:=(⟨ad2,a5,aY sk.lots (fl.id,0,fl.n)⟩:Stk)) rfl rfl rfl rfl) ?_;rintro _ _ rfl;refine Ln ?_;intros;refine KX.d7 al ?_ ⟨{ z with stk:=gins a0 (m.m.to,m.m.item) ⟨ad2,a5,aY sk.lots (fl.id,0,fl.n)⟩,tot:=gins z.tot m.m.item (cq W m.m),flows:=z.flows++[flV fl pad pcap mad mcap],fad:=a2,fcap:=a1 },rfl,fun _=>⟨?_,c3,c6,hW.sunk⟩,rfl⟩
 ·simp only[chL,ledL,gj];refine(Ent.frz ad2).trans ?_;refine(Ent.at (A:=allP (fun p:(Int×Int)×Stk=>stkP p.2) a0) (Ent.refl _)).trans ?_;refine(Ent.at (A:=stkP ⟨ad2,a5,aY sk.lots (fl.id,0,fl.n)⟩) (ji (k:=(m.m.to,m.m.item)))).trans ?_;exact ae
 ·intro a i;show(curS x { ({ z with stk:=a0 }:ChX) with stk:=gins ({ z with stk:=a0 }:ChX).stk (m.m.to,m.m.item) ⟨ad2,a5,aY sk.lots (fl.id,0,fl.n)⟩ } (a,i)).lots=_;rw[yA];dsimp only;unfold upd2;by_cases hq:a=m.m.to∧i=m.m.item
  ·obtain⟨rfl,rfl⟩:=hq;rw[if_pos rfl,if_pos ⟨rfl,rfl⟩];dsimp only;rw[a3,a8]
  ·rw[if_neg (fun h=>hq (by simpa using h)),if_neg hq];exact a6 a i
def iW(sh:Int)(nf:Nat)(mix:Int→Bool)(s:StM):Wk→List MvM→Int×Wk
 | W,[]=>(0,W)
 | W,m::ms=>if(ij sh nf mix s W m).1=0 then iW sh nf mix s (ij sh nf mix s W m).2 ms else((ij sh nf mix s W m).1,W)
def Cj{mix:Int→Bool}{W:Wk}{m:MvM}{nf:Nat}(hO:W.Ok nf)(hT:∀mx,TakeC mx)(hn:1≤m.n)(h1:¬(m.frm≠0∧lsum (W.stk m.frm m.item)<m.n)) :
  ∀a i,((gG mix W m a i).length≤4096∧∀l∈gG mix W m a i,LotOk l):=by
 intro a i;unfold gG;split
 ·exact hO.stk a i
 ·rename_i a1;unfold upd2;split
  ·have a0:m.n≤lsum (W.stk m.frm m.item):=by
    rcases Int.lt_or_le (lsum (W.stk m.frm m.item)) m.n with a2|a3
    ·exact absurd ⟨a1,a2⟩ h1
    ·exact a3
   obtain⟨o1,o2⟩:=hO.stk m.frm m.item;exact⟨cK (kq _ _ _).2 o1,(tU o2 ((hT _).bd _ _ o2 ab a0)).2⟩
  ·exact hO.stk a i
def xN{sh:Int}{nf:Nat}{mix:Int→Bool}{s:StM}{W:Wk}{m:MvM}(hO:W.Ok nf)(hT:∀mx,TakeC mx)(hn:1≤m.n∧m.n≤1099511627776)(a3:0≤sh)(he:(ij sh nf mix s W m).1=0) :
  (ij sh nf mix s W m).2.Ok nf∧(ij sh nf mix s W m).2.flows.length=W.flows.length+1:=by
 obtain⟨a2,a4⟩:=hn;unfold ij at he ⊢;by_cases h1:m.frm≠0∧lsum (W.stk m.frm m.item)<m.n
 ·rw[if_pos h1] at he;exact absurd (show(10:Int)=0 from he) ab
 rw[if_neg h1] at he ⊢;by_cases h2:cq W m>1099511627776
 ·rw[if_pos h2] at he;exact absurd (show(4:Int)=0 from he) ab
 rw[if_neg h2] at he ⊢;have a1:=Cj (mix:=mix) hO hT a2 h1
 have a0:∀i,-(((nf:Int)+(W.flows.length+1:Nat))*1099511627776)≤upd W.tot m.item (cq W m) i∧upd W.tot m.item (cq W m) i≤1099511627776:=by
  intro i;unfold upd;split
  ·obtain⟨o1,o2⟩:=hO.tot m.item;refine⟨?_,ab⟩;unfold cq;split<;>split<;>omega
  ·obtain⟨o1,o2⟩:=hO.tot i;omega
 by_cases h3:m.to=0
 ·rw[if_pos h3] at he ⊢;refine⟨⟨a1,?_,?_⟩,by simp⟩
  ·intro i;rw[show(W.flows++[kV sh nf mix s W m]).length=W.flows.length+1 by simp];exact a0 i
  ·have:=hO.sunk
   simp only[ay,bh,cQ];omega
 rw[if_neg h3] at he ⊢;by_cases h4:4096≤(gG mix W m m.to m.item).length
 ·rw[if_pos h4] at he;exact absurd (show(4:Int)=0 from he) ab
 rw[if_neg h4] at he ⊢;refine⟨⟨?_,?_,?_⟩,by simp⟩
 ·intro a i;dsimp only;unfold upd2;split
  ·refine⟨cK (kY _ _) ab,oW (a1 m.to m.item).2 ?_⟩;unfold LotW cB;dsimp only;omega
  ·exact a1 a i
 ·intro i;rw[show(W.flows++[kV sh nf mix s W m]).length=W.flows.length+1 by simp];exact a0 i
 ·have:=hO.sunk
  simp only[ay,bh,cQ];omega
def StM.at(s:StM)(id:Int):StM:={ s with id:=id }
def StV.at(s:StV)(id:Int):StV:={ s with id:=id }
def wk0(S:LedM):Wk:=⟨S.stk,S.tot,[],[]⟩
def EH{S:LedM}(h:S.Ok):(wk0 S).Ok S.flows.length:=⟨h.stk,fun i=>by have:=h.tot i;simpa [wk0] using this,by simp[wk0]⟩
structure StIn (s:StV):Prop where
 kind:lr s.kind
 len:s.moves.length≤1000000
 cap:s.moves.length≤s.mcap
 rule:I64 s.rule
 parts:∀m∈s.moves,m.m.parts.length≤1000000
def aO(S:LedM):Int:=S.shard*4294967296+(S.steps.length:Int)
def bA(c:CatM)(i:Int):Bool:=c.items[i.toNat]!.mixed
noncomputable def tryM(S:LedM)(s:StM):Int×Wk :=
 if 65536≤S.steps.length then(4,wk0 S)
 else if ¬mI S.cat S.now s then(1,wk0 S)
 else iW S.shard S.flows.length (bA S.cat) (s.at (aO S)) (wk0 S) s.moves
abbrev CY:=ay7 [.ev 13,.ev 14,.ef 15]
def LO{φ ψ:Prop}(k:ψ)(h:Hid ψ→φ:=by intro k;(repeat (first|refine aa ?_|intro zzz|refine G.dr 62 6 CY ?_));(repeat revert zzz);exact Hid.out k):φ:=h ⟨k⟩
def Gy{L:LH}(b:Nat)(S:LedM)(hS:S.Ok)(hc:S.cat.Ok)(x:LedX)(hF:LedF S x)(s:StV)(hs:StIn s)(hT:∀mx,TakeC mx) :
  Tri ai 64 #[ax b,aN (aT s)] (ledL b S.shard x (stM s::stP s::L)) (fun v L' =>
   ((tryM S s.m).1≠0∧v=.tuple #[.pointer none,ac (tryM S s.m).1]∧L' = ledL b S.shard x (stM s::stP s::L)) ∨
   ((tryM S s.m).1=0∧∃bc s' z,v=.tuple #[ax bc,ac 0]∧(s'.m=s.m.at (aO S)∧WkF x z (tryM S s.m).2)∧L' = chL b bc s' z (ledL b S.shard x (stM s'::stP s'::stM s::stP s::L)))):=by
 obtain⟨a4,b1⟩:=hS.shard;have d1:=hS.steps;have d0:=hS.flows;have c3:x.steps.length=S.steps.length:=by rw[←hF.steps];simp
 have b2:x.flows.length=S.flows.length:=by rw[←hF.flows];simp
 have hB:=hF.catB;have c4:=hs.len;have a8:=hF.cat;have c5:=hB.items;have a9:xnow x=S.now:=IL hF;have b3:bO x=bA S.cat:=by funext i;unfold bO bA;rw[←a8];rfl
 refine Tri.bd ?_;simp only[ledL,bJ];by_cases h1:65536≤S.steps.length
 ·have e:tryM S s.m=(4,wk0 S):=by unfold tryM;rw[if_pos h1]
  rw[e];refine LO ?_;intros;exact KX.d7 al ae (.inl ⟨by dsimp only;omega,rfl,rfl⟩)
 refine LO ?_;intros;refine GO.ent (Ent.at (A:=catP x.cat) (Ent.refl _)) ?_;refine GO.cr (Ff (b:=b) (sh:=S.shard) (x:=x) s hs.kind (a8▸hc) hB ab c4 hs.cap hs.rule) ?_;rw[a8,a9];by_cases h2:mI S.cat S.now s.m
 case neg =>
  have e:tryM S s.m=(1,wk0 S):=by unfold tryM;rw[if_neg h1,if_pos h2]
  rw[e,aG h2];refine LO ?_;intros;exact KX.d7 al ae (.inl ⟨by dsimp only;omega,rfl,rfl⟩)
 have e:tryM S s.m=iW S.shard S.flows.length (bA S.cat) (s.m.at (aO S)) (wk0 S) s.m.moves:=by unfold tryM;rw[if_neg h1,if_neg (fun h=>h h2)]
 rw[e,aS h2];have b4:s.moves.length≤64:=by have:=h2.2.2.1.2;simpa [StV.m] using this
 refine LO ?_;intros;refine GO.ent (Ent.at (A:=stM s) (Ent.d7 (Ent.at (A:=stP s) (Ent.refl _)))) ?_;refine GO.ca (qF s b4 hs.parts) ?_;rintro _ _⟨s',rfl,b7,rfl⟩;have a7:s'.moves.map MvV.m=s.m.moves:=congrArg StM.moves b7;have c6:s'.moves.length=s.moves.length:=by have:=congrArg List.length a7;simpa [StV.m] using this
 have c2:s'.kind=s.kind:=congrArg StM.kind b7;simp only[aT];refine LO ?_;intros;refine GO.ef (Ef.d9 kvP Stk.v (.inl rfl)) ag ?_;rintro _ _⟨cs,rfl,rfl⟩;refine LO ?_;intros;refine GO.ef (Ef.d9 kvI encN (.inl rfl)) ag ?_;rintro _ _⟨ct,rfl,rfl⟩;refine LO ?_;intros;refine GO.ef (Ef.d9 kvI Stk.v (.inl rfl)) ag ?_;rintro _ _⟨ci,rfl,rfl⟩;refine LO ?_;intros;refine GO.ef (Ef.d9 kvI Stk.v (.inl rfl)) ag ?_;rintro _ _⟨cr,rfl,rfl⟩;refine LO ?_;intros;rename_i bc;have c8:S.shard*4294967296+(x.steps.length:Int)=aO S:=by unfold aO;rw[c3]
 rw[c8]
 have a5:(s'.at (aO S)).m=s.m.at (aO S):=by
  show StM.at s'.m (aO S)=_;rw[b7]
 have a6:WkF x ⟨cs,ct,ci,cr,[],[],[],none,0,[],none,0⟩ (wk0 S):=⟨fun a i=>hF.stk a i,fun i=>hF.tot i,rfl,rfl⟩
 refine G.loop (α:=Nat×ChX×Wk) (fun g=>g.1≤s'.moves.length∧WkF x g.2.1 g.2.2∧g.2.2.Ok x.flows.length∧g.2.2.flows.length=g.1∧iW S.shard S.flows.length (bA S.cat) (s.m.at (aO S)) (wk0 S) s.m.moves=iW S.shard S.flows.length (bA S.cat) (s.m.at (aO S)) g.2.2 (s.m.moves.drop g.1))
  (fun g=>[(0,ax b),(4,.pointer none),(5,ac 0),(6,ax bc),(48,ah s'.mad s'.moves.length s'.mcap),(49,ac (s'.moves.length:Int)),(50,ac (g.1:Int))])
  (fun g=>chL b bc (s'.at (aO S)) g.2.1 (ledL b S.shard x (stM s'::stP s'::stM s::stP s::L))) (fun g=>s'.moves.length - g.1) (0,⟨cs,ct,ci,cr,[],[],[],none,0,[],none,0⟩,wk0 S) ⟨aw _,a6,b2▸EH hS,rfl,rfl⟩ av ?_ ?_
 ·simp only[chL,ledL,gj,bJ,StV.at,cQ];refine(Ent.d8 bL 11 cz).trans ?_;refine(Ent.d8 (encZ .i64) 1 tInt).trans ?_;refine(Ent.d9 (fun p:(Int×Int)×Stk=>stkP p.2)).trans ?_;refine(Ent.d9 flP).trans ?_;exact ae
 rintro⟨i,z,W⟩ ⟨hi,hW,hO,b9,a1⟩;dsimp only at hi hW hO b9 a1 ⊢;by_cases b8:i<s'.moves.length
 case neg =>
  have b6:s.m.moves.drop i=[]:=bC (by rw[←a7,aA];omega);rw[b6] at a1;rw[a1];simp only[chL,ledL,gj,bJ];refine LO ?_;intros;exact KX.d7 al (Ent.refl _) (.inr ⟨rfl,bc,s'.at (aO S),z,rfl,⟨a5,hW⟩,rfl⟩)
 have c9:(i:Int).toNat=i:=ab;have c0:s'.moves[i]!.m=s.m.moves[i]!:=by rw[←a7];exact(el MvV.m b8).symm
 have c1:i<s.m.moves.length:=by rw[←a7,aA];exact b8
 have b6:s.m.moves.drop i=s'.moves[i]!.m::s.m.moves.drop (i+1):=by rw[c0];exact eZ c1
 have a3:=h2.2.2.2.1 s'.moves[i]!.m (by rw[c0];exact aI c1)
 have a2:MvFit x s'.moves[i]!.m:=by
  unfold iY at a3;rw[fE] at a3;have h3:=of_decide_eq_true a3;exact⟨⟨h3.1.1,by have h4:=h3.1.2;rw[←a8] at h4;exact h4⟩,h3.2.1,h3.2.2.1,h3.2.2.2.1,h3.2.2.2.2.1,h3.2.2.2.2.2.2.2⟩
 rw[b6] at a1;have b0:iW S.shard S.flows.length (bA S.cat) (s.m.at (aO S)) W (s'.moves[i]!.m::s.m.moves.drop (i+1))=if(ij S.shard S.flows.length (bA S.cat) (s.m.at (aO S)) W s'.moves[i]!.m).1=0 then iW S.shard S.flows.length (bA S.cat) (s.m.at (aO S)) (ij S.shard S.flows.length (bA S.cat) (s.m.at (aO S)) W s'.moves[i]!.m).2 (s.m.moves.drop (i+1)) else((ij S.shard S.flows.length (bA S.cat) (s.m.at (aO S)) W s'.moves[i]!.m).1,W):=rfl;rw[b0] at a1;have b5:=xN (sh:=S.shard) (mix:=bA S.cat) (s:=s.m.at (aO S)) (m:=s'.moves[i]!.m) hO hT a2.n a4;have a0:=Fy (L:=stM s'::stP s'::stM s::stP s::L) b bc S.shard x (s'.at (aO S)) z s'.moves[i]! W hW hO a2 (show lr s'.kind by rw[c2];exact hs.kind) hT c5 ⟨a4,b1⟩ ab ab;rw[a5,b3] at a0;rw[b2] at a0 b5;generalize ij S.shard S.flows.length (bA S.cat) (s.m.at (aO S)) W s'.moves[i]!.m=r at *;simp only[chL,ledL,gj,bJ,stM];refine LO ?_;intros;rw[c9];refine GO.ent Ent.drop ?_;refine GO.ca (a0) ?_;rintro _ _⟨z',rfl,c7,rfl⟩;by_cases hr:r.1=0
 ·rw[if_pos hr] at a1;simp only[chL,ledL,gj,bJ];refine LO ?_;intros;refine⟨(i+1,z',r.2),⟨by dsimp only;omega,c7 hr,by rw[b2];exact(b5 hr).1,by dsimp only;rw[(b5 hr).2,b9],a1⟩,by dsimp only;omega,?_,Ent.refl _⟩;dsimp only;rw[aV i];exact av
 ·rw[if_neg hr] at a1;rw[a1];simp only[chL,ledL,gj,bJ];refine LO ?_;intros;exact KX.en (.inl ⟨hr,rfl,rfl⟩)
