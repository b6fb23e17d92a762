/- Lemmas. -/
import Derived.Test.YtommnllbflbdmaaGreatDoorLan
set_option linter.all false
set_option maxHeartbeats 2000000
namespace Go.Proofs.YtommnllbflbdmaaGreatDoor
section
open Go.V
attribute [local irreducible] G GO GP GPW GPK Ev Ef EfR Ent CB GB Enters
theorem GL(m:List (Int×Int))(k d:Int):((@List.lookup _ _ instBEqOfDecidableEq k m).map encN).getD (ab d)=ab ((glk m k).getD d):=by
 unfold glk;cases @List.lookup _ _ instBEqOfDecidableEq k m<;>rfl
abbrev flV(f:FlM)(pad:OA)(pcap:Nat)(mad:OA)(mcap:Nat):FlV:=⟨f,pad,pcap,mad,mcap⟩
abbrev xP:List Stp:=[.ev 0,.ev 1,.ev 2,.ev 3,.ev 4,.ev 5,.ev 6,.ev 7,.ev 8,.ev 9,.ev 10,.ev 11]
abbrev xO:List Stp:=[.ev 0,.ev 1,.ev 2,.ev 3,.ev 4,.ev 5,.ev 6,.ev 7,.ev 8,.ev 9,.ev 10]
abbrev vP:List Stp:=[.ev 0,.ev 1,.ev 2,.ev 3,.ev 4,.ev 5,.ev 6,.ef 7]
abbrev vO:List Stp:=[.ev 0,.ev 1,.ev 2,.ev 3,.ev 4,.ev 5,.ev 6,.ev 7,.ev 8,.ev 9,.ev 10,.ev 11,.ev 12,.ev 13,.ev 14,.ev 15,.ev 16,.ev 17,.ev 18,.ev 19,.ev 20,.ev 21,.ev 22,.ev 23,.ev 24,.ev 25,.ev 26,.ev 27,.ev 28,.ev 29,.ev 30,.ev 31,.ev 32,.ev 33,.ev 34,.ev 35,.ev 36,.ev 37,.ev 38,.ev 39,.ev 40,.ev 41,.ev 42,.ev 43,.ev 44,.ev 45,.ev 46,.ev 47,.ev 48,.ev 49,.ev 50,.ev 51,.ev 52,.ef 53,.ef 54]
abbrev vN:List Stp:=[.ev 0,.ev 1,.ev 2,.ev 3,.ev 4,.ev 5,.ef 6,.ef 7,.ev 8,.ev 9,.ef 10]
abbrev vM:List Stp:=[.ev 0,.ev 1,.ev 2,.ev 3,.ev 4,.ev 5,.ev 6,.ef 7,.ef 8,.ev 9,.ev 10,.ef 11]
abbrev vL:List Stp:=[.ev 0,.ev 1,.ev 2,.ev 3,.ev 4,.ev 5,.ev 6,.ev 7,.ev 8,.ev 9,.ev 10,.ev 11,.ev 12,.ev 13,.ev 14,.ef 15,.ef 16]
theorem bV{φ ψ:Prop}(k:ψ)(h:Hid ψ→φ:=by intro k;(with_reducible apply G.d8);first|refine G.d7 (N:=186) (id:=4) xP mixed ap (Hid.out k)|refine G.d7 (N:=186) (id:=6) xO mixed ap (Hid.out k)|refine G.d7 (N:=186) (id:=13) vP mixed ap (Hid.out k)|refine G.d7 (N:=186) (id:=14) vO mixed ap (Hid.out k)|refine G.d7 (N:=186) (id:=17) vN mixed ap (Hid.out k)|refine G.d7 (N:=186) (id:=19) vM mixed ap (Hid.out k)|refine G.d7 (N:=186) (id:=24) vL mixed ap (Hid.out k)):φ:=h ⟨k⟩
theorem CT{L:LH}(b bc:Nat)(sh:Int)(x:LedX)(s:StV)(z:ChX)(m:MvV)(W:Wk)(hW:WkF x z W)(hO:W.Ok x.flows.length)(h:MvFit x m.m)(hk:kC s.kind)(hT:∀mx,TakeC mx)(hil:x.cat.items.length≤64)(hsh:0≤sh∧sh<12)(hxf:x.flows.length≤4194304)(hWf:W.flows.length<64) :
  Tri ah 124 #[au bc,.agg (aM m).toArray] (chL b bc s z (ledL b sh x L)) (fun v L'=>∃z',v=ab (gG sh x.flows.length (dK x) s.m W m.m).1 ∧
   ((gG sh x.flows.length (dK x) s.m W m.m).1=0→WkF x z' (gG sh x.flows.length (dK x) s.m W m.m).2)∧L' = chL b bc s z' (ledL b sh x L)):=by
 obtain⟨hs1,hs2⟩:=hsh;obtain⟨hn1,hn2⟩:=h.n;have hne:=h.ne;obtain⟨ht1,ht2⟩:=hO.tot m.m.item;have hzl:z.flows.length=W.flows.length:=by rw[←hW.flows];simp
 have hkl:z.sunk.length≤64:=by rw[hW.sunk];have:=hO.sunk;omega
 refine Tri.body (args:=[au bc,.agg (aM m).toArray]) 186 JT Tryz.func124 rfl rfl rfl (by simp) ?_;repeat first|refine aa ?_|intro _|refine bV ?_
 rename_i b3;refine GO.ent (L':=chL b bc s z (ledL b sh x (obj b3 tMv (aM m)::L))) (by simp only[chL,ledL];exact ag) ?_;refine GO.ef (Ef.d7 (zo b bc sh x s z m W hW hO h hk hT hil) rfl) ae ?_;rintro _ _ (⟨h1,rfl,rfl⟩|⟨h1,pad,pcap,stk',rfl,hstk,rfl⟩)
 ·have e:gG sh x.flows.length (dK x) s.m W m.m=(10,W):=by unfold gG;rw[if_pos h1]
  rw[e];repeat first|refine aa ?_|intro _|refine bV ?_
  exact KX.d7 ai (by simp only[chL,ledL];exact ag) ⟨z,rfl,(fun h=>absurd (show(_:Int)=0 from h) (by dsimp only;omega)),rfl⟩
 have hid:cN sh x.flows.length W=sh*4294967296+(x.flows.length:Int)+(z.flows.length:Int):=by unfold cN;rw[hzl]
 have hmv:gG sh x.flows.length (dK x) s.m W m.m=if dd W m.m>1099511627776 then(4,W)
   else if m.m.to=0 then(0,⟨ga (dK x) W m.m,upd W.tot m.m.item (dd W m.m),W.flows++[kh sh x.flows.length (dK x) s.m W m.m],W.sunk++[cN sh x.flows.length W]⟩)
   else if 4096≤(ga (dK x) W m.m m.m.to m.m.item).length then(4,W)
   else(0,⟨upd2 (ga (dK x) W m.m) m.m.to m.m.item (be (ga (dK x) W m.m m.m.to m.m.item) (cN sh x.flows.length W,0,m.m.n)),upd W.tot m.m.item (dd W m.m),W.flows++[kh sh x.flows.length (dK x) s.m W m.m],W.sunk⟩):=by unfold gG;rw[if_neg h1]
 have hnf:kh sh x.flows.length (dK x) s.m W m.m=⟨cN sh x.flows.length W,s.id,s.kind,s.tick,s.actor,m.m.frm,m.m.to,m.m.item,m.m.n,iT (dK x) W m.m,du s.m W m.m⟩:=rfl;rw[hmv];generalize kh sh x.flows.length (dK x) s.m W m.m=fl at *;generalize iT (dK x) W m.m=pts at *;have hto:dd W m.m=W.tot m.m.item+(if m.m.frm=0 then m.m.n else 0) - (if m.m.to=0 then m.m.n else 0):=rfl;have htt:=hW.tot m.m.item;simp only[chL,ledL,fy];repeat first|refine aa ?_|intro _|refine bV ?_
 refine GPW.evL (Ev.A2 rfl rfl) ae ?_;repeat first|((fail_if_success (with_reducible refine G.e7 5 ?_));(with_reducible apply G.seq))|refine bB ?_|intro _|refine bV ?_
 refine G.d9 (α:=Unit) (fun _=>True) (fun _=>[(0,au bc),(3,au b3),(4,ab 0),(5,.slice pad pts.length pcap),(7,ab (W.tot m.m.item))]) (fun _=>isl an 3 pad pts::chL b bc s { z with stk:=stk' } (ledL b sh x (obj b3 tMv (aM m)::L))) ?_ ?_
 ·cases hl:@List.lookup _ _ instBEqOfDecidableEq m.m.item z.tot with
  | some t =>
   simp only[gk,Option.getD_some,Option.isSome_some];have e:W.tot m.m.item=t:=by rw[←htt];unfold glk;rw[hl];rfl
   rw[e];repeat first|refine aa ?_|intro _|refine bV ?_
   exact⟨(),trivial,aj,Ent.refl _⟩
  | none =>
   simp only[fJ,fA,Option.isSome_none];have e:W.tot m.m.item=(glk x.tot m.m.item).getD 0:=by rw[←htt];unfold glk;rw[hl];rfl
   rw[e];repeat first|refine aa ?_|intro _|refine bV ?_
   refine GPW.evL (Ev.e8 rfl rfl) ae ?_;rw[GL];repeat first|refine aa ?_|intro _|refine bV ?_
   exact⟨(),trivial,aj,Ent.refl _⟩
 rintro _ _;simp only[chL,ledL,fy];refine G.d9 (α:=Unit) (fun _=>True) (fun _=>[(0,au bc),(3,au b3),(4,ab 0),(5,.slice pad pts.length pcap),(7,ab (W.tot m.m.item+(if m.m.frm=0 then m.m.n else 0)))]) (fun _=>isl an 3 pad pts::chL b bc s { z with stk:=stk' } (ledL b sh x (obj b3 tMv (aM m)::L))) ?_ ?_
 ·by_cases h0:m.m.frm=0
  ·rw[if_pos h0];repeat first|refine aa ?_|intro _|refine bV ?_
   exact⟨(),trivial,aj,Ent.refl _⟩
  ·rw[if_neg h0,Int.add_zero];repeat first|refine aa ?_|intro _|refine bV ?_
   exact⟨(),trivial,aj,Ent.refl _⟩
 rintro _ _;simp only[chL,ledL,fy];have hb1 : -9223372036854775808+1099511627776≤W.tot m.m.item+(if m.m.frm=0 then m.m.n else 0)∧W.tot m.m.item+(if m.m.frm=0 then m.m.n else 0)≤2199023255552:=by split<;>omega
 obtain⟨hb1,hb2⟩:=hb1;refine G.d9 (α:=Unit) (fun _=>True) (fun _=>[(0,au bc),(3,au b3),(4,ab 0),(5,.slice pad pts.length pcap),(7,ab (dd W m.m))]) (fun _=>isl an 3 pad pts::chL b bc s { z with stk:=stk' } (ledL b sh x (obj b3 tMv (aM m)::L))) ?_ ?_
 ·rw[hto];generalize W.tot m.m.item+(if m.m.frm=0 then m.m.n else 0)=t1 at *;by_cases h0:m.m.to=0
  ·rw[if_pos h0];repeat first|refine aa ?_|intro _|refine bV ?_
   exact⟨(),trivial,aj,Ent.refl _⟩
  ·rw[if_neg h0,fj];repeat first|refine aa ?_|intro _|refine bV ?_
   exact⟨(),trivial,aj,Ent.refl _⟩
 rintro _ _;simp only[chL,ledL,fy];by_cases hbig:dd W m.m>1099511627776
 ·rw[if_pos hbig];repeat first|refine aa ?_|intro _|refine bV ?_
  exact KX.d7 ai ag ⟨{ z with stk:=stk' },rfl,(fun h=>absurd (show(_:Int)=0 from h) (by dsimp only;omega)),rfl⟩
 rw[if_neg hbig];clear hto hb1 hb2;repeat first|refine aa ?_|intro _|refine bV ?_
 refine GPW.efu (Ef.f8 (enc:=encN) (e:=dd W m.m) rfl rfl rfl rfl) ?_;rintro _ _ rfl;repeat first|((fail_if_success (with_reducible refine G.e7 15 ?_));(with_reducible apply G.seq))|refine bB ?_|intro _|refine bV ?_
 rename_i b9
 have hcell:∀(mad:OA) (mcap:Nat),aL (flV fl pad pcap mad mcap)=[ab (sh*4294967296+(x.flows.length:Int)+(z.flows.length:Int)),ab s.id,ab s.kind,ab s.tick,ab s.actor,ab m.m.frm,ab m.m.to,ab m.m.item,ab m.m.n,.slice pad pts.length pcap,.slice mad (du s.m W m.m).length mcap]:=by
  intro mad mcap;rw[hnf,hid];rfl
 refine G.d9 (α:=OA×Nat) (fun _=>True) (fun _=>[(0,au bc),(3,au b3),(4,ab 0),(9,au b9)]) (fun g=>obj b9 bz (aL (flV fl pad pcap g.1 g.2))::isl (encZ .i64) 1 g.1 (du s.m W m.m)::isl an 3 pad pts::chL b bc s { z with stk:=stk',tot:=gins z.tot m.m.item (dd W m.m) } (ledL b sh x (obj b3 tMv (aM m)::L))) ?_ ?_
 ·by_cases hmd:m.m.frm=0∧s.kind=4
  ·obtain⟨hmd1,hmd2⟩:=hmd;have e:du s.m W m.m=z.sunk:=by unfold du;rw[if_pos ⟨hmd1,.inl hmd2⟩,hW.sunk]
   repeat first|refine aa ?_|intro _|refine bV ?_
   refine GO.ef (Ef.d7 (jV z.kad z.sunk.length z.kcap z.sunk rfl ac) rfl) ae ?_;rintro _ _⟨mad,mcap,rfl,rfl⟩;repeat first|refine aa ?_|intro _|refine bV ?_
   refine⟨(mad,mcap),trivial,aj,?_⟩;rw[hcell,e];refine(Ent.frz mad).trans ?_;exact ag
  ·have hk10:¬s.kind=10:=by unfold kC at hk;omega
   have e:du s.m W m.m=[]:=by
    unfold du
    exact if_neg (fun h=>by
     obtain⟨h3,h4⟩:=h;rcases h4 with h4|h4
     ·exact hmd ⟨h3,h4⟩
     ·exact hk10 h4)
   by_cases h0:m.m.frm=0
   ·have h04:¬s.kind=4:=fun h=>hmd ⟨h0,h⟩;repeat first|refine aa ?_|intro _|refine bV ?_
    refine⟨(none,0),trivial,aj,?_⟩;rw[hcell,e];refine Ent.trans ?_ (Ent.d7 (Ent.e9 (encZ .i64) 1 none));exact ag
   ·repeat first|refine aa ?_|intro _|refine bV ?_
    refine⟨(none,0),trivial,aj,?_⟩;rw[hcell,e];refine Ent.trans ?_ (Ent.d7 (Ent.e9 (encZ .i64) 1 none));exact ag
 rintro⟨mad,mcap⟩ _;simp only[chL,ledL,fy];repeat first|refine aa ?_|intro _|refine bV ?_
 refine GPW.ef (Ef.d8 (enc:=aL) (e:=flV fl pad pcap mad mcap) rfl rfl rfl rfl rfl (by rfl) (fP _) ac ac) ae ?_;rintro _ _⟨fad2,fcap2,rfl,rfl⟩;repeat first|((fail_if_success (with_reducible refine G.e7 18 ?_));(with_reducible apply G.seq))|refine bB ?_|intro _|refine bV ?_
 have hflid:fl.id=cN sh x.flows.length W:=by rw[hnf]
 have hfln:fl.n=m.m.n:=by rw[hnf]
 have hflm:fl.made=du s.m W m.m:=by rw[hnf]
 have hflp:fl.parts=pts:=by rw[hnf]
 refine G.ent (L':=obj b9 bz (aL (flV fl pad pcap mad mcap))::chL b bc s { z with stk:=stk',tot:=gins z.tot m.m.item (dd W m.m),flows:=z.flows++[flV fl pad pcap mad mcap],fad:=fad2,fcap:=fcap2 } (ledL b sh x (obj b3 tMv (aM m)::L))) ?_ ?_
 ·simp only[chL,ledL,fy];refine(Ent.at (A:=isl (encZ .i64) 1 mad (du s.m W m.m)) (Ent.refl _)).trans ?_;refine(Ent.at (A:=isl an 3 pad pts) (Ent.refl _)).trans ?_;rw[←hflp,←hflm];refine(Ent.f7 (bT _ _ _ _) (bT _ _ _ _)).trans ?_;refine(Ent.at (A:=allP flP z.flows) (Ent.refl _)).trans ?_;refine((Ent.d7 (Ent.g7 (f:=flP) (x:=flV fl pad pcap mad mcap) lK)).trans (Ent.g8 lK)).trans ?_;exact ag
 have hWT:∀i,(glk (gins z.tot m.m.item (dd W m.m)) i).getD ((glk x.tot i).getD 0)=upd W.tot m.m.item (dd W m.m) i:=by
  intro i;unfold glk upd;have hq:=im (m:=z.tot) (k:=m.m.item) (q:=i) (a:=dd W m.m);refine(congrArg (fun o:Option Int=>o.getD ((glk x.tot i).getD 0)) hq).trans ?_;by_cases hi:i=m.m.item
  ·rw[if_pos hi,if_pos hi];rfl
  ·rw[if_neg hi,if_neg hi];exact hW.tot i
 have hWL:(z.flows++[flV fl pad pcap mad mcap]).map FlV.m=W.flows++[fl]:=by rw[aZ,hW.flows];rfl
 simp only[chL,ledL,fy];by_cases h0:m.m.to=0
 ·rw[if_pos h0];repeat first|refine aa ?_|intro _|refine bV ?_
  refine GPW.ef (Ef.d8 (enc:=encZ .i64) (e:=(flV fl pad pcap mad mcap).m.id) rfl rfl rfl rfl rfl (by rfl) (by simp[encZ,Value.oneCell']) ac ac) ae ?_;rintro _ _⟨kad2,kcap2,rfl,rfl⟩;repeat first|refine aa ?_|intro _|refine bV ?_
  refine KX.d7 ai ?_ ⟨{ z with stk:=stk',tot:=gins z.tot m.m.item (dd W m.m),flows:=z.flows++[flV fl pad pcap mad mcap],fad:=fad2,fcap:=fcap2,sunk:=z.sunk++[fl.id],kad:=kad2,kcap:=kcap2 },rfl,fun _=>⟨hstk,hWT,hWL,?_⟩,rfl⟩
  ·simp only[chL,ledL,fy];exact ag
  ·show z.sunk++[fl.id]=W.sunk++[cN sh x.flows.length W];rw[hW.sunk,hflid]
 rw[if_neg h0];repeat first|refine aa ?_|intro _|refine bV ?_
 have hcs:∀q,curS x { z with stk:=stk',tot:=gins z.tot m.m.item (dd W m.m),flows:=z.flows++[flV fl pad pcap mad mcap],fad:=fad2,fcap:=fcap2 } q=curS x { z with stk:=stk' } q:=fun _=>rfl;refine GO.ent (L':=stkP (curS x { z with stk:=stk' } (m.m.to,m.m.item))::obj b9 bz (aL (flV fl pad pcap mad mcap))::chL b bc s { z with stk:=stk',tot:=gins z.tot m.m.item (dd W m.m),flows:=z.flows++[flV fl pad pcap mad mcap],fad:=fad2,fcap:=fcap2 } (ledL b sh x (obj b3 tMv (aM m)::L))) ?_ ?_
 ·simp only[chL,ledL,fy];refine(Ent.at (A:=allP (fun p:(Int×Int)×Stk=>stkP p.2) stk') (Ent.refl _)).trans ?_;refine(Ent.d7 (Ent.at (A:=allP (fun p:(Int×Int)×Stk=>stkP p.2) x.stk) (Ent.refl _))).trans ?_;refine(wQ (x:=x) (z:={ z with stk:=stk' }) (m.m.to,m.m.item)).trans ?_;exact ag
 simp only[chL,ledL];refine GO.ef (Ef.d7 (px (b:=b) (sh:=sh) (x:=x) (s:=s) (z:={ z with stk:=stk',tot:=gins z.tot m.m.item (dd W m.m),flows:=z.flows++[flV fl pad pcap mad mcap],fad:=fad2,fcap:=fcap2 }) m.m.to m.m.item) rfl) ae ?_;rintro _ _⟨rfl,rfl⟩;rw[hcs];have hcl:=hstk m.m.to m.m.item
 have hok:∀a i,((ga (dK x) W m.m a i).length≤4096∧∀l∈ga (dK x) W m.m a i,LotOk l):=by
  intro a i;unfold ga;split
  ·exact hO.stk a i
  ·rename_i hf0;unfold upd2;split
   ·have hsum:m.m.n≤lsum (W.stk m.m.frm m.m.item):=by
     rcases Int.lt_or_le (lsum (W.stk m.m.frm m.m.item)) m.m.n with hlt|hle
     ·exact absurd ⟨hf0,hlt⟩ h1
     ·exact hle
    obtain⟨o1,o2⟩:=hO.stk m.m.frm m.m.item;exact⟨cB (jF _ _ _).2 o1,(sw o2 ((hT _).bd _ _ o2 ac hsum)).2⟩
   ·exact hO.stk a i
 obtain⟨hk1,hk2⟩:=hok m.m.to m.m.item;rw[←hcl] at hk1 hk2 ⊢;generalize hsk:curS x { z with stk:=stk' } (m.m.to,m.m.item)=sk at *;simp only[Stk.v,fy];by_cases hbl:4096≤sk.lots.length
 ·rw[if_pos hbl];repeat first|refine aa ?_|intro _|refine bV ?_
  refine KX.d7 ai ?_ ⟨{ z with stk:=stk',tot:=gins z.tot m.m.item (dd W m.m),flows:=z.flows++[flV fl pad pcap mad mcap],fad:=fad2,fcap:=fcap2 },rfl,(fun h=>absurd (show(_:Int)=0 from h) (by dsimp only;omega)),rfl⟩;exact ag
 rw[if_neg hbl];repeat first|refine aa ?_|intro _|refine bV ?_
 refine GPW.ent (Ent.at (A:=stkP sk) (Ent.refl _)) ?_
 have hlot:LotOk ((flV fl pad pcap mad mcap).m.id,0,(flV fl pad pcap mad mcap).m.n):=by
  show LotOk (fl.id,0,fl.n);rw[hflid,hfln,hid];unfold LotOk;dsimp only;omega
 refine GPW.ef (Ef.d7 (Da sk.ad sk.cap sk.lots ((flV fl pad pcap mad mcap).m.id,0,(flV fl pad pcap mad mcap).m.n) hk1 hk2 hlot) rfl) ae ?_;rintro _ _⟨ad2,cap2,rfl,rfl⟩;repeat first|refine aa ?_|intro _|refine bV ?_
 refine GPW.efu (Ef.f8 (enc:=Stk.v) (e:=(⟨ad2,cap2,be sk.lots (fl.id,0,fl.n)⟩:Stk)) rfl rfl rfl rfl) ?_;rintro _ _ rfl;repeat first|refine aa ?_|intro _|refine bV ?_
 refine KX.d7 ai ?_ ⟨{ z with stk:=gins stk' (m.m.to,m.m.item) ⟨ad2,cap2,be sk.lots (fl.id,0,fl.n)⟩,tot:=gins z.tot m.m.item (dd W m.m),flows:=z.flows++[flV fl pad pcap mad mcap],fad:=fad2,fcap:=fcap2 },rfl,fun _=>⟨?_,hWT,hWL,hW.sunk⟩,rfl⟩
 ·simp only[chL,ledL,fy];refine(Ent.frz ad2).trans ?_;refine(Ent.at (A:=allP (fun p:(Int×Int)×Stk=>stkP p.2) stk') (Ent.refl _)).trans ?_;refine(Ent.at (A:=stkP ⟨ad2,cap2,be sk.lots (fl.id,0,fl.n)⟩) (iH (k:=(m.m.to,m.m.item)))).trans ?_;exact ag
 ·intro a i;show(curS x { ({ z with stk:=stk' }:ChX) with stk:=gins ({ z with stk:=stk' }:ChX).stk (m.m.to,m.m.item) ⟨ad2,cap2,be sk.lots (fl.id,0,fl.n)⟩ } (a,i)).lots=_;rw[wP];dsimp only;unfold upd2;by_cases hq:a=m.m.to∧i=m.m.item
  ·obtain⟨rfl,rfl⟩:=hq;rw[if_pos rfl,if_pos ⟨rfl,rfl⟩];dsimp only;rw[hflid,hfln]
  ·rw[if_neg (fun h=>hq (by simpa using h)),if_neg hq];exact hstk a i
def iu(sh:Int)(nf:Nat)(mix:Int→Bool)(s:StM):Wk→List MvM→Int×Wk
 | W,[]=>(0,W)
 | W,m::ms=>if(gG sh nf mix s W m).1=0 then iu sh nf mix s (gG sh nf mix s W m).2 ms else((gG sh nf mix s W m).1,W)
theorem Af{mix:Int→Bool}{W:Wk}{m:MvM}{nf:Nat}(hO:W.Ok nf)(hT:∀mx,TakeC mx)(hn:1≤m.n)(h1:¬(m.frm≠0∧lsum (W.stk m.frm m.item)<m.n)) :
  ∀a i,((ga mix W m a i).length≤4096∧∀l∈ga mix W m a i,LotOk l):=by
 intro a i;unfold ga;split
 ·exact hO.stk a i
 ·rename_i hf0;unfold upd2;split
  ·have hsum:m.n≤lsum (W.stk m.frm m.item):=by
    rcases Int.lt_or_le (lsum (W.stk m.frm m.item)) m.n with hlt|hle
    ·exact absurd ⟨hf0,hlt⟩ h1
    ·exact hle
   obtain⟨o1,o2⟩:=hO.stk m.frm m.item;exact⟨cB (jF _ _ _).2 o1,(sw o2 ((hT _).bd _ _ o2 ac hsum)).2⟩
  ·exact hO.stk a i
theorem wh{sh:Int}{nf:Nat}{mix:Int→Bool}{s:StM}{W:Wk}{m:MvM}(hO:W.Ok nf)(hT:∀mx,TakeC mx)(hn:1≤m.n∧m.n≤1099511627776)(hsh:0≤sh)(he:(gG sh nf mix s W m).1=0) :
  (gG sh nf mix s W m).2.Ok nf∧(gG sh nf mix s W m).2.flows.length=W.flows.length+1:=by
 obtain⟨hn1,hn2⟩:=hn;unfold gG at he ⊢;by_cases h1:m.frm≠0∧lsum (W.stk m.frm m.item)<m.n
 ·rw[if_pos h1] at he;exact absurd (show(10:Int)=0 from he) ac
 rw[if_neg h1] at he ⊢;by_cases h2:dd W m>1099511627776
 ·rw[if_pos h2] at he;exact absurd (show(4:Int)=0 from he) ac
 rw[if_neg h2] at he ⊢;have hst:=Af (mix:=mix) hO hT hn1 h1
 have htot:∀i,-(((nf:Int)+(W.flows.length+1:Nat))*1099511627776)≤upd W.tot m.item (dd W m) i∧upd W.tot m.item (dd W m) i≤1099511627776:=by
  intro i;unfold upd;split
  ·obtain⟨o1,o2⟩:=hO.tot m.item;refine⟨?_,ac⟩;unfold dd;split<;>split<;>omega
  ·obtain⟨o1,o2⟩:=hO.tot i;omega
 by_cases h3:m.to=0
 ·rw[if_pos h3] at he ⊢;refine⟨⟨hst,?_,?_⟩,by simp⟩
  ·intro i;rw[show(W.flows++[kh sh nf mix s W m]).length=W.flows.length+1 by simp];exact htot i
  ·have:=hO.sunk
   simp only[az,bD,cH];omega
 rw[if_neg h3] at he ⊢;by_cases h4:4096≤(ga mix W m m.to m.item).length
 ·rw[if_pos h4] at he;exact absurd (show(4:Int)=0 from he) ac
 rw[if_neg h4] at he ⊢;refine⟨⟨?_,?_,?_⟩,by simp⟩
 ·intro a i;dsimp only;unfold upd2;split
  ·refine⟨cB (kj _ _) ac,nR (hst m.to m.item).2 ?_⟩;unfold LotW cN;dsimp only;omega
  ·exact hst a i
 ·intro i;rw[show(W.flows++[kh sh nf mix s W m]).length=W.flows.length+1 by simp];exact htot i
 ·have:=hO.sunk
  simp only[az,bD,cH];omega
def StM.at(s:StM)(id:Int):StM:={ s with id:=id }
def StV.at(s:StV)(id:Int):StV:={ s with id:=id }
def wk0(S:LedM):Wk:=⟨S.stk,S.tot,[],[]⟩
theorem Cf{S:LedM}(h:S.Ok):(wk0 S).Ok S.flows.length:=⟨h.stk,fun i=>by have:=h.tot i;simpa [wk0] using this,by simp[wk0]⟩
structure StIn (s:StV):Prop where
 kind:kC s.kind
 len:s.moves.length≤1000000
 cap:s.moves.length≤s.mcap
 rule:I64 s.rule
 parts:∀m∈s.moves,m.m.parts.length≤1000000
def aR(S:LedM):Int:=S.shard*4294967296+(S.steps.length:Int)
def bK(c:CatM)(i:Int):Bool:=c.items[i.toNat]!.mixed
noncomputable def tryM(S:LedM)(s:StM):Int×Wk :=
 if 65536≤S.steps.length then(4,wk0 S)
 else if ¬lI S.cat S.now s then(1,wk0 S)
 else iu S.shard S.flows.length (bK S.cat) (s.at (aR S)) (wk0 S) s.moves
abbrev AV:List Stp:=[.ev 0,.ev 1,.ev 2,.ev 3,.ev 4,.ev 5,.ev 6,.ev 7,.ev 8,.ev 9,.ev 10,.ev 11,.ev 12,.ev 13,.ev 14,.ef 15]
theorem dL{φ ψ:Prop}(k:ψ)(h:Hid ψ→φ:=by intro k;(with_reducible apply G.d8);first|refine G.d7 (N:=62) (id:=6) AV mixed ap (Hid.out k)):φ:=h ⟨k⟩
theorem DZ{L:LH}(b:Nat)(S:LedM)(hS:S.Ok)(hc:S.cat.Ok)(x:LedX)(hF:LedF S x)(s:StV)(hs:StIn s)(hT:∀mx,TakeC mx) :
  Tri ah 64 #[au b,.agg (aJ s).toArray] (ledL b S.shard x (stM s::stP s::L)) (fun v L' =>
   ((tryM S s.m).1≠0∧v=.tuple #[.pointer none,ab (tryM S s.m).1]∧L' = ledL b S.shard x (stM s::stP s::L)) ∨
   ((tryM S s.m).1=0∧∃bc s' z,v=.tuple #[au bc,ab 0]∧(s'.m=s.m.at (aR S)∧WkF x z (tryM S s.m).2)∧L' = chL b bc s' z (ledL b S.shard x (stM s'::stP s'::stM s::stP s::L)))):=by
 obtain⟨hsh1,hsh2⟩:=hS.shard;have hsl:=hS.steps;have hfl:=hS.flows;have hxs:x.steps.length=S.steps.length:=by rw[←hF.steps];simp
 have hxf:x.flows.length=S.flows.length:=by rw[←hF.flows];simp
 have hB:=hF.catB;have hml:=hs.len;have hcm:=hF.cat;have hil:=hB.items;have hnow:xnow x=S.now:=Gr hF;have hmix:dK x=bK S.cat:=by funext i;unfold dK bK;rw[←hcm];rfl
 refine Tri.body (args:=[au b,.agg (aJ s).toArray]) 62 en64 Tryz.func64 rfl rfl rfl (by simp) ?_;simp only[ledL,fm];by_cases h1:65536≤S.steps.length
 ·have e:tryM S s.m=(4,wk0 S):=by unfold tryM;rw[if_pos h1]
  rw[e];repeat first|refine aa ?_|intro _|refine dL ?_
  exact KX.d7 ai ag (.inl ⟨by dsimp only;omega,rfl,rfl⟩)
 repeat first|refine aa ?_|intro _|refine dL ?_
 refine GO.ent (Ent.at (A:=catP x.cat) (Ent.refl _)) ?_;refine GO.ef (Ef.d7 (Cy (b:=b) (sh:=S.shard) (x:=x) s hs.kind (hcm▸hc) hB ac hml hs.cap hs.rule) rfl) ae ?_;rintro _ _⟨rfl,rfl⟩;rw[hcm,hnow];by_cases h2:lI S.cat S.now s.m
 case neg =>
  have e:tryM S s.m=(1,wk0 S):=by unfold tryM;rw[if_neg h1,if_pos h2]
  rw[e,aF h2];repeat first|refine aa ?_|intro _|refine dL ?_
  exact KX.d7 ai ag (.inl ⟨by dsimp only;omega,rfl,rfl⟩)
 have e:tryM S s.m=iu S.shard S.flows.length (bK S.cat) (s.m.at (aR S)) (wk0 S) s.m.moves:=by unfold tryM;rw[if_neg h1,if_neg (fun h=>h h2)]
 rw[e,aU h2];have hl64:s.moves.length≤64:=by have:=h2.2.2.1.2;simpa [StV.m] using this
 repeat first|refine aa ?_|intro _|refine dL ?_
 refine GO.ent (Ent.at (A:=stM s) (Ent.d7 (Ent.at (A:=stP s) (Ent.refl _)))) ?_;refine GO.ef (Ef.d7 (wS s hl64 hs.parts) rfl) ae ?_;rintro _ _⟨s',rfl,hs',rfl⟩;have hsm:s'.moves.map MvV.m=s.m.moves:=congrArg StM.moves hs';have hsml:s'.moves.length=s.moves.length:=by have:=congrArg List.length hsm;simpa [StV.m] using this
 have hsk:s'.kind=s.kind:=congrArg StM.kind hs';simp only[aJ];repeat first|refine aa ?_|intro _|refine dL ?_
 refine GO.ef (Ef.f7 kvP Stk.v (.inl rfl)) ae ?_;rintro _ _⟨cs,rfl,rfl⟩;repeat first|refine aa ?_|intro _|refine dL ?_
 refine GO.ef (Ef.f7 kvI encN (.inl rfl)) ae ?_;rintro _ _⟨ct,rfl,rfl⟩;repeat first|refine aa ?_|intro _|refine dL ?_
 refine GO.ef (Ef.f7 kvI Stk.v (.inl rfl)) ae ?_;rintro _ _⟨ci,rfl,rfl⟩;repeat first|refine aa ?_|intro _|refine dL ?_
 refine GO.ef (Ef.f7 kvI Stk.v (.inl rfl)) ae ?_;rintro _ _⟨cr,rfl,rfl⟩;repeat first|refine aa ?_|intro _|refine dL ?_
 rename_i bc;have hid:S.shard*4294967296+(x.steps.length:Int)=aR S:=by unfold aR;rw[hxs]
 rw[hid]
 have hsat:(s'.at (aR S)).m=s.m.at (aR S):=by
  show StM.at s'.m (aR S)=_;rw[hs']
 have hcur0:WkF x ⟨cs,ct,ci,cr,[],[],[],none,0,[],none,0⟩ (wk0 S):=⟨fun a i=>hF.stk a i,fun i=>hF.tot i,rfl,rfl⟩
 refine G.loop (α:=Nat×ChX×Wk) (fun g=>g.1≤s'.moves.length∧WkF x g.2.1 g.2.2∧g.2.2.Ok x.flows.length∧g.2.2.flows.length=g.1∧iu S.shard S.flows.length (bK S.cat) (s.m.at (aR S)) (wk0 S) s.m.moves=iu S.shard S.flows.length (bK S.cat) (s.m.at (aR S)) g.2.2 (s.m.moves.drop g.1))
  (fun g=>[(0,au b),(4,.pointer none),(5,ab 0),(6,au bc),(48,.slice s'.mad s'.moves.length s'.mcap),(49,ab (s'.moves.length:Int)),(50,ab (g.1:Int))])
  (fun g=>chL b bc (s'.at (aR S)) g.2.1 (ledL b S.shard x (stM s'::stP s'::stM s::stP s::L))) (fun g=>s'.moves.length - g.1) (0,⟨cs,ct,ci,cr,[],[],[],none,0,[],none,0⟩,wk0 S) ⟨ao _,hcur0,hxf▸Cf hS,rfl,rfl⟩ aj ?_ ?_
 ·simp only[chL,ledL,fy,fm,StV.at,cH];refine(Ent.d8 aL 11 bz).trans ?_;refine(Ent.d8 (encZ .i64) 1 tInt).trans ?_;refine(Ent.e7 (fun p:(Int×Int)×Stk=>stkP p.2)).trans ?_;refine(Ent.e7 flP).trans ?_;exact ag
 rintro⟨i,z,W⟩ ⟨hi,hW,hO,hWl,hmv⟩;dsimp only at hi hW hO hWl hmv ⊢;by_cases hlt:i<s'.moves.length
 case neg =>
  have hdr:s.m.moves.drop i=[]:=bP (by rw[←hsm,aG];omega);rw[hdr] at hmv;rw[hmv];simp only[chL,ledL,fy,fm];repeat first|refine aa ?_|intro _|refine dL ?_
  exact KX.d7 ai (Ent.refl _) (.inr ⟨rfl,bc,s'.at (aR S),z,rfl,⟨hsat,hW⟩,rfl⟩)
 have hii:(i:Int).toNat=i:=ac;have hgm:s'.moves[i]!.m=s.m.moves[i]!:=by rw[←hsm];exact(eo MvV.m hlt).symm
 have hlm:i<s.m.moves.length:=by rw[←hsm,aG];exact hlt
 have hdr:s.m.moves.drop i=s'.moves[i]!.m::s.m.moves.drop (i+1):=by rw[hgm];exact fG hlm
 have hfit:=h2.2.2.2.1 s'.moves[i]!.m (by rw[hgm];exact aI hlm)
 have hfit2:MvFit x s'.moves[i]!.m:=by
  unfold iz at hfit;rw[fN] at hfit;have h3:=of_decide_eq_true hfit;exact⟨⟨h3.1.1,by have h4:=h3.1.2;rw[←hcm] at h4;exact h4⟩,h3.2.1,h3.2.2.1,h3.2.2.2.1,h3.2.2.2.2.1,h3.2.2.2.2.2.2.2⟩
 rw[hdr] at hmv;have hmv2:iu S.shard S.flows.length (bK S.cat) (s.m.at (aR S)) W (s'.moves[i]!.m::s.m.moves.drop (i+1))=if(gG S.shard S.flows.length (bK S.cat) (s.m.at (aR S)) W s'.moves[i]!.m).1=0 then iu S.shard S.flows.length (bK S.cat) (s.m.at (aR S)) (gG S.shard S.flows.length (bK S.cat) (s.m.at (aR S)) W s'.moves[i]!.m).2 (s.m.moves.drop (i+1)) else((gG S.shard S.flows.length (bK S.cat) (s.m.at (aR S)) W s'.moves[i]!.m).1,W):=rfl;rw[hmv2] at hmv;have hmo:=wh (sh:=S.shard) (mix:=bK S.cat) (s:=s.m.at (aR S)) (m:=s'.moves[i]!.m) hO hT hfit2.n hsh1;have hspec:=CT (L:=stM s'::stP s'::stM s::stP s::L) b bc S.shard x (s'.at (aR S)) z s'.moves[i]! W hW hO hfit2 (show kC s'.kind by rw[hsk];exact hs.kind) hT hil ⟨hsh1,hsh2⟩ ac ac;rw[hsat,hmix] at hspec;rw[hxf] at hspec hmo;generalize gG S.shard S.flows.length (bK S.cat) (s.m.at (aR S)) W s'.moves[i]!.m=r at *;simp only[chL,ledL,fy,fm,stM];repeat first|refine aa ?_|intro _|refine dL ?_
 rw[hii];refine GO.ent Ent.drop ?_;refine GO.ef (Ef.d7 (hspec) rfl) ae ?_;rintro _ _⟨z',rfl,hz',rfl⟩;by_cases hr:r.1=0
 ·rw[if_pos hr] at hmv;simp only[chL,ledL,fy,fm];repeat first|refine aa ?_|intro _|refine dL ?_
  refine⟨(i+1,z',r.2),⟨by dsimp only;omega,hz' hr,by rw[hxf];exact(hmo hr).1,by dsimp only;rw[(hmo hr).2,hWl],hmv⟩,by dsimp only;omega,?_,Ent.refl _⟩;dsimp only;rw[aP i];exact aj
 ·rw[if_neg hr] at hmv;rw[hmv];simp only[chL,ledL,fy,fm];repeat first|refine aa ?_|intro _|refine dL ?_
  exact KX.d7 ai ag (.inl ⟨hr,rfl,rfl⟩)
