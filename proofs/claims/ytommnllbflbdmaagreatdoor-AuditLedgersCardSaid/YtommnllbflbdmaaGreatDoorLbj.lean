/- Lemmas. -/
import Derived.Test.YtommnllbflbdmaaGreatDoorLbf
import Derived.Test.YtommnllbflbdmaaGreatDoorLbi
set_option linter.all false
set_option maxHeartbeats 4000000
namespace Go.Proofs.YtommnllbflbdmaaGreatDoor
section
open Go.V
attribute [local irreducible] G GO GP GPW GPK Ev Ef EfR Ent CB GB V.Enters
abbrev tBk:Nat:=105
structure BkX where
 cat:CatV
 ms:Nat
 mt:Nat
 mi:Nat
 mr:Nat
 count:Int
 tick:Int
 stk:List ((Int×Int)×Stk)
 tot:List (Int×Int)
 imp:List (Int×Stk)
 ret:List (Int×Stk)
 flows:List FlV
 fad:OA
 fcap:Nat
abbrev bJ(sh:Int)(x:BkX):LV:=[ab sh,.slice x.cat.iad x.cat.items.length x.cat.icap,.slice x.cat.rad x.cat.rules.length x.cat.rcap,.slice x.cat.tad x.cat.tables.length x.cat.tcap,.slice x.cat.xad x.cat.taxes.length x.cat.xcap,ab x.count,ab x.tick,.map (some x.ms),.map (some x.mt),.slice x.fad x.flows.length x.fcap,.map (some x.mi),.map (some x.mr)]
abbrev bkL(b:Nat)(sh:Int)(x:BkX)(L:LH):LH :=
 obj b tBk (bJ sh x)::gmap kvP Stk.v x.ms x.stk::gmap kvI encN x.mt x.tot::osl aL 11 bz x.fad x.fcap x.flows::gmap kvI Stk.v x.mi x.imp::gmap kvI Stk.v x.mr x.ret::catP x.cat::allP (fun p:(Int×Int)×Stk=>stkP p.2) x.stk::allP flP x.flows::bigO fk x.imp::bigO fk x.ret::L
def fO(fl:List FlM):LL:=(fl.filter (fun f=>decide (f.kind=5))).flatMap (·.parts)
def fu(fl:List FlM):LL:=(fl.filter (fun f=>decide (f.kind=9∧f.frm=0))).flatMap (·.parts)
def ld(m:List (Int×Stk))(l:LL):Prop:=(m.map (·.1)).Nodup∧∀f,(eW m f).lots=ofF l f
def impG(sh:Int):LL→LL→Int
 | [],_=>0
 | p::ps,l=>if p.1 / 4294967296=sh∨11<p.1 / 4294967296 then 1 else if ∃y∈ofF l p.1,ovP p y then 8 else impG sh ps (l++[p])
theorem wb(l:LL)(p:Lot)(f:Int):ofF (l++[p]) f=if p.1=f then ofF l f++[p] else ofF l f:=by
 unfold ofF;rw[dJ];by_cases e:p.1=f
 ·rw[if_pos e,cu (by simpa using e)];rfl
 ·rw[if_neg e,cv (by simpa using e),List.filter_nil,ba]
theorem tU{sh:Int}{p:Lot}{ps l:LL}:impG sh (p::ps) l=if p.1 / 4294967296=sh∨11<p.1 / 4294967296 then 1 else if ∃y∈ofF l p.1,ovP p y then 8 else impG sh ps (l++[p]):=rfl
abbrev yL:List Stp:=[.ev 0,.ev 1,.ev 2,.ev 3,.ev 4,.ev 5,.ev 6,.ev 7,.ef 8]
abbrev yK:List Stp:=[.ev 0,.ev 1,.ev 2,.ev 3,.ev 4,.ev 5,.ev 6,.ev 7,.ev 8,.ev 9,.ev 10,.ev 11,.ev 12,.ev 13,.ef 14,.ef 15,.ef 16]
theorem dD{φ ψ:Prop}(k:ψ)(h:Hid ψ→φ:=by intro k;(with_reducible apply G.d8);first|refine G.d7 (N:=54) (id:=7) yL mixed ap (Hid.out k)|refine G.d7 (N:=54) (id:=9) yK mixed ap (Hid.out k)):φ:=h ⟨k⟩
theorem qT{L:LH}(b:Nat)(sh:Int)(x:BkX)(l:LL)(hm:ld x.imp l)(hl:l.length≤100000)(hlo:∀y∈l,LotOk y)(m:MvV)[hr:Rds L m.pad Lot an 3 m.m.parts](hp:∀p∈m.m.parts,LotOk p)(hb:∀p∈m.m.parts,p.1≤9223372036854775807)(hpl:m.m.parts.length≤4096) :
  Tri ah 151 #[au b,.agg (aM m).toArray] (obj b tBk (bJ sh x)::gmap kvI Stk.v x.mi x.imp::bigO fk x.imp::L) (fun v L'=>∃imp',v=ab (impG sh m.m.parts l)∧(impG sh m.m.parts l=0→ld imp' (l++m.m.parts))∧L' = obj b tBk (bJ sh x)::gmap kvI Stk.v x.mi imp'::bigO fk imp'::L):=by
 obtain⟨⟨frm,to,item,mn,parts⟩,pad,pcap⟩:=m;dsimp only at hr hp hb hpl ⊢;refine Tri.body (args:=[au b,.agg (aM ⟨⟨frm,to,item,mn,parts⟩,pad,pcap⟩).toArray]) 54 Jw Tryz.func151 rfl rfl rfl (by simp) ?_;simp only[aM,bJ];repeat first|refine aa ?_|intro _|refine dD ?_
 rename_i b3;refine G.loop (α:=Nat×List (Int×Stk)) (fun g=>g.1≤parts.length∧ld g.2 (l++parts.take g.1)∧impG sh parts l=impG sh (parts.drop g.1) (l++parts.take g.1)) (fun g=>[(0,au b),(9,.slice pad parts.length pcap),(10,ab parts.length),(11,ab (g.1:Int))]) (fun g=>obj b tBk (bJ sh x)::gmap kvI Stk.v x.mi g.2::bigO fk g.2::L) (fun g=>parts.length - g.1) (0,x.imp) ⟨ao _,by rw[ce,ba];exact hm,by rw[ce,ba];rfl⟩ aj (by simp only[bJ];exact ag) ?_;rintro⟨i,mp⟩ ⟨hi,hmp,hg⟩;dsimp only at hi hmp hg ⊢;simp only[bJ];by_cases hlt:i<parts.length
 case neg =>
  rw[bP ac,aD ac] at hg;rw[aD ac] at hmp;have hg0:impG sh parts l=0:=hg;rw[hg0];repeat first|refine aa ?_|intro _|refine dD ?_
  exact KX.d7 ai (Ent.refl _) ⟨mp,rfl,fun _=>hmp,rfl⟩
 have hii:(i:Int).toNat=i:=aA i;have hlt' : (i:Int).toNat<parts.length:=ac;have hok:=hp _ (aI hlt);have hbp:=hb _ (aI hlt);rw[fG hlt,tU] at hg;repeat first|refine aa ?_|intro _|refine dD ?_
 refine GO.ev (Ev.C7 rfl rfl) ae ?_;repeat first|refine aa ?_|intro _|refine dD ?_
 have hok' : LotOk parts[(i:Int).toNat]!:=by rw[hii];exact hok
 have hsm:∀y∈ofF (l++parts.take i) parts[(i:Int).toNat]!.1,LotW y:=fun y hy=>by
  rcases List.mem_append.1 (ofF_mem.1 hy).1 with h|h
  ·exact(hlo y h).w
  ·exact(hp y (cz h)).w
 have hsl:(ofF (l++parts.take i) parts[(i:Int).toNat]!.1).length≤110000:=by
  refine cB (pL _ _) ?_;rw[az,aY];omega
 have e1:parts[(i:Int).toNat]! = parts[i]!:=by rw[hii]
 rw[←e1] at hg;by_cases c1:parts[(i:Int).toNat]!.1 / 4294967296=sh
 ·rw[if_pos (.inl c1)] at hg;rw[hg];repeat first|refine aa ?_|intro _|refine dD ?_
  refine KX.d7 ai ?_ ⟨mp,rfl,fun h=>absurd h ae,rfl⟩;exact ag
 by_cases c2:11<parts[(i:Int).toNat]!.1 / 4294967296
 ·rw[if_pos (.inr c2)] at hg;rw[hg];repeat first|refine aa ?_|intro _|refine dD ?_
  refine KX.d7 ai ?_ ⟨mp,rfl,fun h=>absurd h ae,rfl⟩;exact ag
 rw[if_neg (fun q=>q.elim c1 c2)] at hg;repeat first|refine aa ?_|intro _|refine dD ?_
 have hv:=pG mp parts[(i:Int).toNat]!.1;have hlf:=hmp.2 parts[(i:Int).toNat]!.1;rw[hlf] at hv;unfold glk at hv;refine GPW.ent (Ent.at (A:=bigO fk mp) (qE (f:=parts[(i:Int).toNat]!.1) hmp.1)) ?_;rw[hlf];refine GPW.evL (Ev.e8 rfl rfl) ae ?_;rw[hv];repeat first|refine aa ?_|intro _|refine dD ?_
 refine GPW.ef (Ef.d7 (oq _ _ _ (ofF (l++parts.take i) parts[(i:Int).toNat]!.1) parts[(i:Int).toNat]! rfl ac hsm hok'.w) rfl) ae ?_;rintro _ _⟨rfl,rfl⟩;by_cases c3:∃y∈ofF (l++parts.take i) parts[(i:Int).toNat]!.1,ovP parts[(i:Int).toNat]! y
 ·rw[if_pos c3] at hg;rw[hg,aU c3];repeat first|refine aa ?_|intro _|refine dD ?_
  refine KX.d7 ai ?_ ⟨mp,rfl,fun h=>absurd h ae,rfl⟩;rw[←hlf];refine Ent.trans ?_ (Ent.d7 (Ent.swap (A:=bigO fk mp)));refine Ent.trans ?_ Ent.swap;refine Ent.trans ?_ (vo (f:=parts[(i:Int).toNat]!.1) hmp.1);exact ag
 rw[if_neg c3] at hg;rw[aF c3];repeat first|refine aa ?_|intro _|refine dD ?_
 refine GPW.evL (Ev.e8 rfl rfl) ae ?_;rw[hv];repeat first|refine aa ?_|intro _|refine dD ?_
 refine GPK.keep (by rw[←hv];exact Ev.e8 rfl rfl) ?_;repeat first|refine aa ?_|intro _|refine dD ?_
 refine GPW.ef (Ef.d8 (enc:=an) (e:=parts[(i:Int).toNat]!) rfl rfl rfl rfl rfl (by rfl) (cx _) ac ac) ae ?_;rintro _ _⟨ad3,cap3,rfl,rfl⟩;repeat first|refine aa ?_|intro _|refine dD ?_
 refine GPW.efu (Ef.f8 (enc:=Stk.v) (e:=(⟨ad3,cap3,ofF (l++parts.take i) parts[(i:Int).toNat]!.1++[parts[(i:Int).toNat]!]⟩:Stk)) rfl rfl rfl rfl) ?_;rintro _ _⟨rfl,rfl⟩
 have htk:l++parts.take (i+1)=l++parts.take i++[parts[(i:Int).toNat]!]:=by
  rw[e1,aC hlt,getElem!_of hlt,aH]
 repeat first|refine aa ?_|intro _|refine dD ?_
 refine⟨(i+1,gins mp parts[(i:Int).toNat]!.1 ⟨ad3,cap3,ofF (l++parts.take i) parts[(i:Int).toNat]!.1++[parts[(i:Int).toNat]!]⟩),⟨by dsimp only;omega,⟨lr hmp.1,fun f=>?_⟩,by dsimp only;rw[htk];exact hg⟩,by dsimp only;omega,?_,?_⟩
 ·dsimp only;rw[nx,htk,wb];by_cases e:parts[(i:Int).toNat]!.1=f
  ·rw[if_pos e.symm,if_pos e,e]
  ·rw[if_neg (fun q=>e q.symm),if_neg e];exact hmp.2 f
 ·dsimp only;rw[aP i];exact aj
 ·dsimp only;refine Ent.trans ?_ (Ent.d7 (Ent.swap (A:=bigO fk _)));refine Ent.trans ?_ Ent.swap;refine Ent.trans ?_ (oD (f:=parts[(i:Int).toNat]!.1) hmp.1 ⟨ad3,cap3,ofF (l++parts.take i) parts[(i:Int).toNat]!.1++[parts[(i:Int).toNat]!]⟩);exact ag
end
section
open Go.V
def FlA(fl:List FlM):Prop:=∀f∈fl,(∀x∈f.parts,LotOk x)∧((f.kind=5∨(f.kind=9∧f.frm=0))→Apart f.parts)
theorem impAll_mem{fl:List FlM}{y:Lot}:y∈fO fl↔∃f∈fl,f.kind=5∧y∈f.parts:=by
 unfold fO;rw[List.mem_flatMap];constructor
 ·rintro⟨f,hf,hy⟩;obtain⟨h1,h2⟩:=List.mem_filter.1 hf;exact⟨f,h1,of_decide_eq_true h2,hy⟩
 ·rintro⟨f,hf,hk,hy⟩;exact⟨f,List.mem_filter.2 ⟨hf,decide_eq_true hk⟩,hy⟩
theorem retAll_mem{fl:List FlM}{y:Lot}:y∈fu fl↔∃f∈fl,(f.kind=9∧f.frm=0)∧y∈f.parts:=by
 unfold fu;rw[List.mem_flatMap];constructor
 ·rintro⟨f,hf,hy⟩;obtain⟨h1,h2⟩:=List.mem_filter.1 hf;exact⟨f,h1,of_decide_eq_true h2,hy⟩
 ·rintro⟨f,hf,hk,hy⟩;exact⟨f,List.mem_filter.2 ⟨hf,decide_eq_true hk⟩,hy⟩
theorem De{fl:List FlM}(h:FlA fl):∀y∈fO fl,LotOk y:=fun y hy=>by
 obtain⟨f,hf,_,hy⟩:=impAll_mem.1 hy;exact(h f hf).1 y hy
theorem Cw{fl:List FlM}(h:FlA fl):∀y∈fu fl,LotOk y:=fun y hy=>by
 obtain⟨f,hf,_,hy⟩:=retAll_mem.1 hy;exact(h f hf).1 y hy
theorem DM{fl:List FlM}(h:FlA fl){p:Lot}(hp:LotOk p):lc fl p↔∃y∈ofF (fO fl) p.1,ovP p y:=by
 unfold lc;constructor
 ·rintro⟨f,hf,hk,hm⟩;obtain⟨y,hy,h1,h2⟩:=(nP (h f hf).1 ((h f hf).2 (.inl hk)) hp).1 hm;exact⟨y,ofF_mem.2 ⟨impAll_mem.2 ⟨f,hf,hk,hy⟩,h1⟩,h2⟩
 ·rintro⟨y,hy,h2⟩;obtain⟨hy,h1⟩:=ofF_mem.1 hy;obtain⟨f,hf,hk,hy⟩:=impAll_mem.1 hy;exact⟨f,hf,hk,(nP (h f hf).1 ((h f hf).2 (.inl hk)) hp).2 ⟨y,hy,h1,h2⟩⟩
theorem wt{sh:Int}{fl:List FlM}(h:FlA fl):∀(ps dn:LL),(∀p∈ps,LotOk p)→Apart ps→(∀d∈dn,∀p∈ps,apart d p)→impG sh ps (fO fl++dn)=arrG sh fl ps
 | [],_,_,_,_=>rfl
 | p::ps,dn,h1,h2,h3=>by
  obtain⟨a1,a2⟩:=List.pairwise_cons.1 h2;have hp:=h1 p aw
  have ih:=wt (sh:=sh) h ps (dn++[p]) (fun q hq=>h1 q (av _ hq)) a2 (fun d hd q hq=>by
   rcases List.mem_append.1 hd with hd|hd
   ·exact h3 d hd q (av _ hq)
   ·rw[List.mem_singleton.1 hd];exact a1 q hq)
  have e:(∃y∈ofF (fO fl++dn) p.1,ovP p y)↔lc fl p:=by
   rw[DM h hp];constructor
   ·rintro⟨y,hy,h4⟩;obtain⟨hy,h5⟩:=ofF_mem.1 hy;rcases List.mem_append.1 hy with hy|hy
    ·exact⟨y,ofF_mem.2 ⟨hy,h5⟩,h4⟩
    ·have:=h3 y hy p aw
     unfold apart at this;unfold ovP at h4;omega
   ·rintro⟨y,hy,h4⟩;obtain⟨hy,h5⟩:=ofF_mem.1 hy;exact⟨y,ofF_mem.2 ⟨cA _ hy,h5⟩,h4⟩
  rw[tU];show _=if arr1 sh fl p=0 then arrG sh fl ps else arr1 sh fl p;unfold arr1;by_cases c1:p.1 / 4294967296=sh∨11<p.1 / 4294967296
  ·rw[if_pos c1,if_pos c1,if_neg ae]
  ·rw[if_neg c1,if_neg c1];by_cases c2:lc fl p
   ·rw[if_pos (e.2 c2),if_pos c2,if_neg ae]
   ·rw[if_neg (fun q=>c2 (e.1 q)),if_neg c2,if_pos rfl,aH];exact ih
theorem FV{sh:Int}{fl:List FlM}(h:FlA fl){ps:LL}(h1:∀p∈ps,LotOk p)(h2:Apart ps):impG sh ps (fO fl)=arrG sh fl ps:=by
 have:=wt (sh:=sh) h ps [] h1 h2 (fun d hd=>absurd hd aT)
 rwa [ba] at this
end
section
open Go.V
attribute [local irreducible] G GO GP GPW GPK Ev Ef EfR Ent CB GB V.Enters
def gotB(sh:Int)(fl:List FlM)(item:Int)(p:Lot):Prop:=(0≤p.1 - sh*4294967296∧p.1 - sh*4294967296<fl.length)∧fl[(p.1 - sh*4294967296).toNat]!.to=0∧fl[(p.1 - sh*4294967296).toNat]!.kind≠6∧fl[(p.1 - sh*4294967296).toNat]!.item=item∧p.2.1+p.2.2≤fl[(p.1 - sh*4294967296).toNat]!.n
instance (sh:Int)(fl:List FlM)(item:Int)(p:Lot):Decidable (gotB sh fl item p):=by unfold gotB;infer_instance
def retG(sh:Int)(fl:List FlM)(item:Int):LL→LL→Int
 | [],_=>0
 | p::ps,l=>if gotB sh fl item p∧¬ ∃y∈ofF l p.1,ovP p y then retG sh fl item ps (l++[p]) else 10
theorem tI{sh:Int}{fl:List FlM}{item:Int}{p:Lot}{ps l:LL}:retG sh fl item (p::ps) l=if gotB sh fl item p∧¬ ∃y∈ofF l p.1,ovP p y then retG sh fl item ps (l++[p]) else 10:=rfl
abbrev yJ:List Stp:=[.ev 0,.ev 1,.ev 2,.ev 3,.ev 4,.ev 5,.ev 6,.ev 7,.ev 8]
abbrev yI:List Stp:=[.ev 0,.ev 1,.ev 2,.ev 3,.ev 4,.ev 5,.ev 6,.ev 7,.ev 8,.ev 9,.ev 10,.ev 11,.ev 12,.ev 13,.ev 14,.ev 15,.ev 16,.ev 18,.ev 19,.ef 17,.ev 20,.ev 21,.ev 22,.ev 23,.ev 24,.ev 25,.ev 26,.ev 27,.ev 28,.ev 29,.ev 30,.ef 31,.ev 32]
abbrev vV:List Stp:=[.ev 0,.ev 1,.ev 2,.ev 3,.ev 4,.ev 5,.ev 6,.ev 7,.ev 8,.ev 9,.ev 10,.ev 11,.ev 12,.ev 13,.ef 14,.ef 15,.ef 16]
theorem cD{φ ψ:Prop}(k:ψ)(h:Hid ψ→φ:=by intro k;(with_reducible apply G.d8);first|refine G.d7 (N:=92) (id:=4) yJ mixed ap (Hid.out k)|refine G.d7 (N:=92) (id:=8) yI mixed ap (Hid.out k)|refine G.d7 (N:=92) (id:=10) vV mixed ap (Hid.out k)):φ:=h ⟨k⟩
theorem qJ{L:LH}(b:Nat)(sh:Int)(hsh:0≤sh∧sh<12)(x:BkX)(hfl:x.flows.length≤9000000)(l:LL)(hm:ld x.ret l)(hl:l.length≤100000)(hlo:∀y∈l,LotOk y)(m:MvV)[hr:Rds L m.pad Lot an 3 m.m.parts](hp:∀p∈m.m.parts,LotOk p)(hb:∀p∈m.m.parts,p.1≤9223372036854775807)(hpl:m.m.parts.length≤4096) :
  Tri ah 152 #[au b,.agg (aM m).toArray] (obj b tBk (bJ sh x)::osl aL 11 bz x.fad x.fcap x.flows::gmap kvI Stk.v x.mr x.ret::bigO fk x.ret::L) (fun v L'=>∃ret',v=ab (retG sh (x.flows.map (·.m)) m.m.item m.m.parts l)∧(retG sh (x.flows.map (·.m)) m.m.item m.m.parts l=0→ld ret' (l++m.m.parts))∧L' = obj b tBk (bJ sh x)::osl aL 11 bz x.fad x.fcap x.flows::gmap kvI Stk.v x.mr ret'::bigO fk ret'::L):=by
 obtain⟨⟨frm,to,item,mn,parts⟩,pad,pcap⟩:=m;dsimp only at hr hp hb hpl ⊢;generalize hfe:x.flows.map (·.m)=fl;have hfll:fl.length=x.flows.length:=by rw[←hfe,aG]
 refine Tri.body (args:=[au b,.agg (aM ⟨⟨frm,to,item,mn,parts⟩,pad,pcap⟩).toArray]) 92 Jv Tryz.func152 rfl rfl rfl (by simp) ?_;simp only[aM,bJ];repeat first|refine aa ?_|intro _|refine cD ?_
 rename_i b3;refine G.loop (α:=Nat×List (Int×Stk)) (fun g=>g.1≤parts.length∧ld g.2 (l++parts.take g.1)∧retG sh fl item parts l=retG sh fl item (parts.drop g.1) (l++parts.take g.1)) (fun g=>[(0,au b),(3,au b3),(10,.slice pad parts.length pcap),(11,ab parts.length),(12,ab (g.1:Int))]) (fun g=>obj b3 tMv [ab frm,ab to,ab item,ab mn,.slice pad parts.length pcap]::obj b tBk (bJ sh x)::osl aL 11 bz x.fad x.fcap x.flows::gmap kvI Stk.v x.mr g.2::bigO fk g.2::L) (fun g=>parts.length - g.1) (0,x.ret) ⟨ao _,by rw[ce,ba];exact hm,by rw[ce,ba];rfl⟩ aj (by simp only[bJ];exact ag) ?_;rintro⟨i,mp⟩ ⟨hi,hmp,hg⟩;dsimp only at hi hmp hg ⊢;simp only[bJ];by_cases hlt:i<parts.length
 case neg =>
  rw[bP ac,aD ac] at hg;rw[aD ac] at hmp;have hg0:retG sh fl item parts l=0:=hg;rw[hg0];repeat first|refine aa ?_|intro _|refine cD ?_
  refine KX.d7 ai ?_ ⟨mp,rfl,fun _=>hmp,rfl⟩;exact ag
 have hii:(i:Int).toNat=i:=aA i;have hlt' : (i:Int).toNat<parts.length:=ac;have e1:parts[(i:Int).toNat]! = parts[i]!:=by rw[hii]
 have hok' : LotOk parts[(i:Int).toNat]!:=by rw[hii];exact hp _ (aI hlt)
 have hbp:=hb _ (aI hlt);rw[←e1] at hbp;have hok2:=hok';unfold LotOk at hok2;rw[fG hlt,tI,←e1] at hg
 have hsm:∀y∈ofF (l++parts.take i) parts[(i:Int).toNat]!.1,LotW y:=fun y hy=>by
  rcases List.mem_append.1 (ofF_mem.1 hy).1 with h|h
  ·exact(hlo y h).w
  ·exact(hp y (cz h)).w
 have hsl:(ofF (l++parts.take i) parts[(i:Int).toNat]!.1).length≤110000:=by
  refine cB (pL _ _) ?_;rw[az,aY];omega
 have hv:=pG mp parts[(i:Int).toNat]!.1;have hlf:=hmp.2 parts[(i:Int).toNat]!.1;rw[hlf] at hv;unfold glk at hv;refine G.ent (L':=osl an 3 tLot (eW mp parts[(i:Int).toNat]!.1).ad (eW mp parts[(i:Int).toNat]!.1).cap (ofF (l++parts.take i) parts[(i:Int).toNat]!.1)::bigO fk (gera mp parts[(i:Int).toNat]!.1)::obj b3 tMv [ab frm,ab to,ab item,ab mn,.slice pad parts.length pcap]::obj b tBk (bJ sh x)::osl aL 11 bz x.fad x.fcap x.flows::gmap kvI Stk.v x.mr mp::L) ?_ ?_
 ·refine(Ent.at (A:=bigO fk mp) (qE (f:=parts[(i:Int).toNat]!.1) hmp.1)).trans ?_;rw[hlf];exact ag
 have hback:Ent (osl an 3 tLot (eW mp parts[(i:Int).toNat]!.1).ad (eW mp parts[(i:Int).toNat]!.1).cap (ofF (l++parts.take i) parts[(i:Int).toNat]!.1)::bigO fk (gera mp parts[(i:Int).toNat]!.1)::obj b tBk (bJ sh x)::osl aL 11 bz x.fad x.fcap x.flows::gmap kvI Stk.v x.mr mp::L) (obj b tBk (bJ sh x)::osl aL 11 bz x.fad x.fcap x.flows::gmap kvI Stk.v x.mr mp::bigO fk mp::L):=by
  rw[←hlf];exact(vo (f:=parts[(i:Int).toNat]!.1) hmp.1).trans ag
 simp only[bJ] at hback ⊢;repeat first|refine aa ?_|intro _|refine cD ?_
 refine GPW.evP (Ev.m8 rfl rfl ac ac) ae ?_;have hsh4:sh*4294967296≤12*4294967296:=bX ac ae;have hsh5:0≤sh*4294967296:=dC hsh.1 ae;obtain⟨sk,hsk⟩:∃sk,sk=sh*4294967296:=⟨_,rfl⟩;have hgn:¬gotB sh fl item parts[(i:Int).toNat]!→retG sh fl item parts l=10:=fun q=>by rw[hg,if_neg (fun h=>q h.1)]
 unfold gotB at hgn;rw[←hsk] at hsh4 hsh5 hgn;rw[←hsk];by_cases c1:0≤parts[(i:Int).toNat]!.1 - sk
 case neg =>
  rw[hgn (fun q=>c1 q.1.1)];repeat first|refine aa ?_|intro _|refine cD ?_
  refine KX.d7 ai ?_ ⟨mp,rfl,fun h=>absurd h ae,rfl⟩;exact Ent.trans ag hback
 by_cases c2:parts[(i:Int).toNat]!.1 - sk<fl.length
 case neg =>
  rw[hgn (fun q=>c2 q.1.2)];repeat first|refine aa ?_|intro _|refine cD ?_
  refine KX.d7 ai ?_ ⟨mp,rfl,fun h=>absurd h ae,rfl⟩;exact Ent.trans ag hback
 have hk:(parts[(i:Int).toNat]!.1 - sk).toNat<x.flows.length:=ac;have hfk:fl[(parts[(i:Int).toNat]!.1 - sk).toNat]! = x.flows[(parts[(i:Int).toNat]!.1 - sk).toNat]!.m:=by rw[←hfe,eo _ hk]
 rw[hfk] at hgn;repeat first|((fail_if_success (with_reducible refine G.atS 8 ?_));(with_reducible apply G.seq))|refine bB ?_|intro _|refine cD ?_
 generalize hfv:x.flows[(parts[(i:Int).toNat]!.1 - sk).toNat]! = fv at *;by_cases c3:fv.m.to=0
 case neg =>
  rw[hgn (fun q=>c3 q.2.1)];repeat first|refine aa ?_|intro _|refine cD ?_
  refine KX.d7 ai ?_ ⟨mp,rfl,fun h=>absurd h ae,rfl⟩;exact Ent.trans ag hback
 by_cases c4:fv.m.kind=6
 case pos =>
  rw[hgn (fun q=>q.2.2.1 c4)];repeat first|refine aa ?_|intro _|refine cD ?_
  refine KX.d7 ai ?_ ⟨mp,rfl,fun h=>absurd h ae,rfl⟩;exact Ent.trans ag hback
 by_cases c5:fv.m.item=item
 case neg =>
  rw[hgn (fun q=>c5 q.2.2.2.1)];repeat first|refine aa ?_|intro _|refine cD ?_
  refine KX.d7 ai ?_ ⟨mp,rfl,fun h=>absurd h ae,rfl⟩;exact Ent.trans ag hback
 by_cases c6:parts[(i:Int).toNat]!.2.1+parts[(i:Int).toNat]!.2.2≤fv.m.n
 case neg =>
  rw[hgn (fun q=>c6 q.2.2.2.2)];repeat first|refine aa ?_|intro _|refine cD ?_
  refine GPW.ef (Ef.d7 (iG parts[(i:Int).toNat]! hok'.w) rfl) ae ?_;rintro _ _⟨rfl,rfl⟩;repeat first|refine aa ?_|intro _|refine cD ?_
  refine KX.d7 ai ?_ ⟨mp,rfl,fun h=>absurd h ae,rfl⟩;exact Ent.trans ag hback
 have hgot:gotB sh fl item parts[(i:Int).toNat]!:=by
  unfold gotB;rw[←hsk,hfk];exact⟨⟨c1,c2⟩,c3,c4,c5,c6⟩
 clear hgn;repeat first|refine aa ?_|intro _|refine cD ?_
 refine GPW.ef (Ef.d7 (iG parts[(i:Int).toNat]! hok'.w) rfl) ae ?_;rintro _ _⟨rfl,rfl⟩;repeat first|refine aa ?_|intro _|refine cD ?_
 refine GPW.evL (Ev.e8 rfl rfl) ae ?_;rw[hv];repeat first|refine aa ?_|intro _|refine cD ?_
 refine GPW.ef (Ef.d7 (oq _ _ _ (ofF (l++parts.take i) parts[(i:Int).toNat]!.1) parts[(i:Int).toNat]! rfl ac hsm hok'.w) rfl) ae ?_;rintro _ _⟨rfl,rfl⟩;by_cases c7:∃y∈ofF (l++parts.take i) parts[(i:Int).toNat]!.1,ovP parts[(i:Int).toNat]! y
 ·rw[if_neg (fun q=>q.2 c7)] at hg;rw[hg,aU c7];repeat first|refine aa ?_|intro _|refine cD ?_
  refine KX.d7 ai ?_ ⟨mp,rfl,fun h=>absurd h ae,rfl⟩;exact Ent.trans ag hback
 rw[if_pos ⟨hgot,c7⟩] at hg;rw[aF c7];repeat first|refine aa ?_|intro _|refine cD ?_
 refine GPW.evL (Ev.e8 rfl rfl) ae ?_;rw[hv];repeat first|refine aa ?_|intro _|refine cD ?_
 refine GPK.keep (by rw[←hv];exact Ev.e8 rfl rfl) ?_;repeat first|refine aa ?_|intro _|refine cD ?_
 refine GPW.ef (Ef.d8 (enc:=an) (e:=parts[(i:Int).toNat]!) rfl rfl rfl rfl rfl (by rfl) (cx _) ac ac) ae ?_;rintro _ _⟨ad3,cap3,rfl,rfl⟩;repeat first|refine aa ?_|intro _|refine cD ?_
 refine GPW.efu (Ef.f8 (enc:=Stk.v) (e:=(⟨ad3,cap3,ofF (l++parts.take i) parts[(i:Int).toNat]!.1++[parts[(i:Int).toNat]!]⟩:Stk)) rfl rfl rfl rfl) ?_;rintro _ _⟨rfl,rfl⟩
 have htk:l++parts.take (i+1)=l++parts.take i++[parts[(i:Int).toNat]!]:=by
  rw[e1,aC hlt,getElem!_of hlt,aH]
 repeat first|refine aa ?_|intro _|refine cD ?_
 refine⟨(i+1,gins mp parts[(i:Int).toNat]!.1 ⟨ad3,cap3,ofF (l++parts.take i) parts[(i:Int).toNat]!.1++[parts[(i:Int).toNat]!]⟩),⟨by dsimp only;omega,⟨lr hmp.1,fun f=>?_⟩,by dsimp only;rw[htk];exact hg⟩,by dsimp only;omega,?_,?_⟩
 ·dsimp only;rw[nx,htk,wb];by_cases e:parts[(i:Int).toNat]!.1=f
  ·rw[if_pos e.symm,if_pos e,e]
  ·rw[if_neg (fun q=>e q.symm),if_neg e];exact hmp.2 f
 ·dsimp only;rw[aP i];exact aj
 ·dsimp only;refine Ent.trans ?_ (Ent.at (A:=bigO fk (gins mp parts[(i:Int).toNat]!.1 ⟨ad3,cap3,ofF (l++parts.take i) parts[(i:Int).toNat]!.1++[parts[(i:Int).toNat]!]⟩)) (L:=bigO fk (gins mp parts[(i:Int).toNat]!.1 ⟨ad3,cap3,ofF (l++parts.take i) parts[(i:Int).toNat]!.1++[parts[(i:Int).toNat]!]⟩)::obj b3 tMv [ab frm,ab to,ab item,ab mn,.slice pad parts.length pcap]::obj b tBk (bJ sh x)::osl aL 11 bz x.fad x.fcap x.flows::gmap kvI Stk.v x.mr (gins mp parts[(i:Int).toNat]!.1 ⟨ad3,cap3,ofF (l++parts.take i) parts[(i:Int).toNat]!.1++[parts[(i:Int).toNat]!]⟩)::L) (by simp only[bJ];exact ag));refine Ent.trans ?_ (oD (f:=parts[(i:Int).toNat]!.1) hmp.1 ⟨ad3,cap3,ofF (l++parts.take i) parts[(i:Int).toNat]!.1++[parts[(i:Int).toNat]!]⟩);exact ag
end
section
open Go.V
def FlN(sh:Int)(fl:List FlM):Prop:=∀k,k<fl.length→fl[k]!.id=sh*4294967296+k∧1≤fl[k]!.n∧fl[k]!.n≤1099511627776
theorem zq{p:Lot}{id n:Int}(hp:LotOk p)(hi:0≤id)(h1:1≤n)(h2:n≤1099511627776):fT [p] [(id,0,n)]↔p.1=id∧p.2.1+p.2.2≤n:=by
 have hx:LotOk (id,0,n):=⟨hi,bu _,by dsimp only;omega,h1,by dsimp only;omega⟩;have one:∀y:Lot,Apart [y]:=fun y=>cR _ _;rw[ro (oB hp) (one p) (oB hx) (one _),gF,iv];show p.2.2+0 - ((ov p (id,0,n)+0)+0)=0↔_;unfold LotOk at hp;unfold ov;dsimp only;by_cases e:p.1=id
 ·rw[if_pos e];omega
 ·rw[if_neg e];omega
theorem DN{sh:Int}{fl:List FlM}(hsh:0≤sh)(h:FlA fl)(hn:FlN sh fl)(item:Int){p:Lot}(hp:LotOk p):jW fl item p↔gotB sh fl item p∧¬ ∃y∈ofF (fu fl) p.1,ovP p y:=by
 have hs0:0≤sh*4294967296:=dC hsh ae
 have hA:(∃f∈fl,f.kind=9∧f.frm=0∧ge f.parts [p]≠[])↔∃y∈ofF (fu fl) p.1,ovP p y:=by
  constructor
  ·rintro⟨f,hf,hk,hz,hm⟩;obtain⟨y,hy,h1,h2⟩:=(nP (h f hf).1 ((h f hf).2 (.inr ⟨hk,hz⟩)) hp).1 hm;exact⟨y,ofF_mem.2 ⟨retAll_mem.2 ⟨f,hf,⟨hk,hz⟩,hy⟩,h1⟩,h2⟩
  ·rintro⟨y,hy,h2⟩;obtain⟨hy,h1⟩:=ofF_mem.1 hy;obtain⟨f,hf,hk,hy⟩:=retAll_mem.1 hy;exact⟨f,hf,hk.1,hk.2,(nP (h f hf).1 ((h f hf).2 (.inr hk)) hp).2 ⟨y,hy,h1,h2⟩⟩
 have hB:(∃f∈fl,f.kind≠6∧f.to=0∧f.item=item∧fT [p] [(f.id,0,f.n)])↔gotB sh fl item p:=by
  constructor
  ·rintro⟨f,hf,h1,h2,h3,h4⟩;obtain⟨k,hk,rfl⟩:=List.mem_iff_getElem.1 hf;obtain⟨g1,g2,g3⟩:=hn k hk;rw[getElem!_of hk] at g1 g2 g3;obtain⟨g4,g5⟩:=(zq hp ac g2 g3).1 h4;have e:(p.1 - sh*4294967296).toNat=k:=ac;unfold gotB;rw[e,getElem!_of hk];exact⟨⟨ac,ac⟩,h2,h1,h3,g5⟩
  ·rintro⟨⟨h1,h2⟩,h3,h4,h5,h6⟩;have hk:(p.1 - sh*4294967296).toNat<fl.length:=ac;obtain⟨g1,g2,g3⟩:=hn _ hk;exact⟨_,aI hk,h4,h3,h5,(zq hp ac g2 g3).2 ⟨ac,h6⟩⟩
 unfold jW;rw[hA,hB];exact And.comm
theorem vE{sh:Int}{fl:List FlM}(hsh:0≤sh)(h:FlA fl)(hn:FlN sh fl)(item:Int):∀(ps dn:LL),(∀p∈ps,LotOk p)→Apart ps→(∀d∈dn,∀p∈ps,apart d p)→retG sh fl item ps (fu fl++dn)=revG fl item ps
 | [],_,_,_,_=>by
  unfold revG;rw[if_pos (fun p hp=>absurd hp aT)];rfl
 | p::ps,dn,h1,h2,h3=>by
  obtain⟨a1,a2⟩:=List.pairwise_cons.1 h2;have hp:=h1 p aw
  have ih:=vE hsh h hn item ps (dn++[p]) (fun q hq=>h1 q (av _ hq)) a2 (fun d hd q hq=>by
   rcases List.mem_append.1 hd with hd|hd
   ·exact h3 d hd q (av _ hq)
   ·rw[List.mem_singleton.1 hd];exact a1 q hq)
  have e:(∃y∈ofF (fu fl++dn) p.1,ovP p y)↔∃y∈ofF (fu fl) p.1,ovP p y:=by
   constructor
   ·rintro⟨y,hy,h4⟩;obtain⟨hy,h5⟩:=ofF_mem.1 hy;rcases List.mem_append.1 hy with hy|hy
    ·exact⟨y,ofF_mem.2 ⟨hy,h5⟩,h4⟩
    ·have:=h3 y hy p aw
     unfold apart at this;unfold ovP at h4;omega
   ·rintro⟨y,hy,h4⟩;obtain⟨hy,h5⟩:=ofF_mem.1 hy;exact⟨y,ofF_mem.2 ⟨cA _ hy,h5⟩,h4⟩
  have hb:=DN hsh h hn item hp;rw[←e] at hb;rw[tI,aH,ih];unfold revG;by_cases c:jW fl item p
  ·rw[if_pos (hb.1 c)];by_cases c2:∀q∈ps,jW fl item q
   ·rw[if_pos c2,if_pos (fun q hq=>by
     rcases List.mem_cons.1 hq with rfl|hq
     ·exact c
     ·exact c2 q hq)]
   ·rw[if_neg c2,if_neg (fun q=>c2 (fun r hr=>q r (av _ hr)))]
  ·rw[if_neg (fun q=>c (hb.2 q)),if_neg (fun q=>c (q p aw))]
theorem FE{sh:Int}{fl:List FlM}(hsh:0≤sh)(h:FlA fl)(hn:FlN sh fl)(item:Int){ps:LL}(h1:∀p∈ps,LotOk p)(h2:Apart ps):retG sh fl item ps (fu fl)=revG fl item ps:=by
 have:=vE hsh h hn item ps [] h1 h2 (fun d hd=>absurd hd aT)
 rwa [ba] at this
