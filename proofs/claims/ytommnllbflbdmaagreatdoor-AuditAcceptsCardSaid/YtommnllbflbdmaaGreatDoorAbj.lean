/- Lemmas. -/
import Derived.Test.YtommnllbflbdmaaGreatDoorAbf
import Derived.Test.YtommnllbflbdmaaGreatDoorAbi
set_option linter.all false
set_option maxHeartbeats 4000000
namespace Go.Proofs.YtommnllbflbdmaaGreatDoor
section
open Go.V
attribute [local irreducible] G GO GP GPW GPK Ev Ef EfR Ent CB GB V.Enters
abbrev tBk:Nat:=105
structure BkX where
 cat:CatV
 ms:Nat
 mt:Nat
 mi:Nat
 mr:Nat
 count:Int
 tick:Int
 stk:List ((Int×Int)×Stk)
 tot:List (Int×Int)
 imp:List (Int×Stk)
 ret:List (Int×Stk)
 flows:List FlV
 fad:OA
 fcap:Nat
abbrev bP(sh:Int)(x:BkX):LV:=[ac sh,ah x.cat.iad x.cat.items.length x.cat.icap,ah x.cat.rad x.cat.rules.length x.cat.rcap,ah x.cat.tad x.cat.tables.length x.cat.tcap,ah x.cat.xad x.cat.taxes.length x.cat.xcap,ac x.count,ac x.tick,.map (some x.ms),.map (some x.mt),ah x.fad x.flows.length x.fcap,.map (some x.mi),.map (some x.mr)]
abbrev bkL(b:Nat)(sh:Int)(x:BkX)(L:LH):LH :=
 obj b tBk (bP sh x)::gmap kvP Stk.v x.ms x.stk::gmap kvI encN x.mt x.tot::osl bL 11 cz x.fad x.fcap x.flows::gmap kvI Stk.v x.mi x.imp::gmap kvI Stk.v x.mr x.ret::catP x.cat::allP (fun p:(Int×Int)×Stk=>stkP p.2) x.stk::allP flP x.flows::bigO gd x.imp::bigO gd x.ret::L
def fC(fl:List FlM):LL:=(fl.filter (fun f=>decide (f.kind=5))).flatMap (·.parts)
def fe(fl:List FlM):LL:=(fl.filter (fun f=>decide (f.kind=9∧f.frm=0))).flatMap (·.parts)
def lW(m:List (Int×Stk))(l:LL):Prop:=(m.map (·.1)).Nodup∧∀f,(fM m f).lots=ofF l f
def impG(sh:Int):LL→LL→Int
 | [],_=>0
 | p::ps,l=>if p.1 / 4294967296=sh∨11<p.1 / 4294967296 then 1 else if ∃y∈ofF l p.1,ovP p y then 8 else impG sh ps (l++[p])
def sj(l:LL)(p:Lot)(f:Int):ofF (l++[p]) f=if p.1=f then ofF l f++[p] else ofF l f:=by
 unfold ofF;rw[du];by_cases e:p.1=f
 ·rw[if_pos e,cF (by simpa using e)];rfl
 ·rw[if_neg e,cG (by simpa using e),List.filter_nil,aQ]
def qq{sh:Int}{p:Lot}{ps l:LL}:impG sh (p::ps) l=if p.1 / 4294967296=sh∨11<p.1 / 4294967296 then 1 else if ∃y∈ofF l p.1,ovP p y then 8 else impG sh ps (l++[p]):=rfl
abbrev AM:=ay5 [.ef 8]
abbrev AL:=ay7 [.ev 13,.ef 14,.ef 15,.ef 16]
def TM{φ ψ:Prop}(k:ψ)(h:Hid ψ→φ:=by intro k;(repeat (first|refine aa ?_|intro zzz|refine G.dr 54 7 AM ?_|refine G.dr 54 9 AL ?_));(repeat revert zzz);exact Hid.out k):φ:=h ⟨k⟩
def sx{L:LH}(b:Nat)(sh:Int)(x:BkX)(l:LL)(hm:lW x.imp l)(hl:l.length≤100000)(a9:∀y∈l,LotOk y)(m:MvV)[hr:Rds L m.pad Lot aj 3 m.m.parts](hp:∀p∈m.m.parts,LotOk p)(hb:∀p∈m.m.parts,p.1≤9223372036854775807)(b2:m.m.parts.length≤4096) :
  Tri ai 151 #[ax b,aN (aM m)] (obj b tBk (bP sh x)::gmap kvI Stk.v x.mi x.imp::bigO gd x.imp::L) (fun v L'=>∃a2,v=ac (impG sh m.m.parts l)∧(impG sh m.m.parts l=0→lW a2 (l++m.m.parts))∧L' = obj b tBk (bP sh x)::gmap kvI Stk.v x.mi a2::bigO gd a2::L):=by
 obtain⟨⟨frm,to,item,mn,parts⟩,pad,pcap⟩:=m;dsimp only at hr hp hb b2 ⊢;refine Tri.bd (args:=[ax b,aN (aM ⟨⟨frm,to,item,mn,parts⟩,pad,pcap⟩)]) ?_;simp only[aM,bP];refine TM ?_;intros;rename_i b3;refine G.loop (α:=Nat×List (Int×Stk)) (fun g=>g.1≤parts.length∧lW g.2 (l++parts.take g.1)∧impG sh parts l=impG sh (parts.drop g.1) (l++parts.take g.1)) (fun g=>[(0,ax b),(9,ah pad parts.length pcap),(10,ac parts.length),(11,ac (g.1:Int))]) (fun g=>obj b tBk (bP sh x)::gmap kvI Stk.v x.mi g.2::bigO gd g.2::L) (fun g=>parts.length - g.1) (0,x.imp) ⟨aw _,by rw[bH,aQ];exact hm,by rw[bH,aQ];rfl⟩ av (by simp only[bP];exact ae) ?_;rintro⟨i,mp⟩ ⟨hi,a0,hg⟩;dsimp only at hi a0 hg ⊢;simp only[bP];by_cases a3:i<parts.length
 case neg =>
  rw[bC ab,aF ab] at hg;rw[aF ab] at a0;have b5:impG sh parts l=0:=hg;rw[b5];refine TM ?_;intros;exact KX.en ⟨mp,rfl,fun _=>a0,rfl⟩
 have a8:(i:Int).toNat=i:=aC i;have b0 : (i:Int).toNat<parts.length:=ab;have b1:=hp _ (aI a3);have b7:=hb _ (aI a3);rw[eZ a3,qq] at hg;refine TM ?_;intros;refine GO.ev (Ev.B8 rfl rfl) ag ?_;refine TM ?_;intros;have a6 : LotOk parts[(i:Int).toNat]!:=by rw[a8];exact b1
 have b4:∀y∈ofF (l++parts.take i) parts[(i:Int).toNat]!.1,LotW y:=fun y hy=>by
  rcases List.mem_append.1 (ofF_mem.1 hy).1 with h|h
  ·exact(a9 y h).w
  ·exact(hp y (dv h)).w
 have b6:(ofF (l++parts.take i) parts[(i:Int).toNat]!.1).length≤110000:=by
  refine cK (qW _ _) ?_;rw[ay,bG];omega
 have e1:parts[(i:Int).toNat]! = parts[i]!:=by rw[a8]
 rw[←e1] at hg;by_cases c1:parts[(i:Int).toNat]!.1 / 4294967296=sh
 ·rw[if_pos (.inl c1)] at hg;rw[hg];refine TM ?_;intros;refine KX.d7 al ?_ ⟨mp,rfl,fun h=>absurd h ag,rfl⟩;exact ae
 by_cases c2:11<parts[(i:Int).toNat]!.1 / 4294967296
 ·rw[if_pos (.inr c2)] at hg;rw[hg];refine TM ?_;intros;refine KX.d7 al ?_ ⟨mp,rfl,fun h=>absurd h ag,rfl⟩;exact ae
 rw[if_neg (fun q=>q.elim c1 c2)] at hg;refine TM ?_;intros;have hv:=qP mp parts[(i:Int).toNat]!.1;have a4:=a0.2 parts[(i:Int).toNat]!.1;rw[a4] at hv;unfold glk at hv;refine GPW.ent (Ent.at (A:=bigO gd mp) (rU (f:=parts[(i:Int).toNat]!.1) a0.1)) ?_;rw[a4];refine GPW.evL (Ev.e8 rfl rfl) ag ?_;rw[hv];refine TM ?_;intros;refine GPW.cr (pF _ _ _ (ofF (l++parts.take i) parts[(i:Int).toNat]!.1) parts[(i:Int).toNat]! rfl ab b4 a6.w) ?_;by_cases c3:∃y∈ofF (l++parts.take i) parts[(i:Int).toNat]!.1,ovP parts[(i:Int).toNat]! y
 ·rw[if_pos c3] at hg;rw[hg,aS c3];refine TM ?_;intros;refine KX.d7 al ?_ ⟨mp,rfl,fun h=>absurd h ag,rfl⟩;rw[←a4];refine Ent.trans ?_ (Ent.d7 (Ent.swap (A:=bigO gd mp)));refine Ent.trans ?_ Ent.swap;refine Ent.trans ?_ (wF (f:=parts[(i:Int).toNat]!.1) a0.1);exact ae
 rw[if_neg c3] at hg;rw[aG c3];refine TM ?_;intros;refine GPW.evL (Ev.e8 rfl rfl) ag ?_;rw[hv];refine TM ?_;intros;refine GPK.keep (by rw[←hv];exact Ev.e8 rfl rfl) ?_;refine TM ?_;intros;refine GPW.ef (Ef.d7 (enc:=aj) (e:=parts[(i:Int).toNat]!) rfl rfl rfl rfl rfl aK (co _) ab ab) ag ?_;rintro _ _⟨a5,a1,rfl,rfl⟩;refine TM ?_;intros;refine GPW.efu (Ef.e7 (enc:=Stk.v) (e:=(⟨a5,a1,ofF (l++parts.take i) parts[(i:Int).toNat]!.1++[parts[(i:Int).toNat]!]⟩:Stk)) rfl rfl rfl rfl) ?_;rintro _ _⟨rfl,rfl⟩
 have a7:l++parts.take (i+1)=l++parts.take i++[parts[(i:Int).toNat]!]:=by
  rw[e1,aD a3,getElem!_of a3,aH]
 refine TM ?_;intros;refine⟨(i+1,gins mp parts[(i:Int).toNat]!.1 ⟨a5,a1,ofF (l++parts.take i) parts[(i:Int).toNat]!.1++[parts[(i:Int).toNat]!]⟩),⟨by dsimp only;omega,⟨mm a0.1,fun f=>?_⟩,by dsimp only;rw[a7];exact hg⟩,by dsimp only;omega,?_,?_⟩
 ·dsimp only;rw[oD,a7,sj];by_cases e:parts[(i:Int).toNat]!.1=f
  ·rw[if_pos e.symm,if_pos e,e]
  ·rw[if_neg (fun q=>e q.symm),if_neg e];exact a0.2 f
 ·dsimp only;rw[aV i];exact av
 ·dsimp only;refine Ent.trans ?_ (Ent.d7 (Ent.swap (A:=bigO gd _)));refine Ent.trans ?_ Ent.swap;refine Ent.trans ?_ (pQ (f:=parts[(i:Int).toNat]!.1) a0.1 ⟨a5,a1,ofF (l++parts.take i) parts[(i:Int).toNat]!.1++[parts[(i:Int).toNat]!]⟩);exact ae
end
section
open Go.V
def FlA(fl:List FlM):Prop:=∀f∈fl,(∀x∈f.parts,LotOk x)∧((f.kind=5∨(f.kind=9∧f.frm=0))→Apart f.parts)
def impAll_mem{fl:List FlM}{y:Lot}:y∈fC fl↔∃f∈fl,f.kind=5∧y∈f.parts:=by
 unfold fC;rw[List.mem_flatMap];constructor
 ·rintro⟨f,hf,hy⟩;obtain⟨h1,h2⟩:=List.mem_filter.1 hf;exact⟨f,h1,of_decide_eq_true h2,hy⟩
 ·rintro⟨f,hf,hk,hy⟩;exact⟨f,List.mem_filter.2 ⟨hf,decide_eq_true hk⟩,hy⟩
def retAll_mem{fl:List FlM}{y:Lot}:y∈fe fl↔∃f∈fl,(f.kind=9∧f.frm=0)∧y∈f.parts:=by
 unfold fe;rw[List.mem_flatMap];constructor
 ·rintro⟨f,hf,hy⟩;obtain⟨h1,h2⟩:=List.mem_filter.1 hf;exact⟨f,h1,of_decide_eq_true h2,hy⟩
 ·rintro⟨f,hf,hk,hy⟩;exact⟨f,List.mem_filter.2 ⟨hf,decide_eq_true hk⟩,hy⟩
def vo{fl:List FlM}(h:FlA fl):∀y∈fC fl,LotOk y:=fun y hy=>by
 obtain⟨f,hf,_,hy⟩:=impAll_mem.1 hy;exact(h f hf).1 y hy
def uY{fl:List FlM}(h:FlA fl):∀y∈fe fl,LotOk y:=fun y hy=>by
 obtain⟨f,hf,_,hy⟩:=retAll_mem.1 hy;exact(h f hf).1 y hy
def Gi{fl:List FlM}(h:FlA fl){p:Lot}(hp:LotOk p):lV fl p↔∃y∈ofF (fC fl) p.1,ovP p y:=by
 unfold lV;constructor
 ·rintro⟨f,hf,hk,hm⟩;obtain⟨y,hy,h1,h2⟩:=(oV (h f hf).1 ((h f hf).2 (.inl hk)) hp).1 hm;exact⟨y,ofF_mem.2 ⟨impAll_mem.2 ⟨f,hf,hk,hy⟩,h1⟩,h2⟩
 ·rintro⟨y,hy,h2⟩;obtain⟨hy,h1⟩:=ofF_mem.1 hy;obtain⟨f,hf,hk,hy⟩:=impAll_mem.1 hy;exact⟨f,hf,hk,(oV (h f hf).1 ((h f hf).2 (.inl hk)) hp).2 ⟨y,hy,h1,h2⟩⟩
def xX{sh:Int}{fl:List FlM}(h:FlA fl):∀(ps dn:LL),(∀p∈ps,LotOk p)→Apart ps→(∀d∈dn,∀p∈ps,apart d p)→impG sh ps (fC fl++dn)=arrG sh fl ps
 | [],_,_,_,_=>rfl
 | p::ps,dn,h1,h2,h3=>by
  obtain⟨a1,a2⟩:=List.pairwise_cons.1 h2;have hp:=h1 p aq
  have ih:=xX (sh:=sh) h ps (dn++[p]) (fun q hq=>h1 q (au _ hq)) a2 (fun d hd q hq=>by
   rcases List.mem_append.1 hd with hd|hd
   ·exact h3 d hd q (au _ hq)
   ·rw[List.mem_singleton.1 hd];exact a1 q hq)
  have e:(∃y∈ofF (fC fl++dn) p.1,ovP p y)↔lV fl p:=by
   rw[Gi h hp];constructor
   ·rintro⟨y,hy,h4⟩;obtain⟨hy,h5⟩:=ofF_mem.1 hy;rcases List.mem_append.1 hy with hy|hy
    ·exact⟨y,ofF_mem.2 ⟨hy,h5⟩,h4⟩
    ·have:=h3 y hy p aq
     unfold apart at this;unfold ovP at h4;omega
   ·rintro⟨y,hy,h4⟩;obtain⟨hy,h5⟩:=ofF_mem.1 hy;exact⟨y,ofF_mem.2 ⟨bQ _ hy,h5⟩,h4⟩
  rw[qq];show _=if arr1 sh fl p=0 then arrG sh fl ps else arr1 sh fl p;unfold arr1;by_cases c1:p.1 / 4294967296=sh∨11<p.1 / 4294967296
  ·rw[if_pos c1,if_pos c1,if_neg ag]
  ·rw[if_neg c1,if_neg c1];by_cases c2:lV fl p
   ·rw[if_pos (e.2 c2),if_pos c2,if_neg ag]
   ·rw[if_neg (fun q=>c2 (e.1 q)),if_neg c2,if_pos rfl,aH];exact ih
def BH{sh:Int}{fl:List FlM}(h:FlA fl){ps:LL}(h1:∀p∈ps,LotOk p)(h2:Apart ps):impG sh ps (fC fl)=arrG sh fl ps:=by
 have:=xX (sh:=sh) h ps [] h1 h2 (fun d hd=>absurd hd aU)
 rwa [aQ] at this
end
section
open Go.V
attribute [local irreducible] G GO GP GPW GPK Ev Ef EfR Ent CB GB V.Enters
def gotB(sh:Int)(fl:List FlM)(item:Int)(p:Lot):Prop:=(0≤p.1 - sh*4294967296∧p.1 - sh*4294967296<fl.length)∧fl[(p.1 - sh*4294967296).toNat]!.to=0∧fl[(p.1 - sh*4294967296).toNat]!.kind≠6∧fl[(p.1 - sh*4294967296).toNat]!.item=item∧p.2.1+p.2.2≤fl[(p.1 - sh*4294967296).toNat]!.n
instance (sh:Int)(fl:List FlM)(item:Int)(p:Lot):Decidable (gotB sh fl item p):=by unfold gotB;infer_instance
def retG(sh:Int)(fl:List FlM)(item:Int):LL→LL→Int
 | [],_=>0
 | p::ps,l=>if gotB sh fl item p∧¬ ∃y∈ofF l p.1,ovP p y then retG sh fl item ps (l++[p]) else 10
def mf{sh:Int}{fl:List FlM}{item:Int}{p:Lot}{ps l:LL}:retG sh fl item (p::ps) l=if gotB sh fl item p∧¬ ∃y∈ofF l p.1,ovP p y then retG sh fl item ps (l++[p]) else 10:=rfl
abbrev AK:=ay5 [.ev 8]
abbrev AJ:=ay8 [.ev 18,.ev 19,.ef 17,.ev 20,.ev 21,.ev 22,.ev 23,.ev 24,.ev 25,.ev 26,.ev 27,.ev 28,.ev 29,.ev 30,.ef 31,.ev 32]
abbrev xC:=ay7 [.ev 13,.ef 14,.ef 15,.ef 16]
def cN{φ ψ:Prop}(k:ψ)(h:Hid ψ→φ:=by intro k;(with_reducible apply G.d7);first|refine G.dr 92 4 AK (Hid.out k)|refine G.dr 92 8 AJ (Hid.out k)|refine G.dr 92 10 xC (Hid.out k)):φ:=h ⟨k⟩
def Ua{φ ψ:Prop}(k:ψ)(h:Hid ψ→φ:=by intro k;(repeat (first|refine aa ?_|intro zzz|refine G.dr 92 4 AK ?_|refine G.dr 92 8 AJ ?_|refine G.dr 92 10 xC ?_));(repeat revert zzz);exact Hid.out k):φ:=h ⟨k⟩
def sd{L:LH}(b:Nat)(sh:Int)(b8:0≤sh∧sh<12)(x:BkX)(d3:x.flows.length≤9000000)(l:LL)(hm:lW x.ret l)(hl:l.length≤100000)(b9:∀y∈l,LotOk y)(m:MvV)[hr:Rds L m.pad Lot aj 3 m.m.parts](hp:∀p∈m.m.parts,LotOk p)(hb:∀p∈m.m.parts,p.1≤9223372036854775807)(c9:m.m.parts.length≤4096) :
  Tri ai 152 #[ax b,aN (aM m)] (obj b tBk (bP sh x)::osl bL 11 cz x.fad x.fcap x.flows::gmap kvI Stk.v x.mr x.ret::bigO gd x.ret::L) (fun v L'=>∃a5,v=ac (retG sh (x.flows.map (·.m)) m.m.item m.m.parts l)∧(retG sh (x.flows.map (·.m)) m.m.item m.m.parts l=0→lW a5 (l++m.m.parts))∧L' = obj b tBk (bP sh x)::osl bL 11 cz x.fad x.fcap x.flows::gmap kvI Stk.v x.mr a5::bigO gd a5::L):=by
 obtain⟨⟨frm,to,item,mn,parts⟩,pad,pcap⟩:=m;dsimp only at hr hp hb c9 ⊢;generalize hfe:x.flows.map (·.m)=fl;have c8:fl.length=x.flows.length:=by rw[←hfe,aA]
 refine Tri.bd (args:=[ax b,aN (aM ⟨⟨frm,to,item,mn,parts⟩,pad,pcap⟩)]) ?_;simp only[aM,bP];refine Ua ?_;intros;rename_i b3;refine G.loop (α:=Nat×List (Int×Stk)) (fun g=>g.1≤parts.length∧lW g.2 (l++parts.take g.1)∧retG sh fl item parts l=retG sh fl item (parts.drop g.1) (l++parts.take g.1)) (fun g=>[(0,ax b),(3,ax b3),(10,ah pad parts.length pcap),(11,ac parts.length),(12,ac (g.1:Int))]) (fun g=>obj b3 tMv [ac frm,ac to,ac item,ac mn,ah pad parts.length pcap]::obj b tBk (bP sh x)::osl bL 11 cz x.fad x.fcap x.flows::gmap kvI Stk.v x.mr g.2::bigO gd g.2::L) (fun g=>parts.length - g.1) (0,x.ret) ⟨aw _,by rw[bH,aQ];exact hm,by rw[bH,aQ];rfl⟩ av (by simp only[bP];exact ae) ?_;rintro⟨i,mp⟩ ⟨hi,a3,hg⟩;dsimp only at hi a3 hg ⊢;simp only[bP];by_cases a7:i<parts.length
 case neg =>
  rw[bC ab,aF ab] at hg;rw[aF ab] at a3;have d1:retG sh fl item parts l=0:=hg;rw[d1];refine Ua ?_;intros;refine KX.d7 al ?_ ⟨mp,rfl,fun _=>a3,rfl⟩;exact ae
 have b7:(i:Int).toNat=i:=aC i;have c0 : (i:Int).toNat<parts.length:=ab;have e1:parts[(i:Int).toNat]! = parts[i]!:=by rw[b7]
 have a4 : LotOk parts[(i:Int).toNat]!:=by rw[b7];exact hp _ (aI a7)
 have d2:=hb _ (aI a7);rw[←e1] at d2;have b0:=a4;unfold LotOk at b0;rw[eZ a7,mf,←e1] at hg
 have d0:∀y∈ofF (l++parts.take i) parts[(i:Int).toNat]!.1,LotW y:=fun y hy=>by
  rcases List.mem_append.1 (ofF_mem.1 hy).1 with h|h
  ·exact(b9 y h).w
  ·exact(hp y (dv h)).w
 have d4:(ofF (l++parts.take i) parts[(i:Int).toNat]!.1).length≤110000:=by
  refine cK (qW _ _) ?_;rw[ay,bG];omega
 have hv:=qP mp parts[(i:Int).toNat]!.1;have a9:=a3.2 parts[(i:Int).toNat]!.1;rw[a9] at hv;unfold glk at hv;refine G.ent (L':=osl aj 3 tLot (fM mp parts[(i:Int).toNat]!.1).ad (fM mp parts[(i:Int).toNat]!.1).cap (ofF (l++parts.take i) parts[(i:Int).toNat]!.1)::bigO gd (gera mp parts[(i:Int).toNat]!.1)::obj b3 tMv [ac frm,ac to,ac item,ac mn,ah pad parts.length pcap]::obj b tBk (bP sh x)::osl bL 11 cz x.fad x.fcap x.flows::gmap kvI Stk.v x.mr mp::L) ?_ ?_
 ·refine(Ent.at (A:=bigO gd mp) (rU (f:=parts[(i:Int).toNat]!.1) a3.1)).trans ?_;rw[a9];exact ae
 have a0:Ent (osl aj 3 tLot (fM mp parts[(i:Int).toNat]!.1).ad (fM mp parts[(i:Int).toNat]!.1).cap (ofF (l++parts.take i) parts[(i:Int).toNat]!.1)::bigO gd (gera mp parts[(i:Int).toNat]!.1)::obj b tBk (bP sh x)::osl bL 11 cz x.fad x.fcap x.flows::gmap kvI Stk.v x.mr mp::L) (obj b tBk (bP sh x)::osl bL 11 cz x.fad x.fcap x.flows::gmap kvI Stk.v x.mr mp::bigO gd mp::L):=by
  rw[←a9];exact(wF (f:=parts[(i:Int).toNat]!.1) a3.1).trans ae
 simp only[bP] at a0 ⊢;refine Ua ?_;intros;refine GPW.evP (Ev.n7 rfl rfl ab ab) ag ?_;have b1:sh*4294967296≤12*4294967296:=bV ab ag;have b2:0≤sh*4294967296:=dI b8.1 ag;obtain⟨sk,a8⟩:∃sk,sk=sh*4294967296:=⟨_,rfl⟩;have a2:¬gotB sh fl item parts[(i:Int).toNat]!→retG sh fl item parts l=10:=fun q=>by rw[hg,if_neg (fun h=>q h.1)]
 unfold gotB at a2;rw[←a8] at b1 b2 a2;rw[←a8];by_cases c1:0≤parts[(i:Int).toNat]!.1 - sk
 case neg =>
  rw[a2 (fun q=>c1 q.1.1)];refine Ua ?_;intros;refine KX.d7 al ?_ ⟨mp,rfl,fun h=>absurd h ag,rfl⟩;exact Ent.trans ae a0
 by_cases c2:parts[(i:Int).toNat]!.1 - sk<fl.length
 case neg =>
  rw[a2 (fun q=>c2 q.1.2)];refine Ua ?_;intros;refine KX.d7 al ?_ ⟨mp,rfl,fun h=>absurd h ag,rfl⟩;exact Ent.trans ae a0
 have hk:(parts[(i:Int).toNat]!.1 - sk).toNat<x.flows.length:=ab;have b6:fl[(parts[(i:Int).toNat]!.1 - sk).toNat]! = x.flows[(parts[(i:Int).toNat]!.1 - sk).toNat]!.m:=by rw[←hfe,el _ hk]
 rw[b6] at a2;repeat first|((fail_if_success (with_reducible refine G.atS 8 ?_));(with_reducible apply G.seq))|refine bW ?_|intro _|refine cN ?_
 generalize hfv:x.flows[(parts[(i:Int).toNat]!.1 - sk).toNat]! = fv at *;by_cases c3:fv.m.to=0
 case neg =>
  rw[a2 (fun q=>c3 q.2.1)];refine Ua ?_;intros;refine KX.d7 al ?_ ⟨mp,rfl,fun h=>absurd h ag,rfl⟩;exact Ent.trans ae a0
 by_cases c4:fv.m.kind=6
 case pos =>
  rw[a2 (fun q=>q.2.2.1 c4)];refine Ua ?_;intros;refine KX.d7 al ?_ ⟨mp,rfl,fun h=>absurd h ag,rfl⟩;exact Ent.trans ae a0
 by_cases c5:fv.m.item=item
 case neg =>
  rw[a2 (fun q=>c5 q.2.2.2.1)];refine Ua ?_;intros;refine KX.d7 al ?_ ⟨mp,rfl,fun h=>absurd h ag,rfl⟩;exact Ent.trans ae a0
 by_cases c6:parts[(i:Int).toNat]!.2.1+parts[(i:Int).toNat]!.2.2≤fv.m.n
 case neg =>
  rw[a2 (fun q=>c6 q.2.2.2.2)];refine Ua ?_;intros;refine GPW.cr (jh parts[(i:Int).toNat]! a4.w) ?_;refine Ua ?_;intros;refine KX.d7 al ?_ ⟨mp,rfl,fun h=>absurd h ag,rfl⟩;exact Ent.trans ae a0
 have b4:gotB sh fl item parts[(i:Int).toNat]!:=by
  unfold gotB;rw[←a8,b6];exact⟨⟨c1,c2⟩,c3,c4,c5,c6⟩
 clear a2;refine Ua ?_;intros;refine GPW.cr (jh parts[(i:Int).toNat]! a4.w) ?_;refine Ua ?_;intros;refine GPW.evL (Ev.e8 rfl rfl) ag ?_;rw[hv];refine Ua ?_;intros;refine GPW.cr (pF _ _ _ (ofF (l++parts.take i) parts[(i:Int).toNat]!.1) parts[(i:Int).toNat]! rfl ab d0 a4.w) ?_;by_cases c7:∃y∈ofF (l++parts.take i) parts[(i:Int).toNat]!.1,ovP parts[(i:Int).toNat]! y
 ·rw[if_neg (fun q=>q.2 c7)] at hg;rw[hg,aS c7];refine Ua ?_;intros;refine KX.d7 al ?_ ⟨mp,rfl,fun h=>absurd h ag,rfl⟩;exact Ent.trans ae a0
 rw[if_pos ⟨b4,c7⟩] at hg;rw[aG c7];refine Ua ?_;intros;refine GPW.evL (Ev.e8 rfl rfl) ag ?_;rw[hv];refine Ua ?_;intros;refine GPK.keep (by rw[←hv];exact Ev.e8 rfl rfl) ?_;refine Ua ?_;intros;refine GPW.ef (Ef.d7 (enc:=aj) (e:=parts[(i:Int).toNat]!) rfl rfl rfl rfl rfl aK (co _) ab ab) ag ?_;rintro _ _⟨a6,a1,rfl,rfl⟩;refine Ua ?_;intros;refine GPW.efu (Ef.e7 (enc:=Stk.v) (e:=(⟨a6,a1,ofF (l++parts.take i) parts[(i:Int).toNat]!.1++[parts[(i:Int).toNat]!]⟩:Stk)) rfl rfl rfl rfl) ?_;rintro _ _⟨rfl,rfl⟩
 have b5:l++parts.take (i+1)=l++parts.take i++[parts[(i:Int).toNat]!]:=by
  rw[e1,aD a7,getElem!_of a7,aH]
 refine Ua ?_;intros;refine⟨(i+1,gins mp parts[(i:Int).toNat]!.1 ⟨a6,a1,ofF (l++parts.take i) parts[(i:Int).toNat]!.1++[parts[(i:Int).toNat]!]⟩),⟨by dsimp only;omega,⟨mm a3.1,fun f=>?_⟩,by dsimp only;rw[b5];exact hg⟩,by dsimp only;omega,?_,?_⟩
 ·dsimp only;rw[oD,b5,sj];by_cases e:parts[(i:Int).toNat]!.1=f
  ·rw[if_pos e.symm,if_pos e,e]
  ·rw[if_neg (fun q=>e q.symm),if_neg e];exact a3.2 f
 ·dsimp only;rw[aV i];exact av
 ·dsimp only;refine Ent.trans ?_ (Ent.at (A:=bigO gd (gins mp parts[(i:Int).toNat]!.1 ⟨a6,a1,ofF (l++parts.take i) parts[(i:Int).toNat]!.1++[parts[(i:Int).toNat]!]⟩)) (L:=bigO gd (gins mp parts[(i:Int).toNat]!.1 ⟨a6,a1,ofF (l++parts.take i) parts[(i:Int).toNat]!.1++[parts[(i:Int).toNat]!]⟩)::obj b3 tMv [ac frm,ac to,ac item,ac mn,ah pad parts.length pcap]::obj b tBk (bP sh x)::osl bL 11 cz x.fad x.fcap x.flows::gmap kvI Stk.v x.mr (gins mp parts[(i:Int).toNat]!.1 ⟨a6,a1,ofF (l++parts.take i) parts[(i:Int).toNat]!.1++[parts[(i:Int).toNat]!]⟩)::L) (by simp only[bP];exact ae));refine Ent.trans ?_ (pQ (f:=parts[(i:Int).toNat]!.1) a3.1 ⟨a6,a1,ofF (l++parts.take i) parts[(i:Int).toNat]!.1++[parts[(i:Int).toNat]!]⟩);exact ae
end
section
open Go.V
def FlN(sh:Int)(fl:List FlM):Prop:=∀k,k<fl.length→fl[k]!.id=sh*4294967296+k∧1≤fl[k]!.n∧fl[k]!.n≤1099511627776
def Bp{p:Lot}{id n:Int}(hp:LotOk p)(hi:0≤id)(h1:1≤n)(h2:n≤1099511627776):fF [p] [(id,0,n)]↔p.1=id∧p.2.1+p.2.2≤n:=by
 have hx:LotOk (id,0,n):=⟨hi,bg _,by dsimp only;omega,h1,by dsimp only;omega⟩;have one:∀y:Lot,Apart [y]:=fun y=>bE _ _;rw[oz (pO hp) (one p) (pO hx) (one _),gE,ir];show p.2.2+0 - ((ov p (id,0,n)+0)+0)=0↔_;unfold LotOk at hp;unfold ov;dsimp only;by_cases e:p.1=id
 ·rw[if_pos e];omega
 ·rw[if_neg e];omega
def Gj{sh:Int}{fl:List FlM}(a0:0≤sh)(h:FlA fl)(hn:FlN sh fl)(item:Int){p:Lot}(hp:LotOk p):kI fl item p↔gotB sh fl item p∧¬ ∃y∈ofF (fe fl) p.1,ovP p y:=by
 have a1:0≤sh*4294967296:=dI a0 ag
 have hA:(∃f∈fl,f.kind=9∧f.frm=0∧gL f.parts [p]≠[])↔∃y∈ofF (fe fl) p.1,ovP p y:=by
  constructor
  ·rintro⟨f,hf,hk,hz,hm⟩;obtain⟨y,hy,h1,h2⟩:=(oV (h f hf).1 ((h f hf).2 (.inr ⟨hk,hz⟩)) hp).1 hm;exact⟨y,ofF_mem.2 ⟨retAll_mem.2 ⟨f,hf,⟨hk,hz⟩,hy⟩,h1⟩,h2⟩
  ·rintro⟨y,hy,h2⟩;obtain⟨hy,h1⟩:=ofF_mem.1 hy;obtain⟨f,hf,hk,hy⟩:=retAll_mem.1 hy;exact⟨f,hf,hk.1,hk.2,(oV (h f hf).1 ((h f hf).2 (.inr hk)) hp).2 ⟨y,hy,h1,h2⟩⟩
 have hB:(∃f∈fl,f.kind≠6∧f.to=0∧f.item=item∧fF [p] [(f.id,0,f.n)])↔gotB sh fl item p:=by
  constructor
  ·rintro⟨f,hf,h1,h2,h3,h4⟩;obtain⟨k,hk,rfl⟩:=List.mem_iff_getElem.1 hf;obtain⟨g1,g2,g3⟩:=hn k hk;rw[getElem!_of hk] at g1 g2 g3;obtain⟨g4,g5⟩:=(Bp hp ab g2 g3).1 h4;have e:(p.1 - sh*4294967296).toNat=k:=ab;unfold gotB;rw[e,getElem!_of hk];exact⟨⟨ab,ab⟩,h2,h1,h3,g5⟩
  ·rintro⟨⟨h1,h2⟩,h3,h4,h5,h6⟩;have hk:(p.1 - sh*4294967296).toNat<fl.length:=ab;obtain⟨g1,g2,g3⟩:=hn _ hk;exact⟨_,aI hk,h4,h3,h5,(Bp hp ab g2 g3).2 ⟨ab,h6⟩⟩
 unfold kI;rw[hA,hB];exact And.comm
def wZ{sh:Int}{fl:List FlM}(a0:0≤sh)(h:FlA fl)(hn:FlN sh fl)(item:Int):∀(ps dn:LL),(∀p∈ps,LotOk p)→Apart ps→(∀d∈dn,∀p∈ps,apart d p)→retG sh fl item ps (fe fl++dn)=revG fl item ps
 | [],_,_,_,_=>by
  unfold revG;rw[if_pos (fun p hp=>absurd hp aU)];rfl
 | p::ps,dn,h1,h2,h3=>by
  obtain⟨a1,a2⟩:=List.pairwise_cons.1 h2;have hp:=h1 p aq
  have ih:=wZ a0 h hn item ps (dn++[p]) (fun q hq=>h1 q (au _ hq)) a2 (fun d hd q hq=>by
   rcases List.mem_append.1 hd with hd|hd
   ·exact h3 d hd q (au _ hq)
   ·rw[List.mem_singleton.1 hd];exact a1 q hq)
  have e:(∃y∈ofF (fe fl++dn) p.1,ovP p y)↔∃y∈ofF (fe fl) p.1,ovP p y:=by
   constructor
   ·rintro⟨y,hy,h4⟩;obtain⟨hy,h5⟩:=ofF_mem.1 hy;rcases List.mem_append.1 hy with hy|hy
    ·exact⟨y,ofF_mem.2 ⟨hy,h5⟩,h4⟩
    ·have:=h3 y hy p aq
     unfold apart at this;unfold ovP at h4;omega
   ·rintro⟨y,hy,h4⟩;obtain⟨hy,h5⟩:=ofF_mem.1 hy;exact⟨y,ofF_mem.2 ⟨bQ _ hy,h5⟩,h4⟩
  have hb:=Gj a0 h hn item hp;rw[←e] at hb;rw[mf,aH,ih];unfold revG;by_cases c:kI fl item p
  ·rw[if_pos (hb.1 c)];by_cases c2:∀q∈ps,kI fl item q
   ·rw[if_pos c2,if_pos (fun q hq=>by
     rcases List.mem_cons.1 hq with rfl|hq
     ·exact c
     ·exact c2 q hq)]
   ·rw[if_neg c2,if_neg (fun q=>c2 (fun r hr=>q r (au _ hr)))]
  ·rw[if_neg (fun q=>c (hb.2 q)),if_neg (fun q=>c (q p aq))]
def Bv{sh:Int}{fl:List FlM}(a0:0≤sh)(h:FlA fl)(hn:FlN sh fl)(item:Int){ps:LL}(h1:∀p∈ps,LotOk p)(h2:Apart ps):retG sh fl item ps (fe fl)=revG fl item ps:=by
 have:=wZ a0 h hn item ps [] h1 h2 (fun d hd=>absurd hd aU)
 rwa [aQ] at this
