/- Lemmas. -/
import Derived.Test.YtommnllbflbdmaaGreatDoorLax
set_option linter.all false
set_option maxHeartbeats 4000000
namespace Go.Proofs.YtommnllbflbdmaaGreatDoor
open Go.V
attribute [local irreducible] G GO GP GPW GPK Ev Ef EfR Ent CB GB V.Enters
abbrev tSrt:Nat:=255
abbrev srtC(b3 b1:Nat)(c:CatV):LH:=[obj b3 tSrt [.func (.func 188) #[] #[au b1]],obj b1 tCat c.cells]
theorem vx{r:RuV}{L:LH}:Ent (ruP r::L) (amS r.take::amS r.give::amS r.back::ruP r::L):=(Ent.dup (iX r).pers).trans ruOpen
theorem Gn(b3 b1:Nat)(c:CatV)(hc:c.items.length≤64)(r:RuV)(h:RuGood c.items.length r.m):fe 190 [au b3] bQ ruP (cL (srtC b3 b1 c)) r:=by
 intro L;have hl:=h.lim;change r.take.l.length+r.give.l.length≤64∧r.take.l.length+r.back.l.length≤64 at hl;refine Tri.body (args:=[.agg (bQ r).toArray,au b3]) 31 IS Tryz.func190 rfl rfl rfl (by simp) ?_;refine G.ent (Ent.openS.trans (Ent.d7 (Ent.d7 vx))) ?_;repeat first|refine aa ?_|intro
 refine GO.ent (Ent.at (A:=amS r.take) (Ent.at (A:=obj b1 tCat c.cells) (Ent.refl _))) ?_;refine GO.ef (Ef.d9 rfl rfl (rq b1 c r.take.ad r.take.cap r.take.l ac hc h.take)) ae ?_;rintro _ _⟨rfl,rfl⟩;repeat first|refine aa ?_|intro
 refine GO.ent (Ent.at (A:=amS r.give) (Ent.at (A:=obj b1 tCat c.cells) (Ent.refl _))) ?_;refine GO.ef (Ef.d9 rfl rfl (rq b1 c r.give.ad r.give.cap r.give.l ac hc h.give)) ae ?_;rintro _ _⟨rfl,rfl⟩;repeat first|refine aa ?_|intro
 refine GO.ent (Ent.at (A:=amS r.back) (Ent.at (A:=obj b1 tCat c.cells) (Ent.refl _))) ?_;refine GO.ef (Ef.d9 rfl rfl (rq b1 c r.back.ad r.back.cap r.back.l ac hc h.back)) ae ?_;rintro _ _⟨rfl,rfl⟩;repeat first|refine aa ?_|intro
 refine GO.ef (Ef.d7 (uy _ r h) rfl) ae ?_;rintro _ _⟨rfl,rfl⟩;repeat first|refine aa ?_|intro _
 (first|refine GO.ef (Ef.call (zm (L:=[]) c.items.length r.take.ad r.back.ad r.take.cap r.back.cap r.take.l r.back.l ac ac h.take h.back h.cont) rfl (by repeat (first|exact Ent.refl _|apply Ent.take))) ae ?_);rintro _ _⟨_,⟨rfl,rfl⟩,hL⟩;simp only[ax,aq] at hL;subst hL;repeat first|refine aa ?_|intro
 refine KX.d7 ai ?_ ⟨rfl,rfl⟩;refine Ent.trans ?_ Ent.j0;simp only[ax,aq];exact ag
theorem Fr(b3 b1:Nat)(c:CatV)(hc:c.items.length≤64)(r:RwV)(hl:r.give.l.length≤64)(h:jg c.items.length r.give.l):fe 195 [au b3] eK rwP (cL (srtC b3 b1 c)) r:=by
 intro L;refine Tri.body (args:=[.agg (eK r).toArray,au b3]) 8 IN Tryz.func195 rfl rfl rfl (by simp) ?_;refine G.ent Ent.openS ?_;simp only[ax,aq];repeat first|refine aa ?_|intro
 refine GO.ent (Ent.at (A:=amS r.give) (Ent.at (A:=obj b1 tCat c.cells) (Ent.refl _))) ?_;refine GO.ef (Ef.d9 rfl rfl (rq b1 c r.give.ad r.give.cap r.give.l hl hc h)) ae ?_;rintro _ _⟨rfl,rfl⟩;repeat first|refine aa ?_|intro
 refine KX.d7 ai ?_ ⟨rfl,rfl⟩;refine Ent.trans ?_ Ent.j0;simp only[ax,aq];exact ag
theorem qB{t:TbV}{L:LH}:Ent (tbP t::L) (isl eK 2 t.ad t.rows::allP rwP t.rows::tbP t::L):=(Ent.dup (jS t).pers).trans Ent.andE
theorem my{n:Nat}{t:TbV}(h:TbGood n t.m):(0<t.rows.length∧t.rows.length≤64)∧∀r∈t.rows,RwGood n r.m:=by
 have h1:=h.rows;have h2:=h.good;simp only[TbV.m,aG] at h1 h2;exact⟨h1,fun r hr=>h2 _ (alStd0List_mem_map_of_mem hr)⟩
theorem Gm(b3 b1:Nat)(c:CatV)(hc:c.items.length≤64)(t:TbV)(hB:t.B)(h:TbGood c.items.length t.m):fe 193 [au b3] cj tbP (cL (srtC b3 b1 c)) t:=by
 intro L;obtain⟨⟨r1,r2⟩,r3⟩:=my h;refine Tri.body (args:=[.agg (cj t).toArray,au b3]) 14 IP Tryz.func193 rfl rfl rfl (by simp) ?_;refine G.ent (Ent.d7 qB) ?_;repeat first|refine aa ?_|intro _
 (first|refine GO.ef (Ef.call (pg (L:=[]) _ [au b3] (cL (srtC b3 b1 c)) t.ad t.cap t.rows r2 (fun r hr=>Fr b3 b1 c hc r (hB.2 r hr) (r3 r hr).give)) rfl (by repeat (first|exact Ent.refl _|apply Ent.take))) ae ?_);rintro _ _⟨_,⟨rfl,rfl⟩,hL⟩;simp only[ax,aq] at hL;subst hL;repeat first|refine aa ?_|intro
 exact KX.d7 ai ag ⟨rfl,rfl⟩
abbrev AX:List Stp:=[.ev 0,.ev 1,.ev 2,.ev 3,.ev 4,.ev 5,.ev 6,.ev 7,.ev 8,.ev 9,.ev 10,.ev 11,.ev 12,.ev 13]
theorem jJ{φ ψ:Prop}(k:ψ)(h:Hid ψ→φ:=by intro k;(with_reducible apply G.d8);first|refine G.d7 (N:=37) (id:=6) AX mixed ap (Hid.out k)):φ:=h ⟨k⟩
theorem vl(t:TxV)(h:TxGood t.m):fe 196 [] cq txP (dy True) t:=by
 intro L;obtain⟨h1,h2⟩:=h.brs;change 0<t.brs.length at h1;change t.brs.length≤16 at h2;have h3:t.brs[(0:Int).toNat]!.1=0:=h.first;have h4:∀i,i+1<t.brs.length→t.brs[i]!.1<t.brs[i+1]!.1:=h.srt;refine Tri.body (args:=[.agg (cq t).toArray]) 37 IM Tryz.func196 rfl rfl rfl (by simp) ?_;refine G.ent (L':=isl bL 2 t.ad t.brs::dy True::L) (by unfold txP;exact ag) ?_;repeat first|refine aa ?_|intro _|refine jJ ?_
 rename_i b1;refine G.loop (α:=Nat) (fun i=>1≤i∧i≤t.brs.length) (fun i=>[(1,au b1),(3,ab (i:Int))]) (fun _=>obj b1 160 (cq t)::isl bL 2 t.ad t.brs::dy True::L) (fun i=>t.brs.length - i) 1 ⟨ac,ac⟩ aj ag ?_;rintro i ⟨hi1,hi2⟩;by_cases hlt:i<t.brs.length
 case neg =>
  repeat first|refine aa ?_|intro _|refine jJ ?_
  refine KX.d7 ai ?_ ⟨rfl,rfl⟩;unfold txP;exact ag
 have h5:=h4 (i - 1) ac;rw[show i - 1+1=i by omega] at h5
 have h6:t.brs[((i:Int) - 1).toNat]!.1<t.brs[(i:Int).toNat]!.1:=by
  rw[show((i:Int) - 1).toNat=i - 1 by omega,show(i:Int).toNat=i by omega];exact h5
 repeat first|refine aa ?_|intro _|refine jJ ?_
 refine⟨i+1,⟨ac,ac⟩,ac,?_,by exact ag⟩;rw[aP i];exact aj
theorem uq{L:LH}(c:CatV)(hB:c.B)(h:CatGood c.m):Tri ah 114 #[.agg c.cells.toArray] (catS c (cI::L)) (fun v L'=>v=.bool true∧L' = catS c (cI::L)):=by
 obtain⟨l1,l2,l3,l4⟩:=lens h;refine Tri.body (args:=[.agg c.cells.toArray]) 25 Kd Tryz.func114 rfl rfl rfl (by simp) ?_;simp only[catS];repeat first|refine aa ?_|intro
 rename_i b1 b3;refine GO.ent (Ent.pure trivial (nl c.items)) ?_;simp only[CatV.cells];repeat first|refine aa ?_|intro _
 (first|refine GO.ef (Ef.call (ph (L:=[]) _ [] (dy True) c.iad c.icap c.items l1 (fun x hx=>uG x (h.it x hx))) rfl (by repeat (first|exact Ent.refl _|apply Ent.take))) ae ?_);rintro _ _⟨_,⟨rfl,rfl⟩,hL⟩;simp only[ax,aq] at hL;subst hL;repeat first|refine aa ?_|intro
 refine GO.ent (L':=cL (srtC b3 b1 c)::dy True::isl bS 7 c.iad c.items::isl bQ 9 c.rad c.rules::allP ruP c.rules::isl cj 2 c.tad c.tables::allP tbP c.tables::isl cq 2 c.xad c.taxes::allP txP c.taxes::cI::L) ?_ ?_
 ·refine Ent.trans ?_ Ent.j0;simp only[srtC,CatV.cells,ax,aq];exact ag
 (first|refine GO.ef (Ef.call (mF (L:=[]) _ [au b3] (cL (srtC b3 b1 c)) c.rad c.rcap c.rules l2 (fun r hr=>Gn b3 b1 c l1 r (kc h r hr))) rfl (by repeat (first|exact Ent.refl _|apply Ent.take))) ae ?_);rintro _ _⟨_,⟨rfl,rfl⟩,hL⟩;simp only[ax,aq] at hL;subst hL;refine GO.ent (Ent.openS (A:=srtC b3 b1 c)) ?_;simp only[srtC,CatV.cells,ax,aq];repeat first|refine aa ?_|intro
 refine GO.ent (L':=cL (srtC b3 b1 c)::dy True::isl bS 7 c.iad c.items::isl bQ 9 c.rad c.rules::allP ruP c.rules::isl cj 2 c.tad c.tables::allP tbP c.tables::isl cq 2 c.xad c.taxes::allP txP c.taxes::cI::L) ?_ ?_
 ·refine Ent.trans ?_ Ent.j0;simp only[srtC,CatV.cells,ax,aq];exact ag
 (first|refine GO.ef (Ef.call (mE (L:=[]) _ [au b3] (cL (srtC b3 b1 c)) c.tad c.tcap c.tables ac (fun r hr=>Gm b3 b1 c l1 r (hB.tb r hr) (ka h r hr))) rfl (by repeat (first|exact Ent.refl _|apply Ent.take))) ae ?_);rintro _ _⟨_,⟨rfl,rfl⟩,hL⟩;simp only[ax,aq] at hL;subst hL;refine GO.ent (Ent.openS (A:=srtC b3 b1 c)) ?_;simp only[srtC,CatV.cells,ax,aq];repeat first|refine aa ?_|intro _
 (first|refine GO.ef (Ef.call (mD (L:=[]) _ [] (dy True) c.xad c.xcap c.taxes ac (fun r hr=>vl r (kS h r hr))) rfl (by repeat (first|exact Ent.refl _|apply Ent.take))) ae ?_);rintro _ _⟨_,⟨rfl,rfl⟩,hL⟩;simp only[ax,aq] at hL;subst hL;repeat first|refine aa ?_|intro
 exact KX.d7 ai ag ⟨rfl,rfl⟩
theorem FT(a:Int×Int)(h:1≤a.2∧a.2≤1099511627776):fe 199 [] bL noP (dy True) a:=by
 intro L;obtain⟨h1,h2⟩:=h;refine Tri.body (args:=[.agg (bL a).toArray]) 11 IJ Tryz.func199 rfl rfl rfl (by simp) ?_;repeat first|refine aa ?_|intro
 exact KX.d7 ai Ent.drop ⟨by rw[aU h2];rfl,rfl⟩
theorem si{L:LH}(n:Nat)(ad:OA)(cap:Nat)(l:List (Int×Int))(hl:l.length≤64)(h:jg n l):Tri ah 197 #[.slice ad l.length cap] (isl bL 2 ad l::L) (fun v L'=>v=.bool true∧L' = isl bL 2 ad l::L):=by
 refine Tri.body (args:=[.slice ad l.length cap]) 5 IL Tryz.func197 rfl rfl rfl (by simp) ?_;repeat first|refine aa ?_|intro
 refine GO.ent (Ent.pure trivial (nl l)) ?_;(first|refine GO.ef (Ef.call (DD (L:=[]) _ [] (dy True) ad cap l hl (fun a ha=>FT a (h.1 a ha).2.2)) rfl (by repeat (first|exact Ent.refl _|apply Ent.take))) ae ?_);rintro _ _⟨_,⟨rfl,rfl⟩,hL⟩;simp only[ax,aq] at hL;subst hL;repeat first|refine aa ?_|intro
 exact KX.d7 ai ag ⟨rfl,rfl⟩
theorem sZ(x:ItG)(h:ItGood x):fe 200 [] bS noP (dy True) x:=by
 intro L;obtain⟨h1,h2,h3⟩:=h.num;refine Tri.body (args:=[.agg (bS x).toArray]) 26 II Tryz.func200 rfl rfl rfl (by simp) ?_;cases hx:x.obj with
 | true =>
  obtain⟨f1,f2⟩:=h1 hx;have e:bS x=[.string x.name,.bool true,.bool x.mixed,.bool x.coin,ab x.wear,ab x.bind,ab x.level]:=by unfold bS;rw[hx]
  rw[e];repeat first|refine aa ?_|intro
  exact KX.d7 ai Ent.drop ⟨by rw[aU h3];rfl,rfl⟩
 | false =>
  have e:bS x=[.string x.name,.bool false,.bool x.mixed,.bool x.coin,ab x.wear,ab x.bind,ab x.level]:=by unfold bS;rw[hx]
  rw[e];repeat first|refine aa ?_|intro
  exact KX.d7 ai Ent.drop ⟨by rw[aU h3];rfl,rfl⟩
theorem sM{L:LH}(n:Nat)(r:RuV)(h:RuGood n r.m):Tri ah 202 #[.agg (bQ r).toArray] L (fun v L'=>v=.bool true∧L' = L):=by
 obtain⟨⟨h1,h2⟩,⟨h3,h4⟩,⟨h5,h6⟩,h7,h8⟩:=h.num;change 0≤r.level at h1;change r.level≤100 at h2;change 0≤r.time at h3;change r.time≤1000000 at h4;change 1≤r.of_ at h5;change r.of_≤1000000 at h6;change 1≤r.chance at h7;change r.chance≤r.of_ at h8;refine Tri.body (args:=[.agg (bQ r).toArray]) 43 IG Tryz.func202 rfl rfl rfl (by simp) ?_;repeat first|refine aa ?_|intro
 exact KX.d7 ai Ent.drop ⟨by rw[aU h8];rfl,rfl⟩
abbrev untC(b3:Nat):HP:=obj b3 tSrt [.func (.func 197) #[] #[]]
theorem GG(b3 n:Nat)(r:RuV)(h:RuGood n r.m):fe 201 [au b3] bQ ruP (untC b3) r:=by
 intro L;have hl:=h.lim;change r.take.l.length+r.give.l.length≤64∧r.take.l.length+r.back.l.length≤64 at hl;refine Tri.body (args:=[.agg (bQ r).toArray,au b3]) 24 IH Tryz.func201 rfl rfl rfl (by simp) ?_;refine G.ent (Ent.d7 vx) ?_;repeat first|refine aa ?_|intro
 refine GO.ent (Ent.at (A:=amS r.take) (Ent.refl _)) ?_;refine GO.ef (Ef.d9 rfl rfl (si n r.take.ad r.take.cap r.take.l ac h.take)) ae ?_;rintro _ _⟨rfl,rfl⟩;repeat first|refine aa ?_|intro
 refine GO.ent (Ent.at (A:=amS r.give) (Ent.refl _)) ?_;refine GO.ef (Ef.d9 rfl rfl (si n r.give.ad r.give.cap r.give.l ac h.give)) ae ?_;rintro _ _⟨rfl,rfl⟩;repeat first|refine aa ?_|intro
 refine GO.ent (Ent.at (A:=amS r.back) (Ent.refl _)) ?_;refine GO.ef (Ef.d9 rfl rfl (si n r.back.ad r.back.cap r.back.l ac h.back)) ae ?_;rintro _ _⟨rfl,rfl⟩;repeat first|refine aa ?_|intro
 refine GO.ef (Ef.d7 (sM n r h) rfl) ae ?_;rintro _ _⟨rfl,rfl⟩;repeat first|refine aa ?_|intro
 exact KX.d7 ai ag ⟨rfl,rfl⟩
theorem Fq(n:Nat)(r:RwV)(h:RwGood n r.m):fe 252 [] eK rwP (dy True) r:=by
 intro L;obtain⟨h1,h2⟩:=h.num;change 1≤r.weight at h1;change r.weight≤1099511627776 at h2;refine Tri.body (args:=[.agg (eK r).toArray]) 11 HQ Tryz.func252 rfl rfl rfl (by simp) ?_;repeat first|refine aa ?_|intro
 exact KX.d7 ai Ent.drop ⟨by rw[aU h2];rfl,rfl⟩
theorem pT{L:LH}(n:Nat)(t:TbV)(h:TbGood n t.m):Tri ah 204 #[.agg (cj t).toArray] (tbP t::L) (fun v L'=>v=.bool true∧L' = tbP t::L):=by
 obtain⟨⟨r1,r2⟩,r3⟩:=my h;refine Tri.body (args:=[.agg (cj t).toArray]) 6 IE Tryz.func204 rfl rfl rfl (by simp) ?_;refine G.ent qB ?_;repeat first|refine aa ?_|intro
 refine GO.ent (Ent.pure trivial (Ent.refl _)) ?_;(first|refine GO.ef (Ef.call (pg (L:=[]) _ [] (dy True) t.ad t.cap t.rows r2 (fun r hr=>Fq n r (r3 r hr))) rfl (by repeat (first|exact Ent.refl _|apply Ent.take))) ae ?_);rintro _ _⟨_,⟨rfl,rfl⟩,hL⟩;simp only[ax,aq] at hL;subst hL;repeat first|refine aa ?_|intro
 exact KX.d7 ai ag ⟨rfl,rfl⟩
theorem FR(b3 n:Nat)(r:RwV)(hl:r.give.l.length≤64)(h:jg n r.give.l):fe 205 [au b3] eK rwP (untC b3) r:=by
 intro L;refine Tri.body (args:=[.agg (eK r).toArray,au b3]) 8 ID Tryz.func205 rfl rfl rfl (by simp) ?_;repeat first|refine aa ?_|intro
 refine GO.ent (Ent.at (A:=amS r.give) (Ent.refl _)) ?_;refine GO.ef (Ef.d9 rfl rfl (si n r.give.ad r.give.cap r.give.l hl h)) ae ?_;rintro _ _⟨rfl,rfl⟩;repeat first|refine aa ?_|intro
 exact KX.d7 ai ag ⟨rfl,rfl⟩
theorem GD(b3 n:Nat)(t:TbV)(hB:t.B)(h:TbGood n t.m):fe 203 [au b3] cj tbP (untC b3) t:=by
 intro L;obtain⟨⟨r1,r2⟩,r3⟩:=my h;refine Tri.body (args:=[.agg (cj t).toArray,au b3]) 12 IF Tryz.func203 rfl rfl rfl (by simp) ?_;repeat first|refine aa ?_|intro _
 (first|refine GO.ef (Ef.call (pT (L:=[]) n t h) rfl (by repeat (first|exact Ent.refl _|apply Ent.take))) ae ?_);rintro _ _⟨_,⟨rfl,rfl⟩,hL⟩;simp only[ax,aq] at hL;subst hL;refine GO.ent qB ?_;repeat first|refine aa ?_|intro _
 (first|refine GO.ef (Ef.call (pg (L:=[]) _ [au b3] (untC b3) t.ad t.cap t.rows r2 (fun r hr=>FR b3 n r (hB.2 r hr) (r3 r hr).give)) rfl (by repeat (first|exact Ent.refl _|apply Ent.take))) ae ?_);rintro _ _⟨_,⟨rfl,rfl⟩,hL⟩;simp only[ax,aq] at hL;subst hL;repeat first|refine aa ?_|intro
 exact KX.d7 ai ag ⟨rfl,rfl⟩
theorem Ft(b:Int×Int)(h:(0≤b.1∧b.1≤1099511627776)∧0≤b.2∧b.2≤10000):fe 254 [] bL noP (dy True) b:=by
 intro L;obtain⟨⟨h1,h2⟩,h3,h4⟩:=h;refine Tri.body (args:=[.agg (bL b).toArray]) 21 HN Tryz.func254 rfl rfl rfl (by simp) ?_;repeat first|refine aa ?_|intro
 exact KX.d7 ai Ent.drop ⟨by rw[aU h4];rfl,rfl⟩
theorem ut(t:TxV)(h:TxGood t.m):fe 206 [] cq txP (dy True) t:=by
 intro L;obtain⟨h1,h2⟩:=h.brs;change 0<t.brs.length at h1;change t.brs.length≤16 at h2;refine Tri.body (args:=[.agg (cq t).toArray]) 6 IC Tryz.func206 rfl rfl rfl (by simp) ?_;refine G.ent (L':=isl bL 2 t.ad t.brs::dy True::L) (by unfold txP;exact ag) ?_;repeat first|refine aa ?_|intro
 refine GO.ent (nl t.brs) ?_;(first|refine GO.ef (Ef.call (DC (L:=[]) _ [] (dy True) t.ad t.cap t.brs ac (fun b hb=>Ft b (h.num b hb))) rfl (by repeat (first|exact Ent.refl _|apply Ent.take))) ae ?_);rintro _ _⟨_,⟨rfl,rfl⟩,hL⟩;simp only[ax,aq] at hL;subst hL;repeat first|refine aa ?_|intro
 refine KX.d7 ai ?_ ⟨rfl,rfl⟩;unfold txP;exact ag
theorem Bu{L:LH}(c:CatV)(hB:c.B)(h:CatGood c.m):Tri ah 115 #[.agg c.cells.toArray] (catS c (cI::L)) (fun v L'=>v=.bool true∧L' = catS c (cI::L)):=by
 obtain⟨l1,l2,l3,l4⟩:=lens h;refine Tri.body (args:=[.agg c.cells.toArray]) 24 Kc Tryz.func115 rfl rfl rfl (by simp) ?_;simp only[catS,CatV.cells];repeat first|refine aa ?_|intro
 rename_i b1 b3;refine GO.ent (Ent.pure trivial (nl c.items)) ?_;(first|refine GO.ef (Ef.call (ph (L:=[]) _ [] (dy True) c.iad c.icap c.items l1 (fun x hx=>sZ x (h.it x hx))) rfl (by repeat (first|exact Ent.refl _|apply Ent.take))) ae ?_);rintro _ _⟨_,⟨rfl,rfl⟩,hL⟩;simp only[ax,aq] at hL;subst hL;repeat first|refine aa ?_|intro _
 (first|refine GO.ef (Ef.call (mF (L:=[]) _ [au b3] (untC b3) c.rad c.rcap c.rules l2 (fun r hr=>GG b3 _ r (kc h r hr))) rfl (by repeat (first|exact Ent.refl _|apply Ent.take))) ae ?_);rintro _ _⟨_,⟨rfl,rfl⟩,hL⟩;simp only[ax,aq] at hL;subst hL;repeat first|refine aa ?_|intro _
 (first|refine GO.ef (Ef.call (mE (L:=[]) _ [au b3] (untC b3) c.tad c.tcap c.tables ac (fun r hr=>GD b3 _ r (hB.tb r hr) (ka h r hr))) rfl (by repeat (first|exact Ent.refl _|apply Ent.take))) ae ?_);rintro _ _⟨_,⟨rfl,rfl⟩,hL⟩;simp only[ax,aq] at hL;subst hL;repeat first|refine aa ?_|intro _
 (first|refine GO.ef (Ef.call (mD (L:=[]) _ [] (dy True) c.xad c.xcap c.taxes ac (fun r hr=>ut r (kS h r hr))) rfl (by repeat (first|exact Ent.refl _|apply Ent.take))) ae ?_);rintro _ _⟨_,⟨rfl,rfl⟩,hL⟩;simp only[ax,aq] at hL;subst hL;repeat first|refine aa ?_|intro
 exact KX.d7 ai ag ⟨rfl,rfl⟩
theorem DH{L:LH}(c:CatV)(hB:c.B)(h:CatGood c.m):Tri ah 62 #[.agg c.cells.toArray] (catP c::cI::L) (fun v L'=>v=ab 0∧L' = catP c::cI::L):=by
 refine Tri.body (args:=[.agg c.cells.toArray]) 23 en62 Tryz.func62 rfl rfl rfl (by simp) ?_;refine G.ent (L':=catS c (cI::catP c::L)) (catS_open.trans (by simp only[catS];exact ag)) ?_;simp only[CatV.cells];repeat first|refine aa ?_|intro
 rename_i b1;refine GO.ent (L':=catS c (cI::obj b1 tCat c.cells::catP c::L)) (by simp only[catS,CatV.cells];exact ag) ?_;refine GO.ef (Ef.d7 (rp c h) rfl) ae ?_;rintro _ _⟨rfl,rfl⟩;simp only[catS,CatV.cells];repeat first|refine aa ?_|intro
 refine GO.ent (L':=catS c (cI::obj b1 tCat c.cells::catP c::L)) (by simp only[catS,CatV.cells];exact ag) ?_;refine GO.ef (Ef.d7 (yW c h) rfl) ae ?_;rintro _ _⟨rfl,rfl⟩;simp only[catS,CatV.cells];repeat first|refine aa ?_|intro
 refine GO.ent (L':=catS c (cI::obj b1 tCat c.cells::catP c::L)) (by simp only[catS,CatV.cells];exact ag) ?_;refine GO.ef (Ef.d7 (sS c h) rfl) ae ?_;rintro _ _⟨rfl,rfl⟩;simp only[catS,CatV.cells];repeat first|refine aa ?_|intro
 refine GO.ent (L':=catS c (cI::obj b1 tCat c.cells::catP c::L)) (by simp only[catS,CatV.cells];exact ag) ?_;refine GO.ef (Ef.d7 (uq c hB h) rfl) ae ?_;rintro _ _⟨rfl,rfl⟩;simp only[catS,CatV.cells];repeat first|refine aa ?_|intro
 refine GO.ent (L':=catS c (cI::obj b1 tCat c.cells::catP c::L)) (by simp only[catS,CatV.cells];exact ag) ?_;refine GO.ef (Ef.d7 (Bu c hB h) rfl) ae ?_;rintro _ _⟨rfl,rfl⟩;simp only[catS,CatV.cells];repeat first|refine aa ?_|intro
 refine KX.d7 ai ?_ ⟨rfl,rfl⟩;exact ag
end Go.Proofs.YtommnllbflbdmaaGreatDoor
namespace Go.V
theorem Ent.f9{L R:LH}{α:Type}{enc:α→LV}{sz b T:Nat}{cs:LV}[h:PickObj L b T cs R](xs:List α)(hc:cs=xs.flatMap enc)(hs:∀x∈xs,(enc x).length=sz)(hm:xs.length≤9223372036854775807):Ent L (isl enc sz (some ⟨b,0,none⟩) xs::R) :=
 (Ent.perm h.perm).trans ((Ent.e8 hc rfl hs hm).trans Ent.freezeSl)
end Go.V
namespace Go.Proofs.YtommnllbflbdmaaGreatDoor
open Go.V
attribute [local irreducible] G GO GP GPW GPK Ev Ef EfR Ent CB GB V.Enters
theorem mb{r:RuV}{L:LH}:Ent (amS r.take::amS r.give::amS r.back::L) (ruP r::L):=(Ent.d7 (Ent.f7 (jf _) (jf _))).trans (Ent.f7 (jf _) ((jf _).and (jf _)))
def it16:List ItG:=[⟨⟨#[103,111,108,100]⟩,false,true,true,0,0,0⟩,⟨⟨#[111,114,101]⟩,false,false,false,0,0,0⟩,⟨⟨#[99,111,97,108]⟩,false,true,false,0,0,0⟩,⟨⟨#[98,97,114]⟩,false,false,false,0,0,0⟩,⟨⟨#[115,119,111,114,100]⟩,true,false,false,20,2,3⟩]
def cat16:CatM:=⟨it16,[⟨⟨#[100,105,103]⟩,true,0,0,1,1,[],[(1,4),(2,3)],[]⟩,⟨⟨#[115,109,101,108,116]⟩,false,2,5,2,3,[(1,2),(2,1)],[(3,1)],[(1,1)]⟩,⟨⟨#[102,111,114,103,101]⟩,false,3,10,1,1,[(3,3)],[(4,1)],[]⟩,⟨⟨#[115,99,114,97,112]⟩,false,0,1,1,1,[(4,1)],[(3,3)],[]⟩,⟨⟨#[115,101,108,108]⟩,false,0,1,1,1,[(3,1)],[(0,7)],[]⟩],[⟨⟨#[99,104,101,115,116]⟩,[⟨5,[(0,10)]⟩,⟨1,[(3,2)]⟩]⟩],[⟨⟨#[115,97,108,101]⟩,[(0,500),(100,1000)]⟩]⟩
abbrev rR(bi g0 t1 g1 k1 t2 g2 t3 g3 t4 g4 br w0 w1 bw bt bb bx:Nat):RuV:=⟨⟨#[100,105,103]⟩,true,0,0,1,1,⟨[],none,0⟩,⟨[(1,4),(2,3)],some ⟨g0,0,none⟩,2⟩,⟨[],none,0⟩⟩
abbrev rQ(bi g0 t1 g1 k1 t2 g2 t3 g3 t4 g4 br w0 w1 bw bt bb bx:Nat):RuV:=⟨⟨#[115,109,101,108,116]⟩,false,2,5,2,3,⟨[(1,2),(2,1)],some ⟨t1,0,none⟩,2⟩,⟨[(3,1)],some ⟨g1,0,none⟩,1⟩,⟨[(1,1)],some ⟨k1,0,none⟩,1⟩⟩
abbrev rP(bi g0 t1 g1 k1 t2 g2 t3 g3 t4 g4 br w0 w1 bw bt bb bx:Nat):RuV:=⟨⟨#[102,111,114,103,101]⟩,false,3,10,1,1,⟨[(3,3)],some ⟨t2,0,none⟩,1⟩,⟨[(4,1)],some ⟨g2,0,none⟩,1⟩,⟨[],none,0⟩⟩
abbrev rO(bi g0 t1 g1 k1 t2 g2 t3 g3 t4 g4 br w0 w1 bw bt bb bx:Nat):RuV:=⟨⟨#[115,99,114,97,112]⟩,false,0,1,1,1,⟨[(4,1)],some ⟨t3,0,none⟩,1⟩,⟨[(3,3)],some ⟨g3,0,none⟩,1⟩,⟨[],none,0⟩⟩
abbrev rN(bi g0 t1 g1 k1 t2 g2 t3 g3 t4 g4 br w0 w1 bw bt bb bx:Nat):RuV:=⟨⟨#[115,101,108,108]⟩,false,0,1,1,1,⟨[(3,1)],some ⟨t4,0,none⟩,1⟩,⟨[(0,7)],some ⟨g4,0,none⟩,1⟩,⟨[],none,0⟩⟩
abbrev rL(bi g0 t1 g1 k1 t2 g2 t3 g3 t4 g4 br w0 w1 bw bt bb bx:Nat):RwV:=⟨5,⟨[(0,10)],some ⟨w0,0,none⟩,1⟩⟩
abbrev rK(bi g0 t1 g1 k1 t2 g2 t3 g3 t4 g4 br w0 w1 bw bt bb bx:Nat):RwV:=⟨1,⟨[(3,2)],some ⟨w1,0,none⟩,1⟩⟩
abbrev tb16(bi g0 t1 g1 k1 t2 g2 t3 g3 t4 g4 br w0 w1 bw bt bb bx:Nat):TbV:=⟨⟨#[99,104,101,115,116]⟩,[rL bi g0 t1 g1 k1 t2 g2 t3 g3 t4 g4 br w0 w1 bw bt bb bx,rK bi g0 t1 g1 k1 t2 g2 t3 g3 t4 g4 br w0 w1 bw bt bb bx],some ⟨bw,0,none⟩,2⟩
abbrev tx16(bi g0 t1 g1 k1 t2 g2 t3 g3 t4 g4 br w0 w1 bw bt bb bx:Nat):TxV:=⟨⟨#[115,97,108,101]⟩,[(0,500),(100,1000)],some ⟨bb,0,none⟩,2⟩
def ic(bi g0 t1 g1 k1 t2 g2 t3 g3 t4 g4 br w0 w1 bw bt bb bx:Nat):CatV:=⟨it16,some ⟨bi,0,none⟩,5,[rR bi g0 t1 g1 k1 t2 g2 t3 g3 t4 g4 br w0 w1 bw bt bb bx,rQ bi g0 t1 g1 k1 t2 g2 t3 g3 t4 g4 br w0 w1 bw bt bb bx,rP bi g0 t1 g1 k1 t2 g2 t3 g3 t4 g4 br w0 w1 bw bt bb bx,rO bi g0 t1 g1 k1 t2 g2 t3 g3 t4 g4 br w0 w1 bw bt bb bx,rN bi g0 t1 g1 k1 t2 g2 t3 g3 t4 g4 br w0 w1 bw bt bb bx],some ⟨br,0,none⟩,5,[tb16 bi g0 t1 g1 k1 t2 g2 t3 g3 t4 g4 br w0 w1 bw bt bb bx],some ⟨bt,0,none⟩,1,[tx16 bi g0 t1 g1 k1 t2 g2 t3 g3 t4 g4 br w0 w1 bw bt bb bx],some ⟨bx,0,none⟩,1⟩
theorem EN(bi g0 t1 g1 k1 t2 g2 t3 g3 t4 g4 br w0 w1 bw bt bb bx:Nat):(ic bi g0 t1 g1 k1 t2 g2 t3 g3 t4 g4 br w0 w1 bw bt bb bx).m=cat16:=rfl
theorem EO(bi g0 t1 g1 k1 t2 g2 t3 g3 t4 g4 br w0 w1 bw bt bb bx:Nat):(ic bi g0 t1 g1 k1 t2 g2 t3 g3 t4 g4 br w0 w1 bw bt bb bx).B:=by
 refine⟨ay rfl,ay rfl,ay rfl,ay rfl,?_,?_,?_⟩
 ·intro r hr;simp only[ic,bj,aT,or_false] at hr;rcases hr with rfl|rfl|rfl|rfl|rfl<;>exact⟨ay rfl,ay rfl,ay rfl⟩
 ·intro r hr;simp only[ic,bj,aT,or_false] at hr;subst hr;refine⟨ay rfl,?_⟩;intro w hw;simp only[tb16,bj,aT,or_false] at hw;rcases hw with rfl|rfl<;>exact ay rfl
 ·intro r hr;simp only[ic,bj,aT,or_false] at hr;subst hr;exact ay rfl
theorem tu{L:LH}:Tri ah 36 #[] L (fun v L'=>∃c:CatV,v=.agg c.cells.toArray∧(c.m=cat16∧c.B)∧L' = catP c::L):=by
 refine Tri.body (args:=[]) 50 en36 Tryz.func36 rfl rfl rfl (by simp) ?_;repeat first|refine aa ?_|intro
 rename_i b0 bi g0 t1 g1 k1 t2 g2 t3 g3 t4 g4 br w0 w1 bw bt bb bx;refine KX.d7 (vs:=[.agg (ic bi g0 t1 g1 k1 t2 g2 t3 g3 t4 g4 br w0 w1 bw bt bb bx).cells.toArray]) (ResOk.cell rfl (by rfl) ResOk.nil) ?_ ⟨ic bi g0 t1 g1 k1 t2 g2 t3 g3 t4 g4 br w0 w1 bw bt bb bx,rfl,⟨EN ..,EO ..⟩,rfl⟩;refine(Ent.f9 (b:=g0) (enc:=bL) (sz:=2) [(1,4),(2,3)] rfl (fun _ _=>rfl) (ay rfl)).trans ?_;refine(Ent.f9 (b:=t1) (enc:=bL) (sz:=2) [(1,2),(2,1)] rfl (fun _ _=>rfl) (ay rfl)).trans ?_;refine(Ent.f9 (b:=g1) (enc:=bL) (sz:=2) [(3,1)] rfl (fun _ _=>rfl) (ay rfl)).trans ?_;refine(Ent.f9 (b:=k1) (enc:=bL) (sz:=2) [(1,1)] rfl (fun _ _=>rfl) (ay rfl)).trans ?_;refine(Ent.f9 (b:=t2) (enc:=bL) (sz:=2) [(3,3)] rfl (fun _ _=>rfl) (ay rfl)).trans ?_;refine(Ent.f9 (b:=g2) (enc:=bL) (sz:=2) [(4,1)] rfl (fun _ _=>rfl) (ay rfl)).trans ?_;refine(Ent.f9 (b:=t3) (enc:=bL) (sz:=2) [(4,1)] rfl (fun _ _=>rfl) (ay rfl)).trans ?_;refine(Ent.f9 (b:=g3) (enc:=bL) (sz:=2) [(3,3)] rfl (fun _ _=>rfl) (ay rfl)).trans ?_;refine(Ent.f9 (b:=t4) (enc:=bL) (sz:=2) [(3,1)] rfl (fun _ _=>rfl) (ay rfl)).trans ?_;refine(Ent.f9 (b:=g4) (enc:=bL) (sz:=2) [(0,7)] rfl (fun _ _=>rfl) (ay rfl)).trans ?_;refine(Ent.f9 (b:=w0) (enc:=bL) (sz:=2) [(0,10)] rfl (fun _ _=>rfl) (ay rfl)).trans ?_;refine(Ent.f9 (b:=w1) (enc:=bL) (sz:=2) [(3,2)] rfl (fun _ _=>rfl) (ay rfl)).trans ?_;refine(Ent.f9 (b:=bb) (enc:=bL) (sz:=2) [(0,500),(100,1000)] rfl (fun _ _=>rfl) (ay rfl)).trans ?_;refine(Ent.f9 (b:=bi) (enc:=bS) (sz:=7) it16 rfl (fun _ _=>rfl) (ay rfl)).trans ?_;refine(Ent.f9 (b:=br) (enc:=bQ) (sz:=9) [rR bi g0 t1 g1 k1 t2 g2 t3 g3 t4 g4 br w0 w1 bw bt bb bx,rQ bi g0 t1 g1 k1 t2 g2 t3 g3 t4 g4 br w0 w1 bw bt bb bx,rP bi g0 t1 g1 k1 t2 g2 t3 g3 t4 g4 br w0 w1 bw bt bb bx,rO bi g0 t1 g1 k1 t2 g2 t3 g3 t4 g4 br w0 w1 bw bt bb bx,rN bi g0 t1 g1 k1 t2 g2 t3 g3 t4 g4 br w0 w1 bw bt bb bx] rfl (fun _ _=>rfl) (ay rfl)).trans ?_;refine(Ent.f9 (b:=bw) (enc:=eK) (sz:=2) [rL bi g0 t1 g1 k1 t2 g2 t3 g3 t4 g4 br w0 w1 bw bt bb bx,rK bi g0 t1 g1 k1 t2 g2 t3 g3 t4 g4 br w0 w1 bw bt bb bx] rfl (fun _ _=>rfl) (ay rfl)).trans ?_;refine(Ent.f9 (b:=bt) (enc:=cj) (sz:=2) [tb16 bi g0 t1 g1 k1 t2 g2 t3 g3 t4 g4 br w0 w1 bw bt bb bx] rfl (fun _ _=>rfl) (ay rfl)).trans ?_;refine(Ent.f9 (b:=bx) (enc:=cq) (sz:=2) [tx16 bi g0 t1 g1 k1 t2 g2 t3 g3 t4 g4 br w0 w1 bw bt bb bx] rfl (fun _ _=>rfl) (ay rfl)).trans ?_;refine(Ent.e9 bL 2 none).trans ?_;refine(Ent.at (A:=isl bL 2 (some ⟨g4,0,none⟩) [(0,7)]) (Ent.refl _)).trans ?_;refine(Ent.at (A:=isl bL 2 (some ⟨t4,0,none⟩) [(3,1)]) (Ent.refl _)).trans ?_;refine(mb (r:=rN bi g0 t1 g1 k1 t2 g2 t3 g3 t4 g4 br w0 w1 bw bt bb bx)).trans ?_;refine(Ent.g7 (f:=ruP) iX).trans ?_;refine(Ent.e9 bL 2 none).trans ?_;refine(Ent.at (A:=isl bL 2 (some ⟨g3,0,none⟩) [(3,3)]) (Ent.refl _)).trans ?_;refine(Ent.at (A:=isl bL 2 (some ⟨t3,0,none⟩) [(4,1)]) (Ent.refl _)).trans ?_;refine(mb (r:=rO bi g0 t1 g1 k1 t2 g2 t3 g3 t4 g4 br w0 w1 bw bt bb bx)).trans ?_;refine(Ent.f8 (f:=ruP) iX).trans ?_;refine(Ent.e9 bL 2 none).trans ?_;refine(Ent.at (A:=isl bL 2 (some ⟨g2,0,none⟩) [(4,1)]) (Ent.refl _)).trans ?_;refine(Ent.at (A:=isl bL 2 (some ⟨t2,0,none⟩) [(3,3)]) (Ent.refl _)).trans ?_;refine(mb (r:=rP bi g0 t1 g1 k1 t2 g2 t3 g3 t4 g4 br w0 w1 bw bt bb bx)).trans ?_;refine(Ent.f8 (f:=ruP) iX).trans ?_;refine(Ent.at (A:=isl bL 2 (some ⟨k1,0,none⟩) [(1,1)]) (Ent.refl _)).trans ?_;refine(Ent.at (A:=isl bL 2 (some ⟨g1,0,none⟩) [(3,1)]) (Ent.refl _)).trans ?_;refine(Ent.at (A:=isl bL 2 (some ⟨t1,0,none⟩) [(1,2),(2,1)]) (Ent.refl _)).trans ?_;refine(mb (r:=rQ bi g0 t1 g1 k1 t2 g2 t3 g3 t4 g4 br w0 w1 bw bt bb bx)).trans ?_;refine(Ent.f8 (f:=ruP) iX).trans ?_;refine(Ent.e9 bL 2 none).trans ?_;refine(Ent.at (A:=isl bL 2 (some ⟨g0,0,none⟩) [(1,4),(2,3)]) (Ent.refl _)).trans ?_;refine(Ent.e9 bL 2 none).trans ?_;refine(mb (r:=rR bi g0 t1 g1 k1 t2 g2 t3 g3 t4 g4 br w0 w1 bw bt bb bx)).trans ?_;refine(Ent.f8 (f:=ruP) iX).trans ?_;refine(Ent.at (A:=isl bQ 9 (some ⟨br,0,none⟩) [rR bi g0 t1 g1 k1 t2 g2 t3 g3 t4 g4 br w0 w1 bw bt bb bx,rQ bi g0 t1 g1 k1 t2 g2 t3 g3 t4 g4 br w0 w1 bw bt bb bx,rP bi g0 t1 g1 k1 t2 g2 t3 g3 t4 g4 br w0 w1 bw bt bb bx,rO bi g0 t1 g1 k1 t2 g2 t3 g3 t4 g4 br w0 w1 bw bt bb bx,rN bi g0 t1 g1 k1 t2 g2 t3 g3 t4 g4 br w0 w1 bw bt bb bx]) (Ent.f7 (bT _ _ _ _) (cQ iX))).trans ?_;refine(Ent.at (A:=isl bL 2 (some ⟨w1,0,none⟩) [(3,2)]) (Ent.refl _)).trans ?_;refine(Ent.g7 (f:=rwP) (x:=rK bi g0 t1 g1 k1 t2 g2 t3 g3 t4 g4 br w0 w1 bw bt bb bx) nE).trans ?_;refine(Ent.at (A:=isl bL 2 (some ⟨w0,0,none⟩) [(0,10)]) (Ent.refl _)).trans ?_;refine(Ent.f8 (f:=rwP) (x:=rL bi g0 t1 g1 k1 t2 g2 t3 g3 t4 g4 br w0 w1 bw bt bb bx) nE).trans ?_;refine(Ent.at (A:=isl eK 2 (some ⟨bw,0,none⟩) [rL bi g0 t1 g1 k1 t2 g2 t3 g3 t4 g4 br w0 w1 bw bt bb bx,rK bi g0 t1 g1 k1 t2 g2 t3 g3 t4 g4 br w0 w1 bw bt bb bx]) (Ent.f7 (bT _ _ _ _) (cQ nE))).trans ?_;refine(Ent.g7 (f:=tbP) (x:=tb16 bi g0 t1 g1 k1 t2 g2 t3 g3 t4 g4 br w0 w1 bw bt bb bx) jS).trans ?_;refine(Ent.at (A:=isl cj 2 (some ⟨bt,0,none⟩) [tb16 bi g0 t1 g1 k1 t2 g2 t3 g3 t4 g4 br w0 w1 bw bt bb bx]) (Ent.f7 (bT _ _ _ _) (cQ jS))).trans ?_;refine(Ent.at (A:=isl bL 2 (some ⟨bb,0,none⟩) [(0,500),(100,1000)]) (Ent.refl _)).trans ?_;refine(Ent.g7 (f:=txP) (x:=tx16 bi g0 t1 g1 k1 t2 g2 t3 g3 t4 g4 br w0 w1 bw bt bb bx) kT).trans ?_;refine(Ent.at (A:=isl cq 2 (some ⟨bx,0,none⟩) [tx16 bi g0 t1 g1 k1 t2 g2 t3 g3 t4 g4 br w0 w1 bw bt bb bx]) (Ent.f7 (bT _ _ _ _) (cQ kT))).trans ?_;refine(Ent.swap.trans (Ent.f7 (mo (ic bi g0 t1 g1 k1 t2 g2 t3 g3 t4 g4 br w0 w1 bw bt bb bx)) (mm (ic bi g0 t1 g1 k1 t2 g2 t3 g3 t4 g4 br w0 w1 bw bt bb bx)))).trans ?_;refine(Ent.swap.trans (Ent.f7 (pz (ic bi g0 t1 g1 k1 t2 g2 t3 g3 t4 g4 br w0 w1 bw bt bb bx)) ((mo (ic bi g0 t1 g1 k1 t2 g2 t3 g3 t4 g4 br w0 w1 bw bt bb bx)).and (mm (ic bi g0 t1 g1 k1 t2 g2 t3 g3 t4 g4 br w0 w1 bw bt bb bx))))).trans ?_;refine(Ent.swap.trans (Ent.f7 (wV (ic bi g0 t1 g1 k1 t2 g2 t3 g3 t4 g4 br w0 w1 bw bt bb bx)) ((pz (ic bi g0 t1 g1 k1 t2 g2 t3 g3 t4 g4 br w0 w1 bw bt bb bx)).and ((mo (ic bi g0 t1 g1 k1 t2 g2 t3 g3 t4 g4 br w0 w1 bw bt bb bx)).and (mm (ic bi g0 t1 g1 k1 t2 g2 t3 g3 t4 g4 br w0 w1 bw bt bb bx)))))).trans ?_;exact Ent.d7 Ent.drop
theorem lq{s:ByteArray}(h:(1≤s.size∧s.size≤16)∧fV s 0=3∧∀i:Nat,i<s.size→fV s i=3∨fV s i=4∨fV s i=5):IsWord s:=⟨h.1,h.2.1,h.2.2⟩
theorem og{n:Nat}{l:List (Int×Int)}(h:(∀a∈l,0≤a.1∧a.1<n∧1≤a.2∧a.2≤1099511627776)∧l.Pairwise (fun a b=>a.1<b.1)):jg n l:=h
theorem cat16_good:CatGood cat16:=by
 refine⟨by decide,by decide,by decide,by decide,?_,?_,?_,?_,by decide,by decide,by decide,by decide⟩
 ·intro x hx;simp only[cat16,it16,bj,aT,or_false] at hx;rcases hx with rfl|rfl|rfl|rfl|rfl<;>exact⟨lq (by decide +kernel),by decide,by decide⟩
 ·intro r hr;simp only[cat16,bj,aT,or_false] at hr;rcases hr with rfl|rfl|rfl|rfl|rfl<;>exact⟨lq (by decide +kernel),by decide,og ae,og ae,og ae,by decide,by decide,by decide⟩
 ·intro t ht;simp only[cat16,bj,aT,or_false] at ht;subst ht;refine⟨lq (by decide +kernel),by decide,?_⟩;intro r hr;simp only[bj,aT,or_false] at hr;rcases hr with rfl|rfl<;>exact⟨by decide,og ae⟩
 ·intro t ht;simp only[cat16,bj,aT,or_false] at ht;subst ht;refine⟨lq (by decide +kernel),by decide,by decide,?_,by decide⟩;intro i hi;have hi0:i=0:=by simp only[bD,cH] at hi;omega
  subst hi0;decide
theorem ri:cat16.Ok:=⟨fun r hr a ha=>⟨by have:=(cat16_good.ru r hr).take.1 a ha;omega,((cat16_good.ru r hr).take.1 a ha).2.2.2⟩,fun r hr a ha=>⟨by have:=(cat16_good.ru r hr).give.1 a ha;omega,((cat16_good.ru r hr).give.1 a ha).2.2.2⟩,fun r hr a ha=>⟨by have:=(cat16_good.ru r hr).back.1 a ha;omega,((cat16_good.ru r hr).back.1 a ha).2.2.2⟩⟩
