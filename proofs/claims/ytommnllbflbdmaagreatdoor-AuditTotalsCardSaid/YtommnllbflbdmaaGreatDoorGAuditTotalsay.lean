/- Lemmas and contracts of functions. -/
import Derived.Test.YtommnllbflbdmaaGreatDoorGAuditTotalsax
set_option linter.all false
set_option maxHeartbeats 4000000
namespace Go.Proofs.YtommnllbflbdmaaGreatDoor
open Go.V
attribute [local irreducible] G GO GP GPW GPK Ev Ef EfR Ent CB GB V.Enters
abbrev tSrt:Nat:=255
abbrev srtC (b3 b1:Nat) (c:CatV):List HP:=[obj b3 tSrt [.func (.func 188) #[] #[.pointer (some ⟨b1,0,none⟩)]],obj b1 tCat c.cells]
theorem uF {r:RuV} {L:List HP}:Ent (ruP r::L) (amS r.take::amS r.give::amS r.back::ruP r::L):=(Ent.dup (ix r).pers).trans ruOpen
theorem EU (b3 b1:Nat) (c:CatV) (hc:c.items.length≤64) (r:RuV) (h:RuGood c.items.length r.m):eB 190 [.pointer (some ⟨b3,0,none⟩)] cw ruP (cv (srtC b3 b1 c)) r:=by
 intro L
 have hl:=h.lim
 change r.take.l.length+r.give.l.length≤64∧r.take.l.length+r.back.l.length≤64 at hl
 refine Tri.body (args:=[.agg (cw r).toArray,.pointer (some ⟨b3,0,none⟩)]) 31 Hw Tryz.func190 rfl rfl rfl (by simp) ?_
 refine G.ent (Ent.openS.trans (Ent.d7 (Ent.d7 uF))) ?_
 repeat first|refine aa ?_|intro
 refine GO.ent (Ent.at (A:=amS r.take) (Ent.at (A:=obj b1 tCat c.cells) (Ent.refl _))) ?_
 refine GO.ef (Ef.d9 rfl rfl (qG b1 c r.take.ad r.take.cap r.take.l ab hc h.take)) ac ?_
 rintro _ _ ⟨rfl,rfl⟩
 repeat first|refine aa ?_|intro
 refine GO.ent (Ent.at (A:=amS r.give) (Ent.at (A:=obj b1 tCat c.cells) (Ent.refl _))) ?_
 refine GO.ef (Ef.d9 rfl rfl (qG b1 c r.give.ad r.give.cap r.give.l ab hc h.give)) ac ?_
 rintro _ _ ⟨rfl,rfl⟩
 repeat first|refine aa ?_|intro
 refine GO.ent (Ent.at (A:=amS r.back) (Ent.at (A:=obj b1 tCat c.cells) (Ent.refl _))) ?_
 refine GO.ef (Ef.d9 rfl rfl (qG b1 c r.back.ad r.back.cap r.back.l ab hc h.back)) ac ?_
 rintro _ _ ⟨rfl,rfl⟩
 repeat first|refine aa ?_|intro
 refine GO.ef (Ef.d7 (tH _ r h) rfl) ac ?_
 rintro _ _ ⟨rfl,rfl⟩
 repeat first|refine aa ?_|intro _
 (first|refine GO.ef (Ef.call (yv (L:=[]) c.items.length r.take.ad r.back.ad r.take.cap r.back.cap r.take.l r.back.l ab ab h.take h.back h.cont) rfl (by repeat (first|exact Ent.refl _|apply Ent.take))) ac ?_)
 rintro _ _ ⟨_,⟨rfl,rfl⟩,hL⟩
 simp only [aq,aj] at hL;subst hL
 repeat first|refine aa ?_|intro
 refine KX.d7 ag ?_ ⟨rfl,rfl⟩
 refine Ent.trans ?_ Ent.g9
 simp only [aq,aj]
 exact ae
theorem Ec (b3 b1:Nat) (c:CatV) (hc:c.items.length≤64) (r:RwV) (hl:r.give.l.length≤64) (h:kg c.items.length r.give.l):eB 195 [.pointer (some ⟨b3,0,none⟩)] eY rwP (cv (srtC b3 b1 c)) r:=by
 intro L
 refine Tri.body (args:=[.agg (eY r).toArray,.pointer (some ⟨b3,0,none⟩)]) 8 Hr Tryz.func195 rfl rfl rfl (by simp) ?_
 refine G.ent Ent.openS ?_
 simp only [aq,aj]
 repeat first|refine aa ?_|intro
 refine GO.ent (Ent.at (A:=amS r.give) (Ent.at (A:=obj b1 tCat c.cells) (Ent.refl _))) ?_
 refine GO.ef (Ef.d9 rfl rfl (qG b1 c r.give.ad r.give.cap r.give.l hl hc h)) ac ?_
 rintro _ _ ⟨rfl,rfl⟩
 repeat first|refine aa ?_|intro
 refine KX.d7 ag ?_ ⟨rfl,rfl⟩
 refine Ent.trans ?_ Ent.g9
 simp only [aq,aj]
 exact ae
theorem pU {t:TbV} {L:List HP}:Ent (tbP t::L) (isl eY 2 t.ad t.rows::allP rwP t.rows::tbP t::L):=(Ent.dup (jy t).pers).trans Ent.andE
theorem ol {n:Nat} {t:TbV} (h:TbGood n t.m):(0<t.rows.length∧t.rows.length≤64)∧∀ r∈t.rows,RwGood n r.m:=by
 have h1:=h.rows
 have h2:=h.good
 simp only [TbV.m,aD] at h1 h2
 exact ⟨h1,fun r hr=>h2 _ (alStd0List_mem_map_of_mem hr)⟩
theorem ET (b3 b1:Nat) (c:CatV) (hc:c.items.length≤64) (t:TbV) (hB:t.B) (h:TbGood c.items.length t.m):eB 193 [.pointer (some ⟨b3,0,none⟩)] dy tbP (cv (srtC b3 b1 c)) t:=by
 intro L
 obtain ⟨⟨r1,r2⟩,r3⟩:=ol h
 refine Tri.body (args:=[.agg (dy t).toArray,.pointer (some ⟨b3,0,none⟩)]) 14 Ht Tryz.func193 rfl rfl rfl (by simp) ?_
 refine G.ent (Ent.d7 pU) ?_
 repeat first|refine aa ?_|intro _
 (first|refine GO.ef (Ef.call (oF (L:=[]) _ [.pointer (some ⟨b3,0,none⟩)] (cv (srtC b3 b1 c)) t.ad t.cap t.rows r2 (fun r hr=>Ec b3 b1 c hc r (hB.2 r hr) (r3 r hr).give)) rfl (by repeat (first|exact Ent.refl _|apply Ent.take))) ac ?_)
 rintro _ _ ⟨_,⟨rfl,rfl⟩,hL⟩
 simp only [aq,aj] at hL;subst hL
 repeat first|refine aa ?_|intro
 exact KX.d7 ag ae ⟨rfl,rfl⟩
abbrev zX:List Stp:=[.ev 0,.ev 1,.ev 2,.ev 3,.ev 4,.ev 5,.ev 6,.ev 7,.ev 8,.ev 9,.ev 10,.ev 11,.ev 12,.ev 13]
theorem jF {φ ψ:Prop} (k:ψ) (h:Hid ψ→φ:=by intro k;(with_reducible apply G.d8);first|refine G.d7 (N:=37) (id:=6) zX mixed an (Hid.out k)):φ:=h ⟨k⟩
theorem uu (t:TxV) (h:TxGood t.m):eB 196 [] dD txP (cY True) t:=by
 intro L
 obtain ⟨h1,h2⟩:=h.brs
 change 0<t.brs.length at h1
 change t.brs.length≤16 at h2
 have h3:t.brs[(0:Int).toNat]!.1=0:=h.first
 have h4:∀ i,i+1<t.brs.length→t.brs[i]!.1<t.brs[i+1]!.1:=h.srt
 refine Tri.body (args:=[.agg (dD t).toArray]) 37 Hq Tryz.func196 rfl rfl rfl (by simp) ?_
 refine G.ent (L':=isl bV 2 t.ad t.brs::cY True::L) (by unfold txP;exact ae) ?_
 repeat first|refine aa ?_|intro _|refine jF ?_
 rename_i b1
 refine G.loop (α:=Nat) (fun i=>1≤i∧i≤t.brs.length) (fun i=>[(1,.pointer (some ⟨b1,0,none⟩)),(3,.int .i64 (i:Int))]) (fun _=>obj b1 160 (dD t)::isl bV 2 t.ad t.brs::cY True::L) (fun i=>t.brs.length - i) 1 ⟨ab,ab⟩ ai ae ?_
 rintro i ⟨hi1,hi2⟩
 by_cases hlt:i<t.brs.length
 case neg =>
  repeat first|refine aa ?_|intro _|refine jF ?_
  refine KX.d7 ag ?_ ⟨rfl,rfl⟩
  unfold txP
  exact ae
 have h5:=h4 (i - 1) ab
 rw [show i - 1+1=i by omega] at h5
 have h6:t.brs[((i:Int) - 1).toNat]!.1<t.brs[(i:Int).toNat]!.1:=by
  rw [show ((i:Int) - 1).toNat=i - 1 by omega,show (i:Int).toNat=i by omega]
  exact h5
 repeat first|refine aa ?_|intro _|refine jF ?_
 refine ⟨i+1,⟨ab,ab⟩,ab,?_,by exact ae⟩
 rw [aM i]
 exact ai
theorem tB {L:List HP} (c:CatV) (hB:c.B) (h:CatGood c.m):Tri Tryz.prog 114 #[.agg c.cells.toArray] (catS c (cu::L)) (fun v L'=>v=.bool true∧L' = catS c (cu::L)):=by
 obtain ⟨l1,l2,l3,l4⟩:=lens h
 refine Tri.body (args:=[.agg c.cells.toArray]) 25 IF Tryz.func114 rfl rfl rfl (by simp) ?_
 simp only [catS]
 repeat first|refine aa ?_|intro
 rename_i b1 b3
 refine GO.ent (Ent.pure trivial (mK c.items)) ?_
 simp only [CatV.cells]
 repeat first|refine aa ?_|intro _
 (first|refine GO.ef (Ef.call (oG (L:=[]) _ [] (cY True) c.iad c.icap c.items l1 (fun x hx=>tP x (h.it x hx))) rfl (by repeat (first|exact Ent.refl _|apply Ent.take))) ac ?_)
 rintro _ _ ⟨_,⟨rfl,rfl⟩,hL⟩
 simp only [aq,aj] at hL;subst hL
 repeat first|refine aa ?_|intro
 refine GO.ent (L':=cv (srtC b3 b1 c)::cY True::isl cU 7 c.iad c.items::isl cw 9 c.rad c.rules::allP ruP c.rules::isl dy 2 c.tad c.tables::allP tbP c.tables::isl dD 2 c.xad c.taxes::allP txP c.taxes::cu::L) ?_ ?_
 ·refine Ent.trans ?_ Ent.g9
  simp only [srtC,CatV.cells,aq,aj]
  exact ae
 (first|refine GO.ef (Ef.call (lZ (L:=[]) _ [.pointer (some ⟨b3,0,none⟩)] (cv (srtC b3 b1 c)) c.rad c.rcap c.rules l2 (fun r hr=>EU b3 b1 c l1 r (nI h r hr))) rfl (by repeat (first|exact Ent.refl _|apply Ent.take))) ac ?_)
 rintro _ _ ⟨_,⟨rfl,rfl⟩,hL⟩
 simp only [aq,aj] at hL;subst hL
 refine GO.ent (Ent.openS (A:=srtC b3 b1 c)) ?_
 simp only [srtC,CatV.cells,aq,aj]
 repeat first|refine aa ?_|intro
 refine GO.ent (L':=cv (srtC b3 b1 c)::cY True::isl cU 7 c.iad c.items::isl cw 9 c.rad c.rules::allP ruP c.rules::isl dy 2 c.tad c.tables::allP tbP c.tables::isl dD 2 c.xad c.taxes::allP txP c.taxes::cu::L) ?_ ?_
 ·refine Ent.trans ?_ Ent.g9
  simp only [srtC,CatV.cells,aq,aj]
  exact ae
 (first|refine GO.ef (Ef.call (lY (L:=[]) _ [.pointer (some ⟨b3,0,none⟩)] (cv (srtC b3 b1 c)) c.tad c.tcap c.tables ab (fun r hr=>ET b3 b1 c l1 r (hB.tb r hr) (nH h r hr))) rfl (by repeat (first|exact Ent.refl _|apply Ent.take))) ac ?_)
 rintro _ _ ⟨_,⟨rfl,rfl⟩,hL⟩
 simp only [aq,aj] at hL;subst hL
 refine GO.ent (Ent.openS (A:=srtC b3 b1 c)) ?_
 simp only [srtC,CatV.cells,aq,aj]
 repeat first|refine aa ?_|intro _
 (first|refine GO.ef (Ef.call (lX (L:=[]) _ [] (cY True) c.xad c.xcap c.taxes ab (fun r hr=>uu r (nG h r hr))) rfl (by repeat (first|exact Ent.refl _|apply Ent.take))) ac ?_)
 rintro _ _ ⟨_,⟨rfl,rfl⟩,hL⟩
 simp only [aq,aj] at hL;subst hL
 repeat first|refine aa ?_|intro
 exact KX.d7 ag ae ⟨rfl,rfl⟩
theorem EC (a:Int×Int) (h:1≤a.2∧a.2≤1099511627776):eB 199 [] bV noP (cY True) a:=by
 intro L
 obtain ⟨h1,h2⟩:=h
 refine Tri.body (args:=[.agg (bV a).toArray]) 11 Hm Tryz.func199 rfl rfl rfl (by simp) ?_
 repeat first|refine aa ?_|intro
 exact KX.d7 ag Ent.drop ⟨by rw [aL h2];rfl,rfl⟩
theorem rv {L:List HP} (n:Nat) (ad:Option Addr) (cap:Nat) (l:List (Int×Int)) (hl:l.length≤64) (h:kg n l):Tri Tryz.prog 197 #[.slice ad l.length cap] (isl bV 2 ad l::L) (fun v L'=>v=.bool true∧L' = isl bV 2 ad l::L):=by
 refine Tri.body (args:=[.slice ad l.length cap]) 5 Ho Tryz.func197 rfl rfl rfl (by simp) ?_
 repeat first|refine aa ?_|intro
 refine GO.ent (Ent.pure trivial (mK l)) ?_
 (first|refine GO.ef (Ef.call (Cy (L:=[]) _ [] (cY True) ad cap l hl (fun a ha=>EC a (h.1 a ha).2.2)) rfl (by repeat (first|exact Ent.refl _|apply Ent.take))) ac ?_)
 rintro _ _ ⟨_,⟨rfl,rfl⟩,hL⟩
 simp only [aq,aj] at hL;subst hL
 repeat first|refine aa ?_|intro
 exact KX.d7 ag ae ⟨rfl,rfl⟩
theorem se (x:ItG) (h:ItGood x):eB 200 [] cU noP (cY True) x:=by
 intro L
 obtain ⟨h1,h2,h3⟩:=h.num
 refine Tri.body (args:=[.agg (cU x).toArray]) 26 Hl Tryz.func200 rfl rfl rfl (by simp) ?_
 cases hx:x.obj with
 | true =>
  obtain ⟨f1,f2⟩:=h1 hx
  have e:cU x=[.string x.name,.bool true,.bool x.mixed,.bool x.coin,.int .i64 x.wear,.int .i64 x.bind,.int .i64 x.level]:=by unfold cU;rw [hx]
  rw [e]
  repeat first|refine aa ?_|intro
  exact KX.d7 ag Ent.drop ⟨by rw [aL h3];rfl,rfl⟩
 | false =>
  have e:cU x=[.string x.name,.bool false,.bool x.mixed,.bool x.coin,.int .i64 x.wear,.int .i64 x.bind,.int .i64 x.level]:=by unfold cU;rw [hx]
  rw [e]
  repeat first|refine aa ?_|intro
  exact KX.d7 ag Ent.drop ⟨by rw [aL h3];rfl,rfl⟩
theorem rT {L:List HP} (n:Nat) (r:RuV) (h:RuGood n r.m):Tri Tryz.prog 202 #[.agg (cw r).toArray] L (fun v L'=>v=.bool true∧L' = L):=by
 obtain ⟨⟨h1,h2⟩,⟨h3,h4⟩,⟨h5,h6⟩,h7,h8⟩:=h.num
 change 0≤r.level at h1
 change r.level≤100 at h2
 change 0≤r.time at h3
 change r.time≤1000000 at h4
 change 1≤r.of_ at h5
 change r.of_≤1000000 at h6
 change 1≤r.chance at h7
 change r.chance≤r.of_ at h8
 refine Tri.body (args:=[.agg (cw r).toArray]) 43 Hj Tryz.func202 rfl rfl rfl (by simp) ?_
 repeat first|refine aa ?_|intro
 exact KX.d7 ag Ent.drop ⟨by rw [aL h8];rfl,rfl⟩
abbrev untC (b3:Nat):HP:=obj b3 tSrt [.func (.func 197) #[] #[]]
theorem Fk (b3 n:Nat) (r:RuV) (h:RuGood n r.m):eB 201 [.pointer (some ⟨b3,0,none⟩)] cw ruP (untC b3) r:=by
 intro L
 have hl:=h.lim
 change r.take.l.length+r.give.l.length≤64∧r.take.l.length+r.back.l.length≤64 at hl
 refine Tri.body (args:=[.agg (cw r).toArray,.pointer (some ⟨b3,0,none⟩)]) 24 Hk Tryz.func201 rfl rfl rfl (by simp) ?_
 refine G.ent (Ent.d7 uF) ?_
 repeat first|refine aa ?_|intro
 refine GO.ent (Ent.at (A:=amS r.take) (Ent.refl _)) ?_
 refine GO.ef (Ef.d9 rfl rfl (rv n r.take.ad r.take.cap r.take.l ab h.take)) ac ?_
 rintro _ _ ⟨rfl,rfl⟩
 repeat first|refine aa ?_|intro
 refine GO.ent (Ent.at (A:=amS r.give) (Ent.refl _)) ?_
 refine GO.ef (Ef.d9 rfl rfl (rv n r.give.ad r.give.cap r.give.l ab h.give)) ac ?_
 rintro _ _ ⟨rfl,rfl⟩
 repeat first|refine aa ?_|intro
 refine GO.ent (Ent.at (A:=amS r.back) (Ent.refl _)) ?_
 refine GO.ef (Ef.d9 rfl rfl (rv n r.back.ad r.back.cap r.back.l ab h.back)) ac ?_
 rintro _ _ ⟨rfl,rfl⟩
 repeat first|refine aa ?_|intro
 refine GO.ef (Ef.d7 (rT n r h) rfl) ac ?_
 rintro _ _ ⟨rfl,rfl⟩
 repeat first|refine aa ?_|intro
 exact KX.d7 ag ae ⟨rfl,rfl⟩
theorem Eb (n:Nat) (r:RwV) (h:RwGood n r.m):eB 252 [] eY rwP (cY True) r:=by
 intro L
 obtain ⟨h1,h2⟩:=h.num
 change 1≤r.weight at h1
 change r.weight≤1099511627776 at h2
 refine Tri.body (args:=[.agg (eY r).toArray]) 11 Gp Tryz.func252 rfl rfl rfl (by simp) ?_
 repeat first|refine aa ?_|intro
 exact KX.d7 ag Ent.drop ⟨by rw [aL h2];rfl,rfl⟩
theorem pq {L:List HP} (n:Nat) (t:TbV) (h:TbGood n t.m):Tri Tryz.prog 204 #[.agg (dy t).toArray] (tbP t::L) (fun v L'=>v=.bool true∧L' = tbP t::L):=by
 obtain ⟨⟨r1,r2⟩,r3⟩:=ol h
 refine Tri.body (args:=[.agg (dy t).toArray]) 6 Hh Tryz.func204 rfl rfl rfl (by simp) ?_
 refine G.ent pU ?_
 repeat first|refine aa ?_|intro
 refine GO.ent (Ent.pure trivial (Ent.refl _)) ?_
 (first|refine GO.ef (Ef.call (oF (L:=[]) _ [] (cY True) t.ad t.cap t.rows r2 (fun r hr=>Eb n r (r3 r hr))) rfl (by repeat (first|exact Ent.refl _|apply Ent.take))) ac ?_)
 rintro _ _ ⟨_,⟨rfl,rfl⟩,hL⟩
 simp only [aq,aj] at hL;subst hL
 repeat first|refine aa ?_|intro
 exact KX.d7 ag ae ⟨rfl,rfl⟩
theorem EB (b3 n:Nat) (r:RwV) (hl:r.give.l.length≤64) (h:kg n r.give.l):eB 205 [.pointer (some ⟨b3,0,none⟩)] eY rwP (untC b3) r:=by
 intro L
 refine Tri.body (args:=[.agg (eY r).toArray,.pointer (some ⟨b3,0,none⟩)]) 8 Hg Tryz.func205 rfl rfl rfl (by simp) ?_
 repeat first|refine aa ?_|intro
 refine GO.ent (Ent.at (A:=amS r.give) (Ent.refl _)) ?_
 refine GO.ef (Ef.d9 rfl rfl (rv n r.give.ad r.give.cap r.give.l hl h)) ac ?_
 rintro _ _ ⟨rfl,rfl⟩
 repeat first|refine aa ?_|intro
 exact KX.d7 ag ae ⟨rfl,rfl⟩
theorem Fj (b3 n:Nat) (t:TbV) (hB:t.B) (h:TbGood n t.m):eB 203 [.pointer (some ⟨b3,0,none⟩)] dy tbP (untC b3) t:=by
 intro L
 obtain ⟨⟨r1,r2⟩,r3⟩:=ol h
 refine Tri.body (args:=[.agg (dy t).toArray,.pointer (some ⟨b3,0,none⟩)]) 12 Hi Tryz.func203 rfl rfl rfl (by simp) ?_
 repeat first|refine aa ?_|intro _
 (first|refine GO.ef (Ef.call (pq (L:=[]) n t h) rfl (by repeat (first|exact Ent.refl _|apply Ent.take))) ac ?_)
 rintro _ _ ⟨_,⟨rfl,rfl⟩,hL⟩
 simp only [aq,aj] at hL;subst hL
 refine GO.ent pU ?_
 repeat first|refine aa ?_|intro _
 (first|refine GO.ef (Ef.call (oF (L:=[]) _ [.pointer (some ⟨b3,0,none⟩)] (untC b3) t.ad t.cap t.rows r2 (fun r hr=>EB b3 n r (hB.2 r hr) (r3 r hr).give)) rfl (by repeat (first|exact Ent.refl _|apply Ent.take))) ac ?_)
 rintro _ _ ⟨_,⟨rfl,rfl⟩,hL⟩
 simp only [aq,aj] at hL;subst hL
 repeat first|refine aa ?_|intro
 exact KX.d7 ag ae ⟨rfl,rfl⟩
theorem Ee (b:Int×Int) (h:(0≤b.1∧b.1≤1099511627776)∧0≤b.2∧b.2≤10000):eB 254 [] bV noP (cY True) b:=by
 intro L
 obtain ⟨⟨h1,h2⟩,h3,h4⟩:=h
 refine Tri.body (args:=[.agg (bV b).toArray]) 21 Gn Tryz.func254 rfl rfl rfl (by simp) ?_
 repeat first|refine aa ?_|intro
 exact KX.d7 ag Ent.drop ⟨by rw [aL h4];rfl,rfl⟩
theorem tC (t:TxV) (h:TxGood t.m):eB 206 [] dD txP (cY True) t:=by
 intro L
 obtain ⟨h1,h2⟩:=h.brs
 change 0<t.brs.length at h1
 change t.brs.length≤16 at h2
 refine Tri.body (args:=[.agg (dD t).toArray]) 6 Hf Tryz.func206 rfl rfl rfl (by simp) ?_
 refine G.ent (L':=isl bV 2 t.ad t.brs::cY True::L) (by unfold txP;exact ae) ?_
 repeat first|refine aa ?_|intro
 refine GO.ent (mK t.brs) ?_
 (first|refine GO.ef (Ef.call (Cx (L:=[]) _ [] (cY True) t.ad t.cap t.brs ab (fun b hb=>Ee b (h.num b hb))) rfl (by repeat (first|exact Ent.refl _|apply Ent.take))) ac ?_)
 rintro _ _ ⟨_,⟨rfl,rfl⟩,hL⟩
 simp only [aq,aj] at hL;subst hL
 repeat first|refine aa ?_|intro
 refine KX.d7 ag ?_ ⟨rfl,rfl⟩
 unfold txP
 exact ae
theorem Ay {L:List HP} (c:CatV) (hB:c.B) (h:CatGood c.m):Tri Tryz.prog 115 #[.agg c.cells.toArray] (catS c (cu::L)) (fun v L'=>v=.bool true∧L' = catS c (cu::L)):=by
 obtain ⟨l1,l2,l3,l4⟩:=lens h
 refine Tri.body (args:=[.agg c.cells.toArray]) 24 IE Tryz.func115 rfl rfl rfl (by simp) ?_
 simp only [catS,CatV.cells]
 repeat first|refine aa ?_|intro
 rename_i b1 b3
 refine GO.ent (Ent.pure trivial (mK c.items)) ?_
 (first|refine GO.ef (Ef.call (oG (L:=[]) _ [] (cY True) c.iad c.icap c.items l1 (fun x hx=>se x (h.it x hx))) rfl (by repeat (first|exact Ent.refl _|apply Ent.take))) ac ?_)
 rintro _ _ ⟨_,⟨rfl,rfl⟩,hL⟩
 simp only [aq,aj] at hL;subst hL
 repeat first|refine aa ?_|intro _
 (first|refine GO.ef (Ef.call (lZ (L:=[]) _ [.pointer (some ⟨b3,0,none⟩)] (untC b3) c.rad c.rcap c.rules l2 (fun r hr=>Fk b3 _ r (nI h r hr))) rfl (by repeat (first|exact Ent.refl _|apply Ent.take))) ac ?_)
 rintro _ _ ⟨_,⟨rfl,rfl⟩,hL⟩
 simp only [aq,aj] at hL;subst hL
 repeat first|refine aa ?_|intro _
 (first|refine GO.ef (Ef.call (lY (L:=[]) _ [.pointer (some ⟨b3,0,none⟩)] (untC b3) c.tad c.tcap c.tables ab (fun r hr=>Fj b3 _ r (hB.tb r hr) (nH h r hr))) rfl (by repeat (first|exact Ent.refl _|apply Ent.take))) ac ?_)
 rintro _ _ ⟨_,⟨rfl,rfl⟩,hL⟩
 simp only [aq,aj] at hL;subst hL
 repeat first|refine aa ?_|intro _
 (first|refine GO.ef (Ef.call (lX (L:=[]) _ [] (cY True) c.xad c.xcap c.taxes ab (fun r hr=>tC r (nG h r hr))) rfl (by repeat (first|exact Ent.refl _|apply Ent.take))) ac ?_)
 rintro _ _ ⟨_,⟨rfl,rfl⟩,hL⟩
 simp only [aq,aj] at hL;subst hL
 repeat first|refine aa ?_|intro
 exact KX.d7 ag ae ⟨rfl,rfl⟩
theorem CC {L:List HP} (c:CatV) (hB:c.B) (h:CatGood c.m):Tri Tryz.prog 62 #[.agg c.cells.toArray] (catP c::cu::L) (fun v L'=>v=.int .i64 0∧L' = catP c::cu::L):=by
 refine Tri.body (args:=[.agg c.cells.toArray]) 23 en62 Tryz.func62 rfl rfl rfl (by simp) ?_
 refine G.ent (L':=catS c (cu::catP c::L)) (catS_open.trans (by simp only [catS];exact ae)) ?_
 simp only [CatV.cells]
 repeat first|refine aa ?_|intro
 rename_i b1
 refine GO.ent (L':=catS c (cu::obj b1 tCat c.cells::catP c::L)) (by simp only [catS,CatV.cells];exact ae) ?_
 refine GO.ef (Ef.d7 (qF c h) rfl) ac ?_
 rintro _ _ ⟨rfl,rfl⟩
 simp only [catS,CatV.cells]
 repeat first|refine aa ?_|intro
 refine GO.ent (L':=catS c (cu::obj b1 tCat c.cells::catP c::L)) (by simp only [catS,CatV.cells];exact ae) ?_
 refine GO.ef (Ef.d7 (yb c h) rfl) ac ?_
 rintro _ _ ⟨rfl,rfl⟩
 simp only [catS,CatV.cells]
 repeat first|refine aa ?_|intro
 refine GO.ent (L':=catS c (cu::obj b1 tCat c.cells::catP c::L)) (by simp only [catS,CatV.cells];exact ae) ?_
 refine GO.ef (Ef.d7 (rY c h) rfl) ac ?_
 rintro _ _ ⟨rfl,rfl⟩
 simp only [catS,CatV.cells]
 repeat first|refine aa ?_|intro
 refine GO.ent (L':=catS c (cu::obj b1 tCat c.cells::catP c::L)) (by simp only [catS,CatV.cells];exact ae) ?_
 refine GO.ef (Ef.d7 (tB c hB h) rfl) ac ?_
 rintro _ _ ⟨rfl,rfl⟩
 simp only [catS,CatV.cells]
 repeat first|refine aa ?_|intro
 refine GO.ent (L':=catS c (cu::obj b1 tCat c.cells::catP c::L)) (by simp only [catS,CatV.cells];exact ae) ?_
 refine GO.ef (Ef.d7 (Ay c hB h) rfl) ac ?_
 rintro _ _ ⟨rfl,rfl⟩
 simp only [catS,CatV.cells]
 repeat first|refine aa ?_|intro
 refine KX.d7 ag ?_ ⟨rfl,rfl⟩
 exact ae
end Go.Proofs.YtommnllbflbdmaaGreatDoor
namespace Go.V
theorem Ent.f9 {L R:List HP} {α:Type} {enc:α→List Value} {sz b T:Nat} {cs:List Value} [h:PickObj L b T cs R] (xs:List α) (hc:cs=xs.flatMap enc) (hs:∀ x∈xs,(enc x).length=sz) (hm:xs.length≤9223372036854775807):Ent L (isl enc sz (some ⟨b,0,none⟩) xs::R) :=
 (Ent.perm h.perm).trans ((Ent.f7 hc rfl hs hm).trans Ent.freezeSl)
end Go.V
namespace Go.Proofs.YtommnllbflbdmaaGreatDoor
open Go.V
attribute [local irreducible] G GO GP GPW GPK Ev Ef EfR Ent CB GB V.Enters
theorem lz {r:RuV} {L:List HP}:Ent (amS r.take::amS r.give::amS r.back::L) (ruP r::L):=(Ent.d7 (Ent.e9 (iX _) (iX _))).trans (Ent.e9 (iX _) ((iX _).and (iX _)))
def it16:List ItG:=[⟨⟨#[103,111,108,100]⟩,false,true,true,0,0,0⟩,⟨⟨#[111,114,101]⟩,false,false,false,0,0,0⟩,⟨⟨#[99,111,97,108]⟩,false,true,false,0,0,0⟩,⟨⟨#[98,97,114]⟩,false,false,false,0,0,0⟩,⟨⟨#[115,119,111,114,100]⟩,true,false,false,20,2,3⟩]
def cat16:CatM:=⟨it16,[⟨⟨#[100,105,103]⟩,true,0,0,1,1,[],[(1,4),(2,3)],[]⟩,⟨⟨#[115,109,101,108,116]⟩,false,2,5,2,3,[(1,2),(2,1)],[(3,1)],[(1,1)]⟩,⟨⟨#[102,111,114,103,101]⟩,false,3,10,1,1,[(3,3)],[(4,1)],[]⟩,⟨⟨#[115,99,114,97,112]⟩,false,0,1,1,1,[(4,1)],[(3,3)],[]⟩,⟨⟨#[115,101,108,108]⟩,false,0,1,1,1,[(3,1)],[(0,7)],[]⟩],[⟨⟨#[99,104,101,115,116]⟩,[⟨5,[(0,10)]⟩,⟨1,[(3,2)]⟩]⟩],[⟨⟨#[115,97,108,101]⟩,[(0,500),(100,1000)]⟩]⟩
abbrev rb (bi g0 t1 g1 k1 t2 g2 t3 g3 t4 g4 br w0 w1 bw bt bb bx:Nat):RuV:=⟨⟨#[100,105,103]⟩,true,0,0,1,1,⟨[],none,0⟩,⟨[(1,4),(2,3)],some ⟨g0,0,none⟩,2⟩,⟨[],none,0⟩⟩
abbrev qZ (bi g0 t1 g1 k1 t2 g2 t3 g3 t4 g4 br w0 w1 bw bt bb bx:Nat):RuV:=⟨⟨#[115,109,101,108,116]⟩,false,2,5,2,3,⟨[(1,2),(2,1)],some ⟨t1,0,none⟩,2⟩,⟨[(3,1)],some ⟨g1,0,none⟩,1⟩,⟨[(1,1)],some ⟨k1,0,none⟩,1⟩⟩
abbrev qY (bi g0 t1 g1 k1 t2 g2 t3 g3 t4 g4 br w0 w1 bw bt bb bx:Nat):RuV:=⟨⟨#[102,111,114,103,101]⟩,false,3,10,1,1,⟨[(3,3)],some ⟨t2,0,none⟩,1⟩,⟨[(4,1)],some ⟨g2,0,none⟩,1⟩,⟨[],none,0⟩⟩
abbrev qX (bi g0 t1 g1 k1 t2 g2 t3 g3 t4 g4 br w0 w1 bw bt bb bx:Nat):RuV:=⟨⟨#[115,99,114,97,112]⟩,false,0,1,1,1,⟨[(4,1)],some ⟨t3,0,none⟩,1⟩,⟨[(3,3)],some ⟨g3,0,none⟩,1⟩,⟨[],none,0⟩⟩
abbrev qW (bi g0 t1 g1 k1 t2 g2 t3 g3 t4 g4 br w0 w1 bw bt bb bx:Nat):RuV:=⟨⟨#[115,101,108,108]⟩,false,0,1,1,1,⟨[(3,1)],some ⟨t4,0,none⟩,1⟩,⟨[(0,7)],some ⟨g4,0,none⟩,1⟩,⟨[],none,0⟩⟩
abbrev qV (bi g0 t1 g1 k1 t2 g2 t3 g3 t4 g4 br w0 w1 bw bt bb bx:Nat):RwV:=⟨5,⟨[(0,10)],some ⟨w0,0,none⟩,1⟩⟩
abbrev qU (bi g0 t1 g1 k1 t2 g2 t3 g3 t4 g4 br w0 w1 bw bt bb bx:Nat):RwV:=⟨1,⟨[(3,2)],some ⟨w1,0,none⟩,1⟩⟩
abbrev tb16 (bi g0 t1 g1 k1 t2 g2 t3 g3 t4 g4 br w0 w1 bw bt bb bx:Nat):TbV:=⟨⟨#[99,104,101,115,116]⟩,[qV bi g0 t1 g1 k1 t2 g2 t3 g3 t4 g4 br w0 w1 bw bt bb bx,qU bi g0 t1 g1 k1 t2 g2 t3 g3 t4 g4 br w0 w1 bw bt bb bx],some ⟨bw,0,none⟩,2⟩
abbrev tx16 (bi g0 t1 g1 k1 t2 g2 t3 g3 t4 g4 br w0 w1 bw bt bb bx:Nat):TxV:=⟨⟨#[115,97,108,101]⟩,[(0,500),(100,1000)],some ⟨bb,0,none⟩,2⟩
def gA (bi g0 t1 g1 k1 t2 g2 t3 g3 t4 g4 br w0 w1 bw bt bb bx:Nat):CatV:=⟨it16,some ⟨bi,0,none⟩,5,[rb bi g0 t1 g1 k1 t2 g2 t3 g3 t4 g4 br w0 w1 bw bt bb bx,qZ bi g0 t1 g1 k1 t2 g2 t3 g3 t4 g4 br w0 w1 bw bt bb bx,qY bi g0 t1 g1 k1 t2 g2 t3 g3 t4 g4 br w0 w1 bw bt bb bx,qX bi g0 t1 g1 k1 t2 g2 t3 g3 t4 g4 br w0 w1 bw bt bb bx,qW bi g0 t1 g1 k1 t2 g2 t3 g3 t4 g4 br w0 w1 bw bt bb bx],some ⟨br,0,none⟩,5,[tb16 bi g0 t1 g1 k1 t2 g2 t3 g3 t4 g4 br w0 w1 bw bt bb bx],some ⟨bt,0,none⟩,1,[tx16 bi g0 t1 g1 k1 t2 g2 t3 g3 t4 g4 br w0 w1 bw bt bb bx],some ⟨bx,0,none⟩,1⟩
theorem DB (bi g0 t1 g1 k1 t2 g2 t3 g3 t4 g4 br w0 w1 bw bt bb bx:Nat):(gA bi g0 t1 g1 k1 t2 g2 t3 g3 t4 g4 br w0 w1 bw bt bb bx).m=cat16:=rfl
theorem DC (bi g0 t1 g1 k1 t2 g2 t3 g3 t4 g4 br w0 w1 bw bt bb bx:Nat):(gA bi g0 t1 g1 k1 t2 g2 t3 g3 t4 g4 br w0 w1 bw bt bb bx).B:=by
 refine ⟨au rfl,au rfl,au rfl,au rfl,?_,?_,?_⟩
 ·intro r hr
  simp only [gA,be,aO,or_false] at hr
  rcases hr with rfl|rfl|rfl|rfl|rfl<;>exact ⟨au rfl,au rfl,au rfl⟩
 ·intro r hr
  simp only [gA,be,aO,or_false] at hr
  subst hr
  refine ⟨au rfl,?_⟩
  intro w hw
  simp only [tb16,be,aO,or_false] at hw
  rcases hw with rfl|rfl<;>exact au rfl
 ·intro r hr
  simp only [gA,be,aO,or_false] at hr
  subst hr
  exact au rfl
theorem sq {L:List HP}:Tri Tryz.prog 36 #[] L (fun v L'=>∃ c:CatV,v=.agg c.cells.toArray∧(c.m=cat16∧c.B)∧L' = catP c::L):=by
 refine Tri.body (args:=[]) 50 en36 Tryz.func36 rfl rfl rfl (by simp) ?_
 repeat first|refine aa ?_|intro
 rename_i b0 bi g0 t1 g1 k1 t2 g2 t3 g3 t4 g4 br w0 w1 bw bt bb bx
 refine KX.d7 (vs:=[.agg (gA bi g0 t1 g1 k1 t2 g2 t3 g3 t4 g4 br w0 w1 bw bt bb bx).cells.toArray]) (ResOk.cell rfl (by rfl) ResOk.nil) ?_ ⟨gA bi g0 t1 g1 k1 t2 g2 t3 g3 t4 g4 br w0 w1 bw bt bb bx,rfl,⟨DB ..,DC ..⟩,rfl⟩
 refine (Ent.f9 (b:=g0) (enc:=bV) (sz:=2) [(1,4),(2,3)] rfl (fun _ _=>rfl) (au rfl)).trans ?_
 refine (Ent.f9 (b:=t1) (enc:=bV) (sz:=2) [(1,2),(2,1)] rfl (fun _ _=>rfl) (au rfl)).trans ?_
 refine (Ent.f9 (b:=g1) (enc:=bV) (sz:=2) [(3,1)] rfl (fun _ _=>rfl) (au rfl)).trans ?_
 refine (Ent.f9 (b:=k1) (enc:=bV) (sz:=2) [(1,1)] rfl (fun _ _=>rfl) (au rfl)).trans ?_
 refine (Ent.f9 (b:=t2) (enc:=bV) (sz:=2) [(3,3)] rfl (fun _ _=>rfl) (au rfl)).trans ?_
 refine (Ent.f9 (b:=g2) (enc:=bV) (sz:=2) [(4,1)] rfl (fun _ _=>rfl) (au rfl)).trans ?_
 refine (Ent.f9 (b:=t3) (enc:=bV) (sz:=2) [(4,1)] rfl (fun _ _=>rfl) (au rfl)).trans ?_
 refine (Ent.f9 (b:=g3) (enc:=bV) (sz:=2) [(3,3)] rfl (fun _ _=>rfl) (au rfl)).trans ?_
 refine (Ent.f9 (b:=t4) (enc:=bV) (sz:=2) [(3,1)] rfl (fun _ _=>rfl) (au rfl)).trans ?_
 refine (Ent.f9 (b:=g4) (enc:=bV) (sz:=2) [(0,7)] rfl (fun _ _=>rfl) (au rfl)).trans ?_
 refine (Ent.f9 (b:=w0) (enc:=bV) (sz:=2) [(0,10)] rfl (fun _ _=>rfl) (au rfl)).trans ?_
 refine (Ent.f9 (b:=w1) (enc:=bV) (sz:=2) [(3,2)] rfl (fun _ _=>rfl) (au rfl)).trans ?_
 refine (Ent.f9 (b:=bb) (enc:=bV) (sz:=2) [(0,500),(100,1000)] rfl (fun _ _=>rfl) (au rfl)).trans ?_
 refine (Ent.f9 (b:=bi) (enc:=cU) (sz:=7) it16 rfl (fun _ _=>rfl) (au rfl)).trans ?_
 refine (Ent.f9 (b:=br) (enc:=cw) (sz:=9) [rb bi g0 t1 g1 k1 t2 g2 t3 g3 t4 g4 br w0 w1 bw bt bb bx,qZ bi g0 t1 g1 k1 t2 g2 t3 g3 t4 g4 br w0 w1 bw bt bb bx,qY bi g0 t1 g1 k1 t2 g2 t3 g3 t4 g4 br w0 w1 bw bt bb bx,qX bi g0 t1 g1 k1 t2 g2 t3 g3 t4 g4 br w0 w1 bw bt bb bx,qW bi g0 t1 g1 k1 t2 g2 t3 g3 t4 g4 br w0 w1 bw bt bb bx] rfl (fun _ _=>rfl) (au rfl)).trans ?_
 refine (Ent.f9 (b:=bw) (enc:=eY) (sz:=2) [qV bi g0 t1 g1 k1 t2 g2 t3 g3 t4 g4 br w0 w1 bw bt bb bx,qU bi g0 t1 g1 k1 t2 g2 t3 g3 t4 g4 br w0 w1 bw bt bb bx] rfl (fun _ _=>rfl) (au rfl)).trans ?_
 refine (Ent.f9 (b:=bt) (enc:=dy) (sz:=2) [tb16 bi g0 t1 g1 k1 t2 g2 t3 g3 t4 g4 br w0 w1 bw bt bb bx] rfl (fun _ _=>rfl) (au rfl)).trans ?_
 refine (Ent.f9 (b:=bx) (enc:=dD) (sz:=2) [tx16 bi g0 t1 g1 k1 t2 g2 t3 g3 t4 g4 br w0 w1 bw bt bb bx] rfl (fun _ _=>rfl) (au rfl)).trans ?_
 refine (Ent.e8 bV 2 none).trans ?_
 refine (Ent.at (A:=isl bV 2 (some ⟨g4,0,none⟩) [(0,7)]) (Ent.refl _)).trans ?_
 refine (Ent.at (A:=isl bV 2 (some ⟨t4,0,none⟩) [(3,1)]) (Ent.refl _)).trans ?_
 refine (lz (r:=qW bi g0 t1 g1 k1 t2 g2 t3 g3 t4 g4 br w0 w1 bw bt bb bx)).trans ?_
 refine (Ent.f8 (f:=ruP) ix).trans ?_
 refine (Ent.e8 bV 2 none).trans ?_
 refine (Ent.at (A:=isl bV 2 (some ⟨g3,0,none⟩) [(3,3)]) (Ent.refl _)).trans ?_
 refine (Ent.at (A:=isl bV 2 (some ⟨t3,0,none⟩) [(4,1)]) (Ent.refl _)).trans ?_
 refine (lz (r:=qX bi g0 t1 g1 k1 t2 g2 t3 g3 t4 g4 br w0 w1 bw bt bb bx)).trans ?_
 refine (Ent.g7 (f:=ruP) ix).trans ?_
 refine (Ent.e8 bV 2 none).trans ?_
 refine (Ent.at (A:=isl bV 2 (some ⟨g2,0,none⟩) [(4,1)]) (Ent.refl _)).trans ?_
 refine (Ent.at (A:=isl bV 2 (some ⟨t2,0,none⟩) [(3,3)]) (Ent.refl _)).trans ?_
 refine (lz (r:=qY bi g0 t1 g1 k1 t2 g2 t3 g3 t4 g4 br w0 w1 bw bt bb bx)).trans ?_
 refine (Ent.g7 (f:=ruP) ix).trans ?_
 refine (Ent.at (A:=isl bV 2 (some ⟨k1,0,none⟩) [(1,1)]) (Ent.refl _)).trans ?_
 refine (Ent.at (A:=isl bV 2 (some ⟨g1,0,none⟩) [(3,1)]) (Ent.refl _)).trans ?_
 refine (Ent.at (A:=isl bV 2 (some ⟨t1,0,none⟩) [(1,2),(2,1)]) (Ent.refl _)).trans ?_
 refine (lz (r:=qZ bi g0 t1 g1 k1 t2 g2 t3 g3 t4 g4 br w0 w1 bw bt bb bx)).trans ?_
 refine (Ent.g7 (f:=ruP) ix).trans ?_
 refine (Ent.e8 bV 2 none).trans ?_
 refine (Ent.at (A:=isl bV 2 (some ⟨g0,0,none⟩) [(1,4),(2,3)]) (Ent.refl _)).trans ?_
 refine (Ent.e8 bV 2 none).trans ?_
 refine (lz (r:=rb bi g0 t1 g1 k1 t2 g2 t3 g3 t4 g4 br w0 w1 bw bt bb bx)).trans ?_
 refine (Ent.g7 (f:=ruP) ix).trans ?_
 refine (Ent.at (A:=isl cw 9 (some ⟨br,0,none⟩) [rb bi g0 t1 g1 k1 t2 g2 t3 g3 t4 g4 br w0 w1 bw bt bb bx,qZ bi g0 t1 g1 k1 t2 g2 t3 g3 t4 g4 br w0 w1 bw bt bb bx,qY bi g0 t1 g1 k1 t2 g2 t3 g3 t4 g4 br w0 w1 bw bt bb bx,qX bi g0 t1 g1 k1 t2 g2 t3 g3 t4 g4 br w0 w1 bw bt bb bx,qW bi g0 t1 g1 k1 t2 g2 t3 g3 t4 g4 br w0 w1 bw bt bb bx]) (Ent.e9 (bJ _ _ _ _) (cA ix))).trans ?_
 refine (Ent.at (A:=isl bV 2 (some ⟨w1,0,none⟩) [(3,2)]) (Ent.refl _)).trans ?_
 refine (Ent.f8 (f:=rwP) (x:=qU bi g0 t1 g1 k1 t2 g2 t3 g3 t4 g4 br w0 w1 bw bt bb bx) mZ).trans ?_
 refine (Ent.at (A:=isl bV 2 (some ⟨w0,0,none⟩) [(0,10)]) (Ent.refl _)).trans ?_
 refine (Ent.g7 (f:=rwP) (x:=qV bi g0 t1 g1 k1 t2 g2 t3 g3 t4 g4 br w0 w1 bw bt bb bx) mZ).trans ?_
 refine (Ent.at (A:=isl eY 2 (some ⟨bw,0,none⟩) [qV bi g0 t1 g1 k1 t2 g2 t3 g3 t4 g4 br w0 w1 bw bt bb bx,qU bi g0 t1 g1 k1 t2 g2 t3 g3 t4 g4 br w0 w1 bw bt bb bx]) (Ent.e9 (bJ _ _ _ _) (cA mZ))).trans ?_
 refine (Ent.f8 (f:=tbP) (x:=tb16 bi g0 t1 g1 k1 t2 g2 t3 g3 t4 g4 br w0 w1 bw bt bb bx) jy).trans ?_
 refine (Ent.at (A:=isl dy 2 (some ⟨bt,0,none⟩) [tb16 bi g0 t1 g1 k1 t2 g2 t3 g3 t4 g4 br w0 w1 bw bt bb bx]) (Ent.e9 (bJ _ _ _ _) (cA jy))).trans ?_
 refine (Ent.at (A:=isl bV 2 (some ⟨bb,0,none⟩) [(0,500),(100,1000)]) (Ent.refl _)).trans ?_
 refine (Ent.f8 (f:=txP) (x:=tx16 bi g0 t1 g1 k1 t2 g2 t3 g3 t4 g4 br w0 w1 bw bt bb bx) ku).trans ?_
 refine (Ent.at (A:=isl dD 2 (some ⟨bx,0,none⟩) [tx16 bi g0 t1 g1 k1 t2 g2 t3 g3 t4 g4 br w0 w1 bw bt bb bx]) (Ent.e9 (bJ _ _ _ _) (cA ku))).trans ?_
 refine (Ent.swap.trans (Ent.e9 (lK (gA bi g0 t1 g1 k1 t2 g2 t3 g3 t4 g4 br w0 w1 bw bt bb bx)) (lJ (gA bi g0 t1 g1 k1 t2 g2 t3 g3 t4 g4 br w0 w1 bw bt bb bx)))).trans ?_
 refine (Ent.swap.trans (Ent.e9 (oO (gA bi g0 t1 g1 k1 t2 g2 t3 g3 t4 g4 br w0 w1 bw bt bb bx)) ((lK (gA bi g0 t1 g1 k1 t2 g2 t3 g3 t4 g4 br w0 w1 bw bt bb bx)).and (lJ (gA bi g0 t1 g1 k1 t2 g2 t3 g3 t4 g4 br w0 w1 bw bt bb bx))))).trans ?_
 refine (Ent.swap.trans (Ent.e9 (vZ (gA bi g0 t1 g1 k1 t2 g2 t3 g3 t4 g4 br w0 w1 bw bt bb bx)) ((oO (gA bi g0 t1 g1 k1 t2 g2 t3 g3 t4 g4 br w0 w1 bw bt bb bx)).and ((lK (gA bi g0 t1 g1 k1 t2 g2 t3 g3 t4 g4 br w0 w1 bw bt bb bx)).and (lJ (gA bi g0 t1 g1 k1 t2 g2 t3 g3 t4 g4 br w0 w1 bw bt bb bx)))))).trans ?_
 exact Ent.d7 Ent.drop
theorem kN {s:ByteArray} (h:(1≤s.size∧s.size≤16)∧gd s 0=3∧∀ i:Nat,i<s.size→gd s i=3∨gd s i=4∨gd s i=5):IsWord s:=⟨h.1,h.2.1,h.2.2⟩
theorem nF {n:Nat} {l:List (Int×Int)} (h:(∀ a∈l,0≤a.1∧a.1<n∧1≤a.2∧a.2≤1099511627776)∧l.Pairwise (fun a b=>a.1<b.1)):kg n l:=h
theorem cat16_good:CatGood cat16:=by
 refine ⟨by decide,by decide,by decide,by decide,?_,?_,?_,?_,by decide,by decide,by decide,by decide⟩
 ·intro x hx
  simp only [cat16,it16,be,aO,or_false] at hx
  rcases hx with rfl|rfl|rfl|rfl|rfl<;>exact ⟨kN (by decide +kernel),by decide,by decide⟩
 ·intro r hr
  simp only [cat16,be,aO,or_false] at hr
  rcases hr with rfl|rfl|rfl|rfl|rfl<;>exact ⟨kN (by decide +kernel),by decide,nF ac,nF ac,nF ac,by decide,by decide,by decide⟩
 ·intro t ht
  simp only [cat16,be,aO,or_false] at ht
  subst ht
  refine ⟨kN (by decide +kernel),by decide,?_⟩
  intro r hr
  simp only [be,aO,or_false] at hr
  rcases hr with rfl|rfl<;>exact ⟨by decide,nF ac⟩
 ·intro t ht
  simp only [cat16,be,aO,or_false] at ht
  subst ht
  refine ⟨kN (by decide +kernel),by decide,by decide,?_,by decide⟩
  intro i hi
  have hi0:i=0:=by simp only [bj,bZ] at hi;omega
  subst hi0
  decide
theorem wa:cat16.Ok:=⟨fun r hr a ha=>⟨by have:=(cat16_good.ru r hr).take.1 a ha;omega,((cat16_good.ru r hr).take.1 a ha).2.2.2⟩,fun r hr a ha=>⟨by have:=(cat16_good.ru r hr).give.1 a ha;omega,((cat16_good.ru r hr).give.1 a ha).2.2.2⟩,fun r hr a ha=>⟨by have:=(cat16_good.ru r hr).back.1 a ha;omega,((cat16_good.ru r hr).back.1 a ha).2.2.2⟩⟩
end Go.Proofs.YtommnllbflbdmaaGreatDoor
