/- Lemmas and contracts of functions. -/
import Derived.Test.YtommnllbflbdmaaGreatDoorGAuditTotalsaw
set_option linter.all false
set_option maxHeartbeats 1000000
namespace Go.Proofs.YtommnllbflbdmaaGreatDoor
section
open Go.V
attribute [local irreducible] G GO GP GPW GPK Ev Ef EfR Ent CB GB V.Enters
def kg (n:Nat) (l:List (Int×Int)):Prop:=(∀ a∈l,0≤a.1∧a.1<n∧1≤a.2∧a.2≤1099511627776)∧l.Pairwise (fun a b=>a.1<b.1)
def ig (l:List (Int×Int)) (i:Int):Int:=l.foldl (fun s a=>if a.1=i then s+a.2 else s) 0
structure ItGood (x:ItG):Prop where
 word:IsWord x.name
 form:if x.obj=true then x.mixed=false∧x.coin=false∧0≤x.bind∧x.bind≤2 else x.wear=0∧x.bind=0∧x.level=0
 num:(x.obj=true→1≤x.wear∧x.wear≤1048576)∧0≤x.level∧x.level≤100
structure RuGood (n:Nat) (r:RuM):Prop where
 word:IsWord r.name
 lim:r.take.length+r.give.length≤64∧r.take.length+r.back.length≤64
 take:kg n r.take
 give:kg n r.give
 back:kg n r.back
 form:(r.back.length=0∨r.chance≠r.of_)∧(if r.spawn=true then r.take.length=0∧r.back.length=0∧r.level=0∧r.time=0∧r.chance=r.of_ else 0<r.take.length∨r.time≠0)
 cont:∀ a∈r.back,ig r.back a.1≤ig r.take a.1
 num:(0≤r.level∧r.level≤100)∧(0≤r.time∧r.time≤1000000)∧(1≤r.of_∧r.of_≤1000000)∧1≤r.chance∧r.chance≤r.of_
structure RwGood (n:Nat) (r:RwM):Prop where
 num:1≤r.weight∧r.weight≤1099511627776
 give:kg n r.give
structure TbGood (n:Nat) (t:TbM):Prop where
 word:IsWord t.name
 rows:0<t.rows.length∧t.rows.length≤64
 good:∀ r∈t.rows,RwGood n r
structure TxGood (t:TxM):Prop where
 word:IsWord t.name
 brs:0<t.brs.length∧t.brs.length≤16
 first:t.brs[0]!.1=0
 srt:∀ i,i+1<t.brs.length→t.brs[i]!.1<t.brs[i+1]!.1
 num:∀ b∈t.brs,(0≤b.1∧b.1≤1099511627776)∧0≤b.2∧b.2≤10000
structure CatGood (c:CatM):Prop where
 items:c.items.length≤64
 rules:c.rules.length≤64
 tables:c.tables.length≤32
 taxes:c.taxes.length≤32
 it:∀ x∈c.items,ItGood x
 ru:∀ r∈c.rules,RuGood c.items.length r
 tb:∀ t∈c.tables,TbGood c.items.length t
 tx:∀ t∈c.taxes,TxGood t
 di:(c.items.map (·.name)).Nodup
 dr:(c.rules.map (·.name)).Nodup
 dt:(c.tables.map (·.name)).Nodup
 dx:(c.taxes.map (·.name)).Nodup
theorem ES (n:Nat) (r:RuV) (h:RuGood n r.m):eB 169 [] cw ruP (cY True) r:=by
 intro L
 obtain ⟨h1,h2⟩:=h.lim
 change r.take.l.length+r.give.l.length≤64 at h1
 change r.take.l.length+r.back.l.length≤64 at h2
 refine Tri.body (args:=[.agg (cw r).toArray]) 21 HS Tryz.func169 rfl rfl rfl (by simp) ?_
 repeat first|refine aa ?_|intro
 exact KX.d7 ag Ent.drop ⟨by rw [aL ab];rfl,rfl⟩
theorem ER (n:Nat) (t:TbV) (h:TbGood n t.m):eB 171 [] dy tbP (cY True) t:=by
 intro L
 have h1:t.rows.length≤64:=by have:=h.rows.2;simpa [TbV.m] using this
 refine Tri.body (args:=[.agg (dy t).toArray]) 7 HQ Tryz.func171 rfl rfl rfl (by simp) ?_
 repeat first|refine aa ?_|intro
 exact KX.d7 ag Ent.drop ⟨by rw [aL ab];rfl,rfl⟩
theorem EQ (t:TxV) (h:TxGood t.m):eB 173 [] dD txP (cY True) t:=by
 intro L
 have h1:t.brs.length≤16:=h.brs.2
 refine Tri.body (args:=[.agg (dD t).toArray]) 7 HN Tryz.func173 rfl rfl rfl (by simp) ?_
 repeat first|refine aa ?_|intro
 exact KX.d7 ag Ent.drop ⟨by rw [aL ab];rfl,rfl⟩
abbrev catS (c:CatV) (L:List HP):List HP:=isl cU 7 c.iad c.items::isl cw 9 c.rad c.rules::allP ruP c.rules::isl dy 2 c.tad c.tables::allP tbP c.tables::isl dD 2 c.xad c.taxes::allP txP c.taxes::L
theorem catS_open {c:CatV} {L:List HP}:Ent (catP c::L) (catS c (catP c::L)) :=
 (Ent.dup (lL c).pers).trans (Ent.andE.trans (Ent.d7 (Ent.andE.trans (Ent.andE.trans (Ent.d7 (Ent.d7 (Ent.andE.trans (Ent.andE.trans (Ent.d7 (Ent.d7 Ent.andE))))))))))
theorem nI {c:CatV} (h:CatGood c.m):∀ r∈c.rules,RuGood c.items.length r.m:=fun _ hr=>h.ru _ (alStd0List_mem_map_of_mem hr)
theorem nH {c:CatV} (h:CatGood c.m):∀ t∈c.tables,TbGood c.items.length t.m:=fun _ ht=>h.tb _ (alStd0List_mem_map_of_mem ht)
theorem nG {c:CatV} (h:CatGood c.m):∀ t∈c.taxes,TxGood t.m:=fun _ ht=>h.tx _ (alStd0List_mem_map_of_mem ht)
theorem lens {c:CatV} (h:CatGood c.m):c.items.length≤64∧c.rules.length≤64∧c.tables.length≤32∧c.taxes.length≤32:=by
 have h1:=h.items
 have h2:=h.rules
 have h3:=h.tables
 have h4:=h.taxes
 simp only [CatV.m,aD] at h1 h2 h3 h4
 exact ⟨h1,h2,h3,h4⟩
theorem qF {L:List HP} (c:CatV) (h:CatGood c.m):Tri Tryz.prog 111 #[.agg c.cells.toArray] (catS c (cu::L)) (fun v L'=>v=.bool true∧L' = catS c (cu::L)):=by
 obtain ⟨l1,l2,l3,l4⟩:=lens h
 refine Tri.body (args:=[.agg c.cells.toArray]) 40 II Tryz.func111 rfl rfl rfl (by simp) ?_
 simp only [catS,CatV.cells]
 repeat first|refine aa ?_|intro
 refine GO.ent (Ent.pure trivial (Ent.refl _)) ?_
 (first|refine GO.ef (Ef.call (lZ (L:=[]) _ [] (cY True) c.rad c.rcap c.rules l2 (fun r hr=>ES _ r (nI h r hr))) rfl (by repeat (first|exact Ent.refl _|apply Ent.take))) ac ?_)
 rintro _ _ ⟨_,⟨rfl,rfl⟩,hL⟩
 simp only [aq,aj] at hL;subst hL
 repeat first|refine aa ?_|intro _
 (first|refine GO.ef (Ef.call (lY (L:=[]) _ [] (cY True) c.tad c.tcap c.tables ab (fun r hr=>ER _ r (nH h r hr))) rfl (by repeat (first|exact Ent.refl _|apply Ent.take))) ac ?_)
 rintro _ _ ⟨_,⟨rfl,rfl⟩,hL⟩
 simp only [aq,aj] at hL;subst hL
 repeat first|refine aa ?_|intro _
 (first|refine GO.ef (Ef.call (lX (L:=[]) _ [] (cY True) c.xad c.xcap c.taxes ab (fun r hr=>EQ r (nG h r hr))) rfl (by repeat (first|exact Ent.refl _|apply Ent.take))) ac ?_)
 rintro _ _ ⟨_,⟨rfl,rfl⟩,hL⟩
 simp only [aq,aj] at hL;subst hL
 repeat first|refine aa ?_|intro
 exact KX.d7 ag ae ⟨rfl,rfl⟩
theorem Fe (x:ItG) (h:IsWord x.name):eB 175 [] cU noP cu x:=by
 intro L
 refine Tri.body (args:=[.agg (cU x).toArray]) 6 HL Tryz.func175 rfl rfl rfl (by simp) ?_
 repeat first|refine aa ?_|intro
 refine GO.ef (Ef.d7 (lj x.name h) rfl) ac ?_
 rintro _ _ ⟨rfl,rfl⟩
 repeat first|refine aa ?_|intro
 exact KX.d7 ag Ent.drop ⟨rfl,rfl⟩
theorem Fc (x:RuV) (h:IsWord x.name):eB 177 [] cw ruP cu x:=by
 intro L
 refine Tri.body (args:=[.agg (cw x).toArray]) 6 HJ Tryz.func177 rfl rfl rfl (by simp) ?_
 repeat first|refine aa ?_|intro
 refine GO.ef (Ef.d7 (lj x.name h) rfl) ac ?_
 rintro _ _ ⟨rfl,rfl⟩
 repeat first|refine aa ?_|intro
 exact KX.d7 ag Ent.drop ⟨rfl,rfl⟩
theorem Fb (x:TbV) (h:IsWord x.name):eB 178 [] dy tbP cu x:=by
 intro L
 refine Tri.body (args:=[.agg (dy x).toArray]) 6 HI Tryz.func178 rfl rfl rfl (by simp) ?_
 repeat first|refine aa ?_|intro
 refine GO.ef (Ef.d7 (lj x.name h) rfl) ac ?_
 rintro _ _ ⟨rfl,rfl⟩
 repeat first|refine aa ?_|intro
 exact KX.d7 ag Ent.drop ⟨rfl,rfl⟩
theorem Fa (x:TxV) (h:IsWord x.name):eB 179 [] dD txP cu x:=by
 intro L
 refine Tri.body (args:=[.agg (dD x).toArray]) 6 HH Tryz.func179 rfl rfl rfl (by simp) ?_
 repeat first|refine aa ?_|intro
 refine GO.ef (Ef.d7 (lj x.name h) rfl) ac ?_
 rintro _ _ ⟨rfl,rfl⟩
 repeat first|refine aa ?_|intro
 exact KX.d7 ag Ent.drop ⟨rfl,rfl⟩
theorem yb {L:List HP} (c:CatV) (h:CatGood c.m):Tri Tryz.prog 112 #[.agg c.cells.toArray] (catS c (cu::L)) (fun v L'=>v=.bool true∧L' = catS c (cu::L)):=by
 obtain ⟨l1,l2,l3,l4⟩:=lens h
 refine Tri.body (args:=[.agg c.cells.toArray]) 21 IH Tryz.func112 rfl rfl rfl (by simp) ?_
 simp only [catS,CatV.cells]
 repeat first|refine aa ?_|intro
 refine GO.ent (mK c.items) ?_
 (first|refine GO.ef (Ef.call (oG (L:=[]) _ [] cu c.iad c.icap c.items l1 (fun x hx=>Fe x (h.it x hx).word)) rfl (by repeat (first|exact Ent.refl _|apply Ent.take))) ac ?_)
 rintro _ _ ⟨_,⟨rfl,rfl⟩,hL⟩
 simp only [aq,aj] at hL;subst hL
 repeat first|refine aa ?_|intro _
 (first|refine GO.ef (Ef.call (lZ (L:=[]) _ [] cu c.rad c.rcap c.rules l2 (fun r hr=>Fc r (nI h r hr).word)) rfl (by repeat (first|exact Ent.refl _|apply Ent.take))) ac ?_)
 rintro _ _ ⟨_,⟨rfl,rfl⟩,hL⟩
 simp only [aq,aj] at hL;subst hL
 repeat first|refine aa ?_|intro _
 (first|refine GO.ef (Ef.call (lY (L:=[]) _ [] cu c.tad c.tcap c.tables ab (fun r hr=>Fb r (nH h r hr).word)) rfl (by repeat (first|exact Ent.refl _|apply Ent.take))) ac ?_)
 rintro _ _ ⟨_,⟨rfl,rfl⟩,hL⟩
 simp only [aq,aj] at hL;subst hL
 repeat first|refine aa ?_|intro _
 (first|refine GO.ef (Ef.call (lX (L:=[]) _ [] cu c.xad c.xcap c.taxes ab (fun r hr=>Fa r (nG h r hr).word)) rfl (by repeat (first|exact Ent.refl _|apply Ent.take))) ac ?_)
 rintro _ _ ⟨_,⟨rfl,rfl⟩,hL⟩
 simp only [aq,aj] at hL;subst hL
 repeat first|refine aa ?_|intro
 exact KX.d7 ag ae ⟨rfl,rfl⟩
theorem rY {L:List HP} (c:CatV) (h:CatGood c.m):Tri Tryz.prog 113 #[.agg c.cells.toArray] (catS c (cu::L)) (fun v L'=>v=.bool true∧L' = catS c (cu::L)):=by
 obtain ⟨l1,l2,l3,l4⟩:=lens h
 have d1:(c.items.map (·.name)).Nodup:=h.di
 have d2:(c.rules.map (·.name)).Nodup:=by have:=h.dr;simpa [CatV.m,RuV.m,TbV.m,TxV.m,Function.comp_def] using this
 have d3:(c.tables.map (·.name)).Nodup:=by have:=h.dt;simpa [CatV.m,RuV.m,TbV.m,TxV.m,Function.comp_def] using this
 have d4:(c.taxes.map (·.name)).Nodup:=by have:=h.dx;simpa [CatV.m,RuV.m,TbV.m,TxV.m,Function.comp_def] using this
 refine Tri.body (args:=[.agg c.cells.toArray]) 21 IG Tryz.func113 rfl rfl rfl (by simp) ?_
 simp only [catS,CatV.cells]
 repeat first|refine aa ?_|intro _
 (first|refine GO.ef (Ef.call (AN (L:=[]) c.iad c.icap c.items l1 d1) rfl (by repeat (first|exact Ent.refl _|apply Ent.take))) ac ?_)
 rintro _ _ ⟨_,⟨rfl,rfl⟩,hL⟩
 simp only [aq,aj] at hL;subst hL
 repeat first|refine aa ?_|intro _
 (first|refine GO.ef (Ef.call (AM (L:=[]) c.rad c.rcap c.rules l2 d2) rfl (by repeat (first|exact Ent.refl _|apply Ent.take))) ac ?_)
 rintro _ _ ⟨_,⟨rfl,rfl⟩,hL⟩
 simp only [aq,aj] at hL;subst hL
 repeat first|refine aa ?_|intro _
 (first|refine GO.ef (Ef.call (AL (L:=[]) c.tad c.tcap c.tables ab d3) rfl (by repeat (first|exact Ent.refl _|apply Ent.take))) ac ?_)
 rintro _ _ ⟨_,⟨rfl,rfl⟩,hL⟩
 simp only [aq,aj] at hL;subst hL
 repeat first|refine aa ?_|intro _
 (first|refine GO.ef (Ef.call (AK (L:=[]) c.xad c.xcap c.taxes ab d4) rfl (by repeat (first|exact Ent.refl _|apply Ent.take))) ac ?_)
 rintro _ _ ⟨_,⟨rfl,rfl⟩,hL⟩
 simp only [aq,aj] at hL;subst hL
 repeat first|refine aa ?_|intro
 exact KX.d7 ag ae ⟨rfl,rfl⟩
end
section
open Go.V
attribute [local irreducible] G GO GP GPW GPK Ev Ef EfR Ent CB GB V.Enters
abbrev tCat:Nat:=33
theorem qG {L:List HP} (b1:Nat) (c:CatV) (ad:Option Addr) (cap:Nat) (l:List (Int×Int)) (hl:l.length≤64) (hc:c.items.length≤64) (h:kg c.items.length l) :
  Tri Tryz.prog 188 #[.slice ad l.length cap,.pointer (some ⟨b1,0,none⟩)] (obj b1 tCat c.cells::isl bV 2 ad l::L) (fun v L'=>v=.bool true∧L' = obj b1 tCat c.cells::isl bV 2 ad l::L):=by
 obtain ⟨h1,h2⟩:=h
 refine Tri.body (args:=[.slice ad l.length cap,.pointer (some ⟨b1,0,none⟩)]) 28 Hy Tryz.func188 rfl rfl rfl (by simp) ?_
 simp only [CatV.cells]
 repeat first|refine aa ?_|intro
 refine G.loop (α:=Nat×Int) (fun x=>x.1≤l.length∧∀ j,x.1≤j→j<l.length→x.2<l[j]!.1) (fun x=>[(1,.pointer (some ⟨b1,0,none⟩)),(4,.int .i64 x.2),(7,.slice ad l.length cap),(8,.int .i64 l.length),(9,.int .i64 (x.1:Int))]) (fun _=>obj b1 tCat [.slice c.iad c.items.length c.icap,.slice c.rad c.rules.length c.rcap,.slice c.tad c.tables.length c.tcap,.slice c.xad c.taxes.length c.xcap]::isl bV 2 ad l::L) (fun x=>l.length - x.1) (0,-1) ⟨al _,fun j _ hj=>by have:=h1 _ (aG hj);dsimp only;omega⟩ ai (Ent.refl _) ?_
 rintro ⟨i,last⟩ ⟨hi,hlast⟩
 dsimp only at hi hlast ⊢
 by_cases hlt:i<l.length
 case neg =>
  repeat first|refine aa ?_|intro
  exact KX.d7 ag (Ent.refl _) ⟨rfl,rfl⟩
 have hii:(i:Int).toNat=i:=ab
 have ha:=h1 _ (aG hlt)
 have hb:=hlast i (aw _) hlt
 repeat first|refine aa ?_|intro
 rw [hii]
 repeat first|refine aa ?_|intro
 refine ⟨(i+1,l[i]!.1),⟨by dsimp only;omega,?_⟩,by dsimp only;omega,?_,Ent.drop⟩
 ·intro j hj hjl
  dsimp only at hj ⊢
  rw [getElem!_of hlt,getElem!_of hjl]
  exact List.pairwise_iff_getElem.1 h2 i j hlt hjl ab
 ·dsimp only
  rw [aM i]
  exact ai
theorem tP (x:ItG) (h:ItGood x):eB 189 [] cU noP (cY True) x:=by
 intro L
 have hf:=h.form
 refine Tri.body (args:=[.agg (cU x).toArray]) 36 Hx Tryz.func189 rfl rfl rfl (by simp) ?_
 cases hx:x.obj with
 | true =>
  rw [if_pos hx] at hf
  obtain ⟨f1,f2,f3,f4⟩:=hf
  have e:cU x=[.string x.name,.bool true,.bool false,.bool false,.int .i64 x.wear,.int .i64 x.bind,.int .i64 x.level]:=by unfold cU;rw [hx,f1,f2]
  rw [e]
  repeat first|refine aa ?_|intro
  exact KX.d7 ag Ent.drop ⟨by rw [aL f4];rfl,rfl⟩
 | false =>
  rw [if_neg (by rw [hx];decide)] at hf
  obtain ⟨f1,f2,f3⟩:=hf
  have e:cU x=[.string x.name,.bool false,.bool x.mixed,.bool x.coin,.int .i64 0,.int .i64 0,.int .i64 0]:=by unfold cU;rw [hx,f1,f2,f3]
  rw [e]
  repeat first|refine aa ?_|intro
  exact KX.d7 ag Ent.drop ⟨by rw [aL rfl];rfl,rfl⟩
theorem tH {L:List HP} (n:Nat) (r:RuV) (h:RuGood n r.m):Tri Tryz.prog 191 #[.agg (cw r).toArray] L (fun v L'=>v=.bool true∧L' = L):=by
 obtain ⟨hf1,hf2⟩:=h.form
 change (r.back.l.length=0∨r.chance≠r.of_) at hf1
 have hg:∀ {q:Prop},(r.back.l.length=0→q)→(¬r.back.l.length=0→r.chance≠r.of_→q)→q:=by
  intro q a b
  by_cases h0:r.back.l.length=0
  ·exact a h0
  ·exact b h0 (hf1.resolve_left h0)
 change (if r.spawn=true then r.take.l.length=0∧r.back.l.length=0∧r.level=0∧r.time=0∧r.chance=r.of_ else 0<r.take.l.length∨r.time≠0) at hf2
 refine Tri.body (args:=[.agg (cw r).toArray]) 52 Hv Tryz.func191 rfl rfl rfl (by simp) ?_
 cases hx:r.spawn with
 | true =>
  rw [if_pos hx] at hf2
  obtain ⟨f1,f2,f3,f4,f5⟩:=hf2
  have e:cw r=[.string r.name,.bool true,.int .i64 r.level,.int .i64 r.time,.int .i64 r.chance,.int .i64 r.of_,.slice r.take.ad r.take.l.length r.take.cap,.slice r.give.ad r.give.l.length r.give.cap,.slice r.back.ad r.back.l.length r.back.cap]:=by unfold cw;rw [hx]
  rw [e]
  repeat first|refine aa ?_|intro
  exact KX.d7 ag Ent.drop ⟨by rw [aL f5];rfl,rfl⟩
 | false =>
  rw [if_neg (by rw [hx];decide)] at hf2
  have e:cw r=[.string r.name,.bool false,.int .i64 r.level,.int .i64 r.time,.int .i64 r.chance,.int .i64 r.of_,.slice r.take.ad r.take.l.length r.take.cap,.slice r.give.ad r.give.l.length r.give.cap,.slice r.back.ad r.back.l.length r.back.cap]:=by unfold cw;rw [hx]
  rw [e]
  refine hg ?_ ?_
  ·intro h0
   by_cases h5:0<r.take.l.length
   ·repeat first|refine aa ?_|intro
    exact KX.d7 ag Ent.drop ⟨rfl,rfl⟩
   ·have h6:r.time≠0:=hf2.resolve_left h5
    repeat first|refine aa ?_|intro
    exact KX.d7 ag Ent.drop ⟨by rw [aL h6];rfl,rfl⟩
  ·intro h0 hne
   by_cases h5:0<r.take.l.length
   ·repeat first|refine aa ?_|intro
    exact KX.d7 ag Ent.drop ⟨rfl,rfl⟩
   ·have h6:r.time≠0:=hf2.resolve_left h5
    repeat first|refine aa ?_|intro
    exact KX.d7 ag Ent.drop ⟨by rw [aL h6];rfl,rfl⟩
def amU (l:List (Int×Int)) (m:List (Int×Int)):Prop:=∀ i,(glk m i).getD 0=ig l i
theorem rH (l:List (Int×Int)) (a:Int×Int) (i:Int):ig (l++[a]) i=if a.1=i then ig l i+a.2 else ig l i:=by
 unfold ig
 rw [cg]
 rfl
theorem we {n:Nat} {l:List (Int×Int)} (h:∀ a∈l,0≤a.1∧a.1<n∧1≤a.2∧a.2≤1099511627776) (i:Int):∀ k,k≤l.length→0≤ig (l.take k) i∧ig (l.take k) i≤k*1099511627776:=by
 intro k
 induction k with
 | zero=>intro _;simp [ig]
 | succ k ih =>
  intro hk
  have h1:=ih ab
  have h2:=h _ (ej (show k<l.length by omega))
  rw [ay ab,rH]
  split<;>omega
end
section
open Go.V
attribute [local irreducible] G GO GP GPW GPK Ev Ef EfR Ent CB GB V.Enters
theorem Ci (m:List (Int×Int)) (k q a:Int):glk (gins m k a) q=if q=k then some a else glk m q:=gE
theorem qI (m:List (Int×Int)) (k d:Int):((@List.lookup _ _ instBEqOfDecidableEq k m).map encN).getD (.int .i64 d)=.int .i64 ((glk m k).getD d):=by
 unfold glk
 cases @List.lookup _ _ instBEqOfDecidableEq k m<;>rfl
theorem yW:amU [] []:=fun _=>rfl
theorem yX {l:List (Int×Int)} {m:List (Int×Int)} (h:amU l m) (a:Int×Int):amU (l++[a]) (gins m a.1 (ig l a.1+a.2)):=by
 intro i
 rw [rH,Ci]
 by_cases hi:a.1=i
 ·subst hi
  rw [if_pos rfl,if_pos rfl]
  rfl
 ·rw [if_neg (fun e=>hi e.symm),if_neg hi]
  exact h i
theorem yv {L:List HP} (n:Nat) (ad1 ad2:Option Addr) (c1 c2:Nat) (tk bk:List (Int×Int)) (h1:tk.length≤64) (h2:bk.length≤64) (ht:kg n tk) (hb:kg n bk) (hc:∀ a∈bk,ig bk a.1≤ig tk a.1) :
  Tri Tryz.prog 192 #[.slice ad1 tk.length c1,.slice ad2 bk.length c2] (isl bV 2 ad1 tk::isl bV 2 ad2 bk::L) (fun v L'=>v=.bool true∧L' = isl bV 2 ad1 tk::isl bV 2 ad2 bk::L):=by
 refine Tri.body (args:=[.slice ad1 tk.length c1,.slice ad2 bk.length c2]) 59 Hu Tryz.func192 rfl rfl rfl (by simp) ?_
 repeat first|refine aa ?_|intro
 refine GO.ef (Ef.e9 kvI encN (.inl rfl)) ac ?_
 rintro _ _ ⟨b1,rfl,rfl⟩
 repeat first|refine aa ?_|intro
 refine GO.ef (Ef.e9 kvI encN (.inl rfl)) ac ?_
 rintro _ _ ⟨b2,rfl,rfl⟩
 repeat first|((fail_if_success (with_reducible refine G.e7 2 ?_));(with_reducible apply G.seq))|refine bU ?_|intro
 refine G.d9 (α:=List (Int×Int)) (fun m=>amU tk m) (fun _=>[(1,.slice ad2 bk.length c2),(5,.map (some b1)),(6,.map (some b2))]) (fun m=>gmap kvI encN b2 []::gmap kvI encN b1 m::isl bV 2 ad1 tk::isl bV 2 ad2 bk::L) ?_ ?_
 ·repeat first|refine aa ?_|intro
  refine G.loop (α:=Nat×List (Int×Int)) (fun x=>x.1≤tk.length∧amU (tk.take x.1) x.2) (fun x=>[(1,.slice ad2 bk.length c2),(5,.map (some b1)),(6,.map (some b2)),(15,.slice ad1 tk.length c1),(16,.int .i64 tk.length),(17,.int .i64 (x.1:Int))]) (fun x=>gmap kvI encN b2 []::gmap kvI encN b1 x.2::isl bV 2 ad1 tk::isl bV 2 ad2 bk::L) (fun x=>tk.length - x.1) (0,[]) ⟨al _,yW⟩ ai (Ent.refl _) ?_
  rintro ⟨i,m⟩ ⟨hi,hm⟩
  dsimp only at hi hm ⊢
  by_cases hlt:i<tk.length
  case neg =>
   rw [aA ab] at hm
   repeat first|refine aa ?_|intro
   exact ⟨m,hm,ai,Ent.refl _⟩
  have hii:(i:Int).toNat=i:=ab
  have ha:=ht.1 _ (aG hlt)
  have hcb:=we ht.1 tk[i]!.1 i ab
  have hmi:=hm tk[i]!.1
  repeat first|refine aa ?_|intro
  rw [hii]
  refine GO.ev (Ev.e7 rfl rfl) ac ?_
  rw [qI,hmi]
  repeat first|refine aa ?_|intro
  refine GO.efu (Ef.f7 (enc:=encN) (e:=ig (tk.take i) tk[i]!.1+tk[i]!.2) rfl rfl rfl rfl) ?_
  rintro _ _ rfl
  repeat first|refine aa ?_|intro
  refine ⟨(i+1,gins m tk[i]!.1 (ig (tk.take i) tk[i]!.1+tk[i]!.2)),⟨by dsimp only;omega,?_⟩,by dsimp only;omega,?_,by exact ae⟩
  ·dsimp only
   rw [ay hlt,← getElem!_of hlt]
   exact yX hm _
  ·dsimp only
   rw [aM i]
   exact ai
 intro m1 hm1
 refine G.d9 (α:=List (Int×Int)) (fun m=>amU bk m) (fun _=>[(1,.slice ad2 bk.length c2),(5,.map (some b1)),(6,.map (some b2))]) (fun m=>gmap kvI encN b2 m::gmap kvI encN b1 m1::isl bV 2 ad1 tk::isl bV 2 ad2 bk::L) ?_ ?_
 ·repeat first|refine aa ?_|intro
  refine G.loop (α:=Nat×List (Int×Int)) (fun x=>x.1≤bk.length∧amU (bk.take x.1) x.2) (fun x=>[(1,.slice ad2 bk.length c2),(5,.map (some b1)),(6,.map (some b2)),(29,.slice ad2 bk.length c2),(30,.int .i64 bk.length),(31,.int .i64 (x.1:Int))]) (fun x=>gmap kvI encN b2 x.2::gmap kvI encN b1 m1::isl bV 2 ad1 tk::isl bV 2 ad2 bk::L) (fun x=>bk.length - x.1) (0,[]) ⟨al _,yW⟩ ai (Ent.refl _) ?_
  rintro ⟨i,m⟩ ⟨hi,hm⟩
  dsimp only at hi hm ⊢
  by_cases hlt:i<bk.length
  case neg =>
   rw [aA ab] at hm
   repeat first|refine aa ?_|intro
   exact ⟨m,hm,ai,Ent.refl _⟩
  have hii:(i:Int).toNat=i:=ab
  have ha:=hb.1 _ (aG hlt)
  have hcb:=we hb.1 bk[i]!.1 i ab
  have hmi:=hm bk[i]!.1
  repeat first|refine aa ?_|intro
  rw [hii]
  refine GO.ev (Ev.e7 rfl rfl) ac ?_
  rw [qI,hmi]
  repeat first|refine aa ?_|intro
  refine GO.efu (Ef.f7 (enc:=encN) (e:=ig (bk.take i) bk[i]!.1+bk[i]!.2) rfl rfl rfl rfl) ?_
  rintro _ _ rfl
  repeat first|refine aa ?_|intro
  refine ⟨(i+1,gins m bk[i]!.1 (ig (bk.take i) bk[i]!.1+bk[i]!.2)),⟨by dsimp only;omega,?_⟩,by dsimp only;omega,?_,by exact ae⟩
  ·dsimp only
   rw [ay hlt,← getElem!_of hlt]
   exact yX hm _
  ·dsimp only
   rw [aM i]
   exact ai
 intro m2 hm2
 repeat first|refine aa ?_|intro
 refine G.loop (α:=Nat) (fun i=>i≤bk.length) (fun i=>[(5,.map (some b1)),(6,.map (some b2)),(43,.slice ad2 bk.length c2),(44,.int .i64 bk.length),(45,.int .i64 (i:Int))]) (fun _=>gmap kvI encN b2 m2::gmap kvI encN b1 m1::isl bV 2 ad1 tk::isl bV 2 ad2 bk::L) (fun i=>bk.length - i) 0 (al _) ai (Ent.refl _) ?_
 intro i hi
 by_cases hlt:i<bk.length
 case neg =>
  repeat first|refine aa ?_|intro
  exact KX.d7 ag ae ⟨rfl,rfl⟩
 have hii:(i:Int).toNat=i:=ab
 have e1:=hm1 bk[i]!.1
 have e2:=hm2 bk[i]!.1
 have hle:=hc _ (aG hlt)
 repeat first|refine aa ?_|intro
 rw [hii]
 refine GO.ev (Ev.e7 rfl rfl) ac ?_
 rw [qI,e1]
 repeat first|refine aa ?_|intro
 refine GO.ev (Ev.e7 rfl rfl) ac ?_
 rw [qI,e2]
 repeat first|refine aa ?_|intro
 refine ⟨i+1,ab,ab,?_,by exact ae⟩
 rw [aM i]
 exact ai
end
end Go.Proofs.YtommnllbflbdmaaGreatDoor
