/- Lemmas. -/
import Derived.Test.YtommnllbflbdmaaGreatDoorLaw
set_option linter.all false
set_option maxHeartbeats 1000000
namespace Go.Proofs.YtommnllbflbdmaaGreatDoor
section
open Go.V
attribute [local irreducible] G GO GP GPW GPK Ev Ef EfR Ent CB GB V.Enters
def jg(n:Nat)(l:List (Int×Int)):Prop:=(∀a∈l,0≤a.1∧a.1<n∧1≤a.2∧a.2≤1099511627776)∧l.Pairwise (fun a b=>a.1<b.1)
def fZ(l:List (Int×Int))(i:Int):Int:=l.foldl (fun s a=>if a.1=i then s+a.2 else s) 0
structure ItGood (x:ItG):Prop where
 word:IsWord x.name
 form:if x.obj=true then x.mixed=false∧x.coin=false∧0≤x.bind∧x.bind≤2 else x.wear=0∧x.bind=0∧x.level=0
 num:(x.obj=true→1≤x.wear∧x.wear≤1048576)∧0≤x.level∧x.level≤100
structure RuGood (n:Nat) (r:RuM):Prop where
 word:IsWord r.name
 lim:r.take.length+r.give.length≤64∧r.take.length+r.back.length≤64
 take:jg n r.take
 give:jg n r.give
 back:jg n r.back
 form:(r.back.length=0∨r.chance≠r.of_)∧(if r.spawn=true then r.take.length=0∧r.back.length=0∧r.level=0∧r.time=0∧r.chance=r.of_ else 0<r.take.length∨r.time≠0)
 cont:∀a∈r.back,fZ r.back a.1≤fZ r.take a.1
 num:(0≤r.level∧r.level≤100)∧(0≤r.time∧r.time≤1000000)∧(1≤r.of_∧r.of_≤1000000)∧1≤r.chance∧r.chance≤r.of_
structure RwGood (n:Nat) (r:RwM):Prop where
 num:1≤r.weight∧r.weight≤1099511627776
 give:jg n r.give
structure TbGood (n:Nat) (t:TbM):Prop where
 word:IsWord t.name
 rows:0<t.rows.length∧t.rows.length≤64
 good:∀r∈t.rows,RwGood n r
structure TxGood (t:TxM):Prop where
 word:IsWord t.name
 brs:0<t.brs.length∧t.brs.length≤16
 first:t.brs[0]!.1=0
 srt:∀i,i+1<t.brs.length→t.brs[i]!.1<t.brs[i+1]!.1
 num:∀b∈t.brs,(0≤b.1∧b.1≤1099511627776)∧0≤b.2∧b.2≤10000
structure CatGood (c:CatM):Prop where
 items:c.items.length≤64
 rules:c.rules.length≤64
 tables:c.tables.length≤32
 taxes:c.taxes.length≤32
 it:∀x∈c.items,ItGood x
 ru:∀r∈c.rules,RuGood c.items.length r
 tb:∀t∈c.tables,TbGood c.items.length t
 tx:∀t∈c.taxes,TxGood t
 di:(c.items.map (·.name)).Nodup
 dr:(c.rules.map (·.name)).Nodup
 dt:(c.tables.map (·.name)).Nodup
 dx:(c.taxes.map (·.name)).Nodup
theorem Gl(n:Nat)(r:RuV)(h:RuGood n r.m):fe 169 [] bQ ruP (dy True) r:=by
 intro L;obtain⟨h1,h2⟩:=h.lim;change r.take.l.length+r.give.l.length≤64 at h1;change r.take.l.length+r.back.l.length≤64 at h2;refine Tri.body (args:=[.agg (bQ r).toArray]) 21 Jn Tryz.func169 rfl rfl rfl (by simp) ?_;repeat first|refine aa ?_|intro
 exact KX.d7 ai Ent.drop ⟨by rw[aU ac];rfl,rfl⟩
theorem Gk(n:Nat)(t:TbV)(h:TbGood n t.m):fe 171 [] cj tbP (dy True) t:=by
 intro L;have h1:t.rows.length≤64:=by have:=h.rows.2;simpa [TbV.m] using this
 refine Tri.body (args:=[.agg (cj t).toArray]) 7 Jl Tryz.func171 rfl rfl rfl (by simp) ?_;repeat first|refine aa ?_|intro
 exact KX.d7 ai Ent.drop ⟨by rw[aU ac];rfl,rfl⟩
theorem Gj(t:TxV)(h:TxGood t.m):fe 173 [] cq txP (dy True) t:=by
 intro L;have h1:t.brs.length≤16:=h.brs.2;refine Tri.body (args:=[.agg (cq t).toArray]) 7 Jj Tryz.func173 rfl rfl rfl (by simp) ?_;repeat first|refine aa ?_|intro
 exact KX.d7 ai Ent.drop ⟨by rw[aU ac];rfl,rfl⟩
abbrev catS(c:CatV)(L:LH):LH:=isl bS 7 c.iad c.items::isl bQ 9 c.rad c.rules::allP ruP c.rules::isl cj 2 c.tad c.tables::allP tbP c.tables::isl cq 2 c.xad c.taxes::allP txP c.taxes::L
theorem catS_open{c:CatV}{L:LH}:Ent (catP c::L) (catS c (catP c::L)) :=
 (Ent.dup (jQ c).pers).trans (Ent.andE.trans (Ent.d7 (Ent.andE.trans (Ent.andE.trans (Ent.d7 (Ent.d7 (Ent.andE.trans (Ent.andE.trans (Ent.d7 (Ent.d7 Ent.andE))))))))))
theorem kc{c:CatV}(h:CatGood c.m):∀r∈c.rules,RuGood c.items.length r.m:=fun _ hr=>h.ru _ (alStd0List_mem_map_of_mem hr)
theorem ka{c:CatV}(h:CatGood c.m):∀t∈c.tables,TbGood c.items.length t.m:=fun _ ht=>h.tb _ (alStd0List_mem_map_of_mem ht)
theorem kS{c:CatV}(h:CatGood c.m):∀t∈c.taxes,TxGood t.m:=fun _ ht=>h.tx _ (alStd0List_mem_map_of_mem ht)
theorem lens{c:CatV}(h:CatGood c.m):c.items.length≤64∧c.rules.length≤64∧c.tables.length≤32∧c.taxes.length≤32:=by
 have h1:=h.items;have h2:=h.rules;have h3:=h.tables;have h4:=h.taxes;simp only[CatV.m,aG] at h1 h2 h3 h4;exact⟨h1,h2,h3,h4⟩
theorem rp{L:LH}(c:CatV)(h:CatGood c.m):Tri ah 111 #[.agg c.cells.toArray] (catS c (cI::L)) (fun v L'=>v=.bool true∧L' = catS c (cI::L)):=by
 obtain⟨l1,l2,l3,l4⟩:=lens h;refine Tri.body (args:=[.agg c.cells.toArray]) 40 Kg Tryz.func111 rfl rfl rfl (by simp) ?_;simp only[catS,CatV.cells];repeat first|refine aa ?_|intro
 refine GO.ent (Ent.pure trivial (Ent.refl _)) ?_;(first|refine GO.ef (Ef.call (mF (L:=[]) _ [] (dy True) c.rad c.rcap c.rules l2 (fun r hr=>Gl _ r (kc h r hr))) rfl (by repeat (first|exact Ent.refl _|apply Ent.take))) ae ?_);rintro _ _⟨_,⟨rfl,rfl⟩,hL⟩;simp only[ax,aq] at hL;subst hL;repeat first|refine aa ?_|intro _
 (first|refine GO.ef (Ef.call (mE (L:=[]) _ [] (dy True) c.tad c.tcap c.tables ac (fun r hr=>Gk _ r (ka h r hr))) rfl (by repeat (first|exact Ent.refl _|apply Ent.take))) ae ?_);rintro _ _⟨_,⟨rfl,rfl⟩,hL⟩;simp only[ax,aq] at hL;subst hL;repeat first|refine aa ?_|intro _
 (first|refine GO.ef (Ef.call (mD (L:=[]) _ [] (dy True) c.xad c.xcap c.taxes ac (fun r hr=>Gj r (kS h r hr))) rfl (by repeat (first|exact Ent.refl _|apply Ent.take))) ae ?_);rintro _ _⟨_,⟨rfl,rfl⟩,hL⟩;simp only[ax,aq] at hL;subst hL;repeat first|refine aa ?_|intro
 exact KX.d7 ai ag ⟨rfl,rfl⟩
theorem Gw(x:ItG)(h:IsWord x.name):fe 175 [] bS noP cI x:=by
 intro L;refine Tri.body (args:=[.agg (bS x).toArray]) 6 Jh Tryz.func175 rfl rfl rfl (by simp) ?_;repeat first|refine aa ?_|intro
 refine GO.ef (Ef.d7 (lM x.name h) rfl) ae ?_;rintro _ _⟨rfl,rfl⟩;repeat first|refine aa ?_|intro
 exact KX.d7 ai Ent.drop ⟨rfl,rfl⟩
theorem Gv(x:RuV)(h:IsWord x.name):fe 177 [] bQ ruP cI x:=by
 intro L;refine Tri.body (args:=[.agg (bQ x).toArray]) 6 Jf Tryz.func177 rfl rfl rfl (by simp) ?_;repeat first|refine aa ?_|intro
 refine GO.ef (Ef.d7 (lM x.name h) rfl) ae ?_;rintro _ _⟨rfl,rfl⟩;repeat first|refine aa ?_|intro
 exact KX.d7 ai Ent.drop ⟨rfl,rfl⟩
theorem Gu(x:TbV)(h:IsWord x.name):fe 178 [] cj tbP cI x:=by
 intro L;refine Tri.body (args:=[.agg (cj x).toArray]) 6 Je Tryz.func178 rfl rfl rfl (by simp) ?_;repeat first|refine aa ?_|intro
 refine GO.ef (Ef.d7 (lM x.name h) rfl) ae ?_;rintro _ _⟨rfl,rfl⟩;repeat first|refine aa ?_|intro
 exact KX.d7 ai Ent.drop ⟨rfl,rfl⟩
theorem Gt(x:TxV)(h:IsWord x.name):fe 179 [] cq txP cI x:=by
 intro L;refine Tri.body (args:=[.agg (cq x).toArray]) 6 Jd Tryz.func179 rfl rfl rfl (by simp) ?_;repeat first|refine aa ?_|intro
 refine GO.ef (Ef.d7 (lM x.name h) rfl) ae ?_;rintro _ _⟨rfl,rfl⟩;repeat first|refine aa ?_|intro
 exact KX.d7 ai Ent.drop ⟨rfl,rfl⟩
theorem yW{L:LH}(c:CatV)(h:CatGood c.m):Tri ah 112 #[.agg c.cells.toArray] (catS c (cI::L)) (fun v L'=>v=.bool true∧L' = catS c (cI::L)):=by
 obtain⟨l1,l2,l3,l4⟩:=lens h;refine Tri.body (args:=[.agg c.cells.toArray]) 21 Kf Tryz.func112 rfl rfl rfl (by simp) ?_;simp only[catS,CatV.cells];repeat first|refine aa ?_|intro
 refine GO.ent (nl c.items) ?_;(first|refine GO.ef (Ef.call (ph (L:=[]) _ [] cI c.iad c.icap c.items l1 (fun x hx=>Gw x (h.it x hx).word)) rfl (by repeat (first|exact Ent.refl _|apply Ent.take))) ae ?_);rintro _ _⟨_,⟨rfl,rfl⟩,hL⟩;simp only[ax,aq] at hL;subst hL;repeat first|refine aa ?_|intro _
 (first|refine GO.ef (Ef.call (mF (L:=[]) _ [] cI c.rad c.rcap c.rules l2 (fun r hr=>Gv r (kc h r hr).word)) rfl (by repeat (first|exact Ent.refl _|apply Ent.take))) ae ?_);rintro _ _⟨_,⟨rfl,rfl⟩,hL⟩;simp only[ax,aq] at hL;subst hL;repeat first|refine aa ?_|intro _
 (first|refine GO.ef (Ef.call (mE (L:=[]) _ [] cI c.tad c.tcap c.tables ac (fun r hr=>Gu r (ka h r hr).word)) rfl (by repeat (first|exact Ent.refl _|apply Ent.take))) ae ?_);rintro _ _⟨_,⟨rfl,rfl⟩,hL⟩;simp only[ax,aq] at hL;subst hL;repeat first|refine aa ?_|intro _
 (first|refine GO.ef (Ef.call (mD (L:=[]) _ [] cI c.xad c.xcap c.taxes ac (fun r hr=>Gt r (kS h r hr).word)) rfl (by repeat (first|exact Ent.refl _|apply Ent.take))) ae ?_);rintro _ _⟨_,⟨rfl,rfl⟩,hL⟩;simp only[ax,aq] at hL;subst hL;repeat first|refine aa ?_|intro
 exact KX.d7 ai ag ⟨rfl,rfl⟩
theorem sS{L:LH}(c:CatV)(h:CatGood c.m):Tri ah 113 #[.agg c.cells.toArray] (catS c (cI::L)) (fun v L'=>v=.bool true∧L' = catS c (cI::L)):=by
 obtain⟨l1,l2,l3,l4⟩:=lens h;have d1:(c.items.map (·.name)).Nodup:=h.di;have d2:(c.rules.map (·.name)).Nodup:=by have:=h.dr;simpa [CatV.m,RuV.m,TbV.m,TxV.m,Function.comp_def] using this
 have d3:(c.tables.map (·.name)).Nodup:=by have:=h.dt;simpa [CatV.m,RuV.m,TbV.m,TxV.m,Function.comp_def] using this
 have d4:(c.taxes.map (·.name)).Nodup:=by have:=h.dx;simpa [CatV.m,RuV.m,TbV.m,TxV.m,Function.comp_def] using this
 refine Tri.body (args:=[.agg c.cells.toArray]) 21 Ke Tryz.func113 rfl rfl rfl (by simp) ?_;simp only[catS,CatV.cells];repeat first|refine aa ?_|intro _
 (first|refine GO.ef (Ef.call (BO (L:=[]) c.iad c.icap c.items l1 d1) rfl (by repeat (first|exact Ent.refl _|apply Ent.take))) ae ?_);rintro _ _⟨_,⟨rfl,rfl⟩,hL⟩;simp only[ax,aq] at hL;subst hL;repeat first|refine aa ?_|intro _
 (first|refine GO.ef (Ef.call (BN (L:=[]) c.rad c.rcap c.rules l2 d2) rfl (by repeat (first|exact Ent.refl _|apply Ent.take))) ae ?_);rintro _ _⟨_,⟨rfl,rfl⟩,hL⟩;simp only[ax,aq] at hL;subst hL;repeat first|refine aa ?_|intro _
 (first|refine GO.ef (Ef.call (BM (L:=[]) c.tad c.tcap c.tables ac d3) rfl (by repeat (first|exact Ent.refl _|apply Ent.take))) ae ?_);rintro _ _⟨_,⟨rfl,rfl⟩,hL⟩;simp only[ax,aq] at hL;subst hL;repeat first|refine aa ?_|intro _
 (first|refine GO.ef (Ef.call (BL (L:=[]) c.xad c.xcap c.taxes ac d4) rfl (by repeat (first|exact Ent.refl _|apply Ent.take))) ae ?_);rintro _ _⟨_,⟨rfl,rfl⟩,hL⟩;simp only[ax,aq] at hL;subst hL;repeat first|refine aa ?_|intro
 exact KX.d7 ai ag ⟨rfl,rfl⟩
abbrev tCat:Nat:=33
theorem rq{L:LH}(b1:Nat)(c:CatV)(ad:OA)(cap:Nat)(l:List (Int×Int))(hl:l.length≤64)(hc:c.items.length≤64)(h:jg c.items.length l) :
  Tri ah 188 #[.slice ad l.length cap,au b1] (obj b1 tCat c.cells::isl bL 2 ad l::L) (fun v L'=>v=.bool true∧L' = obj b1 tCat c.cells::isl bL 2 ad l::L):=by
 obtain⟨h1,h2⟩:=h;refine Tri.body (args:=[.slice ad l.length cap,au b1]) 28 IU Tryz.func188 rfl rfl rfl (by simp) ?_;simp only[CatV.cells];repeat first|refine aa ?_|intro
 refine G.loop (α:=Nat×Int) (fun x=>x.1≤l.length∧∀j,x.1≤j→j<l.length→x.2<l[j]!.1) (fun x=>[(1,au b1),(4,ab x.2),(7,.slice ad l.length cap),(8,ab l.length),(9,ab (x.1:Int))]) (fun _=>obj b1 tCat [.slice c.iad c.items.length c.icap,.slice c.rad c.rules.length c.rcap,.slice c.tad c.tables.length c.tcap,.slice c.xad c.taxes.length c.xcap]::isl bL 2 ad l::L) (fun x=>l.length - x.1) (0,-1) ⟨ao _,fun j _ hj=>by have:=h1 _ (aI hj);dsimp only;omega⟩ aj (Ent.refl _) ?_;rintro⟨i,last⟩ ⟨hi,hlast⟩;dsimp only at hi hlast ⊢;by_cases hlt:i<l.length
 case neg =>
  repeat first|refine aa ?_|intro
  exact KX.d7 ai (Ent.refl _) ⟨rfl,rfl⟩
 have hii:(i:Int).toNat=i:=ac;have ha:=h1 _ (aI hlt);have hb:=hlast i (aB _) hlt;repeat first|refine aa ?_|intro
 rw[hii];repeat first|refine aa ?_|intro
 refine⟨(i+1,l[i]!.1),⟨by dsimp only;omega,?_⟩,by dsimp only;omega,?_,Ent.drop⟩
 ·intro j hj hjl;dsimp only at hj ⊢;rw[getElem!_of hlt,getElem!_of hjl];exact List.pairwise_iff_getElem.1 h2 i j hlt hjl ac
 ·dsimp only;rw[aP i];exact aj
theorem uG(x:ItG)(h:ItGood x):fe 189 [] bS noP (dy True) x:=by
 intro L;have hf:=h.form;refine Tri.body (args:=[.agg (bS x).toArray]) 36 IT Tryz.func189 rfl rfl rfl (by simp) ?_;cases hx:x.obj with
 | true =>
  rw[if_pos hx] at hf;obtain⟨f1,f2,f3,f4⟩:=hf;have e:bS x=[.string x.name,.bool true,.bool false,.bool false,ab x.wear,ab x.bind,ab x.level]:=by unfold bS;rw[hx,f1,f2]
  rw[e];repeat first|refine aa ?_|intro
  exact KX.d7 ai Ent.drop ⟨by rw[aU f4];rfl,rfl⟩
 | false =>
  rw[if_neg (by rw[hx];decide)] at hf;obtain⟨f1,f2,f3⟩:=hf;have e:bS x=[.string x.name,.bool false,.bool x.mixed,.bool x.coin,ab 0,ab 0,ab 0]:=by unfold bS;rw[hx,f1,f2,f3]
  rw[e];repeat first|refine aa ?_|intro
  exact KX.d7 ai Ent.drop ⟨by rw[aU rfl];rfl,rfl⟩
theorem uy{L:LH}(n:Nat)(r:RuV)(h:RuGood n r.m):Tri ah 191 #[.agg (bQ r).toArray] L (fun v L'=>v=.bool true∧L' = L):=by
 obtain⟨hf1,hf2⟩:=h.form;change (r.back.l.length=0∨r.chance≠r.of_) at hf1
 have hg:∀{q:Prop},(r.back.l.length=0→q)→(¬r.back.l.length=0→r.chance≠r.of_→q)→q:=by
  intro q a b;by_cases h0:r.back.l.length=0
  ·exact a h0
  ·exact b h0 (hf1.resolve_left h0)
 change (if r.spawn=true then r.take.l.length=0∧r.back.l.length=0∧r.level=0∧r.time=0∧r.chance=r.of_ else 0<r.take.l.length∨r.time≠0) at hf2;refine Tri.body (args:=[.agg (bQ r).toArray]) 52 IR Tryz.func191 rfl rfl rfl (by simp) ?_;cases hx:r.spawn with
 | true =>
  rw[if_pos hx] at hf2;obtain⟨f1,f2,f3,f4,f5⟩:=hf2;have e:bQ r=[.string r.name,.bool true,ab r.level,ab r.time,ab r.chance,ab r.of_,.slice r.take.ad r.take.l.length r.take.cap,.slice r.give.ad r.give.l.length r.give.cap,.slice r.back.ad r.back.l.length r.back.cap]:=by unfold bQ;rw[hx]
  rw[e];repeat first|refine aa ?_|intro
  exact KX.d7 ai Ent.drop ⟨by rw[aU f5];rfl,rfl⟩
 | false =>
  rw[if_neg (by rw[hx];decide)] at hf2;have e:bQ r=[.string r.name,.bool false,ab r.level,ab r.time,ab r.chance,ab r.of_,.slice r.take.ad r.take.l.length r.take.cap,.slice r.give.ad r.give.l.length r.give.cap,.slice r.back.ad r.back.l.length r.back.cap]:=by unfold bQ;rw[hx]
  rw[e];refine hg ?_ ?_
  ·intro h0;by_cases h5:0<r.take.l.length
   ·repeat first|refine aa ?_|intro
    exact KX.d7 ai Ent.drop ⟨rfl,rfl⟩
   ·have h6:r.time≠0:=hf2.resolve_left h5;repeat first|refine aa ?_|intro
    exact KX.d7 ai Ent.drop ⟨by rw[aU h6];rfl,rfl⟩
  ·intro h0 hne;by_cases h5:0<r.take.l.length
   ·repeat first|refine aa ?_|intro
    exact KX.d7 ai Ent.drop ⟨rfl,rfl⟩
   ·have h6:r.time≠0:=hf2.resolve_left h5;repeat first|refine aa ?_|intro
    exact KX.d7 ai Ent.drop ⟨by rw[aU h6];rfl,rfl⟩
def amU(l:List (Int×Int))(m:List (Int×Int)):Prop:=∀i,(glk m i).getD 0=fZ l i
theorem oh(l:List (Int×Int))(a:Int×Int)(i:Int):fZ (l++[a]) i=if a.1=i then fZ l i+a.2 else fZ l i:=by
 unfold fZ;rw[cJ];rfl
theorem rm{n:Nat}{l:List (Int×Int)}(h:∀a∈l,0≤a.1∧a.1<n∧1≤a.2∧a.2≤1099511627776)(i:Int):∀k,k≤l.length→0≤fZ (l.take k) i∧fZ (l.take k) i≤k*1099511627776:=by
 intro k;induction k with
 | zero=>intro _;simp[fZ]
 | succ k ih =>
  intro hk;have h1:=ih ac;have h2:=h _ (eQ (show k<l.length by omega));rw[aC ac,oh];split<;>omega
theorem Do(m:List (Int×Int))(k q a:Int):glk (gins m k a) q=if q=k then some a else glk m q:=im
theorem rt(m:List (Int×Int))(k d:Int):((@List.lookup _ _ instBEqOfDecidableEq k m).map encN).getD (ab d)=ab ((glk m k).getD d):=by
 unfold glk;cases @List.lookup _ _ instBEqOfDecidableEq k m<;>rfl
theorem zT:amU [] []:=fun _=>rfl
theorem zU{l:List (Int×Int)}{m:List (Int×Int)}(h:amU l m)(a:Int×Int):amU (l++[a]) (gins m a.1 (fZ l a.1+a.2)):=by
 intro i;rw[oh,Do];by_cases hi:a.1=i
 ·subst hi;rw[if_pos rfl,if_pos rfl];rfl
 ·rw[if_neg (fun e=>hi e.symm),if_neg hi];exact h i
theorem zm{L:LH}(n:Nat)(ad1 ad2:OA)(c1 c2:Nat)(tk bk:List (Int×Int))(h1:tk.length≤64)(h2:bk.length≤64)(ht:jg n tk)(hb:jg n bk)(hc:∀a∈bk,fZ bk a.1≤fZ tk a.1) :
  Tri ah 192 #[.slice ad1 tk.length c1,.slice ad2 bk.length c2] (isl bL 2 ad1 tk::isl bL 2 ad2 bk::L) (fun v L'=>v=.bool true∧L' = isl bL 2 ad1 tk::isl bL 2 ad2 bk::L):=by
 refine Tri.body (args:=[.slice ad1 tk.length c1,.slice ad2 bk.length c2]) 59 IQ Tryz.func192 rfl rfl rfl (by simp) ?_;repeat first|refine aa ?_|intro
 refine GO.ef (Ef.f7 kvI encN (.inl rfl)) ae ?_;rintro _ _⟨b1,rfl,rfl⟩;repeat first|refine aa ?_|intro
 refine GO.ef (Ef.f7 kvI encN (.inl rfl)) ae ?_;rintro _ _⟨b2,rfl,rfl⟩;repeat first|((fail_if_success (with_reducible refine G.e7 2 ?_));(with_reducible apply G.seq))|refine bB ?_|intro
 refine G.d9 (α:=List (Int×Int)) (fun m=>amU tk m) (fun _=>[(1,.slice ad2 bk.length c2),(5,.map (some b1)),(6,.map (some b2))]) (fun m=>gmap kvI encN b2 []::gmap kvI encN b1 m::isl bL 2 ad1 tk::isl bL 2 ad2 bk::L) ?_ ?_
 ·repeat first|refine aa ?_|intro
  refine G.loop (α:=Nat×List (Int×Int)) (fun x=>x.1≤tk.length∧amU (tk.take x.1) x.2) (fun x=>[(1,.slice ad2 bk.length c2),(5,.map (some b1)),(6,.map (some b2)),(15,.slice ad1 tk.length c1),(16,ab tk.length),(17,ab (x.1:Int))]) (fun x=>gmap kvI encN b2 []::gmap kvI encN b1 x.2::isl bL 2 ad1 tk::isl bL 2 ad2 bk::L) (fun x=>tk.length - x.1) (0,[]) ⟨ao _,zT⟩ aj (Ent.refl _) ?_;rintro⟨i,m⟩ ⟨hi,hm⟩;dsimp only at hi hm ⊢;by_cases hlt:i<tk.length
  case neg =>
   rw[aD ac] at hm;repeat first|refine aa ?_|intro
   exact⟨m,hm,aj,Ent.refl _⟩
  have hii:(i:Int).toNat=i:=ac;have ha:=ht.1 _ (aI hlt);have hcb:=rm ht.1 tk[i]!.1 i ac;have hmi:=hm tk[i]!.1;repeat first|refine aa ?_|intro
  rw[hii];refine GO.ev (Ev.e8 rfl rfl) ae ?_;rw[rt,hmi];repeat first|refine aa ?_|intro
  refine GO.efu (Ef.f8 (enc:=encN) (e:=fZ (tk.take i) tk[i]!.1+tk[i]!.2) rfl rfl rfl rfl) ?_;rintro _ _ rfl;repeat first|refine aa ?_|intro
  refine⟨(i+1,gins m tk[i]!.1 (fZ (tk.take i) tk[i]!.1+tk[i]!.2)),⟨by dsimp only;omega,?_⟩,by dsimp only;omega,?_,by exact ag⟩
  ·dsimp only;rw[aC hlt,←getElem!_of hlt];exact zU hm _
  ·dsimp only;rw[aP i];exact aj
 intro m1 hm1;refine G.d9 (α:=List (Int×Int)) (fun m=>amU bk m) (fun _=>[(1,.slice ad2 bk.length c2),(5,.map (some b1)),(6,.map (some b2))]) (fun m=>gmap kvI encN b2 m::gmap kvI encN b1 m1::isl bL 2 ad1 tk::isl bL 2 ad2 bk::L) ?_ ?_
 ·repeat first|refine aa ?_|intro
  refine G.loop (α:=Nat×List (Int×Int)) (fun x=>x.1≤bk.length∧amU (bk.take x.1) x.2) (fun x=>[(1,.slice ad2 bk.length c2),(5,.map (some b1)),(6,.map (some b2)),(29,.slice ad2 bk.length c2),(30,ab bk.length),(31,ab (x.1:Int))]) (fun x=>gmap kvI encN b2 x.2::gmap kvI encN b1 m1::isl bL 2 ad1 tk::isl bL 2 ad2 bk::L) (fun x=>bk.length - x.1) (0,[]) ⟨ao _,zT⟩ aj (Ent.refl _) ?_;rintro⟨i,m⟩ ⟨hi,hm⟩;dsimp only at hi hm ⊢;by_cases hlt:i<bk.length
  case neg =>
   rw[aD ac] at hm;repeat first|refine aa ?_|intro
   exact⟨m,hm,aj,Ent.refl _⟩
  have hii:(i:Int).toNat=i:=ac;have ha:=hb.1 _ (aI hlt);have hcb:=rm hb.1 bk[i]!.1 i ac;have hmi:=hm bk[i]!.1;repeat first|refine aa ?_|intro
  rw[hii];refine GO.ev (Ev.e8 rfl rfl) ae ?_;rw[rt,hmi];repeat first|refine aa ?_|intro
  refine GO.efu (Ef.f8 (enc:=encN) (e:=fZ (bk.take i) bk[i]!.1+bk[i]!.2) rfl rfl rfl rfl) ?_;rintro _ _ rfl;repeat first|refine aa ?_|intro
  refine⟨(i+1,gins m bk[i]!.1 (fZ (bk.take i) bk[i]!.1+bk[i]!.2)),⟨by dsimp only;omega,?_⟩,by dsimp only;omega,?_,by exact ag⟩
  ·dsimp only;rw[aC hlt,←getElem!_of hlt];exact zU hm _
  ·dsimp only;rw[aP i];exact aj
 intro m2 hm2;repeat first|refine aa ?_|intro
 refine G.loop (α:=Nat) (fun i=>i≤bk.length) (fun i=>[(5,.map (some b1)),(6,.map (some b2)),(43,.slice ad2 bk.length c2),(44,ab bk.length),(45,ab (i:Int))]) (fun _=>gmap kvI encN b2 m2::gmap kvI encN b1 m1::isl bL 2 ad1 tk::isl bL 2 ad2 bk::L) (fun i=>bk.length - i) 0 (ao _) aj (Ent.refl _) ?_;intro i hi;by_cases hlt:i<bk.length
 case neg =>
  repeat first|refine aa ?_|intro
  exact KX.d7 ai ag ⟨rfl,rfl⟩
 have hii:(i:Int).toNat=i:=ac;have e1:=hm1 bk[i]!.1;have e2:=hm2 bk[i]!.1;have hle:=hc _ (aI hlt);repeat first|refine aa ?_|intro
 rw[hii];refine GO.ev (Ev.e8 rfl rfl) ae ?_;rw[rt,e1];repeat first|refine aa ?_|intro
 refine GO.ev (Ev.e8 rfl rfl) ae ?_;rw[rt,e2];repeat first|refine aa ?_|intro
 refine⟨i+1,ac,ac,?_,by exact ag⟩;rw[aP i];exact aj
