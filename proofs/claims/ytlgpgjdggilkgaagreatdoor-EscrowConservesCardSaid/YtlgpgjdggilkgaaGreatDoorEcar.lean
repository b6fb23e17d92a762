/- Lemmas. -/
import Derived.Test.YtlgpgjdggilkgaaGreatDoorEcaq
set_option linter.all false
set_option maxHeartbeats 1000000
namespace Go.Proofs.YtlgpgjdggilkgaaGreatDoor
section
open Go.V
attribute [local irreducible] G GO GP GPW GPK Ev Ef EfR Ent CB GB V.Enters
def iG(n:Nat)(l:List (Int×Int)):Prop:=(∀a∈l,0≤a.1∧a.1<n∧1≤a.2∧a.2≤1099511627776)∧l.Pairwise (fun a b=>a.1<b.1)
def gA(l:List (Int×Int))(i:Int):Int:=l.foldl (fun s a=>if a.1=i then s+a.2 else s) 0
structure ItGood (x:ItG):Prop where
 word:IsWord x.name
 form:if x.obj=true then x.mixed=false∧x.coin=false∧0≤x.bind∧x.bind≤2 else x.wear=0∧x.bind=0∧x.level=0
 num:(x.obj=true→1≤x.wear∧x.wear≤1048576)∧0≤x.level∧x.level≤100
structure RuGood (n:Nat) (r:RuM):Prop where
 word:IsWord r.name
 lim:r.take.length+r.give.length≤64∧r.take.length+r.back.length≤64
 take:iG n r.take
 give:iG n r.give
 back:iG n r.back
 form:(r.back.length=0∨r.chance≠r.of_)∧(if r.spawn=true then r.take.length=0∧r.back.length=0∧r.level=0∧r.time=0∧r.chance=r.of_ else 0<r.take.length∨r.time≠0)
 cont:∀a∈r.back,gA r.back a.1≤gA r.take a.1
 num:(0≤r.level∧r.level≤100)∧(0≤r.time∧r.time≤1000000)∧(1≤r.of_∧r.of_≤1000000)∧1≤r.chance∧r.chance≤r.of_
structure RwGood (n:Nat) (r:RwM):Prop where
 num:1≤r.weight∧r.weight≤1099511627776
 give:iG n r.give
structure TbGood (n:Nat) (t:TbM):Prop where
 word:IsWord t.name
 rows:0<t.rows.length∧t.rows.length≤64
 good:∀r∈t.rows,RwGood n r
structure TxGood (t:TxM):Prop where
 word:IsWord t.name
 brs:0<t.brs.length∧t.brs.length≤16
 first:t.brs[0]!.1=0
 srt:∀i,i+1<t.brs.length→t.brs[i]!.1<t.brs[i+1]!.1
 num:∀b∈t.brs,(0≤b.1∧b.1≤1099511627776)∧0≤b.2∧b.2≤10000
structure CatGood (c:CatM):Prop where
 items:c.items.length≤64
 rules:c.rules.length≤64
 tables:c.tables.length≤32
 taxes:c.taxes.length≤32
 it:∀x∈c.items,ItGood x
 ru:∀r∈c.rules,RuGood c.items.length r
 tb:∀t∈c.tables,TbGood c.items.length t
 tx:∀t∈c.taxes,TxGood t
 di:(c.items.map (·.name)).Nodup
 dr:(c.rules.map (·.name)).Nodup
 dt:(c.tables.map (·.name)).Nodup
 dx:(c.taxes.map (·.name)).Nodup
def Jk(n:Nat)(r:RuV)(h:RuGood n r.m):fo 206 [] dE ruP (cY True) r:=by
 intro L;obtain⟨h1,h2⟩:=h.lim;change r.take.l.length+r.give.l.length≤64 at h1;change r.take.l.length+r.back.l.length≤64 at h2;refine Tri.bd (args:=[aU (dE r)]) ?_;refine Ks ?_;intros;exact KX.a8 aA Ent.drop ⟨by rw[bE ab];rfl,rfl⟩
def Jj(n:Nat)(t:TbV)(h:TbGood n t.m):fo 208 [] eh tbP (cY True) t:=by
 intro L;have h1:t.rows.length≤64:=by have:=h.rows.2;simpa [TbV.m] using this
 refine Tri.bd (args:=[aU (eh t)]) ?_;refine Ks ?_;intros;exact KX.a8 aA Ent.drop ⟨by rw[bE ab];rfl,rfl⟩
def Ji(t:TxV)(h:TxGood t.m):fo 210 [] eg txP (cY True) t:=by
 intro L;have h1:t.brs.length≤16:=h.brs.2;refine Tri.bd (args:=[aU (eg t)]) ?_;refine Ks ?_;intros;exact KX.a8 aA Ent.drop ⟨by rw[bE ab];rfl,rfl⟩
abbrev catS(c:CatV)(L:LH):LH:=isl dL 7 c.iad c.items::isl dE 9 c.rad c.rules::allP ruP c.rules::isl eh 2 c.tad c.tables::allP tbP c.tables::isl eg 2 c.xad c.taxes::allP txP c.taxes::L
def catS_open{c:CatV}{L:LH}:Ent (catP c::L) (catS c (catP c::L)) :=
 (Ent.dup (tW c).pers).trans (Ent.andE.trans (Ent.a8 (Ent.andE.trans (Ent.andE.trans (Ent.a8 (Ent.a8 (Ent.andE.trans (Ent.andE.trans (Ent.a8 (Ent.a8 Ent.andE))))))))))
def pA{c:CatV}(h:CatGood c.m):∀r∈c.rules,RuGood c.items.length r.m:=fun _ hr=>h.ru _ (alStd0List_mem_map_of_mem hr)
def pz{c:CatV}(h:CatGood c.m):∀t∈c.tables,TbGood c.items.length t.m:=fun _ ht=>h.tb _ (alStd0List_mem_map_of_mem ht)
def py{c:CatV}(h:CatGood c.m):∀t∈c.taxes,TxGood t.m:=fun _ ht=>h.tx _ (alStd0List_mem_map_of_mem ht)
def lens{c:CatV}(h:CatGood c.m):c.items.length≤64∧c.rules.length≤64∧c.tables.length≤32∧c.taxes.length≤32:=by
 have h1:=h.items;have h2:=h.rules;have h3:=h.tables;have h4:=h.taxes;simp only[CatV.m,an] at h1 h2 h3 h4;exact⟨h1,h2,h3,h4⟩
def sL{L:LH}(c:CatV)(h:CatGood c.m):Tri Tryz.prog 154 #[aU c.cells] (catS c (cD::L)) (rtQ (.bool true) (catS c (cD::L))):=by
 obtain⟨l1,l2,l3,l4⟩:=lens h;refine Tri.bd ?_;simp only[catS,CatV.cells];refine Ks ?_;intros;refine GO.ent (Ent.pure trivial (Ent.refl _)) ?_;(first|refine GO.ef (Ef.call (nJ (L:=[]) _ [] (cY True) c.rad c.rcap c.rules l2 (fun r hr=>Jk _ r (pA h r hr))) rfl dd) ae ?_);rintro _ _⟨_,⟨rfl,rfl⟩,hL⟩;simp only[al,ak] at hL;subst hL;refine Ks ?_;intros;(first|refine GO.ef (Ef.call (nI (L:=[]) _ [] (cY True) c.tad c.tcap c.tables ab (fun r hr=>Jj _ r (pz h r hr))) rfl dd) ae ?_);rintro _ _⟨_,⟨rfl,rfl⟩,hL⟩;simp only[al,ak] at hL;subst hL;refine Ks ?_;intros;(first|refine GO.ef (Ef.call (nH (L:=[]) _ [] (cY True) c.xad c.xcap c.taxes ab (fun r hr=>Ji r (py h r hr))) rfl dd) ae ?_);rintro _ _⟨_,⟨rfl,rfl⟩,hL⟩;simp only[al,ak] at hL;subst hL;refine Ks ?_;intros;exact KX.en ⟨rfl,rfl⟩
def JC(x:ItG)(h:IsWord x.name):fo 212 [] dL noP cD x:=by
 intro L;refine Tri.bd (args:=[aU (dL x)]) ?_;refine Ks ?_;intros;refine GO.cr (mB x.name h) ?_;refine Ks ?_;intros;exact KX.a8 aA Ent.drop ⟨rfl,rfl⟩
def JB(x:RuV)(h:IsWord x.name):fo 214 [] dE ruP cD x:=by
 intro L;refine Tri.bd (args:=[aU (dE x)]) ?_;refine Ks ?_;intros;refine GO.cr (mB x.name h) ?_;refine Ks ?_;intros;exact KX.a8 aA Ent.drop ⟨rfl,rfl⟩
def JA(x:TbV)(h:IsWord x.name):fo 215 [] eh tbP cD x:=by
 intro L;refine Tri.bd (args:=[aU (eh x)]) ?_;refine Ks ?_;intros;refine GO.cr (mB x.name h) ?_;refine Ks ?_;intros;exact KX.a8 aA Ent.drop ⟨rfl,rfl⟩
def Jz(x:TxV)(h:IsWord x.name):fo 216 [] eg txP cD x:=by
 intro L;refine Tri.bd (args:=[aU (eg x)]) ?_;refine Ks ?_;intros;refine GO.cr (mB x.name h) ?_;refine Ks ?_;intros;exact KX.a8 aA Ent.drop ⟨rfl,rfl⟩
def AE{L:LH}(c:CatV)(h:CatGood c.m):Tri Tryz.prog 155 #[aU c.cells] (catS c (cD::L)) (rtQ (.bool true) (catS c (cD::L))):=by
 obtain⟨l1,l2,l3,l4⟩:=lens h;refine Tri.bd ?_;simp only[catS,CatV.cells];refine Ks ?_;intros;refine GO.ent (oh c.items) ?_;(first|refine GO.ef (Ef.call (qB (L:=[]) _ [] cD c.iad c.icap c.items l1 (fun x hx=>JC x (h.it x hx).word)) rfl dd) ae ?_);rintro _ _⟨_,⟨rfl,rfl⟩,hL⟩;simp only[al,ak] at hL;subst hL;refine Ks ?_;intros;(first|refine GO.ef (Ef.call (nJ (L:=[]) _ [] cD c.rad c.rcap c.rules l2 (fun r hr=>JB r (pA h r hr).word)) rfl dd) ae ?_);rintro _ _⟨_,⟨rfl,rfl⟩,hL⟩;simp only[al,ak] at hL;subst hL;refine Ks ?_;intros;(first|refine GO.ef (Ef.call (nI (L:=[]) _ [] cD c.tad c.tcap c.tables ab (fun r hr=>JA r (pz h r hr).word)) rfl dd) ae ?_);rintro _ _⟨_,⟨rfl,rfl⟩,hL⟩;simp only[al,ak] at hL;subst hL;refine Ks ?_;intros;(first|refine GO.ef (Ef.call (nH (L:=[]) _ [] cD c.xad c.xcap c.taxes ab (fun r hr=>Jz r (py h r hr).word)) rfl dd) ae ?_);rintro _ _⟨_,⟨rfl,rfl⟩,hL⟩;simp only[al,ak] at hL;subst hL;refine Ks ?_;intros;exact KX.en ⟨rfl,rfl⟩
def uw{L:LH}(c:CatV)(h:CatGood c.m):Tri Tryz.prog 156 #[aU c.cells] (catS c (cD::L)) (rtQ (.bool true) (catS c (cD::L))):=by
 obtain⟨l1,l2,l3,l4⟩:=lens h;have d1:(c.items.map (·.name)).Nodup:=h.di;have d2:(c.rules.map (·.name)).Nodup:=by have:=h.dr;simpa [CatV.m,RuV.m,TbV.m,TxV.m,Function.comp_def] using this
 have d3:(c.tables.map (·.name)).Nodup:=by have:=h.dt;simpa [CatV.m,RuV.m,TbV.m,TxV.m,Function.comp_def] using this
 have d4:(c.taxes.map (·.name)).Nodup:=by have:=h.dx;simpa [CatV.m,RuV.m,TbV.m,TxV.m,Function.comp_def] using this
 refine Tri.bd ?_;simp only[catS,CatV.cells];refine Ks ?_;intros;(first|refine GO.ef (Ef.call (DY (L:=[]) c.iad c.icap c.items l1 d1) rfl dd) ae ?_);rintro _ _⟨_,⟨rfl,rfl⟩,hL⟩;simp only[al,ak] at hL;subst hL;refine Ks ?_;intros;(first|refine GO.ef (Ef.call (DX (L:=[]) c.rad c.rcap c.rules l2 d2) rfl dd) ae ?_);rintro _ _⟨_,⟨rfl,rfl⟩,hL⟩;simp only[al,ak] at hL;subst hL;refine Ks ?_;intros;(first|refine GO.ef (Ef.call (DW (L:=[]) c.tad c.tcap c.tables ab d3) rfl dd) ae ?_);rintro _ _⟨_,⟨rfl,rfl⟩,hL⟩;simp only[al,ak] at hL;subst hL;refine Ks ?_;intros;(first|refine GO.ef (Ef.call (DV (L:=[]) c.xad c.xcap c.taxes ab d4) rfl dd) ae ?_);rintro _ _⟨_,⟨rfl,rfl⟩,hL⟩;simp only[al,ak] at hL;subst hL;refine Ks ?_;intros;exact KX.en ⟨rfl,rfl⟩
abbrev tCat:Nat:=116
def sO{L:LH}(b1:Nat)(c:CatV)(ad:OA)(cap:Nat)(l:List (Int×Int))(hl:l.length≤64)(hc:c.items.length≤64)(h:iG c.items.length l) :
  Tri Tryz.prog 225 #[ag ad l.length cap,ax b1] (obj b1 tCat c.cells::isl cy 2 ad l::L) (rtQ (.bool true) (obj b1 tCat c.cells::isl cy 2 ad l::L)):=by
 obtain⟨h1,h2⟩:=h;refine Tri.bd ?_;simp only[CatV.cells];refine Ks ?_;intros;refine G.loop (α:=Nat×Int) (fun x=>x.1≤l.length∧∀j,x.1≤j→j<l.length→x.2<l[j]!.1) (fun x=>[(1,ax b1),(4,ac x.2),(7,ag ad l.length cap),(8,ac l.length),(9,ac (x.1:Int))]) (fun _=>obj b1 tCat [ag c.iad c.items.length c.icap,ag c.rad c.rules.length c.rcap,ag c.tad c.tables.length c.tcap,ag c.xad c.taxes.length c.xcap]::isl cy 2 ad l::L) (fun x=>l.length - x.1) (0,-1) ⟨aw _,fun j _ hj=>by have:=h1 _ (aV hj);dsimp only;omega⟩ aC (Ent.refl _) ?_;rintro⟨i,a4⟩ ⟨hi,a0⟩;dsimp only at hi a0 ⊢;by_cases a1:i<l.length
 case neg =>
  refine Ks ?_;intros;exact KX.en ⟨rfl,rfl⟩
 have a3:(i:Int).toNat=i:=ab;have ha:=h1 _ (aV a1);have hb:=a0 i (aq _) a1;refine Ks ?_;intros;rw[a3];refine Ks ?_;intros;refine⟨(i+1,l[i]!.1),⟨by dsimp only;omega,?_⟩,by dsimp only;omega,?_,Ent.drop⟩
 ·intro j hj a2;dsimp only at hj ⊢;rw[getElem!_of a1,getElem!_of a2];exact List.pairwise_iff_getElem.1 h2 i j a1 a2 ab
 ·dsimp only;rw[bh i];exact aC
def vT(x:ItG)(h:ItGood x):fo 226 [] dL noP (cY True) x:=by
 intro L;have hf:=h.form;refine Tri.bd (args:=[aU (dL x)]) ?_;cases hx:x.obj with
 | true =>
  rw[if_pos hx] at hf;obtain⟨f1,f2,f3,f4⟩:=hf;have e:dL x=[.string x.name,.bool true,.bool false,.bool false,ac x.wear,ac x.bind,ac x.level]:=by unfold dL;rw[hx,f1,f2]
  rw[e];refine Ks ?_;intros;exact KX.a8 aA Ent.drop ⟨by rw[bE f4];rfl,rfl⟩
 | false =>
  rw[if_neg (by rw[hx];decide)] at hf;obtain⟨f1,f2,f3⟩:=hf;have e:dL x=[.string x.name,.bool false,.bool x.mixed,.bool x.coin,ac 0,ac 0,ac 0]:=by unfold dL;rw[hx,f1,f2,f3]
  rw[e];refine Ks ?_;intros;exact KX.a8 aA Ent.drop ⟨by rw[bE rfl];rfl,rfl⟩
def vN{L:LH}(n:Nat)(r:RuV)(h:RuGood n r.m):Tri Tryz.prog 228 #[aU (dE r)] L (rtQ (.bool true) L):=by
 obtain⟨a1,a0⟩:=h.form;change (r.back.l.length=0∨r.chance≠r.of_) at a1
 have hg:∀{q:Prop},(r.back.l.length=0→q)→(¬r.back.l.length=0→r.chance≠r.of_→q)→q:=by
  intro q a b;by_cases h0:r.back.l.length=0
  ·exact a h0
  ·exact b h0 (a1.resolve_left h0)
 change (if r.spawn=true then r.take.l.length=0∧r.back.l.length=0∧r.level=0∧r.time=0∧r.chance=r.of_ else 0<r.take.l.length∨r.time≠0) at a0;refine Tri.bd ?_;cases hx:r.spawn with
 | true =>
  rw[if_pos hx] at a0;obtain⟨f1,f2,f3,f4,f5⟩:=a0;have e:dE r=[.string r.name,.bool true,ac r.level,ac r.time,ac r.chance,ac r.of_,ag r.take.ad r.take.l.length r.take.cap,ag r.give.ad r.give.l.length r.give.cap,ag r.back.ad r.back.l.length r.back.cap]:=by unfold dE;rw[hx]
  rw[e];refine Ks ?_;intros;exact KX.a8 aA Ent.drop ⟨by rw[bE f5];rfl,rfl⟩
 | false =>
  rw[if_neg (by rw[hx];decide)] at a0;have e:dE r=[.string r.name,.bool false,ac r.level,ac r.time,ac r.chance,ac r.of_,ag r.take.ad r.take.l.length r.take.cap,ag r.give.ad r.give.l.length r.give.cap,ag r.back.ad r.back.l.length r.back.cap]:=by unfold dE;rw[hx]
  rw[e];refine hg ?_ ?_
  ·intro h0;by_cases h5:0<r.take.l.length
   ·refine Ks ?_;intros;exact KX.a8 aA Ent.drop ⟨rfl,rfl⟩
   ·have h6:r.time≠0:=a0.resolve_left h5;refine Ks ?_;intros;exact KX.a8 aA Ent.drop ⟨by rw[bE h6];rfl,rfl⟩
  ·intro h0 a2;by_cases h5:0<r.take.l.length
   ·refine Ks ?_;intros;exact KX.a8 aA Ent.drop ⟨rfl,rfl⟩
   ·have h6:r.time≠0:=a0.resolve_left h5;refine Ks ?_;intros;exact KX.a8 aA Ent.drop ⟨by rw[bE h6];rfl,rfl⟩
def amU(l:List (Int×Int))(m:List (Int×Int)):Prop:=∀i,(glk m i).getD 0=gA l i
def tZ(l:List (Int×Int))(a:Int×Int)(i:Int):gA (l++[a]) i=if a.1=i then gA l i+a.2 else gA l i:=by
 unfold gA;rw[cF];rfl
def za{n:Nat}{l:List (Int×Int)}(h:∀a∈l,0≤a.1∧a.1<n∧1≤a.2∧a.2≤1099511627776)(i:Int):∀k,k≤l.length→0≤gA (l.take k) i∧gA (l.take k) i≤k*1099511627776:=by
 intro k;induction k with
 | zero=>intro _;simp[gA]
 | succ k ih =>
  intro hk;have h1:=ih ab;have h2:=h _ (bR (ab:k<l.length));rw[az ab,tZ];split<;>omega
def Fz(m:List (Int×Int))(k q a:Int):glk (gins m k a) q=if q=k then some a else glk m q:=ja
def sV(m:List (Int×Int))(k d:Int):((@List.lookup _ _ instBEqOfDecidableEq k m).map encN).getD (ac d)=ac ((glk m k).getD d):=by
 unfold glk;cases @List.lookup _ _ instBEqOfDecidableEq k m<;>rfl
def BU:amU [] []:=fun _=>rfl
def BV{l:List (Int×Int)}{m:List (Int×Int)}(h:amU l m)(a:Int×Int):amU (l++[a]) (gins m a.1 (gA l a.1+a.2)):=by
 intro i;rw[tZ,Fz];by_cases hi:a.1=i
 ·subst hi;rw[if_pos rfl,if_pos rfl];rfl
 ·rw[if_neg (fun e=>hi e.symm),if_neg hi];exact h i
def AU{L:LH}(n:Nat)(a1 a0:OA)(c1 c2:Nat)(tk bk:List (Int×Int))(h1:tk.length≤64)(h2:bk.length≤64)(ht:iG n tk)(hb:iG n bk)(hc:∀a∈bk,gA bk a.1≤gA tk a.1) :
  Tri Tryz.prog 229 #[ag a1 tk.length c1,ag a0 bk.length c2] (isl cy 2 a1 tk::isl cy 2 a0 bk::L) (rtQ (.bool true) (isl cy 2 a1 tk::isl cy 2 a0 bk::L)):=by
 refine Tri.bd ?_;refine Ks ?_;intros;refine GO.ef (Ef.d8 kvI encN (.inl rfl)) ae ?_;rintro _ _⟨b1,rfl,rfl⟩;refine Ks ?_;intros;refine GO.ef (Ef.d8 kvI encN (.inl rfl)) ae ?_;rintro _ _⟨b2,rfl,rfl⟩;repeat first|refine G.sm 2 ?_|refine dq ?_|intro
 refine G.c7 (α:=List (Int×Int)) (fun m=>amU tk m) (fun _=>[(1,ag a0 bk.length c2),(5,.map (some b1)),(6,.map (some b2))]) (fun m=>gmap kvI encN b2 []::gmap kvI encN b1 m::isl cy 2 a1 tk::isl cy 2 a0 bk::L) ?_ ?_
 ·refine Ks ?_;intros;refine G.loop (α:=Nat×List (Int×Int)) (fun x=>x.1≤tk.length∧amU (tk.take x.1) x.2) (fun x=>[(1,ag a0 bk.length c2),(5,.map (some b1)),(6,.map (some b2)),(15,ag a1 tk.length c1),(16,ac tk.length),(17,ac (x.1:Int))]) (fun x=>gmap kvI encN b2 []::gmap kvI encN b1 x.2::isl cy 2 a1 tk::isl cy 2 a0 bk::L) (fun x=>tk.length - x.1) (0,[]) ⟨aw _,BU⟩ aC (Ent.refl _) ?_;rintro⟨i,m⟩ ⟨hi,hm⟩;dsimp only at hi hm ⊢;by_cases a2:i<tk.length
  case neg =>
   rw[aD ab] at hm;refine Ks ?_;intros;exact⟨m,hm,aC,Ent.refl _⟩
  have a3:(i:Int).toNat=i:=ab;have ha:=ht.1 _ (aV a2);have a5:=za ht.1 tk[i]!.1 i ab;have a4:=hm tk[i]!.1;refine Ks ?_;intros;rw[a3];refine GO.ev (Ev.f9 rfl rfl) ae ?_;rw[sV,a4];refine Ks ?_;intros;refine GO.efu (Ef.c9 (enc:=encN) (e:=gA (tk.take i) tk[i]!.1+tk[i]!.2) rfl rfl rfl rfl) ?_;rintro _ _ rfl;refine Ks ?_;intros;refine⟨(i+1,gins m tk[i]!.1 (gA (tk.take i) tk[i]!.1+tk[i]!.2)),⟨by dsimp only;omega,?_⟩,by dsimp only;omega,?_,by exact ah⟩
  ·dsimp only;rw[az a2,←getElem!_of a2];exact BV hm _
  ·dsimp only;rw[bh i];exact aC
 intro m1 a6;refine G.c7 (α:=List (Int×Int)) (fun m=>amU bk m) (fun _=>[(1,ag a0 bk.length c2),(5,.map (some b1)),(6,.map (some b2))]) (fun m=>gmap kvI encN b2 m::gmap kvI encN b1 m1::isl cy 2 a1 tk::isl cy 2 a0 bk::L) ?_ ?_
 ·refine Ks ?_;intros;refine G.loop (α:=Nat×List (Int×Int)) (fun x=>x.1≤bk.length∧amU (bk.take x.1) x.2) (fun x=>[(1,ag a0 bk.length c2),(5,.map (some b1)),(6,.map (some b2)),(29,ag a0 bk.length c2),(30,ac bk.length),(31,ac (x.1:Int))]) (fun x=>gmap kvI encN b2 x.2::gmap kvI encN b1 m1::isl cy 2 a1 tk::isl cy 2 a0 bk::L) (fun x=>bk.length - x.1) (0,[]) ⟨aw _,BU⟩ aC (Ent.refl _) ?_;rintro⟨i,m⟩ ⟨hi,hm⟩;dsimp only at hi hm ⊢;by_cases a2:i<bk.length
  case neg =>
   rw[aD ab] at hm;refine Ks ?_;intros;exact⟨m,hm,aC,Ent.refl _⟩
  have a3:(i:Int).toNat=i:=ab;have ha:=hb.1 _ (aV a2);have a5:=za hb.1 bk[i]!.1 i ab;have a4:=hm bk[i]!.1;refine Ks ?_;intros;rw[a3];refine GO.ev (Ev.f9 rfl rfl) ae ?_;rw[sV,a4];refine Ks ?_;intros;refine GO.efu (Ef.c9 (enc:=encN) (e:=gA (bk.take i) bk[i]!.1+bk[i]!.2) rfl rfl rfl rfl) ?_;rintro _ _ rfl;refine Ks ?_;intros;refine⟨(i+1,gins m bk[i]!.1 (gA (bk.take i) bk[i]!.1+bk[i]!.2)),⟨by dsimp only;omega,?_⟩,by dsimp only;omega,?_,by exact ah⟩
  ·dsimp only;rw[az a2,←getElem!_of a2];exact BV hm _
  ·dsimp only;rw[bh i];exact aC
 intro m2 a7;refine Ks ?_;intros;refine G.loop (α:=Nat) (fun i=>i≤bk.length) (fun i=>[(5,.map (some b1)),(6,.map (some b2)),(43,ag a0 bk.length c2),(44,ac bk.length),(45,ac (i:Int))]) (fun _=>gmap kvI encN b2 m2::gmap kvI encN b1 m1::isl cy 2 a1 tk::isl cy 2 a0 bk::L) (fun i=>bk.length - i) 0 (aw _) aC (Ent.refl _) ?_;intro i hi;by_cases a2:i<bk.length
 case neg =>
  refine Ks ?_;intros;exact KX.en ⟨rfl,rfl⟩
 have a3:(i:Int).toNat=i:=ab;have e1:=a6 bk[i]!.1;have e2:=a7 bk[i]!.1;have a9:=hc _ (aV a2);refine Ks ?_;intros;rw[a3];refine GO.ev (Ev.f9 rfl rfl) ae ?_;rw[sV,e1];refine Ks ?_;intros;refine GO.ev (Ev.f9 rfl rfl) ae ?_;rw[sV,e2];refine Ks ?_;intros;refine⟨i+1,ab,ab,?_,by exact ah⟩;rw[bh i];exact aC
abbrev tSrt:Nat:=330
abbrev srtC(b3 b1:Nat)(c:CatV):LH:=[obj b3 tSrt [.func (.func 225) #[] #[ax b1]],obj b1 tCat c.cells]
def wU{r:RuV}{L:LH}:Ent (ruP r::L) (amS r.take::amS r.give::amS r.back::ruP r::L):=(Ent.dup (mq r).pers).trans EF
def Jm(b3 b1:Nat)(c:CatV)(hc:c.items.length≤64)(r:RuV)(h:RuGood c.items.length r.m):fo 227 [ax b3] dE ruP (cm (srtC b3 b1 c)) r:=by
 intro L;have hl:=h.lim;change r.take.l.length+r.give.l.length≤64∧r.take.l.length+r.back.l.length≤64 at hl;refine Tri.bd (args:=[aU (dE r),ax b3]) ?_;refine G.ent (Ent.openS.trans (Ent.a8 (Ent.a8 wU))) ?_;refine Ks ?_;intros;refine GO.ent (Ent.at (A:=amS r.take) (Ent.at (A:=obj b1 tCat c.cells) (Ent.refl _))) ?_;refine GO.ef (Ef.c7 rfl rfl (sO b1 c r.take.ad r.take.cap r.take.l ab hc h.take)) ae ?_;rintro _ _⟨rfl,rfl⟩;refine Ks ?_;intros;refine GO.ent (Ent.at (A:=amS r.give) (Ent.at (A:=obj b1 tCat c.cells) (Ent.refl _))) ?_;refine GO.ef (Ef.c7 rfl rfl (sO b1 c r.give.ad r.give.cap r.give.l ab hc h.give)) ae ?_;rintro _ _⟨rfl,rfl⟩;refine Ks ?_;intros;refine GO.ent (Ent.at (A:=amS r.back) (Ent.at (A:=obj b1 tCat c.cells) (Ent.refl _))) ?_;refine GO.ef (Ef.c7 rfl rfl (sO b1 c r.back.ad r.back.cap r.back.l ab hc h.back)) ae ?_;rintro _ _⟨rfl,rfl⟩;refine Ks ?_;intros;refine GO.cr (vN _ r h) ?_;refine Ks ?_;intros;(first|refine GO.ef (Ef.call (AU (L:=[]) c.items.length r.take.ad r.back.ad r.take.cap r.back.cap r.take.l r.back.l ab ab h.take h.back h.cont) rfl dd) ae ?_);rintro _ _⟨_,⟨rfl,rfl⟩,hL⟩;simp only[al,ak] at hL;subst hL;refine Ks ?_;intros;refine KX.a8 aA ?_ ⟨rfl,rfl⟩;refine Ent.trans ?_ Ent.f9;simp only[al,ak];exact ah
def Ib(b3 b1:Nat)(c:CatV)(hc:c.items.length≤64)(r:RwV)(hl:r.give.l.length≤64)(h:iG c.items.length r.give.l):fo 232 [ax b3] fR rwP (cm (srtC b3 b1 c)) r:=by
 intro L;refine Tri.bd (args:=[aU (fR r),ax b3]) ?_;refine G.ent Ent.openS ?_;simp only[al,ak];refine Ks ?_;intros;refine GO.ent (Ent.at (A:=amS r.give) (Ent.at (A:=obj b1 tCat c.cells) (Ent.refl _))) ?_;refine GO.ef (Ef.c7 rfl rfl (sO b1 c r.give.ad r.give.cap r.give.l hl hc h)) ae ?_;rintro _ _⟨rfl,rfl⟩;refine Ks ?_;intros;refine KX.a8 aA ?_ ⟨rfl,rfl⟩;refine Ent.trans ?_ Ent.f9;simp only[al,ak];exact ah
def rM{t:TbV}{L:LH}:Ent (tbP t::L) (isl fR 2 t.ad t.rows::allP rwP t.rows::tbP t::L):=(Ent.dup (lE t).pers).trans Ent.andE
def pU{n:Nat}{t:TbV}(h:TbGood n t.m):(0<t.rows.length∧t.rows.length≤64)∧∀r∈t.rows,RwGood n r.m:=by
 have h1:=h.rows;have h2:=h.good;simp only[TbV.m,an] at h1 h2;exact⟨h1,fun r hr=>h2 _ (alStd0List_mem_map_of_mem hr)⟩
def Jl(b3 b1:Nat)(c:CatV)(hc:c.items.length≤64)(t:TbV)(hB:t.B)(h:TbGood c.items.length t.m):fo 230 [ax b3] eh tbP (cm (srtC b3 b1 c)) t:=by
 intro L;obtain⟨⟨r1,r2⟩,r3⟩:=pU h;refine Tri.bd (args:=[aU (eh t),ax b3]) ?_;refine G.ent (Ent.a8 rM) ?_;refine Ks ?_;intros;(first|refine GO.ef (Ef.call (qA (L:=[]) _ [ax b3] (cm (srtC b3 b1 c)) t.ad t.cap t.rows r2 (fun r hr=>Ib b3 b1 c hc r (hB.2 r hr) (r3 r hr).give)) rfl dd) ae ?_);rintro _ _⟨_,⟨rfl,rfl⟩,hL⟩;simp only[al,ak] at hL;subst hL;refine Ks ?_;intros;exact KX.en ⟨rfl,rfl⟩
abbrev CK:=XE [.ev 13]
def Np{φ ψ:Prop}(k:ψ)(h:Hid ψ→φ:=by intro k;(repeat (first|refine aa ?_|intro zzz|refine G.dr 37 6 CK ?_));(repeat revert zzz);exact Hid.out k):φ:=h ⟨k⟩
def wA(t:TxV)(h:TxGood t.m):fo 233 [] eg txP (cY True) t:=by
 intro L;obtain⟨h1,h2⟩:=h.brs;change 0<t.brs.length at h1;change t.brs.length≤16 at h2;have h3:t.brs[(0:Int).toNat]!.1=0:=h.first;have h4:∀i,i+1<t.brs.length→t.brs[i]!.1<t.brs[i+1]!.1:=h.srt;refine Tri.bd (args:=[aU (eg t)]) ?_;refine G.ent (L':=isl cy 2 t.ad t.brs::cY True::L) (by unfold txP;exact ah) ?_;refine Np ?_;intros;rename_i b1;refine G.loop (α:=Nat) (fun i=>1≤i∧i≤t.brs.length) (fun i=>[(1,ax b1),(3,ac (i:Int))]) (fun _=>obj b1 277 (eg t)::isl cy 2 t.ad t.brs::cY True::L) (fun i=>t.brs.length - i) 1 ⟨ab,ab⟩ aC ah ?_;rintro i ⟨a0,a1⟩;by_cases a2:i<t.brs.length
 case neg =>
  refine Np ?_;intros;refine KX.a8 aA ?_ ⟨rfl,rfl⟩;unfold txP;exact ah
 have h5:=h4 (i - 1) ab;rw[show i - 1+1=i by omega] at h5
 have h6:t.brs[((i:Int) - 1).toNat]!.1<t.brs[(i:Int).toNat]!.1:=by
  rw[show((i:Int) - 1).toNat=i - 1 by omega,show(i:Int).toNat=i by omega];exact h5
 refine Np ?_;intros;refine⟨i+1,⟨ab,ab⟩,ab,?_,by exact ah⟩;rw[bh i];exact aC
def vJ{L:LH}(c:CatV)(hB:c.B)(h:CatGood c.m):Tri Tryz.prog 157 #[aU c.cells] (catS c (cD::L)) (rtQ (.bool true) (catS c (cD::L))):=by
 obtain⟨l1,l2,l3,l4⟩:=lens h;refine Tri.bd ?_;simp only[catS];refine Ks ?_;intros;rename_i b1 b3;refine GO.ent (Ent.pure trivial (oh c.items)) ?_;simp only[CatV.cells];refine Ks ?_;intros;(first|refine GO.ef (Ef.call (qB (L:=[]) _ [] (cY True) c.iad c.icap c.items l1 (fun x hx=>vT x (h.it x hx))) rfl dd) ae ?_);rintro _ _⟨_,⟨rfl,rfl⟩,hL⟩;simp only[al,ak] at hL;subst hL;refine Ks ?_;intros;refine GO.ent (L':=cm (srtC b3 b1 c)::cY True::isl dL 7 c.iad c.items::isl dE 9 c.rad c.rules::allP ruP c.rules::isl eh 2 c.tad c.tables::allP tbP c.tables::isl eg 2 c.xad c.taxes::allP txP c.taxes::cD::L) ?_ ?_
 ·refine Ent.trans ?_ Ent.f9;simp only[srtC,CatV.cells,al,ak];exact ah
 (first|refine GO.ef (Ef.call (nJ (L:=[]) _ [ax b3] (cm (srtC b3 b1 c)) c.rad c.rcap c.rules l2 (fun r hr=>Jm b3 b1 c l1 r (pA h r hr))) rfl dd) ae ?_);rintro _ _⟨_,⟨rfl,rfl⟩,hL⟩;simp only[al,ak] at hL;subst hL;refine GO.ent (Ent.openS (A:=srtC b3 b1 c)) ?_;simp only[srtC,CatV.cells,al,ak];refine Ks ?_;intros;refine GO.ent (L':=cm (srtC b3 b1 c)::cY True::isl dL 7 c.iad c.items::isl dE 9 c.rad c.rules::allP ruP c.rules::isl eh 2 c.tad c.tables::allP tbP c.tables::isl eg 2 c.xad c.taxes::allP txP c.taxes::cD::L) ?_ ?_
 ·refine Ent.trans ?_ Ent.f9;simp only[srtC,CatV.cells,al,ak];exact ah
 (first|refine GO.ef (Ef.call (nI (L:=[]) _ [ax b3] (cm (srtC b3 b1 c)) c.tad c.tcap c.tables ab (fun r hr=>Jl b3 b1 c l1 r (hB.tb r hr) (pz h r hr))) rfl dd) ae ?_);rintro _ _⟨_,⟨rfl,rfl⟩,hL⟩;simp only[al,ak] at hL;subst hL;refine GO.ent (Ent.openS (A:=srtC b3 b1 c)) ?_;simp only[srtC,CatV.cells,al,ak];refine Ks ?_;intros;(first|refine GO.ef (Ef.call (nH (L:=[]) _ [] (cY True) c.xad c.xcap c.taxes ab (fun r hr=>wA r (py h r hr))) rfl dd) ae ?_);rintro _ _⟨_,⟨rfl,rfl⟩,hL⟩;simp only[al,ak] at hL;subst hL;refine Ks ?_;intros;exact KX.en ⟨rfl,rfl⟩
def IO(a:Int×Int)(h:1≤a.2∧a.2≤1099511627776):fo 236 [] cy noP (cY True) a:=by
 intro L;obtain⟨h1,h2⟩:=h;refine Tri.bd (args:=[aU (cy a)]) ?_;refine Ks ?_;intros;exact KX.a8 aA Ent.drop ⟨by rw[bE h2];rfl,rfl⟩
def tI{L:LH}(n:Nat)(ad:OA)(cap:Nat)(l:List (Int×Int))(hl:l.length≤64)(h:iG n l):Tri Tryz.prog 234 #[ag ad l.length cap] (isl cy 2 ad l::L) (rtQ (.bool true) (isl cy 2 ad l::L)):=by
 refine Tri.bd ?_;refine Ks ?_;intros;refine GO.ent (Ent.pure trivial (oh l)) ?_;(first|refine GO.ef (Ef.call (FJ (L:=[]) _ [] (cY True) ad cap l hl (fun a ha=>IO a (h.1 a ha).2.2)) rfl dd) ae ?_);rintro _ _⟨_,⟨rfl,rfl⟩,hL⟩;simp only[al,ak] at hL;subst hL;refine Ks ?_;intros;exact KX.en ⟨rfl,rfl⟩
def uy(x:ItG)(h:ItGood x):fo 237 [] dL noP (cY True) x:=by
 intro L;obtain⟨h1,h2,h3⟩:=h.num;refine Tri.bd (args:=[aU (dL x)]) ?_;cases hx:x.obj with
 | true =>
  obtain⟨f1,f2⟩:=h1 hx;have e:dL x=[.string x.name,.bool true,.bool x.mixed,.bool x.coin,ac x.wear,ac x.bind,ac x.level]:=by unfold dL;rw[hx]
  rw[e];refine Ks ?_;intros;exact KX.a8 aA Ent.drop ⟨by rw[bE h3];rfl,rfl⟩
 | false =>
  have e:dL x=[.string x.name,.bool false,.bool x.mixed,.bool x.coin,ac x.wear,ac x.bind,ac x.level]:=by unfold dL;rw[hx]
  rw[e];refine Ks ?_;intros;exact KX.a8 aA Ent.drop ⟨by rw[bE h3];rfl,rfl⟩
def um{L:LH}(n:Nat)(r:RuV)(h:RuGood n r.m):Tri Tryz.prog 239 #[aU (dE r)] L (rtQ (.bool true) L):=by
 obtain⟨⟨h1,h2⟩,⟨h3,h4⟩,⟨h5,h6⟩,h7,h8⟩:=h.num;change 0≤r.level at h1;change r.level≤100 at h2;change 0≤r.time at h3;change r.time≤1000000 at h4;change 1≤r.of_ at h5;change r.of_≤1000000 at h6;change 1≤r.chance at h7;change r.chance≤r.of_ at h8;refine Tri.bd ?_;refine Ks ?_;intros;exact KX.a8 aA Ent.drop ⟨by rw[bE h8];rfl,rfl⟩
abbrev untC(b3:Nat):HP:=obj b3 tSrt [.func (.func 234) #[] #[]]
def JM(b3 n:Nat)(r:RuV)(h:RuGood n r.m):fo 238 [ax b3] dE ruP (untC b3) r:=by
 intro L;have hl:=h.lim;change r.take.l.length+r.give.l.length≤64∧r.take.l.length+r.back.l.length≤64 at hl;refine Tri.bd (args:=[aU (dE r),ax b3]) ?_;refine G.ent (Ent.a8 wU) ?_;refine Ks ?_;intros;refine GO.ent (Ent.at (A:=amS r.take) (Ent.refl _)) ?_;refine GO.ef (Ef.c7 rfl rfl (tI n r.take.ad r.take.cap r.take.l ab h.take)) ae ?_;rintro _ _⟨rfl,rfl⟩;refine Ks ?_;intros;refine GO.ent (Ent.at (A:=amS r.give) (Ent.refl _)) ?_;refine GO.ef (Ef.c7 rfl rfl (tI n r.give.ad r.give.cap r.give.l ab h.give)) ae ?_;rintro _ _⟨rfl,rfl⟩;refine Ks ?_;intros;refine GO.ent (Ent.at (A:=amS r.back) (Ent.refl _)) ?_;refine GO.ef (Ef.c7 rfl rfl (tI n r.back.ad r.back.cap r.back.l ab h.back)) ae ?_;rintro _ _⟨rfl,rfl⟩;refine Ks ?_;intros;refine GO.cr (um n r h) ?_;refine Ks ?_;intros;exact KX.en ⟨rfl,rfl⟩
def Ia(n:Nat)(r:RwV)(h:RwGood n r.m):fo 289 [] fR rwP (cY True) r:=by
 intro L;obtain⟨h1,h2⟩:=h.num;change 1≤r.weight at h1;change r.weight≤1099511627776 at h2;refine Tri.bd (args:=[aU (fR r)]) ?_;refine Ks ?_;intros;exact KX.a8 aA Ent.drop ⟨by rw[bE h2];rfl,rfl⟩
def rj{L:LH}(n:Nat)(t:TbV)(h:TbGood n t.m):Tri Tryz.prog 241 #[aU (eh t)] (tbP t::L) (rtQ (.bool true) (tbP t::L)):=by
 obtain⟨⟨r1,r2⟩,r3⟩:=pU h;refine Tri.bd ?_;refine G.ent rM ?_;refine Ks ?_;intros;refine GO.ent (Ent.pure trivial (Ent.refl _)) ?_;(first|refine GO.ef (Ef.call (qA (L:=[]) _ [] (cY True) t.ad t.cap t.rows r2 (fun r hr=>Ia n r (r3 r hr))) rfl dd) ae ?_);rintro _ _⟨_,⟨rfl,rfl⟩,hL⟩;simp only[al,ak] at hL;subst hL;refine Ks ?_;intros;exact KX.en ⟨rfl,rfl⟩
def IN(b3 n:Nat)(r:RwV)(hl:r.give.l.length≤64)(h:iG n r.give.l):fo 242 [ax b3] fR rwP (untC b3) r:=by
 intro L;refine Tri.bd (args:=[aU (fR r),ax b3]) ?_;refine Ks ?_;intros;refine GO.ent (Ent.at (A:=amS r.give) (Ent.refl _)) ?_;refine GO.ef (Ef.c7 rfl rfl (tI n r.give.ad r.give.cap r.give.l hl h)) ae ?_;rintro _ _⟨rfl,rfl⟩;refine Ks ?_;intros;exact KX.en ⟨rfl,rfl⟩
def JL(b3 n:Nat)(t:TbV)(hB:t.B)(h:TbGood n t.m):fo 240 [ax b3] eh tbP (untC b3) t:=by
 intro L;obtain⟨⟨r1,r2⟩,r3⟩:=pU h;refine Tri.bd (args:=[aU (eh t),ax b3]) ?_;refine Ks ?_;intros;(first|refine GO.ef (Ef.call (rj (L:=[]) n t h) rfl dd) ae ?_);rintro _ _⟨_,⟨rfl,rfl⟩,hL⟩;simp only[al,ak] at hL;subst hL;refine GO.ent rM ?_;refine Ks ?_;intros;(first|refine GO.ef (Ef.call (qA (L:=[]) _ [ax b3] (untC b3) t.ad t.cap t.rows r2 (fun r hr=>IN b3 n r (hB.2 r hr) (r3 r hr).give)) rfl dd) ae ?_);rintro _ _⟨_,⟨rfl,rfl⟩,hL⟩;simp only[al,ak] at hL;subst hL;refine Ks ?_;intros;exact KX.en ⟨rfl,rfl⟩
def Ih(b:Int×Int)(h:(0≤b.1∧b.1≤1099511627776)∧0≤b.2∧b.2≤10000):fo 291 [] cy noP (cY True) b:=by
 intro L;obtain⟨⟨h1,h2⟩,h3,h4⟩:=h;refine Tri.bd (args:=[aU (cy b)]) ?_;refine Ks ?_;intros;exact KX.a8 aA Ent.drop ⟨by rw[bE h4];rfl,rfl⟩
def vL(t:TxV)(h:TxGood t.m):fo 243 [] eg txP (cY True) t:=by
 intro L;obtain⟨h1,h2⟩:=h.brs;change 0<t.brs.length at h1;change t.brs.length≤16 at h2;refine Tri.bd (args:=[aU (eg t)]) ?_;refine G.ent (L':=isl cy 2 t.ad t.brs::cY True::L) (by unfold txP;exact ah) ?_;refine Ks ?_;intros;refine GO.ent (oh t.brs) ?_;(first|refine GO.ef (Ef.call (FI (L:=[]) _ [] (cY True) t.ad t.cap t.brs ab (fun b hb=>Ih b (h.num b hb))) rfl dd) ae ?_);rintro _ _⟨_,⟨rfl,rfl⟩,hL⟩;simp only[al,ak] at hL;subst hL;refine Ks ?_;intros;refine KX.a8 aA ?_ ⟨rfl,rfl⟩;unfold txP;exact ah
def DL{L:LH}(c:CatV)(hB:c.B)(h:CatGood c.m):Tri Tryz.prog 158 #[aU c.cells] (catS c (cD::L)) (rtQ (.bool true) (catS c (cD::L))):=by
 obtain⟨l1,l2,l3,l4⟩:=lens h;refine Tri.bd ?_;simp only[catS,CatV.cells];refine Ks ?_;intros;rename_i b1 b3;refine GO.ent (Ent.pure trivial (oh c.items)) ?_;(first|refine GO.ef (Ef.call (qB (L:=[]) _ [] (cY True) c.iad c.icap c.items l1 (fun x hx=>uy x (h.it x hx))) rfl dd) ae ?_);rintro _ _⟨_,⟨rfl,rfl⟩,hL⟩;simp only[al,ak] at hL;subst hL;refine Ks ?_;intros;(first|refine GO.ef (Ef.call (nJ (L:=[]) _ [ax b3] (untC b3) c.rad c.rcap c.rules l2 (fun r hr=>JM b3 _ r (pA h r hr))) rfl dd) ae ?_);rintro _ _⟨_,⟨rfl,rfl⟩,hL⟩;simp only[al,ak] at hL;subst hL;refine Ks ?_;intros;(first|refine GO.ef (Ef.call (nI (L:=[]) _ [ax b3] (untC b3) c.tad c.tcap c.tables ab (fun r hr=>JL b3 _ r (hB.tb r hr) (pz h r hr))) rfl dd) ae ?_);rintro _ _⟨_,⟨rfl,rfl⟩,hL⟩;simp only[al,ak] at hL;subst hL;refine Ks ?_;intros;(first|refine GO.ef (Ef.call (nH (L:=[]) _ [] (cY True) c.xad c.xcap c.taxes ab (fun r hr=>vL r (py h r hr))) rfl dd) ae ?_);rintro _ _⟨_,⟨rfl,rfl⟩,hL⟩;simp only[al,ak] at hL;subst hL;refine Ks ?_;intros;exact KX.en ⟨rfl,rfl⟩
def FY{L:LH}(c:CatV)(hB:c.B)(h:CatGood c.m):Tri Tryz.prog 107 #[aU c.cells] (catP c::cD::L) (rtQ (ac 0) (catP c::cD::L)):=by
 refine Tri.bd ?_;refine G.ent (L':=catS c (cD::catP c::L)) (catS_open.trans (by simp only[catS];exact ah)) ?_;simp only[CatV.cells];refine Ks ?_;intros;rename_i b1;refine GO.ent (L':=catS c (cD::obj b1 tCat c.cells::catP c::L)) (by simp only[catS,CatV.cells];exact ah) ?_;refine GO.cr (sL c h) ?_;simp only[catS,CatV.cells];refine Ks ?_;intros;refine GO.ent (L':=catS c (cD::obj b1 tCat c.cells::catP c::L)) (by simp only[catS,CatV.cells];exact ah) ?_;refine GO.cr (AE c h) ?_;simp only[catS,CatV.cells];refine Ks ?_;intros;refine GO.ent (L':=catS c (cD::obj b1 tCat c.cells::catP c::L)) (by simp only[catS,CatV.cells];exact ah) ?_;refine GO.cr (uw c h) ?_;simp only[catS,CatV.cells];refine Ks ?_;intros;refine GO.ent (L':=catS c (cD::obj b1 tCat c.cells::catP c::L)) (by simp only[catS,CatV.cells];exact ah) ?_;refine GO.cr (vJ c hB h) ?_;simp only[catS,CatV.cells];refine Ks ?_;intros;refine GO.ent (L':=catS c (cD::obj b1 tCat c.cells::catP c::L)) (by simp only[catS,CatV.cells];exact ah) ?_;refine GO.cr (DL c hB h) ?_;simp only[catS,CatV.cells];refine Ks ?_;intros;refine KX.a8 aA ?_ ⟨rfl,rfl⟩;exact ah
