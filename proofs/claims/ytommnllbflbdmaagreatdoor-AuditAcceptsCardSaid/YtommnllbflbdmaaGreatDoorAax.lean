/- Lemmas. -/
import Derived.Test.YtommnllbflbdmaaGreatDoorAaw
set_option linter.all false
set_option maxHeartbeats 1000000
namespace Go.Proofs.YtommnllbflbdmaaGreatDoor
section
open Go.V
attribute [local irreducible] G GO GP GPW GPK Ev Ef EfR Ent CB GB V.Enters
def ly(n:Nat)(l:List (Int×Int)):Prop:=(∀a∈l,0≤a.1∧a.1<n∧1≤a.2∧a.2≤1099511627776)∧l.Pairwise (fun a b=>a.1<b.1)
def jg(l:List (Int×Int))(i:Int):Int:=l.foldl (fun s a=>if a.1=i then s+a.2 else s) 0
structure ItGood (x:ItG):Prop where
 word:IsWord x.name
 form:if x.obj=true then x.mixed=false∧x.coin=false∧0≤x.bind∧x.bind≤2 else x.wear=0∧x.bind=0∧x.level=0
 num:(x.obj=true→1≤x.wear∧x.wear≤1048576)∧0≤x.level∧x.level≤100
structure RuGood (n:Nat) (r:RuM):Prop where
 word:IsWord r.name
 lim:r.take.length+r.give.length≤64∧r.take.length+r.back.length≤64
 take:ly n r.take
 give:ly n r.give
 back:ly n r.back
 form:(r.back.length=0∨r.chance≠r.of_)∧(if r.spawn=true then r.take.length=0∧r.back.length=0∧r.level=0∧r.time=0∧r.chance=r.of_ else 0<r.take.length∨r.time≠0)
 cont:∀a∈r.back,jg r.back a.1≤jg r.take a.1
 num:(0≤r.level∧r.level≤100)∧(0≤r.time∧r.time≤1000000)∧(1≤r.of_∧r.of_≤1000000)∧1≤r.chance∧r.chance≤r.of_
structure RwGood (n:Nat) (r:RwM):Prop where
 num:1≤r.weight∧r.weight≤1099511627776
 give:ly n r.give
structure TbGood (n:Nat) (t:TbM):Prop where
 word:IsWord t.name
 rows:0<t.rows.length∧t.rows.length≤64
 good:∀r∈t.rows,RwGood n r
structure TxGood (t:TxM):Prop where
 word:IsWord t.name
 brs:0<t.brs.length∧t.brs.length≤16
 first:t.brs[0]!.1=0
 srt:∀i,i+1<t.brs.length→t.brs[i]!.1<t.brs[i+1]!.1
 num:∀b∈t.brs,(0≤b.1∧b.1≤1099511627776)∧0≤b.2∧b.2≤10000
structure CatGood (c:CatM):Prop where
 items:c.items.length≤64
 rules:c.rules.length≤64
 tables:c.tables.length≤32
 taxes:c.taxes.length≤32
 it:∀x∈c.items,ItGood x
 ru:∀r∈c.rules,RuGood c.items.length r
 tb:∀t∈c.tables,TbGood c.items.length t
 tx:∀t∈c.taxes,TxGood t
 di:(c.items.map (·.name)).Nodup
 dr:(c.rules.map (·.name)).Nodup
 dt:(c.tables.map (·.name)).Nodup
 dx:(c.taxes.map (·.name)).Nodup
def ID(n:Nat)(r:RuV)(h:RuGood n r.m):fV 169 [] cY ruP (dz True) r:=by
 intro L;obtain⟨h1,h2⟩:=h.lim;change r.take.l.length+r.give.l.length≤64 at h1;change r.take.l.length+r.back.l.length≤64 at h2;refine Tri.bd (args:=[aN (cY r)]) ?_;refine Jq ?_;intros;exact KX.d7 al Ent.drop ⟨by rw[aS ab];rfl,rfl⟩
def IC(n:Nat)(t:TbV)(h:TbGood n t.m):fV 171 [] eD tbP (dz True) t:=by
 intro L;have h1:t.rows.length≤64:=by have:=h.rows.2;simpa [TbV.m] using this
 refine Tri.bd (args:=[aN (eD t)]) ?_;refine Jq ?_;intros;exact KX.d7 al Ent.drop ⟨by rw[aS ab];rfl,rfl⟩
def IB(t:TxV)(h:TxGood t.m):fV 173 [] eC txP (dz True) t:=by
 intro L;have h1:t.brs.length≤16:=h.brs.2;refine Tri.bd (args:=[aN (eC t)]) ?_;refine Jq ?_;intros;exact KX.d7 al Ent.drop ⟨by rw[aS ab];rfl,rfl⟩
abbrev catS(c:CatV)(L:LH):LH:=isl dE 7 c.iad c.items::isl cY 9 c.rad c.rules::allP ruP c.rules::isl eD 2 c.tad c.tables::allP tbP c.tables::isl eC 2 c.xad c.taxes::allP txP c.taxes::L
def catS_open{c:CatV}{L:LH}:Ent (catP c::L) (catS c (catP c::L)) :=
 (Ent.dup (mo c).pers).trans (Ent.andE.trans (Ent.d7 (Ent.andE.trans (Ent.andE.trans (Ent.d7 (Ent.d7 (Ent.andE.trans (Ent.andE.trans (Ent.d7 (Ent.d7 Ent.andE))))))))))
def pA{c:CatV}(h:CatGood c.m):∀r∈c.rules,RuGood c.items.length r.m:=fun _ hr=>h.ru _ (alStd0List_mem_map_of_mem hr)
def pz{c:CatV}(h:CatGood c.m):∀t∈c.tables,TbGood c.items.length t.m:=fun _ ht=>h.tb _ (alStd0List_mem_map_of_mem ht)
def py{c:CatV}(h:CatGood c.m):∀t∈c.taxes,TxGood t.m:=fun _ ht=>h.tx _ (alStd0List_mem_map_of_mem ht)
def lens{c:CatV}(h:CatGood c.m):c.items.length≤64∧c.rules.length≤64∧c.tables.length≤32∧c.taxes.length≤32:=by
 have h1:=h.items;have h2:=h.rules;have h3:=h.tables;have h4:=h.taxes;simp only[CatV.m,aA] at h1 h2 h3 h4;exact⟨h1,h2,h3,h4⟩
def sM{L:LH}(c:CatV)(h:CatGood c.m):Tri ai 111 #[aN c.cells] (catS c (cA::L)) (fun v L'=>v=.bool true∧L' = catS c (cA::L)):=by
 obtain⟨l1,l2,l3,l4⟩:=lens h;refine Tri.bd ?_;simp only[catS,CatV.cells];refine Jq ?_;intros;refine GO.ent (Ent.pure trivial (Ent.refl _)) ?_;(first|refine GO.ef (Ef.call (nz (L:=[]) _ [] (dz True) c.rad c.rcap c.rules l2 (fun r hr=>ID _ r (pA h r hr))) rfl cJ) ag ?_);rintro _ _⟨_,⟨rfl,rfl⟩,hL⟩;simp only[ao,an] at hL;subst hL;refine Jq ?_;intros;(first|refine GO.ef (Ef.call (ny (L:=[]) _ [] (dz True) c.tad c.tcap c.tables ab (fun r hr=>IC _ r (pz h r hr))) rfl cJ) ag ?_);rintro _ _⟨_,⟨rfl,rfl⟩,hL⟩;simp only[ao,an] at hL;subst hL;refine Jq ?_;intros;(first|refine GO.ef (Ef.call (nx (L:=[]) _ [] (dz True) c.xad c.xcap c.taxes ab (fun r hr=>IB r (py h r hr))) rfl cJ) ag ?_);rintro _ _⟨_,⟨rfl,rfl⟩,hL⟩;simp only[ao,an] at hL;subst hL;refine Jq ?_;intros;exact KX.en ⟨rfl,rfl⟩
def IP(x:ItG)(h:IsWord x.name):fV 175 [] dE noP cA x:=by
 intro L;refine Tri.bd (args:=[aN (dE x)]) ?_;refine Jq ?_;intros;refine GO.cr (mL x.name h) ?_;refine Jq ?_;intros;exact KX.d7 al Ent.drop ⟨rfl,rfl⟩
def IO(x:RuV)(h:IsWord x.name):fV 177 [] cY ruP cA x:=by
 intro L;refine Tri.bd (args:=[aN (cY x)]) ?_;refine Jq ?_;intros;refine GO.cr (mL x.name h) ?_;refine Jq ?_;intros;exact KX.d7 al Ent.drop ⟨rfl,rfl⟩
def IN(x:TbV)(h:IsWord x.name):fV 178 [] eD tbP cA x:=by
 intro L;refine Tri.bd (args:=[aN (eD x)]) ?_;refine Jq ?_;intros;refine GO.cr (mL x.name h) ?_;refine Jq ?_;intros;exact KX.d7 al Ent.drop ⟨rfl,rfl⟩
def IM(x:TxV)(h:IsWord x.name):fV 179 [] eC txP cA x:=by
 intro L;refine Tri.bd (args:=[aN (eC x)]) ?_;refine Jq ?_;intros;refine GO.cr (mL x.name h) ?_;refine Jq ?_;intros;exact KX.d7 al Ent.drop ⟨rfl,rfl⟩
def AW{L:LH}(c:CatV)(h:CatGood c.m):Tri ai 112 #[aN c.cells] (catS c (cA::L)) (fun v L'=>v=.bool true∧L' = catS c (cA::L)):=by
 obtain⟨l1,l2,l3,l4⟩:=lens h;refine Tri.bd ?_;simp only[catS,CatV.cells];refine Jq ?_;intros;refine GO.ent (oo c.items) ?_;(first|refine GO.ef (Ef.call (qA (L:=[]) _ [] cA c.iad c.icap c.items l1 (fun x hx=>IP x (h.it x hx).word)) rfl cJ) ag ?_);rintro _ _⟨_,⟨rfl,rfl⟩,hL⟩;simp only[ao,an] at hL;subst hL;refine Jq ?_;intros;(first|refine GO.ef (Ef.call (nz (L:=[]) _ [] cA c.rad c.rcap c.rules l2 (fun r hr=>IO r (pA h r hr).word)) rfl cJ) ag ?_);rintro _ _⟨_,⟨rfl,rfl⟩,hL⟩;simp only[ao,an] at hL;subst hL;refine Jq ?_;intros;(first|refine GO.ef (Ef.call (ny (L:=[]) _ [] cA c.tad c.tcap c.tables ab (fun r hr=>IN r (pz h r hr).word)) rfl cJ) ag ?_);rintro _ _⟨_,⟨rfl,rfl⟩,hL⟩;simp only[ao,an] at hL;subst hL;refine Jq ?_;intros;(first|refine GO.ef (Ef.call (nx (L:=[]) _ [] cA c.xad c.xcap c.taxes ab (fun r hr=>IM r (py h r hr).word)) rfl cJ) ag ?_);rintro _ _⟨_,⟨rfl,rfl⟩,hL⟩;simp only[ao,an] at hL;subst hL;refine Jq ?_;intros;exact KX.en ⟨rfl,rfl⟩
def ur{L:LH}(c:CatV)(h:CatGood c.m):Tri ai 113 #[aN c.cells] (catS c (cA::L)) (fun v L'=>v=.bool true∧L' = catS c (cA::L)):=by
 obtain⟨l1,l2,l3,l4⟩:=lens h;have d1:(c.items.map (·.name)).Nodup:=h.di;have d2:(c.rules.map (·.name)).Nodup:=by have:=h.dr;simpa [CatV.m,RuV.m,TbV.m,TxV.m,Function.comp_def] using this
 have d3:(c.tables.map (·.name)).Nodup:=by have:=h.dt;simpa [CatV.m,RuV.m,TbV.m,TxV.m,Function.comp_def] using this
 have d4:(c.taxes.map (·.name)).Nodup:=by have:=h.dx;simpa [CatV.m,RuV.m,TbV.m,TxV.m,Function.comp_def] using this
 refine Tri.bd ?_;simp only[catS,CatV.cells];refine Jq ?_;intros;(first|refine GO.ef (Ef.call (Ek (L:=[]) c.iad c.icap c.items l1 d1) rfl cJ) ag ?_);rintro _ _⟨_,⟨rfl,rfl⟩,hL⟩;simp only[ao,an] at hL;subst hL;refine Jq ?_;intros;(first|refine GO.ef (Ef.call (Ej (L:=[]) c.rad c.rcap c.rules l2 d2) rfl cJ) ag ?_);rintro _ _⟨_,⟨rfl,rfl⟩,hL⟩;simp only[ao,an] at hL;subst hL;refine Jq ?_;intros;(first|refine GO.ef (Ef.call (Ei (L:=[]) c.tad c.tcap c.tables ab d3) rfl cJ) ag ?_);rintro _ _⟨_,⟨rfl,rfl⟩,hL⟩;simp only[ao,an] at hL;subst hL;refine Jq ?_;intros;(first|refine GO.ef (Ef.call (Eh (L:=[]) c.xad c.xcap c.taxes ab d4) rfl cJ) ag ?_);rintro _ _⟨_,⟨rfl,rfl⟩,hL⟩;simp only[ao,an] at hL;subst hL;refine Jq ?_;intros;exact KX.en ⟨rfl,rfl⟩
abbrev tCat:Nat:=33
def sO{L:LH}(b1:Nat)(c:CatV)(ad:OA)(cap:Nat)(l:List (Int×Int))(hl:l.length≤64)(hc:c.items.length≤64)(h:ly c.items.length l) :
  Tri ai 188 #[ah ad l.length cap,ax b1] (obj b1 tCat c.cells::isl cw 2 ad l::L) (fun v L'=>v=.bool true∧L' = obj b1 tCat c.cells::isl cw 2 ad l::L):=by
 obtain⟨h1,h2⟩:=h;refine Tri.bd ?_;simp only[CatV.cells];refine Jq ?_;intros;refine G.loop (α:=Nat×Int) (fun x=>x.1≤l.length∧∀j,x.1≤j→j<l.length→x.2<l[j]!.1) (fun x=>[(1,ax b1),(4,ac x.2),(7,ah ad l.length cap),(8,ac l.length),(9,ac (x.1:Int))]) (fun _=>obj b1 tCat [ah c.iad c.items.length c.icap,ah c.rad c.rules.length c.rcap,ah c.tad c.tables.length c.tcap,ah c.xad c.taxes.length c.xcap]::isl cw 2 ad l::L) (fun x=>l.length - x.1) (0,-1) ⟨aw _,fun j _ hj=>by have:=h1 _ (aI hj);dsimp only;omega⟩ av (Ent.refl _) ?_;rintro⟨i,a3⟩ ⟨hi,a0⟩;dsimp only at hi a0 ⊢;by_cases a1:i<l.length
 case neg =>
  refine Jq ?_;intros;exact KX.en ⟨rfl,rfl⟩
 have a4:(i:Int).toNat=i:=ab;have ha:=h1 _ (aI a1);have hb:=a0 i (aB _) a1;refine Jq ?_;intros;rw[a4];refine Jq ?_;intros;refine⟨(i+1,l[i]!.1),⟨by dsimp only;omega,?_⟩,by dsimp only;omega,?_,Ent.drop⟩
 ·intro j hj a2;dsimp only at hj ⊢;rw[getElem!_of a1,getElem!_of a2];exact List.pairwise_iff_getElem.1 h2 i j a1 a2 ab
 ·dsimp only;rw[aV i];exact av
def vX(x:ItG)(h:ItGood x):fV 189 [] dE noP (dz True) x:=by
 intro L;have hf:=h.form;refine Tri.bd (args:=[aN (dE x)]) ?_;cases hx:x.obj with
 | true =>
  rw[if_pos hx] at hf;obtain⟨f1,f2,f3,f4⟩:=hf;have e:dE x=[.string x.name,.bool true,.bool false,.bool false,ac x.wear,ac x.bind,ac x.level]:=by unfold dE;rw[hx,f1,f2]
  rw[e];refine Jq ?_;intros;exact KX.d7 al Ent.drop ⟨by rw[aS f4];rfl,rfl⟩
 | false =>
  rw[if_neg (by rw[hx];decide)] at hf;obtain⟨f1,f2,f3⟩:=hf;have e:dE x=[.string x.name,.bool false,.bool x.mixed,.bool x.coin,ac 0,ac 0,ac 0]:=by unfold dE;rw[hx,f1,f2,f3]
  rw[e];refine Jq ?_;intros;exact KX.d7 al Ent.drop ⟨by rw[aS rfl];rfl,rfl⟩
def vQ{L:LH}(n:Nat)(r:RuV)(h:RuGood n r.m):Tri ai 191 #[aN (cY r)] L (fun v L'=>v=.bool true∧L' = L):=by
 obtain⟨a1,a0⟩:=h.form;change (r.back.l.length=0∨r.chance≠r.of_) at a1
 have hg:∀{q:Prop},(r.back.l.length=0→q)→(¬r.back.l.length=0→r.chance≠r.of_→q)→q:=by
  intro q a b;by_cases h0:r.back.l.length=0
  ·exact a h0
  ·exact b h0 (a1.resolve_left h0)
 change (if r.spawn=true then r.take.l.length=0∧r.back.l.length=0∧r.level=0∧r.time=0∧r.chance=r.of_ else 0<r.take.l.length∨r.time≠0) at a0;refine Tri.bd ?_;cases hx:r.spawn with
 | true =>
  rw[if_pos hx] at a0;obtain⟨f1,f2,f3,f4,f5⟩:=a0;have e:cY r=[.string r.name,.bool true,ac r.level,ac r.time,ac r.chance,ac r.of_,ah r.take.ad r.take.l.length r.take.cap,ah r.give.ad r.give.l.length r.give.cap,ah r.back.ad r.back.l.length r.back.cap]:=by unfold cY;rw[hx]
  rw[e];refine Jq ?_;intros;exact KX.d7 al Ent.drop ⟨by rw[aS f5];rfl,rfl⟩
 | false =>
  rw[if_neg (by rw[hx];decide)] at a0;have e:cY r=[.string r.name,.bool false,ac r.level,ac r.time,ac r.chance,ac r.of_,ah r.take.ad r.take.l.length r.take.cap,ah r.give.ad r.give.l.length r.give.cap,ah r.back.ad r.back.l.length r.back.cap]:=by unfold cY;rw[hx]
  rw[e];refine hg ?_ ?_
  ·intro h0;by_cases h5:0<r.take.l.length
   ·refine Jq ?_;intros;exact KX.d7 al Ent.drop ⟨rfl,rfl⟩
   ·have h6:r.time≠0:=a0.resolve_left h5;refine Jq ?_;intros;exact KX.d7 al Ent.drop ⟨by rw[aS h6];rfl,rfl⟩
  ·intro h0 a2;by_cases h5:0<r.take.l.length
   ·refine Jq ?_;intros;exact KX.d7 al Ent.drop ⟨rfl,rfl⟩
   ·have h6:r.time≠0:=a0.resolve_left h5;refine Jq ?_;intros;exact KX.d7 al Ent.drop ⟨by rw[aS h6];rfl,rfl⟩
def amU(l:List (Int×Int))(m:List (Int×Int)):Prop:=∀i,(glk m i).getD 0=jg l i
def tZ(l:List (Int×Int))(a:Int×Int)(i:Int):jg (l++[a]) i=if a.1=i then jg l i+a.2 else jg l i:=by
 unfold jg;rw[cv];rfl
def yL{n:Nat}{l:List (Int×Int)}(h:∀a∈l,0≤a.1∧a.1<n∧1≤a.2∧a.2≤1099511627776)(i:Int):∀k,k≤l.length→0≤jg (l.take k) i∧jg (l.take k) i≤k*1099511627776:=by
 intro k;induction k with
 | zero=>intro _;simp[jg]
 | succ k ih =>
  intro hk;have h1:=ih ab;have h2:=h _ (ed (ab:k<l.length));rw[aD ab,tZ];split<;>omega
def FL(m:List (Int×Int))(k q a:Int):glk (gins m k a) q=if q=k then some a else glk m q:=iw
def sS(m:List (Int×Int))(k d:Int):((@List.lookup _ _ instBEqOfDecidableEq k m).map encN).getD (ac d)=ac ((glk m k).getD d):=by
 unfold glk;cases @List.lookup _ _ instBEqOfDecidableEq k m<;>rfl
def BS:amU [] []:=fun _=>rfl
def BT{l:List (Int×Int)}{m:List (Int×Int)}(h:amU l m)(a:Int×Int):amU (l++[a]) (gins m a.1 (jg l a.1+a.2)):=by
 intro i;rw[tZ,FL];by_cases hi:a.1=i
 ·subst hi;rw[if_pos rfl,if_pos rfl];rfl
 ·rw[if_neg (fun e=>hi e.symm),if_neg hi];exact h i
def Bl{L:LH}(n:Nat)(a1 ad2:OA)(c1 c2:Nat)(tk bk:List (Int×Int))(h1:tk.length≤64)(h2:bk.length≤64)(ht:ly n tk)(hb:ly n bk)(hc:∀a∈bk,jg bk a.1≤jg tk a.1) :
  Tri ai 192 #[ah a1 tk.length c1,ah ad2 bk.length c2] (isl cw 2 a1 tk::isl cw 2 ad2 bk::L) (fun v L'=>v=.bool true∧L' = isl cw 2 a1 tk::isl cw 2 ad2 bk::L):=by
 refine Tri.bd ?_;refine Jq ?_;intros;refine GO.ef (Ef.d9 kvI encN (.inl rfl)) ag ?_;rintro _ _⟨b1,rfl,rfl⟩;refine Jq ?_;intros;refine GO.ef (Ef.d9 kvI encN (.inl rfl)) ag ?_;rintro _ _⟨b2,rfl,rfl⟩;repeat first|((fail_if_success (with_reducible refine G.d9 2 ?_));(with_reducible apply G.seq))|refine bW ?_|intro
 refine G.d8 (α:=List (Int×Int)) (fun m=>amU tk m) (fun _=>[(1,ah ad2 bk.length c2),(5,.map (some b1)),(6,.map (some b2))]) (fun m=>gmap kvI encN b2 []::gmap kvI encN b1 m::isl cw 2 a1 tk::isl cw 2 ad2 bk::L) ?_ ?_
 ·refine Jq ?_;intros;refine G.loop (α:=Nat×List (Int×Int)) (fun x=>x.1≤tk.length∧amU (tk.take x.1) x.2) (fun x=>[(1,ah ad2 bk.length c2),(5,.map (some b1)),(6,.map (some b2)),(15,ah a1 tk.length c1),(16,ac tk.length),(17,ac (x.1:Int))]) (fun x=>gmap kvI encN b2 []::gmap kvI encN b1 x.2::isl cw 2 a1 tk::isl cw 2 ad2 bk::L) (fun x=>tk.length - x.1) (0,[]) ⟨aw _,BS⟩ av (Ent.refl _) ?_;rintro⟨i,m⟩ ⟨hi,hm⟩;dsimp only at hi hm ⊢;by_cases a0:i<tk.length
  case neg =>
   rw[aF ab] at hm;refine Jq ?_;intros;exact⟨m,hm,av,Ent.refl _⟩
  have a2:(i:Int).toNat=i:=ab;have ha:=ht.1 _ (aI a0);have a6:=yL ht.1 tk[i]!.1 i ab;have a3:=hm tk[i]!.1;refine Jq ?_;intros;rw[a2];refine GO.ev (Ev.e8 rfl rfl) ag ?_;rw[sS,a3];refine Jq ?_;intros;refine GO.efu (Ef.e7 (enc:=encN) (e:=jg (tk.take i) tk[i]!.1+tk[i]!.2) rfl rfl rfl rfl) ?_;rintro _ _ rfl;refine Jq ?_;intros;refine⟨(i+1,gins m tk[i]!.1 (jg (tk.take i) tk[i]!.1+tk[i]!.2)),⟨by dsimp only;omega,?_⟩,by dsimp only;omega,?_,by exact ae⟩
  ·dsimp only;rw[aD a0,←getElem!_of a0];exact BT hm _
  ·dsimp only;rw[aV i];exact av
 intro m1 a5;refine G.d8 (α:=List (Int×Int)) (fun m=>amU bk m) (fun _=>[(1,ah ad2 bk.length c2),(5,.map (some b1)),(6,.map (some b2))]) (fun m=>gmap kvI encN b2 m::gmap kvI encN b1 m1::isl cw 2 a1 tk::isl cw 2 ad2 bk::L) ?_ ?_
 ·refine Jq ?_;intros;refine G.loop (α:=Nat×List (Int×Int)) (fun x=>x.1≤bk.length∧amU (bk.take x.1) x.2) (fun x=>[(1,ah ad2 bk.length c2),(5,.map (some b1)),(6,.map (some b2)),(29,ah ad2 bk.length c2),(30,ac bk.length),(31,ac (x.1:Int))]) (fun x=>gmap kvI encN b2 x.2::gmap kvI encN b1 m1::isl cw 2 a1 tk::isl cw 2 ad2 bk::L) (fun x=>bk.length - x.1) (0,[]) ⟨aw _,BS⟩ av (Ent.refl _) ?_;rintro⟨i,m⟩ ⟨hi,hm⟩;dsimp only at hi hm ⊢;by_cases a0:i<bk.length
  case neg =>
   rw[aF ab] at hm;refine Jq ?_;intros;exact⟨m,hm,av,Ent.refl _⟩
  have a2:(i:Int).toNat=i:=ab;have ha:=hb.1 _ (aI a0);have a6:=yL hb.1 bk[i]!.1 i ab;have a3:=hm bk[i]!.1;refine Jq ?_;intros;rw[a2];refine GO.ev (Ev.e8 rfl rfl) ag ?_;rw[sS,a3];refine Jq ?_;intros;refine GO.efu (Ef.e7 (enc:=encN) (e:=jg (bk.take i) bk[i]!.1+bk[i]!.2) rfl rfl rfl rfl) ?_;rintro _ _ rfl;refine Jq ?_;intros;refine⟨(i+1,gins m bk[i]!.1 (jg (bk.take i) bk[i]!.1+bk[i]!.2)),⟨by dsimp only;omega,?_⟩,by dsimp only;omega,?_,by exact ae⟩
  ·dsimp only;rw[aD a0,←getElem!_of a0];exact BT hm _
  ·dsimp only;rw[aV i];exact av
 intro m2 a4;refine Jq ?_;intros;refine G.loop (α:=Nat) (fun i=>i≤bk.length) (fun i=>[(5,.map (some b1)),(6,.map (some b2)),(43,ah ad2 bk.length c2),(44,ac bk.length),(45,ac (i:Int))]) (fun _=>gmap kvI encN b2 m2::gmap kvI encN b1 m1::isl cw 2 a1 tk::isl cw 2 ad2 bk::L) (fun i=>bk.length - i) 0 (aw _) av (Ent.refl _) ?_;intro i hi;by_cases a0:i<bk.length
 case neg =>
  refine Jq ?_;intros;exact KX.en ⟨rfl,rfl⟩
 have a2:(i:Int).toNat=i:=ab;have e1:=a5 bk[i]!.1;have e2:=a4 bk[i]!.1;have a7:=hc _ (aI a0);refine Jq ?_;intros;rw[a2];refine GO.ev (Ev.e8 rfl rfl) ag ?_;rw[sS,e1];refine Jq ?_;intros;refine GO.ev (Ev.e8 rfl rfl) ag ?_;rw[sS,e2];refine Jq ?_;intros;refine⟨i+1,ab,ab,?_,by exact ae⟩;rw[aV i];exact av
