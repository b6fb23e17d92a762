/- Lemmas. -/
import Derived.Test.YtommnllbflbdmaaGreatDoorLam
set_option linter.all false
namespace Go.Proofs.YtommnllbflbdmaaGreatDoor
section
open Go.V
attribute [local irreducible] G GO GP GPW GPK Ev Ef EfR Ent CB GB V.Enters
def kindsL:List Int:=[0,0,0,0,0,0,0,0,0,1,1,0,0,0,0,0,0,0,0,0,0,0,0,0,0,0,0,0,0,0,0,0,1,0,0,2,0,0,0,0,7,7,0,7,7,6,7,0,4,4,4,4,4,4,4,4,4,4,7,7,7,7,7,0,0,0,0,0,0,0,0,0,0,0,0,0,0,0,0,0,0,0,0,0,0,0,0,0,0,0,0,0,0,0,0,5,0,3,3,3,3,3,3,3,3,3,3,3,3,3,3,3,3,3,3,3,3,3,3,3,3,3,3,7,0,7,0,0]
abbrev cI:HP:=isl (encZ .u8) 1 (some ⟨2,0,none⟩) kindsL
theorem sf:kindsL.length=128:=by kernel_rfl
def fV(s:ByteArray)(i:Int):Int:=if i<s.size∧(ed s)[i.toNat]! < 128 then kindsL[((ed s)[i.toNat]!).toNat]! else 0
theorem kW{L:LH}(s:ByteArray)(i:Int)(h0:0≤i)(hs:s.size≤1000000)[Rds L (some ⟨2,0,none⟩) Int (encZ .u8) 1 kindsL] :
  Tri ah 310 #[.string s,ab i] L (fun v L'=>v=.int .u8 (fV s i)∧L' = L):=by
 have hkl:=sf;refine Tri.body (args:=[.string s,ab i]) 20 Hg Tryz.func310 rfl rfl rfl (by simp) ?_;by_cases h1:i<s.size
 case neg =>
  have e:fV s i=0:=if_neg fun h=>h1 h.1;rw[e];repeat first|refine run ?_|intro
  exact KX.d7 ai (Ent.refl _) ⟨rfl,rfl⟩
 have hb:=tO s _ (aI (show i.toNat<(ed s).length by rw[nM];omega));by_cases h2:(ed s)[i.toNat]! < 128
 case neg =>
  have e:fV s i=0:=if_neg fun h=>h2 h.2;rw[e];repeat first|refine run ?_|intro
  exact KX.d7 ai (Ent.refl _) ⟨rfl,rfl⟩
 have e:fV s i=kindsL[((ed s)[i.toNat]!).toNat]!:=if_pos ⟨h1,h2⟩;rw[e];obtain⟨c,hc⟩:∃c,(ed s)[i.toNat]! = c:=⟨_,rfl⟩;rw[hc] at hb h2 ⊢;have hm:((ed s)[i.toNat]!).toNat*1=c.toNat*1+0:=by rw[hc];omega
 have hm2:0+((ed s)[i.toNat]!).toNat*1=c.toNat*1+0:=by rw[hc];omega
 repeat first|refine run ?_|intro
 refine GO.ev (Ev.r6 (j:=c.toNat) (o:=0) rfl hm2 ac ae rfl) ae ?_;repeat first|refine run ?_|intro
 exact KX.d7 ai (Ent.refl _) ⟨rfl,rfl⟩
structure IsWord (s:ByteArray):Prop where
 size:1≤s.size∧s.size≤16
 first:fV s 0=3
 rest:∀i:Nat,i<s.size→fV s i=3∨fV s i=4∨fV s i=5
theorem Dc(s:ByteArray):fV s s.size=0:=if_neg fun h=>absurd h.1 ac
theorem tH{L:LH}(s:ByteArray)(i:Int)(h0:0≤i)(hs:s.size≤1000000)(hk:i<s.size→fV s i≠1∧fV s i≠2)[Rds L (some ⟨2,0,none⟩) Int (encZ .u8) 1 kindsL] :
  Tri ah 296 #[.string s,ab i] L (fun v L'=>v=ab i∧L' = L):=by
 refine Tri.body (args:=[.string s,ab i]) 32 Ho Tryz.func296 rfl rfl rfl (by simp) ?_;repeat first|refine run ?_|intro
 refine G.e8 1 (GR.step ?_);by_cases h1:i<s.size
 case neg =>
  repeat first|refine run ?_|intro
  exact KX.d7 ai (Ent.refl _) ⟨rfl,rfl⟩
 obtain⟨hk1,hk2⟩:=hk h1;repeat first|refine run ?_|intro
 refine GO.ef (Ef.d7 (kW s i h0 hs) rfl) ae ?_;rintro _ _⟨rfl,rfl⟩;repeat first|refine run ?_|intro
 exact KX.d7 ai (Ent.refl _) ⟨rfl,rfl⟩
structure Tok where
 kind:Int
 text:ByteArray
 n:Int
 pos:Int
 deriving Inhabited
def encT(t:Tok):LV:=[ab t.kind,.string t.text,ab t.n,ab t.pos]
theorem rb(t:Tok):∀u∈encT t,u.oneCell' = true:=by simp[encT,Value.oneCell']
instance:EncC encT:=⟨rb⟩
def iy(s:ByteArray):Tok:=⟨0,s,0,0⟩
abbrev tTok:Nat:=303
abbrev xS:List Stp:=[.ev 0,.ev 1,.ev 2,.ev 3,.ev 4,.ev 5,.ev 6,.ev 7,.ev 8,.ev 9,.ef 10]
theorem gA{φ ψ:Prop}(k:ψ)(h:Hid ψ→φ:=by intro k;(with_reducible apply G.d8);first|refine G.d7 (N:=99) (id:=20) xS mixed ap (Hid.out k)):φ:=h ⟨k⟩
theorem CP{L:LH}(s:ByteArray)(hw:IsWord s)[Rds L (some ⟨2,0,none⟩) Int (encZ .u8) 1 kindsL] :
  Tri ah 297 #[.string s,ab 0] L (fun v L'=>v=.tuple #[.agg (encT (iy s)).toArray,ab 0]∧L' = L):=by
 have hsz:=hw.size;refine Tri.body (args:=[.string s,ab 0]) 99 Hn Tryz.func297 rfl rfl rfl (by simp) ?_;repeat first|refine run ?_|intro _|refine gA ?_
 rename_i b4 b6;refine GO.ef (Ef.d7 (kW s 0 ae ac) rfl) ae ?_;rintro _ _⟨rfl,rfl⟩;rw[hw.first];repeat first|refine run ?_|intro _|refine gA ?_
 refine GO.ef (Ef.d7 (kW s (0+1) ae ac) rfl) ae ?_;rintro _ _⟨rfl,rfl⟩;repeat first|refine run ?_|intro _|refine gA ?_
 refine G.loop (α:=Nat) (fun e=>1≤e∧e≤s.size) (fun e=>[(0,.string s),(1,ab 0),(4,au b4),(6,au b6),(7,ab (e:Int)),(8,.int .u8 (fV s (e:Int)))])
  (fun _=>obj b6 tTok [ab 0,.string ⟨#[]⟩,ab 0,ab 0]::obj b4 tTok [ab 0,.string ⟨#[]⟩,ab 0,ab 0]::L) (fun e=>s.size - e) 1 ⟨ac,ac⟩ aj (Ent.refl _) ?_
 rintro e ⟨he1,he2⟩;by_cases hlt:e<s.size
 case neg =>
  have hes:e=s.size:=ac;subst hes;rw[Dc];repeat first|refine run ?_|intro _|refine gA ?_
  rw[Int.toNat_zero,aA,qw];exact KX.d7 (by exact ResOk.cell rfl (by rfl) (ResOk.tmp rfl (ResOk.nil))) (Ent.trans Ent.drop Ent.drop) ⟨rfl,rfl⟩
 have hr:=hw.rest e hlt
 have hgo:∀{q:Prop},(fV s (e:Int)=3→q)→(fV s (e:Int)≠3→fV s (e:Int)=4→q)→(fV s (e:Int)≠3→fV s (e:Int)≠4→fV s (e:Int)=5→q)→q:=by
  intro q a b c;rcases hr with h|h|h
  ·exact a h
  ·exact b ac h
  ·exact c ac ac h
 refine hgo ?_ ?_ ?_<;>intros
 all_goals
  repeat first|refine run ?_|intro _|refine gA ?_
  refine GO.ef (Ef.d7 (kW s ((e:Int)+1) ac ac) rfl) ae ?_
  rintro _ _⟨rfl,rfl⟩
  repeat first|refine run ?_|intro _|refine gA ?_
  refine⟨e+1,⟨ac,ac⟩,ac,?_,Ent.refl _⟩
  rw[aP e]
  exact aj
theorem EP{L0:LH}(bx:Nat)(s:ByteArray)(hw:IsWord s)[hrd:Rds L0 (some ⟨2,0,none⟩) Int (encZ .u8) 1 kindsL] :
  Iter ah 295 [au bx] [[.agg (encT (iy s)).toArray,ab 0]] (obj bx 9 [.string s]::L0):=by
 have hsz:=hw.size;have hk0:=hw.first;have hts:(iy s).text.size=s.size:=rfl;intro l J Jx hy;have hy0:=hy 0 (by simp);simp only[List.getElem_cons_zero] at hy0;show Tri _ _ _ _ (fun _ L'=>L' = J 1::_∨_);refine Tri.body (args:=[.func (.yield l) #[] #[],au bx]) 34 Fb Tryz.func295 rfl rfl rfl (by simp) ?_;repeat first|refine run ?_|intro
 refine GO.ef (Ef.d7 (tH s 0 ae ac (fun _=>by rw[hk0];decide)) rfl) ae ?_;rintro _ _⟨rfl,rfl⟩;repeat first|refine run ?_|intro
 refine G.e8 2 (GR.step ?_);repeat first|refine run ?_|intro
 refine GO.ef (Ef.d7 (CP s hw) rfl) ae ?_;rintro _ _⟨rfl,rfl⟩;repeat first|refine run ?_|intro _
 ((with_reducible apply GO.d7);refine GO.efR (EfR.yield (hy0) rfl rfl (by repeat (first|exact Ent.refl _|apply Ent.take))) ae ?_);rintro _ _⟨_,(⟨rfl,rfl⟩|⟨rfl,rfl⟩),hL⟩
 ·simp only[ax,aq] at hL;subst hL;repeat first|refine run ?_|intro
  refine GO.ef (Ef.d7 (tH s (0+((iy s).text.size:Int)) ac ac (fun h=>absurd h ac)) rfl) ae ?_;rintro _ _⟨rfl,rfl⟩;repeat first|refine run ?_|intro
  refine GR.step ?_;repeat first|refine run ?_|intro
  exact KX.e8 ai (Ent.d7 Ent.drop) (.inl rfl)
 ·simp only[ax,aq] at hL;subst hL;repeat first|refine run ?_|intro
  exact KX.d7 ai (Ent.d7 Ent.drop) (.inr ⟨0,rfl⟩)
abbrev AW:List Stp:=[.ev 0,.ev 1,.ev 2,.ef 3,.ef 4,.ef 5]
theorem gX{φ ψ:Prop}(k:ψ)(h:Hid ψ→φ:=by intro k;first|((with_reducible apply GO.d7);refine GO.e7 uU Tryz.func280 rfl rfl rfl rfl (by simp) ae (Hid.out k))|((with_reducible apply GPW.d7);refine GPW.e7 uU Tryz.func280 rfl rfl rfl rfl (by simp) ae (Hid.out k))|((with_reducible apply GO.d7);refine GO.d8 rfl uU Tryz.func280 rfl rfl rfl rfl (by simp) ae (Hid.out k))|((with_reducible apply GPW.d7);refine GPW.d8 rfl uU Tryz.func280 rfl rfl rfl rfl (by simp) ae (Hid.out k))|((with_reducible apply KX.f7);first|refine KX.in0 (.inl rfl) (Hid.out k)|refine KX.in0 (.inr rfl) (Hid.out k)|refine KX.in1 (.inl rfl) rfl (Hid.out k)|refine KX.in2 (.inl rfl) rfl rfl (Hid.out k)|refine KX.in3 (.inl rfl) rfl rfl rfl (Hid.out k)|refine KX.inC (.inl rfl) rfl (by rfl) (Hid.out k)|refine KX.e9 (.inl rfl) rfl (by rfl) rfl (Hid.out k))):φ:=h ⟨k⟩
theorem gW{φ ψ:Prop}(k:ψ)(h:Hid ψ→φ:=by intro k;(with_reducible apply G.d8);first|refine G.d7 (N:=25) (id:=8) AW mixed ap (Hid.out k)):φ:=h ⟨k⟩
theorem xe{L:LH}(s:ByteArray)(hw:IsWord s)[Rds L (some ⟨2,0,none⟩) Int (encZ .u8) 1 kindsL] :
  Tri ah 251 #[.string s] L (fun v L'=>∃ad cap,v=.tuple #[.slice ad 1 cap,ab 0,ab 0]∧L' = osl encT 4 tTok ad cap [iy s]::L):=by
 have hsz:=hw.size;refine Tri.body (args:=[.string s]) 25 HR Tryz.func251 rfl rfl rfl (by simp) ?_;repeat first|refine run ?_|intro _|refine gW ?_|refine gX ?_
 rename_i b2 b3 b4 b5 bx;refine G.rangeFunc (EP (L0:=L) bx s hw) rfl Fb ae (by simp) (fun k=>if k=0 then[obj b5 300 [.slice none 0 0],obj b2 300 [.slice none 0 0],obj b3 3 [ab 0],obj b4 42 [ab 0]] else[hex fun x:OA×Nat=>cL [obj b5 300 [.slice x.1 1 x.2],osl encT 4 tTok x.1 x.2 [iy s]],obj b2 300 [.slice none 0 0],obj b3 3 [ab 0],obj b4 42 [ab 0]]) ?_ ?_ ?_
 ·simp only[if_true,ax,aq];exact ag
 ·intro k hk;have hk0:k=0:=by simpa using hk
  subst hk0;simp only[if_true,List.getElem_cons_zero,de,Nat.one_ne_zero,if_false];show G _ _ _ ((14,ab 0)::(13,.agg (encT (iy s)).toArray)::_) _ _;repeat first|refine run ?_|intro _|refine gW ?_|refine gX ?_
  refine GO.ent (Ent.d8 encT 4 tTok) ?_;refine GO.ef (Ef.d8 (enc:=encT) (e:=iy s) rfl rfl rfl rfl rfl (by rfl) (rb _) (by simp) (by simp)) ae ?_;rintro _ _⟨ad2,cap2,rfl,rfl⟩;repeat first|refine run ?_|intro _|refine gW ?_|refine gX ?_
  refine KX.round ?_;refine Ent.trans ?_ (Ent.l5 (ad2,cap2) (Ent.refl _));simp only[ax,aq];exact ag
 simp only[bD,cH,de,Nat.one_ne_zero,if_false,ax,aq];refine KX.d8 ?_;repeat first|refine run ?_|intro _|refine gW ?_|refine gX ?_
 refine GO.j0 (f:=fun x:OA×Nat=>[obj b5 300 [.slice x.1 1 x.2],osl encT 4 tTok x.1 x.2 [iy s]]) ?_;rintro⟨ad2,cap2⟩;simp only[ax,aq];repeat first|refine run ?_|intro _|refine gW ?_|refine gX ?_
 refine KX.d7 (by exact ResOk.d7 rfl (ResOk.d7 rfl (ResOk.d7 rfl (ResOk.nil)))) ?_ ⟨ad2,cap2,rfl,rfl⟩;exact ag
theorem lM{L:LH}(s:ByteArray)(hw:IsWord s)[Rds L (some ⟨2,0,none⟩) Int (encZ .u8) 1 kindsL] :
  Tri ah 176 #[.string s] L (fun v L'=>v=.bool true∧L' = L):=by
 have hl1:([iy s]).length=1:=rfl;refine Tri.body (args:=[.string s]) 34 Jg Tryz.func176 rfl rfl rfl (by simp) ?_;repeat first|refine run ?_|intro
 refine GO.ef (Ef.d7 (xe s hw) rfl) ae ?_;rintro _ _⟨ad,cap,rfl,rfl⟩;have h00:([iy s]:List Tok)[(0:Int).toNat]! = iy s:=rfl;have hkd:(iy s).kind=0:=rfl;repeat first|refine run ?_|intro
 rw[h00];repeat first|refine run ?_|intro
 refine KX.d7 ai Ent.drop ⟨?_,rfl⟩;rw[aU (show(iy s).text=s from rfl)];rfl
end
section
open Go.V
def noP{α:Type}(_:α):HP:=dy True
theorem nl{α:Type}(l:List α){L:LH}:Ent L (allP noP l::L):=fun θ R w s=>by
 obtain⟨ok,ι,h,a,b1,c,d⟩:=s;exact⟨ok,ι,h,a,b1,c,Hp.emp,Hp.emp,h,Hp.d7 _,Hp.d8 _,Hp.d7 _,Hp.sub.refl _,fun _ _=>trivial,d⟩
attribute [local irreducible] G GO GP GPW GPK Ev Ef EfR Ent CB GB V.Enters
def fe{α:Type}(f:FuncId)(cap:LV)(enc:α→LV)(p:α→HP)(C:HP)(x:α):Prop:=∀L:LH,Tri ah f (([]++[Value.agg (enc x).toArray]++cap:LV)).toArray (C::p x::L) (fun v L'=>v=.bool true∧L' = C::p x::L)
theorem ph{L:LH}(f:FuncId)(cap:LV)(C:HP)(ad:OA)(c:Nat)(xs:List ItG)(hl:xs.length≤64)(hf:∀x∈xs,fe f cap bS noP C x) :
  Tri ah 174 #[.slice ad xs.length c,.func (.func f) #[] cap.toArray] (C::allP noP xs::isl bS 7 ad xs::L) (fun v L'=>v=.bool true∧L' = C::allP noP xs::isl bS 7 ad xs::L):=by
 refine Tri.body (args:=[.slice ad xs.length c,.func (.func f) #[] cap.toArray]) 18 Ji Tryz.func174 rfl rfl rfl (by simp) ?_;repeat first|refine aa ?_|intro
 refine G.loop (α:=Nat) (fun i=>i≤xs.length) (fun i=>[(0,.slice ad xs.length c),(1,.func (.func f) #[] cap.toArray),(7,.slice ad xs.length c),(8,ab xs.length),(9,ab (i:Int))]) (fun _=>C::allP noP xs::isl bS 7 ad xs::L) (fun i=>xs.length - i) 0 (ao _) aj (Ent.refl _) ?_;intro i hi;by_cases hlt:i<xs.length
 case neg =>
  repeat first|refine aa ?_|intro
  exact KX.d7 ai (Ent.refl _) ⟨rfl,rfl⟩
 have hii:(i:Int).toNat=i:=ac;have hmem:=aI hlt;repeat first|refine aa ?_|intro
 rw[hii];refine GO.ent (Ent.drop.trans ((Ent.d7 (Ent.d9 (f:=noP) hmem)).trans (Ent.refl _))) ?_;refine GO.ef (Ef.d9 rfl rfl (hf _ hmem _)) ae ?_;rintro _ _⟨rfl,rfl⟩;repeat first|refine aa ?_|intro
 refine⟨i+1,ac,ac,?_,by exact ag⟩;rw[aP i];exact aj
theorem mF{L:LH}(f:FuncId)(cap:LV)(C:HP)(ad:OA)(c:Nat)(xs:List RuV)(hl:xs.length≤64)(hf:∀x∈xs,fe f cap bQ ruP C x) :
  Tri ah 168 #[.slice ad xs.length c,.func (.func f) #[] cap.toArray] (C::allP ruP xs::isl bQ 9 ad xs::L) (fun v L'=>v=.bool true∧L' = C::allP ruP xs::isl bQ 9 ad xs::L):=by
 refine Tri.body (args:=[.slice ad xs.length c,.func (.func f) #[] cap.toArray]) 18 Jo Tryz.func168 rfl rfl rfl (by simp) ?_;repeat first|refine aa ?_|intro
 refine G.loop (α:=Nat) (fun i=>i≤xs.length) (fun i=>[(0,.slice ad xs.length c),(1,.func (.func f) #[] cap.toArray),(7,.slice ad xs.length c),(8,ab xs.length),(9,ab (i:Int))]) (fun _=>C::allP ruP xs::isl bQ 9 ad xs::L) (fun i=>xs.length - i) 0 (ao _) aj (Ent.refl _) ?_;intro i hi;by_cases hlt:i<xs.length
 case neg =>
  repeat first|refine aa ?_|intro
  exact KX.d7 ai (Ent.refl _) ⟨rfl,rfl⟩
 have hii:(i:Int).toNat=i:=ac;have hmem:=aI hlt;repeat first|refine aa ?_|intro
 rw[hii];refine GO.ent (Ent.drop.trans ((Ent.d7 (Ent.d9 (f:=ruP) hmem)).trans (Ent.refl _))) ?_;refine GO.ef (Ef.d9 rfl rfl (hf _ hmem _)) ae ?_;rintro _ _⟨rfl,rfl⟩;repeat first|refine aa ?_|intro
 refine⟨i+1,ac,ac,?_,by exact ag⟩;rw[aP i];exact aj
theorem mE{L:LH}(f:FuncId)(cap:LV)(C:HP)(ad:OA)(c:Nat)(xs:List TbV)(hl:xs.length≤64)(hf:∀x∈xs,fe f cap cj tbP C x) :
  Tri ah 170 #[.slice ad xs.length c,.func (.func f) #[] cap.toArray] (C::allP tbP xs::isl cj 2 ad xs::L) (fun v L'=>v=.bool true∧L' = C::allP tbP xs::isl cj 2 ad xs::L):=by
 refine Tri.body (args:=[.slice ad xs.length c,.func (.func f) #[] cap.toArray]) 18 Jm Tryz.func170 rfl rfl rfl (by simp) ?_;repeat first|refine aa ?_|intro
 refine G.loop (α:=Nat) (fun i=>i≤xs.length) (fun i=>[(0,.slice ad xs.length c),(1,.func (.func f) #[] cap.toArray),(7,.slice ad xs.length c),(8,ab xs.length),(9,ab (i:Int))]) (fun _=>C::allP tbP xs::isl cj 2 ad xs::L) (fun i=>xs.length - i) 0 (ao _) aj (Ent.refl _) ?_;intro i hi;by_cases hlt:i<xs.length
 case neg =>
  repeat first|refine aa ?_|intro
  exact KX.d7 ai (Ent.refl _) ⟨rfl,rfl⟩
 have hii:(i:Int).toNat=i:=ac;have hmem:=aI hlt;repeat first|refine aa ?_|intro
 rw[hii];refine GO.ent (Ent.drop.trans ((Ent.d7 (Ent.d9 (f:=tbP) hmem)).trans (Ent.refl _))) ?_;refine GO.ef (Ef.d9 rfl rfl (hf _ hmem _)) ae ?_;rintro _ _⟨rfl,rfl⟩;repeat first|refine aa ?_|intro
 refine⟨i+1,ac,ac,?_,by exact ag⟩;rw[aP i];exact aj
theorem mD{L:LH}(f:FuncId)(cap:LV)(C:HP)(ad:OA)(c:Nat)(xs:List TxV)(hl:xs.length≤64)(hf:∀x∈xs,fe f cap cq txP C x) :
  Tri ah 172 #[.slice ad xs.length c,.func (.func f) #[] cap.toArray] (C::allP txP xs::isl cq 2 ad xs::L) (fun v L'=>v=.bool true∧L' = C::allP txP xs::isl cq 2 ad xs::L):=by
 refine Tri.body (args:=[.slice ad xs.length c,.func (.func f) #[] cap.toArray]) 18 Jk Tryz.func172 rfl rfl rfl (by simp) ?_;repeat first|refine aa ?_|intro
 refine G.loop (α:=Nat) (fun i=>i≤xs.length) (fun i=>[(0,.slice ad xs.length c),(1,.func (.func f) #[] cap.toArray),(7,.slice ad xs.length c),(8,ab xs.length),(9,ab (i:Int))]) (fun _=>C::allP txP xs::isl cq 2 ad xs::L) (fun i=>xs.length - i) 0 (ao _) aj (Ent.refl _) ?_;intro i hi;by_cases hlt:i<xs.length
 case neg =>
  repeat first|refine aa ?_|intro
  exact KX.d7 ai (Ent.refl _) ⟨rfl,rfl⟩
 have hii:(i:Int).toNat=i:=ac;have hmem:=aI hlt;repeat first|refine aa ?_|intro
 rw[hii];refine GO.ent (Ent.drop.trans ((Ent.d7 (Ent.d9 (f:=txP) hmem)).trans (Ent.refl _))) ?_;refine GO.ef (Ef.d9 rfl rfl (hf _ hmem _)) ae ?_;rintro _ _⟨rfl,rfl⟩;repeat first|refine aa ?_|intro
 refine⟨i+1,ac,ac,?_,by exact ag⟩;rw[aP i];exact aj
theorem pg{L:LH}(f:FuncId)(cap:LV)(C:HP)(ad:OA)(c:Nat)(xs:List RwV)(hl:xs.length≤64)(hf:∀x∈xs,fe f cap eK rwP C x) :
  Tri ah 194 #[.slice ad xs.length c,.func (.func f) #[] cap.toArray] (C::allP rwP xs::isl eK 2 ad xs::L) (fun v L'=>v=.bool true∧L' = C::allP rwP xs::isl eK 2 ad xs::L):=by
 refine Tri.body (args:=[.slice ad xs.length c,.func (.func f) #[] cap.toArray]) 18 IO Tryz.func194 rfl rfl rfl (by simp) ?_;repeat first|refine aa ?_|intro
 refine G.loop (α:=Nat) (fun i=>i≤xs.length) (fun i=>[(0,.slice ad xs.length c),(1,.func (.func f) #[] cap.toArray),(7,.slice ad xs.length c),(8,ab xs.length),(9,ab (i:Int))]) (fun _=>C::allP rwP xs::isl eK 2 ad xs::L) (fun i=>xs.length - i) 0 (ao _) aj (Ent.refl _) ?_;intro i hi;by_cases hlt:i<xs.length
 case neg =>
  repeat first|refine aa ?_|intro
  exact KX.d7 ai (Ent.refl _) ⟨rfl,rfl⟩
 have hii:(i:Int).toNat=i:=ac;have hmem:=aI hlt;repeat first|refine aa ?_|intro
 rw[hii];refine GO.ent (Ent.drop.trans ((Ent.d7 (Ent.d9 (f:=rwP) hmem)).trans (Ent.refl _))) ?_;refine GO.ef (Ef.d9 rfl rfl (hf _ hmem _)) ae ?_;rintro _ _⟨rfl,rfl⟩;repeat first|refine aa ?_|intro
 refine⟨i+1,ac,ac,?_,by exact ag⟩;rw[aP i];exact aj
theorem DD{L:LH}(f:FuncId)(cap:LV)(C:HP)(ad:OA)(c:Nat)(xs:List (Int×Int))(hl:xs.length≤64)(hf:∀x∈xs,fe f cap bL noP C x) :
  Tri ah 198 #[.slice ad xs.length c,.func (.func f) #[] cap.toArray] (C::allP noP xs::isl bL 2 ad xs::L) (fun v L'=>v=.bool true∧L' = C::allP noP xs::isl bL 2 ad xs::L):=by
 refine Tri.body (args:=[.slice ad xs.length c,.func (.func f) #[] cap.toArray]) 18 IK Tryz.func198 rfl rfl rfl (by simp) ?_;repeat first|refine aa ?_|intro
 refine G.loop (α:=Nat) (fun i=>i≤xs.length) (fun i=>[(0,.slice ad xs.length c),(1,.func (.func f) #[] cap.toArray),(7,.slice ad xs.length c),(8,ab xs.length),(9,ab (i:Int))]) (fun _=>C::allP noP xs::isl bL 2 ad xs::L) (fun i=>xs.length - i) 0 (ao _) aj (Ent.refl _) ?_;intro i hi;by_cases hlt:i<xs.length
 case neg =>
  repeat first|refine aa ?_|intro
  exact KX.d7 ai (Ent.refl _) ⟨rfl,rfl⟩
 have hii:(i:Int).toNat=i:=ac;have hmem:=aI hlt;repeat first|refine aa ?_|intro
 rw[hii];refine GO.ent (Ent.drop.trans ((Ent.d7 (Ent.d9 (f:=noP) hmem)).trans (Ent.refl _))) ?_;refine GO.ef (Ef.d9 rfl rfl (hf _ hmem _)) ae ?_;rintro _ _⟨rfl,rfl⟩;repeat first|refine aa ?_|intro
 refine⟨i+1,ac,ac,?_,by exact ag⟩;rw[aP i];exact aj
theorem DC{L:LH}(f:FuncId)(cap:LV)(C:HP)(ad:OA)(c:Nat)(xs:List (Int×Int))(hl:xs.length≤64)(hf:∀x∈xs,fe f cap bL noP C x) :
  Tri ah 253 #[.slice ad xs.length c,.func (.func f) #[] cap.toArray] (C::allP noP xs::isl bL 2 ad xs::L) (fun v L'=>v=.bool true∧L' = C::allP noP xs::isl bL 2 ad xs::L):=by
 refine Tri.body (args:=[.slice ad xs.length c,.func (.func f) #[] cap.toArray]) 18 HO Tryz.func253 rfl rfl rfl (by simp) ?_;repeat first|refine aa ?_|intro
 refine G.loop (α:=Nat) (fun i=>i≤xs.length) (fun i=>[(0,.slice ad xs.length c),(1,.func (.func f) #[] cap.toArray),(7,.slice ad xs.length c),(8,ab xs.length),(9,ab (i:Int))]) (fun _=>C::allP noP xs::isl bL 2 ad xs::L) (fun i=>xs.length - i) 0 (ao _) aj (Ent.refl _) ?_;intro i hi;by_cases hlt:i<xs.length
 case neg =>
  repeat first|refine aa ?_|intro
  exact KX.d7 ai (Ent.refl _) ⟨rfl,rfl⟩
 have hii:(i:Int).toNat=i:=ac;have hmem:=aI hlt;repeat first|refine aa ?_|intro
 rw[hii];refine GO.ent (Ent.drop.trans ((Ent.d7 (Ent.d9 (f:=noP) hmem)).trans (Ent.refl _))) ?_;refine GO.ef (Ef.d9 rfl rfl (hf _ hmem _)) ae ?_;rintro _ _⟨rfl,rfl⟩;repeat first|refine aa ?_|intro
 refine⟨i+1,ac,ac,?_,by exact ag⟩;rw[aP i];exact aj
def encB(b:Bool):Value:=.bool b
theorem qk{L:LH}(x:ItG):Tri ah 181 #[.agg (bS x).toArray] L (fun u L'=>u=.string x.name∧L' = L):=by
 refine Tri.body (args:=[.agg (bS x).toArray]) 5 Jb Tryz.func181 rfl rfl rfl (by simp) ?_;repeat first|refine aa ?_|intro
 exact KX.d7 ai Ent.drop ⟨rfl,rfl⟩
theorem BO{L:LH}(ad:OA)(c:Nat)(xs:List ItG)(hl:xs.length≤64)(hd:(xs.map (·.name)).Nodup) :
  Tri ah 180 #[.slice ad xs.length c,.func (.func 181) #[] #[]] (isl bS 7 ad xs::L) (fun v L'=>v=.bool true∧L' = isl bS 7 ad xs::L):=by
 refine Tri.body (args:=[.slice ad xs.length c,.func (.func 181) #[] #[]]) 27 Jc Tryz.func180 rfl rfl rfl (by simp) ?_;repeat first|refine aa ?_|intro
 refine GO.ef (Ef.f7 kvS encB (.inr ⟨_,_,_,rfl,rfl,ac⟩)) ae ?_;rintro _ _⟨bm,rfl,rfl⟩;repeat first|refine aa ?_|intro
 refine G.loop (α:=Nat×List (ByteArray×Bool)) (fun x=>x.1≤xs.length∧∀j,x.1≤j→j<xs.length→@List.lookup ByteArray Bool instBEqOfDecidableEq xs[j]!.name x.2=none) (fun x=>[(0,.slice ad xs.length c),(1,.func (.func 181) #[] #[]),(5,.map (some bm)),(11,.slice ad xs.length c),(12,ab xs.length),(13,ab (x.1:Int))]) (fun x=>gmap kvS encB bm x.2::isl bS 7 ad xs::L) (fun x=>xs.length - x.1) (0,[]) ⟨ao _,fun _ _ _=>rfl⟩ aj (Ent.refl _) ?_;rintro⟨i,m⟩ ⟨hi,hm⟩;dsimp only at hi hm ⊢;by_cases hlt:i<xs.length
 case neg =>
  repeat first|refine aa ?_|intro
  exact KX.d7 ai Ent.drop ⟨rfl,rfl⟩
 have hii:(i:Int).toNat=i:=ac;repeat first|refine aa ?_|intro
 rw[hii];refine GO.ef (Ef.g8 (first:=[]) (cap:=[]) (vs:=[.agg (bS xs[i]!).toArray]) (qk xs[i]!) rfl rfl) ae ?_;rintro _ _⟨rfl,rfl⟩;refine GO.ev (Ev.e8 (k:=xs[i]!.name) rfl rfl) ae ?_;rw[hm i (aB _) hlt];simp only[fJ,fA];repeat first|refine aa ?_|intro
 refine GO.ef (Ef.g8 (first:=[]) (cap:=[]) (vs:=[.agg (bS xs[i]!).toArray]) (qk xs[i]!) rfl rfl) ae ?_;rintro _ _⟨rfl,rfl⟩;refine GO.efu (Ef.f8 (k:=xs[i]!.name) (e:=true) rfl rfl rfl rfl) ?_;rintro _ _ rfl;repeat first|refine aa ?_|intro
 refine⟨(i+1,gins m xs[i]!.name true),⟨by dsimp only;omega,?_⟩,by dsimp only;omega,?_,Ent.d7 Ent.drop⟩
 ·intro j hj hjl;dsimp only at hj ⊢;rw[im,if_neg,hm j ac hjl];intro e
  have h1:(xs.map (·.name))[j]'(by simpa using hjl)=(xs.map (·.name))[i]'(by simp;omega):=by
   rw[getElem!_of hjl,getElem!_of ac] at e;simpa using e
  have:=(eV hd).1 h1
  omega
 ·dsimp only;rw[aP i];exact aj
theorem qd{L:LH}(x:RuV):Tri ah 183 #[.agg (bQ x).toArray] L (fun u L'=>u=.string x.name∧L' = L):=by
 refine Tri.body (args:=[.agg (bQ x).toArray]) 5 IZ Tryz.func183 rfl rfl rfl (by simp) ?_;repeat first|refine aa ?_|intro
 exact KX.d7 ai Ent.drop ⟨rfl,rfl⟩
theorem BN{L:LH}(ad:OA)(c:Nat)(xs:List RuV)(hl:xs.length≤64)(hd:(xs.map (·.name)).Nodup) :
  Tri ah 182 #[.slice ad xs.length c,.func (.func 183) #[] #[]] (isl bQ 9 ad xs::L) (fun v L'=>v=.bool true∧L' = isl bQ 9 ad xs::L):=by
 refine Tri.body (args:=[.slice ad xs.length c,.func (.func 183) #[] #[]]) 27 Ja Tryz.func182 rfl rfl rfl (by simp) ?_;repeat first|refine aa ?_|intro
 refine GO.ef (Ef.f7 kvS encB (.inr ⟨_,_,_,rfl,rfl,ac⟩)) ae ?_;rintro _ _⟨bm,rfl,rfl⟩;repeat first|refine aa ?_|intro
 refine G.loop (α:=Nat×List (ByteArray×Bool)) (fun x=>x.1≤xs.length∧∀j,x.1≤j→j<xs.length→@List.lookup ByteArray Bool instBEqOfDecidableEq xs[j]!.name x.2=none) (fun x=>[(0,.slice ad xs.length c),(1,.func (.func 183) #[] #[]),(5,.map (some bm)),(11,.slice ad xs.length c),(12,ab xs.length),(13,ab (x.1:Int))]) (fun x=>gmap kvS encB bm x.2::isl bQ 9 ad xs::L) (fun x=>xs.length - x.1) (0,[]) ⟨ao _,fun _ _ _=>rfl⟩ aj (Ent.refl _) ?_;rintro⟨i,m⟩ ⟨hi,hm⟩;dsimp only at hi hm ⊢;by_cases hlt:i<xs.length
 case neg =>
  repeat first|refine aa ?_|intro
  exact KX.d7 ai Ent.drop ⟨rfl,rfl⟩
 have hii:(i:Int).toNat=i:=ac;repeat first|refine aa ?_|intro
 rw[hii];refine GO.ef (Ef.g8 (first:=[]) (cap:=[]) (vs:=[.agg (bQ xs[i]!).toArray]) (qd xs[i]!) rfl rfl) ae ?_;rintro _ _⟨rfl,rfl⟩;refine GO.ev (Ev.e8 (k:=xs[i]!.name) rfl rfl) ae ?_;rw[hm i (aB _) hlt];simp only[fJ,fA];repeat first|refine aa ?_|intro
 refine GO.ef (Ef.g8 (first:=[]) (cap:=[]) (vs:=[.agg (bQ xs[i]!).toArray]) (qd xs[i]!) rfl rfl) ae ?_;rintro _ _⟨rfl,rfl⟩;refine GO.efu (Ef.f8 (k:=xs[i]!.name) (e:=true) rfl rfl rfl rfl) ?_;rintro _ _ rfl;repeat first|refine aa ?_|intro
 refine⟨(i+1,gins m xs[i]!.name true),⟨by dsimp only;omega,?_⟩,by dsimp only;omega,?_,Ent.d7 Ent.drop⟩
 ·intro j hj hjl;dsimp only at hj ⊢;rw[im,if_neg,hm j ac hjl];intro e
  have h1:(xs.map (·.name))[j]'(by simpa using hjl)=(xs.map (·.name))[i]'(by simp;omega):=by
   rw[getElem!_of hjl,getElem!_of ac] at e;simpa using e
  have:=(eV hd).1 h1
  omega
 ·dsimp only;rw[aP i];exact aj
theorem oC{L:LH}(x:TbV):Tri ah 185 #[.agg (cj x).toArray] L (fun u L'=>u=.string x.name∧L' = L):=by
 refine Tri.body (args:=[.agg (cj x).toArray]) 5 IX Tryz.func185 rfl rfl rfl (by simp) ?_;repeat first|refine aa ?_|intro
 exact KX.d7 ai Ent.drop ⟨rfl,rfl⟩
theorem BM{L:LH}(ad:OA)(c:Nat)(xs:List TbV)(hl:xs.length≤64)(hd:(xs.map (·.name)).Nodup) :
  Tri ah 184 #[.slice ad xs.length c,.func (.func 185) #[] #[]] (isl cj 2 ad xs::L) (fun v L'=>v=.bool true∧L' = isl cj 2 ad xs::L):=by
 refine Tri.body (args:=[.slice ad xs.length c,.func (.func 185) #[] #[]]) 27 IY Tryz.func184 rfl rfl rfl (by simp) ?_;repeat first|refine aa ?_|intro
 refine GO.ef (Ef.f7 kvS encB (.inr ⟨_,_,_,rfl,rfl,ac⟩)) ae ?_;rintro _ _⟨bm,rfl,rfl⟩;repeat first|refine aa ?_|intro
 refine G.loop (α:=Nat×List (ByteArray×Bool)) (fun x=>x.1≤xs.length∧∀j,x.1≤j→j<xs.length→@List.lookup ByteArray Bool instBEqOfDecidableEq xs[j]!.name x.2=none) (fun x=>[(0,.slice ad xs.length c),(1,.func (.func 185) #[] #[]),(5,.map (some bm)),(11,.slice ad xs.length c),(12,ab xs.length),(13,ab (x.1:Int))]) (fun x=>gmap kvS encB bm x.2::isl cj 2 ad xs::L) (fun x=>xs.length - x.1) (0,[]) ⟨ao _,fun _ _ _=>rfl⟩ aj (Ent.refl _) ?_;rintro⟨i,m⟩ ⟨hi,hm⟩;dsimp only at hi hm ⊢;by_cases hlt:i<xs.length
 case neg =>
  repeat first|refine aa ?_|intro
  exact KX.d7 ai Ent.drop ⟨rfl,rfl⟩
 have hii:(i:Int).toNat=i:=ac;repeat first|refine aa ?_|intro
 rw[hii];refine GO.ef (Ef.g8 (first:=[]) (cap:=[]) (vs:=[.agg (cj xs[i]!).toArray]) (oC xs[i]!) rfl rfl) ae ?_;rintro _ _⟨rfl,rfl⟩;refine GO.ev (Ev.e8 (k:=xs[i]!.name) rfl rfl) ae ?_;rw[hm i (aB _) hlt];simp only[fJ,fA];repeat first|refine aa ?_|intro
 refine GO.ef (Ef.g8 (first:=[]) (cap:=[]) (vs:=[.agg (cj xs[i]!).toArray]) (oC xs[i]!) rfl rfl) ae ?_;rintro _ _⟨rfl,rfl⟩;refine GO.efu (Ef.f8 (k:=xs[i]!.name) (e:=true) rfl rfl rfl rfl) ?_;rintro _ _ rfl;repeat first|refine aa ?_|intro
 refine⟨(i+1,gins m xs[i]!.name true),⟨by dsimp only;omega,?_⟩,by dsimp only;omega,?_,Ent.d7 Ent.drop⟩
 ·intro j hj hjl;dsimp only at hj ⊢;rw[im,if_neg,hm j ac hjl];intro e
  have h1:(xs.map (·.name))[j]'(by simpa using hjl)=(xs.map (·.name))[i]'(by simp;omega):=by
   rw[getElem!_of hjl,getElem!_of ac] at e;simpa using e
  have:=(eV hd).1 h1
  omega
 ·dsimp only;rw[aP i];exact aj
theorem rx{L:LH}(x:TxV):Tri ah 187 #[.agg (cq x).toArray] L (fun u L'=>u=.string x.name∧L' = L):=by
 refine Tri.body (args:=[.agg (cq x).toArray]) 5 IV Tryz.func187 rfl rfl rfl (by simp) ?_;repeat first|refine aa ?_|intro
 exact KX.d7 ai Ent.drop ⟨rfl,rfl⟩
theorem BL{L:LH}(ad:OA)(c:Nat)(xs:List TxV)(hl:xs.length≤64)(hd:(xs.map (·.name)).Nodup) :
  Tri ah 186 #[.slice ad xs.length c,.func (.func 187) #[] #[]] (isl cq 2 ad xs::L) (fun v L'=>v=.bool true∧L' = isl cq 2 ad xs::L):=by
 refine Tri.body (args:=[.slice ad xs.length c,.func (.func 187) #[] #[]]) 27 IW Tryz.func186 rfl rfl rfl (by simp) ?_;repeat first|refine aa ?_|intro
 refine GO.ef (Ef.f7 kvS encB (.inr ⟨_,_,_,rfl,rfl,ac⟩)) ae ?_;rintro _ _⟨bm,rfl,rfl⟩;repeat first|refine aa ?_|intro
 refine G.loop (α:=Nat×List (ByteArray×Bool)) (fun x=>x.1≤xs.length∧∀j,x.1≤j→j<xs.length→@List.lookup ByteArray Bool instBEqOfDecidableEq xs[j]!.name x.2=none) (fun x=>[(0,.slice ad xs.length c),(1,.func (.func 187) #[] #[]),(5,.map (some bm)),(11,.slice ad xs.length c),(12,ab xs.length),(13,ab (x.1:Int))]) (fun x=>gmap kvS encB bm x.2::isl cq 2 ad xs::L) (fun x=>xs.length - x.1) (0,[]) ⟨ao _,fun _ _ _=>rfl⟩ aj (Ent.refl _) ?_;rintro⟨i,m⟩ ⟨hi,hm⟩;dsimp only at hi hm ⊢;by_cases hlt:i<xs.length
 case neg =>
  repeat first|refine aa ?_|intro
  exact KX.d7 ai Ent.drop ⟨rfl,rfl⟩
 have hii:(i:Int).toNat=i:=ac;repeat first|refine aa ?_|intro
 rw[hii];refine GO.ef (Ef.g8 (first:=[]) (cap:=[]) (vs:=[.agg (cq xs[i]!).toArray]) (rx xs[i]!) rfl rfl) ae ?_;rintro _ _⟨rfl,rfl⟩;refine GO.ev (Ev.e8 (k:=xs[i]!.name) rfl rfl) ae ?_;rw[hm i (aB _) hlt];simp only[fJ,fA];repeat first|refine aa ?_|intro
 refine GO.ef (Ef.g8 (first:=[]) (cap:=[]) (vs:=[.agg (cq xs[i]!).toArray]) (rx xs[i]!) rfl rfl) ae ?_;rintro _ _⟨rfl,rfl⟩;refine GO.efu (Ef.f8 (k:=xs[i]!.name) (e:=true) rfl rfl rfl rfl) ?_;rintro _ _ rfl;repeat first|refine aa ?_|intro
 refine⟨(i+1,gins m xs[i]!.name true),⟨by dsimp only;omega,?_⟩,by dsimp only;omega,?_,Ent.d7 Ent.drop⟩
 ·intro j hj hjl;dsimp only at hj ⊢;rw[im,if_neg,hm j ac hjl];intro e
  have h1:(xs.map (·.name))[j]'(by simpa using hjl)=(xs.map (·.name))[i]'(by simp;omega):=by
   rw[getElem!_of hjl,getElem!_of ac] at e;simpa using e
  have:=(eV hd).1 h1
  omega
 ·dsimp only;rw[aP i];exact aj
