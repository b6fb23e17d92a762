/- Lemmas. -/
import Derived.Test.YtommnllbflbdmaaGreatDoorAam
set_option linter.all false
namespace Go.Proofs.YtommnllbflbdmaaGreatDoor
section
open Go.V
attribute [local irreducible] G GO GP GPW GPK Ev Ef EfR Ent CB GB V.Enters
def kindsL:List Int:=[0,0,0,0,0,0,0,0,0,1,1,0,0,0,0,0,0,0,0,0,0,0,0,0,0,0,0,0,0,0,0,0,1,0,0,2,0,0,0,0,7,7,0,7,7,6,7,0,4,4,4,4,4,4,4,4,4,4,7,7,7,7,7,0,0,0,0,0,0,0,0,0,0,0,0,0,0,0,0,0,0,0,0,0,0,0,0,0,0,0,0,0,0,0,0,5,0,3,3,3,3,3,3,3,3,3,3,3,3,3,3,3,3,3,3,3,3,3,3,3,3,3,3,7,0,7,0,0]
abbrev cA:HP:=isl (encZ .u8) 1 (some ⟨2,0,none⟩) kindsL
def tN:kindsL.length=128:=krStd0
def ik(s:ByteArray)(i:Int):Int:=if i<s.size∧(gH s)[i.toNat]! < 128 then kindsL[((gH s)[i.toNat]!).toNat]! else 0
def lR{L:LH}(s:ByteArray)(i:Int)(h0:0≤i)(hs:s.size≤1000000)[Rds L (some ⟨2,0,none⟩) Int (encZ .u8) 1 kindsL] :
  Tri ai 310 #[.string s,ac i] L (fun v L'=>v=.int .u8 (ik s i)∧L' = L):=by
 have a1:=tN;refine Tri.bd ?_;by_cases h1:i<s.size
 case neg =>
  have e:ik s i=0:=if_neg fun h=>h1 h.1;rw[e];repeat first|refine run ?_|intro
  exact KX.en ⟨rfl,rfl⟩
 have hb:=Ft s _ (aI (show i.toNat<(gH s).length by rw[tF];omega));by_cases h2:(gH s)[i.toNat]! < 128
 case neg =>
  have e:ik s i=0:=if_neg fun h=>h2 h.2;rw[e];repeat first|refine run ?_|intro
  exact KX.en ⟨rfl,rfl⟩
 have e:ik s i=kindsL[((gH s)[i.toNat]!).toNat]!:=if_pos ⟨h1,h2⟩;rw[e];obtain⟨c,hc⟩:∃c,(gH s)[i.toNat]! = c:=⟨_,rfl⟩;rw[hc] at hb h2 ⊢;have hm:((gH s)[i.toNat]!).toNat*1=c.toNat*1+0:=by rw[hc];omega
 have a0:0+((gH s)[i.toNat]!).toNat*1=c.toNat*1+0:=by rw[hc];omega
 repeat first|refine run ?_|intro
 refine GO.ev (Ev.q5 (j:=c.toNat) (o:=0) rfl a0 ab ag rfl) ag ?_;repeat first|refine run ?_|intro
 exact KX.en ⟨rfl,rfl⟩
structure IsWord (s:ByteArray):Prop where
 size:1≤s.size∧s.size≤16
 first:ik s 0=3
 rest:∀i:Nat,i<s.size→ik s i=3∨ik s i=4∨ik s i=5
def FD(s:ByteArray):ik s s.size=0:=if_neg fun h=>absurd h.1 ab
def uW{L:LH}(s:ByteArray)(i:Int)(h0:0≤i)(hs:s.size≤1000000)(hk:i<s.size→ik s i≠1∧ik s i≠2)[Rds L (some ⟨2,0,none⟩) Int (encZ .u8) 1 kindsL] :
  Tri ai 296 #[.string s,ac i] L (fun v L'=>v=ac i∧L' = L):=by
 refine Tri.bd ?_;repeat first|refine run ?_|intro
 refine G.f7 1 (GR.step ?_);by_cases h1:i<s.size
 case neg =>
  repeat first|refine run ?_|intro
  exact KX.en ⟨rfl,rfl⟩
 obtain⟨a1,a0⟩:=hk h1;repeat first|refine run ?_|intro
 refine GO.cr (lR s i h0 hs) ?_;repeat first|refine run ?_|intro
 exact KX.en ⟨rfl,rfl⟩
structure Tok where
 kind:Int
 text:ByteArray
 n:Int
 pos:Int
 deriving Inhabited
def encT(t:Tok):LV:=[ac t.kind,.string t.text,ac t.n,ac t.pos]
def yq(t:Tok):∀u∈encT t,u.oneCell' = true:=by simp[encT,Value.oneCell']
instance:EncC encT:=⟨yq⟩
def jX(s:ByteArray):Tok:=⟨0,s,0,0⟩
abbrev tTok:Nat:=303
abbrev zK:=ay6 [.ef 10]
def gZ{φ ψ:Prop}(k:ψ)(h:Hid ψ→φ:=by intro k;(with_reducible apply G.d7);first|refine G.dr 99 20 zK (Hid.out k)):φ:=h ⟨k⟩
def Fu{L:LH}(s:ByteArray)(hw:IsWord s)[Rds L (some ⟨2,0,none⟩) Int (encZ .u8) 1 kindsL] :
  Tri ai 297 #[.string s,ac 0] L (fun v L'=>v=.tuple #[aN (encT (jX s)),ac 0]∧L' = L):=by
 have a5:=hw.size;refine Tri.bd ?_;repeat first|refine run ?_|intro _|refine gZ ?_
 rename_i b4 b6;refine GO.cr (lR s 0 ag ab) ?_;rw[hw.first];repeat first|refine run ?_|intro _|refine gZ ?_
 refine GO.cr (lR s (0+1) ag ab) ?_;repeat first|refine run ?_|intro _|refine gZ ?_
 refine G.loop (α:=Nat) (fun e=>1≤e∧e≤s.size) (fun e=>[(0,.string s),(1,ac 0),(4,ax b4),(6,ax b6),(7,ac (e:Int)),(8,.int .u8 (ik s (e:Int)))])
  (fun _=>obj b6 tTok [ac 0,.string ⟨#[]⟩,ac 0,ac 0]::obj b4 tTok [ac 0,.string ⟨#[]⟩,ac 0,ac 0]::L) (fun e=>s.size - e) 1 ⟨ab,ab⟩ av (Ent.refl _) ?_
 rintro e ⟨a3,a4⟩;by_cases a0:e<s.size
 case neg =>
  have a1:e=s.size:=ab;subst a1;rw[FD];repeat first|refine run ?_|intro _|refine gZ ?_
  rw[Int.toNat_zero,aC,Bc];exact KX.d7 (by exact ResOk.cell rfl aK (ResOk.tmp rfl (ResOk.nil))) (Ent.trans Ent.drop Ent.drop) ⟨rfl,rfl⟩
 have hr:=hw.rest e a0
 have a2:∀{q:Prop},(ik s (e:Int)=3→q)→(ik s (e:Int)≠3→ik s (e:Int)=4→q)→(ik s (e:Int)≠3→ik s (e:Int)≠4→ik s (e:Int)=5→q)→q:=by
  intro q a b c;rcases hr with h|h|h
  ·exact a h
  ·exact b ab h
  ·exact c ab ab h
 refine a2 ?_ ?_ ?_<;>intros
 all_goals
  repeat first|refine run ?_|intro _|refine gZ ?_
  refine GO.cr (lR s ((e:Int)+1) ab ab) ?_
  repeat first|refine run ?_|intro _|refine gZ ?_
  refine⟨e+1,⟨ab,ab⟩,ab,?_,Ent.refl _⟩
  rw[aV e]
  exact av
def Hx{L0:LH}(bx:Nat)(s:ByteArray)(hw:IsWord s)[a2:Rds L0 (some ⟨2,0,none⟩) Int (encZ .u8) 1 kindsL] :
  Iter ai 295 [ax bx] [[aN (encT (jX s)),ac 0]] (obj bx 9 [.string s]::L0):=by
 have a3:=hw.size;have a1:=hw.first;have a4:(jX s).text.size=s.size:=rfl;intro l J Jx hy;have a0:=hy 0 bZ;simp only[List.getElem_cons_zero] at a0;show Tri _ _ _ _ (fun _ L'=>L' = J 1::_∨_);refine Tri.bd (args:=[.func (.yield l) #[] #[],ax bx]) ?_;repeat first|refine run ?_|intro
 refine GO.cr (uW s 0 ag ab (fun _=>by rw[a1];decide)) ?_;repeat first|refine run ?_|intro
 refine G.f7 2 (GR.step ?_);repeat first|refine run ?_|intro
 refine GO.cr (Fu s hw) ?_;repeat first|refine run ?_|intro _
 ((with_reducible apply GO.d7);refine GO.efR (EfR.yield (a0) rfl rfl cJ) ag ?_);rintro _ _⟨_,(⟨rfl,rfl⟩|⟨rfl,rfl⟩),hL⟩
 ·simp only[ao,an] at hL;subst hL;repeat first|refine run ?_|intro
  refine GO.cr (uW s (0+((jX s).text.size:Int)) ab ab (fun h=>absurd h ab)) ?_;repeat first|refine run ?_|intro
  refine GR.step ?_;repeat first|refine run ?_|intro
  exact KX.e7 al (Ent.d7 Ent.drop) (.inl rfl)
 ·simp only[ao,an] at hL;subst hL;repeat first|refine run ?_|intro
  exact KX.d7 al (Ent.d7 Ent.drop) (.inr ⟨0,rfl⟩)
abbrev CZ:List Stp:=[.ev 0,.ev 1,.ev 2,.ef 3,.ef 4,.ef 5]
def iH{φ ψ:Prop}(k:ψ)(h:Hid ψ→φ:=by intro k;first|refine GO.ci (f:=280) (Hid.out k)|refine GPW.ci (f:=280) (Hid.out k)|refine GO.cf (f:=280) rfl (Hid.out k)|refine GPW.cf (f:=280) rfl (Hid.out k)|refine KX.inA (Hid.out k)):φ:=h ⟨k⟩
def iG{φ ψ:Prop}(k:ψ)(h:Hid ψ→φ:=by intro k;(with_reducible apply G.d7);first|refine G.dr 25 8 CZ (Hid.out k)):φ:=h ⟨k⟩
def yT{L:LH}(s:ByteArray)(hw:IsWord s)[Rds L (some ⟨2,0,none⟩) Int (encZ .u8) 1 kindsL] :
  Tri ai 251 #[.string s] L (fun v L'=>∃ad cap,v=.tuple #[ah ad 1 cap,ac 0,ac 0]∧L' = osl encT 4 tTok ad cap [jX s]::L):=by
 have a2:=hw.size;refine Tri.bd ?_;repeat first|refine run ?_|intro _|refine iG ?_|refine iH ?_
 rename_i b2 b3 b4 b5 bx;refine G.rangeFunc (Hx (L0:=L) bx s hw) rfl en295.1 ag bZ (fun k=>if k=0 then[obj b5 300 [ah none 0 0],obj b2 300 [ah none 0 0],obj b3 3 [ac 0],obj b4 42 [ac 0]] else[hex fun x:OA×Nat=>cR [obj b5 300 [ah x.1 1 x.2],osl encT 4 tTok x.1 x.2 [jX s]],obj b2 300 [ah none 0 0],obj b3 3 [ac 0],obj b4 42 [ac 0]]) ?_ ?_ ?_
 ·simp only[if_true,ao,an];exact ae
 ·intro k hk;have a1:k=0:=by simpa using hk
  subst a1;simp only[if_true,List.getElem_cons_zero,dq,Nat.one_ne_zero,if_false];show G _ _ _ ((14,ac 0)::(13,aN (encT (jX s)))::_) _ _;repeat first|refine run ?_|intro _|refine iG ?_|refine iH ?_
  refine GO.ent (Ent.d8 encT 4 tTok) ?_;refine GO.ef (Ef.d7 (enc:=encT) (e:=jX s) rfl rfl rfl rfl rfl aK (yq _) bZ bZ) ag ?_;rintro _ _⟨ad2,a0,rfl,rfl⟩;repeat first|refine run ?_|intro _|refine iG ?_|refine iH ?_
  refine KX.round ?_;refine Ent.trans ?_ (Ent.j0 (ad2,a0) (Ent.refl _));simp only[ao,an];exact ae
 simp only[bh,cQ,dq,Nat.one_ne_zero,if_false,ao,an];refine KX.d8 ?_;repeat first|refine run ?_|intro _|refine iG ?_|refine iH ?_
 refine GO.g9 (f:=fun x:OA×Nat=>[obj b5 300 [ah x.1 1 x.2],osl encT 4 tTok x.1 x.2 [jX s]]) ?_;rintro⟨ad2,a0⟩;simp only[ao,an];repeat first|refine run ?_|intro _|refine iG ?_|refine iH ?_
 refine KX.d7 (by exact ResOk.d7 rfl (ResOk.d7 rfl (ResOk.d7 rfl (ResOk.nil)))) ?_ ⟨ad2,a0,rfl,rfl⟩;exact ae
def mL{L:LH}(s:ByteArray)(hw:IsWord s)[Rds L (some ⟨2,0,none⟩) Int (encZ .u8) 1 kindsL] :
  Tri ai 176 #[.string s] L (fun v L'=>v=.bool true∧L' = L):=by
 have a2:([jX s]).length=1:=rfl;refine Tri.bd ?_;repeat first|refine run ?_|intro
 refine GO.ca (yT s hw) ?_;rintro _ _⟨ad,cap,rfl,rfl⟩;have a0:([jX s]:List Tok)[(0:Int).toNat]! = jX s:=rfl;have a1:(jX s).kind=0:=rfl;repeat first|refine run ?_|intro
 rw[a0];repeat first|refine run ?_|intro
 refine KX.d7 al Ent.drop ⟨?_,rfl⟩;rw[aS (show(jX s).text=s from rfl)];rfl
end
section
open Go.V
def noP{α:Type}(_:α):HP:=dz True
def oo{α:Type}(l:List α){L:LH}:Ent L (allP noP l::L):=fun θ R w s=>by
 obtain⟨ok,ι,h,a,b1,c,d⟩:=s;exact⟨ok,ι,h,a,b1,c,Hp.emp,Hp.emp,h,Hp.d7 _,Hp.d8 _,Hp.d7 _,Hp.sub.refl _,fun _ _=>trivial,d⟩
attribute [local irreducible] G GO GP GPW GPK Ev Ef EfR Ent CB GB V.Enters
def fV{α:Type}(f:FuncId)(cap:LV)(enc:α→LV)(p:α→HP)(C:HP)(x:α):Prop:=∀L:LH,Tri ai f (([]++[Value.agg (enc x).toArray]++cap:LV)).toArray (C::p x::L) (fun v L'=>v=.bool true∧L' = C::p x::L)
def qA{L:LH}(f:FuncId)(cap:LV)(C:HP)(ad:OA)(c:Nat)(xs:List ItG)(hl:xs.length≤64)(hf:∀x∈xs,fV f cap dE noP C x) :
  Tri ai 174 #[ah ad xs.length c,.func (.func f) #[] cap.toArray] (C::allP noP xs::isl dE 7 ad xs::L) (fun v L'=>v=.bool true∧L' = C::allP noP xs::isl dE 7 ad xs::L):=by
 refine Tri.bd ?_;refine Jq ?_;intros;refine G.loop (α:=Nat) (fun i=>i≤xs.length) (fun i=>[(0,ah ad xs.length c),(1,.func (.func f) #[] cap.toArray),(7,ah ad xs.length c),(8,ac xs.length),(9,ac (i:Int))]) (fun _=>C::allP noP xs::isl dE 7 ad xs::L) (fun i=>xs.length - i) 0 (aw _) av (Ent.refl _) ?_;intro i hi;by_cases a1:i<xs.length
 case neg =>
  refine Jq ?_;intros;exact KX.en ⟨rfl,rfl⟩
 have a2:(i:Int).toNat=i:=ab;have a0:=aI a1;refine Jq ?_;intros;rw[a2];refine GO.ent (Ent.drop.trans ((Ent.d7 (Ent.e7 (f:=noP) a0)).trans (Ent.refl _))) ?_;refine GO.ef (Ef.d8 rfl rfl (hf _ a0 _)) ag ?_;rintro _ _⟨rfl,rfl⟩;refine Jq ?_;intros;refine⟨i+1,ab,ab,?_,by exact ae⟩;rw[aV i];exact av
def nz{L:LH}(f:FuncId)(cap:LV)(C:HP)(ad:OA)(c:Nat)(xs:List RuV)(hl:xs.length≤64)(hf:∀x∈xs,fV f cap cY ruP C x) :
  Tri ai 168 #[ah ad xs.length c,.func (.func f) #[] cap.toArray] (C::allP ruP xs::isl cY 9 ad xs::L) (fun v L'=>v=.bool true∧L' = C::allP ruP xs::isl cY 9 ad xs::L):=by
 refine Tri.bd ?_;refine Jq ?_;intros;refine G.loop (α:=Nat) (fun i=>i≤xs.length) (fun i=>[(0,ah ad xs.length c),(1,.func (.func f) #[] cap.toArray),(7,ah ad xs.length c),(8,ac xs.length),(9,ac (i:Int))]) (fun _=>C::allP ruP xs::isl cY 9 ad xs::L) (fun i=>xs.length - i) 0 (aw _) av (Ent.refl _) ?_;intro i hi;by_cases a1:i<xs.length
 case neg =>
  refine Jq ?_;intros;exact KX.en ⟨rfl,rfl⟩
 have a2:(i:Int).toNat=i:=ab;have a0:=aI a1;refine Jq ?_;intros;rw[a2];refine GO.ent (Ent.drop.trans ((Ent.d7 (Ent.e7 (f:=ruP) a0)).trans (Ent.refl _))) ?_;refine GO.ef (Ef.d8 rfl rfl (hf _ a0 _)) ag ?_;rintro _ _⟨rfl,rfl⟩;refine Jq ?_;intros;refine⟨i+1,ab,ab,?_,by exact ae⟩;rw[aV i];exact av
def ny{L:LH}(f:FuncId)(cap:LV)(C:HP)(ad:OA)(c:Nat)(xs:List TbV)(hl:xs.length≤64)(hf:∀x∈xs,fV f cap eD tbP C x) :
  Tri ai 170 #[ah ad xs.length c,.func (.func f) #[] cap.toArray] (C::allP tbP xs::isl eD 2 ad xs::L) (fun v L'=>v=.bool true∧L' = C::allP tbP xs::isl eD 2 ad xs::L):=by
 refine Tri.bd ?_;refine Jq ?_;intros;refine G.loop (α:=Nat) (fun i=>i≤xs.length) (fun i=>[(0,ah ad xs.length c),(1,.func (.func f) #[] cap.toArray),(7,ah ad xs.length c),(8,ac xs.length),(9,ac (i:Int))]) (fun _=>C::allP tbP xs::isl eD 2 ad xs::L) (fun i=>xs.length - i) 0 (aw _) av (Ent.refl _) ?_;intro i hi;by_cases a1:i<xs.length
 case neg =>
  refine Jq ?_;intros;exact KX.en ⟨rfl,rfl⟩
 have a2:(i:Int).toNat=i:=ab;have a0:=aI a1;refine Jq ?_;intros;rw[a2];refine GO.ent (Ent.drop.trans ((Ent.d7 (Ent.e7 (f:=tbP) a0)).trans (Ent.refl _))) ?_;refine GO.ef (Ef.d8 rfl rfl (hf _ a0 _)) ag ?_;rintro _ _⟨rfl,rfl⟩;refine Jq ?_;intros;refine⟨i+1,ab,ab,?_,by exact ae⟩;rw[aV i];exact av
def nx{L:LH}(f:FuncId)(cap:LV)(C:HP)(ad:OA)(c:Nat)(xs:List TxV)(hl:xs.length≤64)(hf:∀x∈xs,fV f cap eC txP C x) :
  Tri ai 172 #[ah ad xs.length c,.func (.func f) #[] cap.toArray] (C::allP txP xs::isl eC 2 ad xs::L) (fun v L'=>v=.bool true∧L' = C::allP txP xs::isl eC 2 ad xs::L):=by
 refine Tri.bd ?_;refine Jq ?_;intros;refine G.loop (α:=Nat) (fun i=>i≤xs.length) (fun i=>[(0,ah ad xs.length c),(1,.func (.func f) #[] cap.toArray),(7,ah ad xs.length c),(8,ac xs.length),(9,ac (i:Int))]) (fun _=>C::allP txP xs::isl eC 2 ad xs::L) (fun i=>xs.length - i) 0 (aw _) av (Ent.refl _) ?_;intro i hi;by_cases a1:i<xs.length
 case neg =>
  refine Jq ?_;intros;exact KX.en ⟨rfl,rfl⟩
 have a2:(i:Int).toNat=i:=ab;have a0:=aI a1;refine Jq ?_;intros;rw[a2];refine GO.ent (Ent.drop.trans ((Ent.d7 (Ent.e7 (f:=txP) a0)).trans (Ent.refl _))) ?_;refine GO.ef (Ef.d8 rfl rfl (hf _ a0 _)) ag ?_;rintro _ _⟨rfl,rfl⟩;refine Jq ?_;intros;refine⟨i+1,ab,ab,?_,by exact ae⟩;rw[aV i];exact av
def qz{L:LH}(f:FuncId)(cap:LV)(C:HP)(ad:OA)(c:Nat)(xs:List RwV)(hl:xs.length≤64)(hf:∀x∈xs,fV f cap gi rwP C x) :
  Tri ai 194 #[ah ad xs.length c,.func (.func f) #[] cap.toArray] (C::allP rwP xs::isl gi 2 ad xs::L) (fun v L'=>v=.bool true∧L' = C::allP rwP xs::isl gi 2 ad xs::L):=by
 refine Tri.bd ?_;refine Jq ?_;intros;refine G.loop (α:=Nat) (fun i=>i≤xs.length) (fun i=>[(0,ah ad xs.length c),(1,.func (.func f) #[] cap.toArray),(7,ah ad xs.length c),(8,ac xs.length),(9,ac (i:Int))]) (fun _=>C::allP rwP xs::isl gi 2 ad xs::L) (fun i=>xs.length - i) 0 (aw _) av (Ent.refl _) ?_;intro i hi;by_cases a1:i<xs.length
 case neg =>
  refine Jq ?_;intros;exact KX.en ⟨rfl,rfl⟩
 have a2:(i:Int).toNat=i:=ab;have a0:=aI a1;refine Jq ?_;intros;rw[a2];refine GO.ent (Ent.drop.trans ((Ent.d7 (Ent.e7 (f:=rwP) a0)).trans (Ent.refl _))) ?_;refine GO.ef (Ef.d8 rfl rfl (hf _ a0 _)) ag ?_;rintro _ _⟨rfl,rfl⟩;refine Jq ?_;intros;refine⟨i+1,ab,ab,?_,by exact ae⟩;rw[aV i];exact av
def Gd{L:LH}(f:FuncId)(cap:LV)(C:HP)(ad:OA)(c:Nat)(xs:List (Int×Int))(hl:xs.length≤64)(hf:∀x∈xs,fV f cap cw noP C x) :
  Tri ai 198 #[ah ad xs.length c,.func (.func f) #[] cap.toArray] (C::allP noP xs::isl cw 2 ad xs::L) (fun v L'=>v=.bool true∧L' = C::allP noP xs::isl cw 2 ad xs::L):=by
 refine Tri.bd ?_;refine Jq ?_;intros;refine G.loop (α:=Nat) (fun i=>i≤xs.length) (fun i=>[(0,ah ad xs.length c),(1,.func (.func f) #[] cap.toArray),(7,ah ad xs.length c),(8,ac xs.length),(9,ac (i:Int))]) (fun _=>C::allP noP xs::isl cw 2 ad xs::L) (fun i=>xs.length - i) 0 (aw _) av (Ent.refl _) ?_;intro i hi;by_cases a1:i<xs.length
 case neg =>
  refine Jq ?_;intros;exact KX.en ⟨rfl,rfl⟩
 have a2:(i:Int).toNat=i:=ab;have a0:=aI a1;refine Jq ?_;intros;rw[a2];refine GO.ent (Ent.drop.trans ((Ent.d7 (Ent.e7 (f:=noP) a0)).trans (Ent.refl _))) ?_;refine GO.ef (Ef.d8 rfl rfl (hf _ a0 _)) ag ?_;rintro _ _⟨rfl,rfl⟩;refine Jq ?_;intros;refine⟨i+1,ab,ab,?_,by exact ae⟩;rw[aV i];exact av
def Gc{L:LH}(f:FuncId)(cap:LV)(C:HP)(ad:OA)(c:Nat)(xs:List (Int×Int))(hl:xs.length≤64)(hf:∀x∈xs,fV f cap cw noP C x) :
  Tri ai 253 #[ah ad xs.length c,.func (.func f) #[] cap.toArray] (C::allP noP xs::isl cw 2 ad xs::L) (fun v L'=>v=.bool true∧L' = C::allP noP xs::isl cw 2 ad xs::L):=by
 refine Tri.bd ?_;refine Jq ?_;intros;refine G.loop (α:=Nat) (fun i=>i≤xs.length) (fun i=>[(0,ah ad xs.length c),(1,.func (.func f) #[] cap.toArray),(7,ah ad xs.length c),(8,ac xs.length),(9,ac (i:Int))]) (fun _=>C::allP noP xs::isl cw 2 ad xs::L) (fun i=>xs.length - i) 0 (aw _) av (Ent.refl _) ?_;intro i hi;by_cases a1:i<xs.length
 case neg =>
  refine Jq ?_;intros;exact KX.en ⟨rfl,rfl⟩
 have a2:(i:Int).toNat=i:=ab;have a0:=aI a1;refine Jq ?_;intros;rw[a2];refine GO.ent (Ent.drop.trans ((Ent.d7 (Ent.e7 (f:=noP) a0)).trans (Ent.refl _))) ?_;refine GO.ef (Ef.d8 rfl rfl (hf _ a0 _)) ag ?_;rintro _ _⟨rfl,rfl⟩;refine Jq ?_;intros;refine⟨i+1,ab,ab,?_,by exact ae⟩;rw[aV i];exact av
def encB(b:Bool):Value:=.bool b
def rA{L:LH}(x:ItG):Tri ai 181 #[aN (dE x)] L (fun u L'=>u=.string x.name∧L' = L):=by
 refine Tri.bd ?_;refine Jq ?_;intros;exact KX.d7 al Ent.drop ⟨rfl,rfl⟩
def Ek{L:LH}(ad:OA)(c:Nat)(xs:List ItG)(hl:xs.length≤64)(hd:(xs.map (·.name)).Nodup) :
  Tri ai 180 #[ah ad xs.length c,.func (.func 181) #[] #[]] (isl dE 7 ad xs::L) (fun v L'=>v=.bool true∧L' = isl dE 7 ad xs::L):=by
 refine Tri.bd ?_;refine Jq ?_;intros;refine GO.ef (Ef.d9 kvS encB (.inr ⟨_,_,_,rfl,rfl,ab⟩)) ag ?_;rintro _ _⟨bm,rfl,rfl⟩;refine Jq ?_;intros;refine G.loop (α:=Nat×List (ByteArray×Bool)) (fun x=>x.1≤xs.length∧∀j,x.1≤j→j<xs.length→@List.lookup ByteArray Bool instBEqOfDecidableEq xs[j]!.name x.2=none) (fun x=>[(0,ah ad xs.length c),(1,.func (.func 181) #[] #[]),(5,.map (some bm)),(11,ah ad xs.length c),(12,ac xs.length),(13,ac (x.1:Int))]) (fun x=>gmap kvS encB bm x.2::isl dE 7 ad xs::L) (fun x=>xs.length - x.1) (0,[]) ⟨aw _,fun _ _ _=>rfl⟩ av (Ent.refl _) ?_;rintro⟨i,m⟩ ⟨hi,hm⟩;dsimp only at hi hm ⊢;by_cases a1:i<xs.length
 case neg =>
  refine Jq ?_;intros;exact KX.d7 al Ent.drop ⟨rfl,rfl⟩
 have a2:(i:Int).toNat=i:=ab;refine Jq ?_;intros;rw[a2];refine GO.ef (Ef.g7 (first:=[]) (cap:=[]) (vs:=[aN (dE xs[i]!)]) (rA xs[i]!) rfl rfl) ag ?_;rintro _ _⟨rfl,rfl⟩;refine GO.ev (Ev.e8 (k:=xs[i]!.name) rfl rfl) ag ?_;rw[hm i (aB _) a1];simp only[eK,dY];refine Jq ?_;intros;refine GO.ef (Ef.g7 (first:=[]) (cap:=[]) (vs:=[aN (dE xs[i]!)]) (rA xs[i]!) rfl rfl) ag ?_;rintro _ _⟨rfl,rfl⟩;refine GO.efu (Ef.e7 (k:=xs[i]!.name) (e:=true) rfl rfl rfl rfl) ?_;rintro _ _ rfl;refine Jq ?_;intros;refine⟨(i+1,gins m xs[i]!.name true),⟨by dsimp only;omega,?_⟩,by dsimp only;omega,?_,Ent.d7 Ent.drop⟩
 ·intro j hj a0;dsimp only at hj ⊢;rw[iw,if_neg,hm j ab a0];intro e
  have h1:(xs.map (·.name))[j]'(by simpa using a0)=(xs.map (·.name))[i]'(by simp;omega):=by
   rw[getElem!_of a0,getElem!_of ab] at e;simpa using e
  have:=(fK hd).1 h1
  omega
 ·dsimp only;rw[aV i];exact av
def rr{L:LH}(x:RuV):Tri ai 183 #[aN (cY x)] L (fun u L'=>u=.string x.name∧L' = L):=by
 refine Tri.bd ?_;refine Jq ?_;intros;exact KX.d7 al Ent.drop ⟨rfl,rfl⟩
def Ej{L:LH}(ad:OA)(c:Nat)(xs:List RuV)(hl:xs.length≤64)(hd:(xs.map (·.name)).Nodup) :
  Tri ai 182 #[ah ad xs.length c,.func (.func 183) #[] #[]] (isl cY 9 ad xs::L) (fun v L'=>v=.bool true∧L' = isl cY 9 ad xs::L):=by
 refine Tri.bd ?_;refine Jq ?_;intros;refine GO.ef (Ef.d9 kvS encB (.inr ⟨_,_,_,rfl,rfl,ab⟩)) ag ?_;rintro _ _⟨bm,rfl,rfl⟩;refine Jq ?_;intros;refine G.loop (α:=Nat×List (ByteArray×Bool)) (fun x=>x.1≤xs.length∧∀j,x.1≤j→j<xs.length→@List.lookup ByteArray Bool instBEqOfDecidableEq xs[j]!.name x.2=none) (fun x=>[(0,ah ad xs.length c),(1,.func (.func 183) #[] #[]),(5,.map (some bm)),(11,ah ad xs.length c),(12,ac xs.length),(13,ac (x.1:Int))]) (fun x=>gmap kvS encB bm x.2::isl cY 9 ad xs::L) (fun x=>xs.length - x.1) (0,[]) ⟨aw _,fun _ _ _=>rfl⟩ av (Ent.refl _) ?_;rintro⟨i,m⟩ ⟨hi,hm⟩;dsimp only at hi hm ⊢;by_cases a1:i<xs.length
 case neg =>
  refine Jq ?_;intros;exact KX.d7 al Ent.drop ⟨rfl,rfl⟩
 have a2:(i:Int).toNat=i:=ab;refine Jq ?_;intros;rw[a2];refine GO.ef (Ef.g7 (first:=[]) (cap:=[]) (vs:=[aN (cY xs[i]!)]) (rr xs[i]!) rfl rfl) ag ?_;rintro _ _⟨rfl,rfl⟩;refine GO.ev (Ev.e8 (k:=xs[i]!.name) rfl rfl) ag ?_;rw[hm i (aB _) a1];simp only[eK,dY];refine Jq ?_;intros;refine GO.ef (Ef.g7 (first:=[]) (cap:=[]) (vs:=[aN (cY xs[i]!)]) (rr xs[i]!) rfl rfl) ag ?_;rintro _ _⟨rfl,rfl⟩;refine GO.efu (Ef.e7 (k:=xs[i]!.name) (e:=true) rfl rfl rfl rfl) ?_;rintro _ _ rfl;refine Jq ?_;intros;refine⟨(i+1,gins m xs[i]!.name true),⟨by dsimp only;omega,?_⟩,by dsimp only;omega,?_,Ent.d7 Ent.drop⟩
 ·intro j hj a0;dsimp only at hj ⊢;rw[iw,if_neg,hm j ab a0];intro e
  have h1:(xs.map (·.name))[j]'(by simpa using a0)=(xs.map (·.name))[i]'(by simp;omega):=by
   rw[getElem!_of a0,getElem!_of ab] at e;simpa using e
  have:=(fK hd).1 h1
  omega
 ·dsimp only;rw[aV i];exact av
def pP{L:LH}(x:TbV):Tri ai 185 #[aN (eD x)] L (fun u L'=>u=.string x.name∧L' = L):=by
 refine Tri.bd ?_;refine Jq ?_;intros;exact KX.d7 al Ent.drop ⟨rfl,rfl⟩
def Ei{L:LH}(ad:OA)(c:Nat)(xs:List TbV)(hl:xs.length≤64)(hd:(xs.map (·.name)).Nodup) :
  Tri ai 184 #[ah ad xs.length c,.func (.func 185) #[] #[]] (isl eD 2 ad xs::L) (fun v L'=>v=.bool true∧L' = isl eD 2 ad xs::L):=by
 refine Tri.bd ?_;refine Jq ?_;intros;refine GO.ef (Ef.d9 kvS encB (.inr ⟨_,_,_,rfl,rfl,ab⟩)) ag ?_;rintro _ _⟨bm,rfl,rfl⟩;refine Jq ?_;intros;refine G.loop (α:=Nat×List (ByteArray×Bool)) (fun x=>x.1≤xs.length∧∀j,x.1≤j→j<xs.length→@List.lookup ByteArray Bool instBEqOfDecidableEq xs[j]!.name x.2=none) (fun x=>[(0,ah ad xs.length c),(1,.func (.func 185) #[] #[]),(5,.map (some bm)),(11,ah ad xs.length c),(12,ac xs.length),(13,ac (x.1:Int))]) (fun x=>gmap kvS encB bm x.2::isl eD 2 ad xs::L) (fun x=>xs.length - x.1) (0,[]) ⟨aw _,fun _ _ _=>rfl⟩ av (Ent.refl _) ?_;rintro⟨i,m⟩ ⟨hi,hm⟩;dsimp only at hi hm ⊢;by_cases a1:i<xs.length
 case neg =>
  refine Jq ?_;intros;exact KX.d7 al Ent.drop ⟨rfl,rfl⟩
 have a2:(i:Int).toNat=i:=ab;refine Jq ?_;intros;rw[a2];refine GO.ef (Ef.g7 (first:=[]) (cap:=[]) (vs:=[aN (eD xs[i]!)]) (pP xs[i]!) rfl rfl) ag ?_;rintro _ _⟨rfl,rfl⟩;refine GO.ev (Ev.e8 (k:=xs[i]!.name) rfl rfl) ag ?_;rw[hm i (aB _) a1];simp only[eK,dY];refine Jq ?_;intros;refine GO.ef (Ef.g7 (first:=[]) (cap:=[]) (vs:=[aN (eD xs[i]!)]) (pP xs[i]!) rfl rfl) ag ?_;rintro _ _⟨rfl,rfl⟩;refine GO.efu (Ef.e7 (k:=xs[i]!.name) (e:=true) rfl rfl rfl rfl) ?_;rintro _ _ rfl;refine Jq ?_;intros;refine⟨(i+1,gins m xs[i]!.name true),⟨by dsimp only;omega,?_⟩,by dsimp only;omega,?_,Ent.d7 Ent.drop⟩
 ·intro j hj a0;dsimp only at hj ⊢;rw[iw,if_neg,hm j ab a0];intro e
  have h1:(xs.map (·.name))[j]'(by simpa using a0)=(xs.map (·.name))[i]'(by simp;omega):=by
   rw[getElem!_of a0,getElem!_of ab] at e;simpa using e
  have:=(fK hd).1 h1
  omega
 ·dsimp only;rw[aV i];exact av
def sU{L:LH}(x:TxV):Tri ai 187 #[aN (eC x)] L (fun u L'=>u=.string x.name∧L' = L):=by
 refine Tri.bd ?_;refine Jq ?_;intros;exact KX.d7 al Ent.drop ⟨rfl,rfl⟩
def Eh{L:LH}(ad:OA)(c:Nat)(xs:List TxV)(hl:xs.length≤64)(hd:(xs.map (·.name)).Nodup) :
  Tri ai 186 #[ah ad xs.length c,.func (.func 187) #[] #[]] (isl eC 2 ad xs::L) (fun v L'=>v=.bool true∧L' = isl eC 2 ad xs::L):=by
 refine Tri.bd ?_;refine Jq ?_;intros;refine GO.ef (Ef.d9 kvS encB (.inr ⟨_,_,_,rfl,rfl,ab⟩)) ag ?_;rintro _ _⟨bm,rfl,rfl⟩;refine Jq ?_;intros;refine G.loop (α:=Nat×List (ByteArray×Bool)) (fun x=>x.1≤xs.length∧∀j,x.1≤j→j<xs.length→@List.lookup ByteArray Bool instBEqOfDecidableEq xs[j]!.name x.2=none) (fun x=>[(0,ah ad xs.length c),(1,.func (.func 187) #[] #[]),(5,.map (some bm)),(11,ah ad xs.length c),(12,ac xs.length),(13,ac (x.1:Int))]) (fun x=>gmap kvS encB bm x.2::isl eC 2 ad xs::L) (fun x=>xs.length - x.1) (0,[]) ⟨aw _,fun _ _ _=>rfl⟩ av (Ent.refl _) ?_;rintro⟨i,m⟩ ⟨hi,hm⟩;dsimp only at hi hm ⊢;by_cases a1:i<xs.length
 case neg =>
  refine Jq ?_;intros;exact KX.d7 al Ent.drop ⟨rfl,rfl⟩
 have a2:(i:Int).toNat=i:=ab;refine Jq ?_;intros;rw[a2];refine GO.ef (Ef.g7 (first:=[]) (cap:=[]) (vs:=[aN (eC xs[i]!)]) (sU xs[i]!) rfl rfl) ag ?_;rintro _ _⟨rfl,rfl⟩;refine GO.ev (Ev.e8 (k:=xs[i]!.name) rfl rfl) ag ?_;rw[hm i (aB _) a1];simp only[eK,dY];refine Jq ?_;intros;refine GO.ef (Ef.g7 (first:=[]) (cap:=[]) (vs:=[aN (eC xs[i]!)]) (sU xs[i]!) rfl rfl) ag ?_;rintro _ _⟨rfl,rfl⟩;refine GO.efu (Ef.e7 (k:=xs[i]!.name) (e:=true) rfl rfl rfl rfl) ?_;rintro _ _ rfl;refine Jq ?_;intros;refine⟨(i+1,gins m xs[i]!.name true),⟨by dsimp only;omega,?_⟩,by dsimp only;omega,?_,Ent.d7 Ent.drop⟩
 ·intro j hj a0;dsimp only at hj ⊢;rw[iw,if_neg,hm j ab a0];intro e
  have h1:(xs.map (·.name))[j]'(by simpa using a0)=(xs.map (·.name))[i]'(by simp;omega):=by
   rw[getElem!_of a0,getElem!_of ab] at e;simpa using e
  have:=(fK hd).1 h1
  omega
 ·dsimp only;rw[aV i];exact av
