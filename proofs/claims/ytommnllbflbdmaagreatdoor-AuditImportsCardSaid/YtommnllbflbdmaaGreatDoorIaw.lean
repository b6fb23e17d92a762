/- Lemmas. -/
import Derived.Test.YtommnllbflbdmaaGreatDoorIam
set_option linter.all false
namespace Go.Proofs.YtommnllbflbdmaaGreatDoor
section
open Go.V
attribute [local irreducible] G GO GP GPW GPK Ev Ef EfR Ent CB GB V.Enters
def kindsL:List Int:=[0,0,0,0,0,0,0,0,0,1,1,0,0,0,0,0,0,0,0,0,0,0,0,0,0,0,0,0,0,0,0,0,1,0,0,2,0,0,0,0,7,7,0,7,7,6,7,0,4,4,4,4,4,4,4,4,4,4,7,7,7,7,7,0,0,0,0,0,0,0,0,0,0,0,0,0,0,0,0,0,0,0,0,0,0,0,0,0,0,0,0,0,0,0,0,5,0,3,3,3,3,3,3,3,3,3,3,3,3,3,3,3,3,3,3,3,3,3,3,3,3,3,3,7,0,7,0,0]
abbrev bX:HP:=isl (encZ .u8) 1 (some ⟨2,0,none⟩) kindsL
def sE:kindsL.length=128:=by kernel_rfl
def fY(s:ByteArray)(i:Int):Int:=if i<s.size∧(eh s)[i.toNat]! < 128 then kindsL[((eh s)[i.toNat]!).toNat]! else 0
def lr{L:LH}(s:ByteArray)(i:Int)(h0:0≤i)(hs:s.size≤1000000)[Rds L (some ⟨2,0,none⟩) Int (encZ .u8) 1 kindsL] :
  Tri ag 310 #[.string s,ac i] L (fun v L'=>v=.int .u8 (fY s i)∧L' = L):=by
 have a1:=sE;refine Tri.bd ?_;by_cases h1:i<s.size
 case neg =>
  have e:fY s i=0:=if_neg fun h=>h1 h.1;rw[e];repeat first|refine run ?_|intro
  exact KX.en ⟨rfl,rfl⟩
 have hb:=ug s _ (aG (show i.toNat<(eh s).length by rw[oy];omega));by_cases h2:(eh s)[i.toNat]! < 128
 case neg =>
  have e:fY s i=0:=if_neg fun h=>h2 h.2;rw[e];repeat first|refine run ?_|intro
  exact KX.en ⟨rfl,rfl⟩
 have e:fY s i=kindsL[((eh s)[i.toNat]!).toNat]!:=if_pos ⟨h1,h2⟩;rw[e];obtain⟨c,hc⟩:∃c,(eh s)[i.toNat]! = c:=⟨_,rfl⟩;rw[hc] at hb h2 ⊢;have hm:((eh s)[i.toNat]!).toNat*1=c.toNat*1+0:=by rw[hc];omega
 have a0:0+((eh s)[i.toNat]!).toNat*1=c.toNat*1+0:=by rw[hc];omega
 repeat first|refine run ?_|intro
 refine GO.ev (Ev.q7 (j:=c.toNat) (o:=0) rfl a0 ab ah rfl) ah ?_;repeat first|refine run ?_|intro
 exact KX.en ⟨rfl,rfl⟩
structure IsWord (s:ByteArray):Prop where
 size:1≤s.size∧s.size≤16
 first:fY s 0=3
 rest:∀i:Nat,i<s.size→fY s i=3∨fY s i=4∨fY s i=5
def DB(s:ByteArray):fY s s.size=0:=if_neg fun h=>absurd h.1 ab
def ua{L:LH}(s:ByteArray)(i:Int)(h0:0≤i)(hs:s.size≤1000000)(hk:i<s.size→fY s i≠1∧fY s i≠2)[Rds L (some ⟨2,0,none⟩) Int (encZ .u8) 1 kindsL] :
  Tri ag 296 #[.string s,ac i] L (fun v L'=>v=ac i∧L' = L):=by
 refine Tri.bd ?_;repeat first|refine run ?_|intro
 refine G.e9 1 (GR.step ?_);by_cases h1:i<s.size
 case neg =>
  repeat first|refine run ?_|intro
  exact KX.en ⟨rfl,rfl⟩
 obtain⟨a1,a0⟩:=hk h1;repeat first|refine run ?_|intro
 refine GO.cr (lr s i h0 hs) ?_;repeat first|refine run ?_|intro
 exact KX.en ⟨rfl,rfl⟩
structure Tok where
 kind:Int
 text:ByteArray
 n:Int
 pos:Int
 deriving Inhabited
def encT(t:Tok):LV:=[ac t.kind,.string t.text,ac t.n,ac t.pos]
def rx(t:Tok):∀u∈encT t,u.oneCell' = true:=by simp[encT,Value.oneCell']
instance:EncC encT:=⟨rx⟩
def iF(s:ByteArray):Tok:=⟨0,s,0,0⟩
abbrev tTok:Nat:=303
abbrev yw:List Stp:=[.ev 0,.ev 1,.ev 2,.ev 3,.ev 4,.ev 5,.ev 6,.ev 7,.ev 8,.ev 9,.ef 10]
def gG{φ ψ:Prop}(k:ψ)(h:Hid ψ→φ:=by intro k;(with_reducible apply G.d8);first|refine G.d7 (N:=99) (id:=20) yw mixed aw (Hid.out k)):φ:=h ⟨k⟩
def Do{L:LH}(s:ByteArray)(hw:IsWord s)[Rds L (some ⟨2,0,none⟩) Int (encZ .u8) 1 kindsL] :
  Tri ag 297 #[.string s,ac 0] L (fun v L'=>v=.tuple #[.agg (encT (iF s)).toArray,ac 0]∧L' = L):=by
 have a3:=hw.size;refine Tri.bd ?_;repeat first|refine run ?_|intro _|refine gG ?_
 rename_i b4 b6;refine GO.cr (lr s 0 ah ab) ?_;rw[hw.first];repeat first|refine run ?_|intro _|refine gG ?_
 refine GO.cr (lr s (0+1) ah ab) ?_;repeat first|refine run ?_|intro _|refine gG ?_
 refine G.loop (α:=Nat) (fun e=>1≤e∧e≤s.size) (fun e=>[(0,.string s),(1,ac 0),(4,av b4),(6,av b6),(7,ac (e:Int)),(8,.int .u8 (fY s (e:Int)))])
  (fun _=>obj b6 tTok [ac 0,.string ⟨#[]⟩,ac 0,ac 0]::obj b4 tTok [ac 0,.string ⟨#[]⟩,ac 0,ac 0]::L) (fun e=>s.size - e) 1 ⟨ab,ab⟩ ai (Ent.refl _) ?_
 rintro e ⟨a4,a5⟩;by_cases a2:e<s.size
 case neg =>
  have a1:e=s.size:=ab;subst a1;rw[DB];repeat first|refine run ?_|intro _|refine gG ?_
  rw[Int.toNat_zero,ay,qM];exact KX.d7 (by exact ResOk.cell rfl (by rfl) (ResOk.tmp rfl (ResOk.nil))) (Ent.trans Ent.drop Ent.drop) ⟨rfl,rfl⟩
 have hr:=hw.rest e a2
 have a0:∀{q:Prop},(fY s (e:Int)=3→q)→(fY s (e:Int)≠3→fY s (e:Int)=4→q)→(fY s (e:Int)≠3→fY s (e:Int)≠4→fY s (e:Int)=5→q)→q:=by
  intro q a b c;rcases hr with h|h|h
  ·exact a h
  ·exact b ab h
  ·exact c ab ab h
 refine a0 ?_ ?_ ?_<;>intros
 all_goals
  repeat first|refine run ?_|intro _|refine gG ?_
  refine GO.cr (lr s ((e:Int)+1) ab ab) ?_
  repeat first|refine run ?_|intro _|refine gG ?_
  refine⟨e+1,⟨ab,ab⟩,ab,?_,Ent.refl _⟩
  rw[aK e]
  exact ai
def Fs{L0:LH}(bx:Nat)(s:ByteArray)(hw:IsWord s)[hrd:Rds L0 (some ⟨2,0,none⟩) Int (encZ .u8) 1 kindsL] :
  Iter ag 295 [av bx] [[.agg (encT (iF s)).toArray,ac 0]] (obj bx 9 [.string s]::L0):=by
 have a2:=hw.size;have a1:=hw.first;have a3:(iF s).text.size=s.size:=rfl;intro l J Jx hy;have a0:=hy 0 (by simp);simp only[List.getElem_cons_zero] at a0;show Tri _ _ _ _ (fun _ L'=>L' = J 1::_∨_);refine Tri.bd (args:=[.func (.yield l) #[] #[],av bx]) ?_;repeat first|refine run ?_|intro
 refine GO.cr (ua s 0 ah ab (fun _=>by rw[a1];decide)) ?_;repeat first|refine run ?_|intro
 refine G.e9 2 (GR.step ?_);repeat first|refine run ?_|intro
 refine GO.cr (Do s hw) ?_;repeat first|refine run ?_|intro _
 ((with_reducible apply GO.d8);refine GO.efR (EfR.yield (a0) rfl rfl (by repeat (first|exact Ent.refl _|apply Ent.take))) ah ?_);rintro _ _⟨_,(⟨rfl,rfl⟩|⟨rfl,rfl⟩),hL⟩
 ·simp only[ax,ap] at hL;subst hL;repeat first|refine run ?_|intro
  refine GO.cr (ua s (0+((iF s).text.size:Int)) ab ab (fun h=>absurd h ab)) ?_;repeat first|refine run ?_|intro
  refine GR.step ?_;repeat first|refine run ?_|intro
  exact KX.e9 an (Ent.d7 Ent.drop) (.inl rfl)
 ·simp only[ax,ap] at hL;subst hL;repeat first|refine run ?_|intro
  exact KX.d7 an (Ent.d7 Ent.drop) (.inr ⟨0,rfl⟩)
abbrev Bu:List Stp:=[.ev 0,.ev 1,.ev 2,.ef 3,.ef 4,.ef 5]
def ie{φ ψ:Prop}(k:ψ)(h:Hid ψ→φ:=by intro k;first|refine GO.ci (f:=280) (Hid.out k)|refine GPW.ci (f:=280) (Hid.out k)|refine GO.cf (f:=280) rfl (Hid.out k)|refine GPW.cf (f:=280) rfl (Hid.out k)|refine KX.inA (Hid.out k)):φ:=h ⟨k⟩
def ic{φ ψ:Prop}(k:ψ)(h:Hid ψ→φ:=by intro k;(with_reducible apply G.d8);first|refine G.d7 (N:=25) (id:=8) Bu mixed aw (Hid.out k)):φ:=h ⟨k⟩
def xG{L:LH}(s:ByteArray)(hw:IsWord s)[Rds L (some ⟨2,0,none⟩) Int (encZ .u8) 1 kindsL] :
  Tri ag 251 #[.string s] L (fun v L'=>∃ad cap,v=.tuple #[.slice ad 1 cap,ac 0,ac 0]∧L' = osl encT 4 tTok ad cap [iF s]::L):=by
 have a1:=hw.size;refine Tri.bd ?_;repeat first|refine run ?_|intro _|refine ic ?_|refine ie ?_
 rename_i b2 b3 b4 b5 bx;refine G.rangeFunc (Fs (L0:=L) bx s hw) rfl en295.1 ah (by simp) (fun k=>if k=0 then[obj b5 300 [.slice none 0 0],obj b2 300 [.slice none 0 0],obj b3 3 [ac 0],obj b4 42 [ac 0]] else[hex fun x:OA×Nat=>cM [obj b5 300 [.slice x.1 1 x.2],osl encT 4 tTok x.1 x.2 [iF s]],obj b2 300 [.slice none 0 0],obj b3 3 [ac 0],obj b4 42 [ac 0]]) ?_ ?_ ?_
 ·simp only[if_true,ax,ap];exact ae
 ·intro k hk;have a0:k=0:=by simpa using hk
  subst a0;simp only[if_true,List.getElem_cons_zero,dg,Nat.one_ne_zero,if_false];show G _ _ _ ((14,ac 0)::(13,.agg (encT (iF s)).toArray)::_) _ _;repeat first|refine run ?_|intro _|refine ic ?_|refine ie ?_
  refine GO.ent (Ent.d9 encT 4 tTok) ?_;refine GO.ef (Ef.d7 (enc:=encT) (e:=iF s) rfl rfl rfl rfl rfl (by rfl) (rx _) (by simp) (by simp)) ah ?_;rintro _ _⟨ad2,cap2,rfl,rfl⟩;repeat first|refine run ?_|intro _|refine ic ?_|refine ie ?_
  refine KX.round ?_;refine Ent.trans ?_ (Ent.l7 (ad2,cap2) (Ent.refl _));simp only[ax,ap];exact ae
 simp only[bu,cx,dg,Nat.one_ne_zero,if_false,ax,ap];refine KX.e8 ?_;repeat first|refine run ?_|intro _|refine ic ?_|refine ie ?_
 refine GO.j0 (f:=fun x:OA×Nat=>[obj b5 300 [.slice x.1 1 x.2],osl encT 4 tTok x.1 x.2 [iF s]]) ?_;rintro⟨ad2,cap2⟩;simp only[ax,ap];repeat first|refine run ?_|intro _|refine ic ?_|refine ie ?_
 refine KX.d7 (by exact ResOk.d7 rfl (ResOk.d7 rfl (ResOk.d7 rfl (ResOk.nil)))) ?_ ⟨ad2,cap2,rfl,rfl⟩;exact ae
def ma{L:LH}(s:ByteArray)(hw:IsWord s)[Rds L (some ⟨2,0,none⟩) Int (encZ .u8) 1 kindsL] :
  Tri ag 176 #[.string s] L (fun v L'=>v=.bool true∧L' = L):=by
 have a1:([iF s]).length=1:=rfl;refine Tri.bd ?_;repeat first|refine run ?_|intro
 refine GO.ca (xG s hw) ?_;rintro _ _⟨ad,cap,rfl,rfl⟩;have a0:([iF s]:List Tok)[(0:Int).toNat]! = iF s:=rfl;have a2:(iF s).kind=0:=rfl;repeat first|refine run ?_|intro
 rw[a0];repeat first|refine run ?_|intro
 refine KX.d7 an Ent.drop ⟨?_,rfl⟩;rw[aT (show(iF s).text=s from rfl)];rfl
end
section
open Go.V
def noP{α:Type}(_:α):HP:=dv True
def nK{α:Type}(l:List α){L:LH}:Ent L (allP noP l::L):=fun θ R w s=>by
 obtain⟨ok,ι,h,a,b1,c,d⟩:=s;exact⟨ok,ι,h,a,b1,c,Hp.emp,Hp.emp,h,Hp.d7 _,Hp.d8 _,Hp.d7 _,Hp.sub.refl _,fun _ _=>trivial,d⟩
attribute [local irreducible] G GO GP GPW GPK Ev Ef EfR Ent CB GB V.Enters
def fj{α:Type}(f:FuncId)(cap:LV)(enc:α→LV)(p:α→HP)(C:HP)(x:α):Prop:=∀L:LH,Tri ag f (([]++[Value.agg (enc x).toArray]++cap:LV)).toArray (C::p x::L) (fun v L'=>v=.bool true∧L' = C::p x::L)
def pI{L:LH}(f:FuncId)(cap:LV)(C:HP)(ad:OA)(c:Nat)(xs:List ItG)(hl:xs.length≤64)(hf:∀x∈xs,fj f cap bU noP C x) :
  Tri ag 174 #[.slice ad xs.length c,.func (.func f) #[] cap.toArray] (C::allP noP xs::isl bU 7 ad xs::L) (fun v L'=>v=.bool true∧L' = C::allP noP xs::isl bU 7 ad xs::L):=by
 refine Tri.bd ?_;refine Hz ?_;intros;refine G.loop (α:=Nat) (fun i=>i≤xs.length) (fun i=>[(0,.slice ad xs.length c),(1,.func (.func f) #[] cap.toArray),(7,.slice ad xs.length c),(8,ac xs.length),(9,ac (i:Int))]) (fun _=>C::allP noP xs::isl bU 7 ad xs::L) (fun i=>xs.length - i) 0 (aj _) ai (Ent.refl _) ?_;intro i hi;by_cases a1:i<xs.length
 case neg =>
  refine Hz ?_;intros;exact KX.en ⟨rfl,rfl⟩
 have a2:(i:Int).toNat=i:=ab;have a0:=aG a1;refine Hz ?_;intros;rw[a2];refine GO.ent (Ent.drop.trans ((Ent.d7 (Ent.d8 (f:=noP) a0)).trans (Ent.refl _))) ?_;refine GO.ef (Ef.d8 rfl rfl (hf _ a0 _)) ah ?_;rintro _ _⟨rfl,rfl⟩;refine Hz ?_;intros;refine⟨i+1,ab,ab,?_,by exact ae⟩;rw[aK i];exact ai
def mY{L:LH}(f:FuncId)(cap:LV)(C:HP)(ad:OA)(c:Nat)(xs:List RuV)(hl:xs.length≤64)(hf:∀x∈xs,fj f cap bR ruP C x) :
  Tri ag 168 #[.slice ad xs.length c,.func (.func f) #[] cap.toArray] (C::allP ruP xs::isl bR 9 ad xs::L) (fun v L'=>v=.bool true∧L' = C::allP ruP xs::isl bR 9 ad xs::L):=by
 refine Tri.bd ?_;refine Hz ?_;intros;refine G.loop (α:=Nat) (fun i=>i≤xs.length) (fun i=>[(0,.slice ad xs.length c),(1,.func (.func f) #[] cap.toArray),(7,.slice ad xs.length c),(8,ac xs.length),(9,ac (i:Int))]) (fun _=>C::allP ruP xs::isl bR 9 ad xs::L) (fun i=>xs.length - i) 0 (aj _) ai (Ent.refl _) ?_;intro i hi;by_cases a1:i<xs.length
 case neg =>
  refine Hz ?_;intros;exact KX.en ⟨rfl,rfl⟩
 have a2:(i:Int).toNat=i:=ab;have a0:=aG a1;refine Hz ?_;intros;rw[a2];refine GO.ent (Ent.drop.trans ((Ent.d7 (Ent.d8 (f:=ruP) a0)).trans (Ent.refl _))) ?_;refine GO.ef (Ef.d8 rfl rfl (hf _ a0 _)) ah ?_;rintro _ _⟨rfl,rfl⟩;refine Hz ?_;intros;refine⟨i+1,ab,ab,?_,by exact ae⟩;rw[aK i];exact ai
def mX{L:LH}(f:FuncId)(cap:LV)(C:HP)(ad:OA)(c:Nat)(xs:List TbV)(hl:xs.length≤64)(hf:∀x∈xs,fj f cap cw tbP C x) :
  Tri ag 170 #[.slice ad xs.length c,.func (.func f) #[] cap.toArray] (C::allP tbP xs::isl cw 2 ad xs::L) (fun v L'=>v=.bool true∧L' = C::allP tbP xs::isl cw 2 ad xs::L):=by
 refine Tri.bd ?_;refine Hz ?_;intros;refine G.loop (α:=Nat) (fun i=>i≤xs.length) (fun i=>[(0,.slice ad xs.length c),(1,.func (.func f) #[] cap.toArray),(7,.slice ad xs.length c),(8,ac xs.length),(9,ac (i:Int))]) (fun _=>C::allP tbP xs::isl cw 2 ad xs::L) (fun i=>xs.length - i) 0 (aj _) ai (Ent.refl _) ?_;intro i hi;by_cases a1:i<xs.length
 case neg =>
  refine Hz ?_;intros;exact KX.en ⟨rfl,rfl⟩
 have a2:(i:Int).toNat=i:=ab;have a0:=aG a1;refine Hz ?_;intros;rw[a2];refine GO.ent (Ent.drop.trans ((Ent.d7 (Ent.d8 (f:=tbP) a0)).trans (Ent.refl _))) ?_;refine GO.ef (Ef.d8 rfl rfl (hf _ a0 _)) ah ?_;rintro _ _⟨rfl,rfl⟩;refine Hz ?_;intros;refine⟨i+1,ab,ab,?_,by exact ae⟩;rw[aK i];exact ai
def mW{L:LH}(f:FuncId)(cap:LV)(C:HP)(ad:OA)(c:Nat)(xs:List TxV)(hl:xs.length≤64)(hf:∀x∈xs,fj f cap cv txP C x) :
  Tri ag 172 #[.slice ad xs.length c,.func (.func f) #[] cap.toArray] (C::allP txP xs::isl cv 2 ad xs::L) (fun v L'=>v=.bool true∧L' = C::allP txP xs::isl cv 2 ad xs::L):=by
 refine Tri.bd ?_;refine Hz ?_;intros;refine G.loop (α:=Nat) (fun i=>i≤xs.length) (fun i=>[(0,.slice ad xs.length c),(1,.func (.func f) #[] cap.toArray),(7,.slice ad xs.length c),(8,ac xs.length),(9,ac (i:Int))]) (fun _=>C::allP txP xs::isl cv 2 ad xs::L) (fun i=>xs.length - i) 0 (aj _) ai (Ent.refl _) ?_;intro i hi;by_cases a1:i<xs.length
 case neg =>
  refine Hz ?_;intros;exact KX.en ⟨rfl,rfl⟩
 have a2:(i:Int).toNat=i:=ab;have a0:=aG a1;refine Hz ?_;intros;rw[a2];refine GO.ent (Ent.drop.trans ((Ent.d7 (Ent.d8 (f:=txP) a0)).trans (Ent.refl _))) ?_;refine GO.ef (Ef.d8 rfl rfl (hf _ a0 _)) ah ?_;rintro _ _⟨rfl,rfl⟩;refine Hz ?_;intros;refine⟨i+1,ab,ab,?_,by exact ae⟩;rw[aK i];exact ai
def pH{L:LH}(f:FuncId)(cap:LV)(C:HP)(ad:OA)(c:Nat)(xs:List RwV)(hl:xs.length≤64)(hf:∀x∈xs,fj f cap eN rwP C x) :
  Tri ag 194 #[.slice ad xs.length c,.func (.func f) #[] cap.toArray] (C::allP rwP xs::isl eN 2 ad xs::L) (fun v L'=>v=.bool true∧L' = C::allP rwP xs::isl eN 2 ad xs::L):=by
 refine Tri.bd ?_;refine Hz ?_;intros;refine G.loop (α:=Nat) (fun i=>i≤xs.length) (fun i=>[(0,.slice ad xs.length c),(1,.func (.func f) #[] cap.toArray),(7,.slice ad xs.length c),(8,ac xs.length),(9,ac (i:Int))]) (fun _=>C::allP rwP xs::isl eN 2 ad xs::L) (fun i=>xs.length - i) 0 (aj _) ai (Ent.refl _) ?_;intro i hi;by_cases a1:i<xs.length
 case neg =>
  refine Hz ?_;intros;exact KX.en ⟨rfl,rfl⟩
 have a2:(i:Int).toNat=i:=ab;have a0:=aG a1;refine Hz ?_;intros;rw[a2];refine GO.ent (Ent.drop.trans ((Ent.d7 (Ent.d8 (f:=rwP) a0)).trans (Ent.refl _))) ?_;refine GO.ef (Ef.d8 rfl rfl (hf _ a0 _)) ah ?_;rintro _ _⟨rfl,rfl⟩;refine Hz ?_;intros;refine⟨i+1,ab,ab,?_,by exact ae⟩;rw[aK i];exact ai
def Ed{L:LH}(f:FuncId)(cap:LV)(C:HP)(ad:OA)(c:Nat)(xs:List (Int×Int))(hl:xs.length≤64)(hf:∀x∈xs,fj f cap bM noP C x) :
  Tri ag 198 #[.slice ad xs.length c,.func (.func f) #[] cap.toArray] (C::allP noP xs::isl bM 2 ad xs::L) (fun v L'=>v=.bool true∧L' = C::allP noP xs::isl bM 2 ad xs::L):=by
 refine Tri.bd ?_;refine Hz ?_;intros;refine G.loop (α:=Nat) (fun i=>i≤xs.length) (fun i=>[(0,.slice ad xs.length c),(1,.func (.func f) #[] cap.toArray),(7,.slice ad xs.length c),(8,ac xs.length),(9,ac (i:Int))]) (fun _=>C::allP noP xs::isl bM 2 ad xs::L) (fun i=>xs.length - i) 0 (aj _) ai (Ent.refl _) ?_;intro i hi;by_cases a1:i<xs.length
 case neg =>
  refine Hz ?_;intros;exact KX.en ⟨rfl,rfl⟩
 have a2:(i:Int).toNat=i:=ab;have a0:=aG a1;refine Hz ?_;intros;rw[a2];refine GO.ent (Ent.drop.trans ((Ent.d7 (Ent.d8 (f:=noP) a0)).trans (Ent.refl _))) ?_;refine GO.ef (Ef.d8 rfl rfl (hf _ a0 _)) ah ?_;rintro _ _⟨rfl,rfl⟩;refine Hz ?_;intros;refine⟨i+1,ab,ab,?_,by exact ae⟩;rw[aK i];exact ai
def Ec{L:LH}(f:FuncId)(cap:LV)(C:HP)(ad:OA)(c:Nat)(xs:List (Int×Int))(hl:xs.length≤64)(hf:∀x∈xs,fj f cap bM noP C x) :
  Tri ag 253 #[.slice ad xs.length c,.func (.func f) #[] cap.toArray] (C::allP noP xs::isl bM 2 ad xs::L) (fun v L'=>v=.bool true∧L' = C::allP noP xs::isl bM 2 ad xs::L):=by
 refine Tri.bd ?_;refine Hz ?_;intros;refine G.loop (α:=Nat) (fun i=>i≤xs.length) (fun i=>[(0,.slice ad xs.length c),(1,.func (.func f) #[] cap.toArray),(7,.slice ad xs.length c),(8,ac xs.length),(9,ac (i:Int))]) (fun _=>C::allP noP xs::isl bM 2 ad xs::L) (fun i=>xs.length - i) 0 (aj _) ai (Ent.refl _) ?_;intro i hi;by_cases a1:i<xs.length
 case neg =>
  refine Hz ?_;intros;exact KX.en ⟨rfl,rfl⟩
 have a2:(i:Int).toNat=i:=ab;have a0:=aG a1;refine Hz ?_;intros;rw[a2];refine GO.ent (Ent.drop.trans ((Ent.d7 (Ent.d8 (f:=noP) a0)).trans (Ent.refl _))) ?_;refine GO.ef (Ef.d8 rfl rfl (hf _ a0 _)) ah ?_;rintro _ _⟨rfl,rfl⟩;refine Hz ?_;intros;refine⟨i+1,ab,ab,?_,by exact ae⟩;rw[aK i];exact ai
def encB(b:Bool):Value:=.bool b
def qC{L:LH}(x:ItG):Tri ag 181 #[.agg (bU x).toArray] L (fun u L'=>u=.string x.name∧L' = L):=by
 refine Tri.bd ?_;refine Hz ?_;intros;exact KX.d7 an Ent.drop ⟨rfl,rfl⟩
def Cp{L:LH}(ad:OA)(c:Nat)(xs:List ItG)(hl:xs.length≤64)(hd:(xs.map (·.name)).Nodup) :
  Tri ag 180 #[.slice ad xs.length c,.func (.func 181) #[] #[]] (isl bU 7 ad xs::L) (fun v L'=>v=.bool true∧L' = isl bU 7 ad xs::L):=by
 refine Tri.bd ?_;refine Hz ?_;intros;refine GO.ef (Ef.d9 kvS encB (.inr ⟨_,_,_,rfl,rfl,ab⟩)) ah ?_;rintro _ _⟨bm,rfl,rfl⟩;refine Hz ?_;intros;refine G.loop (α:=Nat×List (ByteArray×Bool)) (fun x=>x.1≤xs.length∧∀j,x.1≤j→j<xs.length→@List.lookup ByteArray Bool instBEqOfDecidableEq xs[j]!.name x.2=none) (fun x=>[(0,.slice ad xs.length c),(1,.func (.func 181) #[] #[]),(5,.map (some bm)),(11,.slice ad xs.length c),(12,ac xs.length),(13,ac (x.1:Int))]) (fun x=>gmap kvS encB bm x.2::isl bU 7 ad xs::L) (fun x=>xs.length - x.1) (0,[]) ⟨aj _,fun _ _ _=>rfl⟩ ai (Ent.refl _) ?_;rintro⟨i,m⟩ ⟨hi,hm⟩;dsimp only at hi hm ⊢;by_cases a1:i<xs.length
 case neg =>
  refine Hz ?_;intros;exact KX.d7 an Ent.drop ⟨rfl,rfl⟩
 have a2:(i:Int).toNat=i:=ab;refine Hz ?_;intros;rw[a2];refine GO.ef (Ef.g9 (first:=[]) (cap:=[]) (vs:=[.agg (bU xs[i]!).toArray]) (qC xs[i]!) rfl rfl) ah ?_;rintro _ _⟨rfl,rfl⟩;refine GO.ev (Ev.d7 (k:=xs[i]!.name) rfl rfl) ah ?_;rw[hm i (aB _) a1];simp only[fN,fF];refine Hz ?_;intros;refine GO.ef (Ef.g9 (first:=[]) (cap:=[]) (vs:=[.agg (bU xs[i]!).toArray]) (qC xs[i]!) rfl rfl) ah ?_;rintro _ _⟨rfl,rfl⟩;refine GO.efu (Ef.e8 (k:=xs[i]!.name) (e:=true) rfl rfl rfl rfl) ?_;rintro _ _ rfl;refine Hz ?_;intros;refine⟨(i+1,gins m xs[i]!.name true),⟨by dsimp only;omega,?_⟩,by dsimp only;omega,?_,Ent.d7 Ent.drop⟩
 ·intro j hj a0;dsimp only at hj ⊢;rw[ix,if_neg,hm j ab a0];intro e
  have h1:(xs.map (·.name))[j]'(by simpa using a0)=(xs.map (·.name))[i]'(by simp;omega):=by
   rw[getElem!_of a0,getElem!_of ab] at e;simpa using e
  have:=(eX hd).1 h1
  omega
 ·dsimp only;rw[aK i];exact ai
def qv{L:LH}(x:RuV):Tri ag 183 #[.agg (bR x).toArray] L (fun u L'=>u=.string x.name∧L' = L):=by
 refine Tri.bd ?_;refine Hz ?_;intros;exact KX.d7 an Ent.drop ⟨rfl,rfl⟩
def Co{L:LH}(ad:OA)(c:Nat)(xs:List RuV)(hl:xs.length≤64)(hd:(xs.map (·.name)).Nodup) :
  Tri ag 182 #[.slice ad xs.length c,.func (.func 183) #[] #[]] (isl bR 9 ad xs::L) (fun v L'=>v=.bool true∧L' = isl bR 9 ad xs::L):=by
 refine Tri.bd ?_;refine Hz ?_;intros;refine GO.ef (Ef.d9 kvS encB (.inr ⟨_,_,_,rfl,rfl,ab⟩)) ah ?_;rintro _ _⟨bm,rfl,rfl⟩;refine Hz ?_;intros;refine G.loop (α:=Nat×List (ByteArray×Bool)) (fun x=>x.1≤xs.length∧∀j,x.1≤j→j<xs.length→@List.lookup ByteArray Bool instBEqOfDecidableEq xs[j]!.name x.2=none) (fun x=>[(0,.slice ad xs.length c),(1,.func (.func 183) #[] #[]),(5,.map (some bm)),(11,.slice ad xs.length c),(12,ac xs.length),(13,ac (x.1:Int))]) (fun x=>gmap kvS encB bm x.2::isl bR 9 ad xs::L) (fun x=>xs.length - x.1) (0,[]) ⟨aj _,fun _ _ _=>rfl⟩ ai (Ent.refl _) ?_;rintro⟨i,m⟩ ⟨hi,hm⟩;dsimp only at hi hm ⊢;by_cases a1:i<xs.length
 case neg =>
  refine Hz ?_;intros;exact KX.d7 an Ent.drop ⟨rfl,rfl⟩
 have a2:(i:Int).toNat=i:=ab;refine Hz ?_;intros;rw[a2];refine GO.ef (Ef.g9 (first:=[]) (cap:=[]) (vs:=[.agg (bR xs[i]!).toArray]) (qv xs[i]!) rfl rfl) ah ?_;rintro _ _⟨rfl,rfl⟩;refine GO.ev (Ev.d7 (k:=xs[i]!.name) rfl rfl) ah ?_;rw[hm i (aB _) a1];simp only[fN,fF];refine Hz ?_;intros;refine GO.ef (Ef.g9 (first:=[]) (cap:=[]) (vs:=[.agg (bR xs[i]!).toArray]) (qv xs[i]!) rfl rfl) ah ?_;rintro _ _⟨rfl,rfl⟩;refine GO.efu (Ef.e8 (k:=xs[i]!.name) (e:=true) rfl rfl rfl rfl) ?_;rintro _ _ rfl;refine Hz ?_;intros;refine⟨(i+1,gins m xs[i]!.name true),⟨by dsimp only;omega,?_⟩,by dsimp only;omega,?_,Ent.d7 Ent.drop⟩
 ·intro j hj a0;dsimp only at hj ⊢;rw[ix,if_neg,hm j ab a0];intro e
  have h1:(xs.map (·.name))[j]'(by simpa using a0)=(xs.map (·.name))[i]'(by simp;omega):=by
   rw[getElem!_of a0,getElem!_of ab] at e;simpa using e
  have:=(eX hd).1 h1
  omega
 ·dsimp only;rw[aK i];exact ai
def oY{L:LH}(x:TbV):Tri ag 185 #[.agg (cw x).toArray] L (fun u L'=>u=.string x.name∧L' = L):=by
 refine Tri.bd ?_;refine Hz ?_;intros;exact KX.d7 an Ent.drop ⟨rfl,rfl⟩
def Cn{L:LH}(ad:OA)(c:Nat)(xs:List TbV)(hl:xs.length≤64)(hd:(xs.map (·.name)).Nodup) :
  Tri ag 184 #[.slice ad xs.length c,.func (.func 185) #[] #[]] (isl cw 2 ad xs::L) (fun v L'=>v=.bool true∧L' = isl cw 2 ad xs::L):=by
 refine Tri.bd ?_;refine Hz ?_;intros;refine GO.ef (Ef.d9 kvS encB (.inr ⟨_,_,_,rfl,rfl,ab⟩)) ah ?_;rintro _ _⟨bm,rfl,rfl⟩;refine Hz ?_;intros;refine G.loop (α:=Nat×List (ByteArray×Bool)) (fun x=>x.1≤xs.length∧∀j,x.1≤j→j<xs.length→@List.lookup ByteArray Bool instBEqOfDecidableEq xs[j]!.name x.2=none) (fun x=>[(0,.slice ad xs.length c),(1,.func (.func 185) #[] #[]),(5,.map (some bm)),(11,.slice ad xs.length c),(12,ac xs.length),(13,ac (x.1:Int))]) (fun x=>gmap kvS encB bm x.2::isl cw 2 ad xs::L) (fun x=>xs.length - x.1) (0,[]) ⟨aj _,fun _ _ _=>rfl⟩ ai (Ent.refl _) ?_;rintro⟨i,m⟩ ⟨hi,hm⟩;dsimp only at hi hm ⊢;by_cases a1:i<xs.length
 case neg =>
  refine Hz ?_;intros;exact KX.d7 an Ent.drop ⟨rfl,rfl⟩
 have a2:(i:Int).toNat=i:=ab;refine Hz ?_;intros;rw[a2];refine GO.ef (Ef.g9 (first:=[]) (cap:=[]) (vs:=[.agg (cw xs[i]!).toArray]) (oY xs[i]!) rfl rfl) ah ?_;rintro _ _⟨rfl,rfl⟩;refine GO.ev (Ev.d7 (k:=xs[i]!.name) rfl rfl) ah ?_;rw[hm i (aB _) a1];simp only[fN,fF];refine Hz ?_;intros;refine GO.ef (Ef.g9 (first:=[]) (cap:=[]) (vs:=[.agg (cw xs[i]!).toArray]) (oY xs[i]!) rfl rfl) ah ?_;rintro _ _⟨rfl,rfl⟩;refine GO.efu (Ef.e8 (k:=xs[i]!.name) (e:=true) rfl rfl rfl rfl) ?_;rintro _ _ rfl;refine Hz ?_;intros;refine⟨(i+1,gins m xs[i]!.name true),⟨by dsimp only;omega,?_⟩,by dsimp only;omega,?_,Ent.d7 Ent.drop⟩
 ·intro j hj a0;dsimp only at hj ⊢;rw[ix,if_neg,hm j ab a0];intro e
  have h1:(xs.map (·.name))[j]'(by simpa using a0)=(xs.map (·.name))[i]'(by simp;omega):=by
   rw[getElem!_of a0,getElem!_of ab] at e;simpa using e
  have:=(eX hd).1 h1
  omega
 ·dsimp only;rw[aK i];exact ai
def rO{L:LH}(x:TxV):Tri ag 187 #[.agg (cv x).toArray] L (fun u L'=>u=.string x.name∧L' = L):=by
 refine Tri.bd ?_;refine Hz ?_;intros;exact KX.d7 an Ent.drop ⟨rfl,rfl⟩
def Cm{L:LH}(ad:OA)(c:Nat)(xs:List TxV)(hl:xs.length≤64)(hd:(xs.map (·.name)).Nodup) :
  Tri ag 186 #[.slice ad xs.length c,.func (.func 187) #[] #[]] (isl cv 2 ad xs::L) (fun v L'=>v=.bool true∧L' = isl cv 2 ad xs::L):=by
 refine Tri.bd ?_;refine Hz ?_;intros;refine GO.ef (Ef.d9 kvS encB (.inr ⟨_,_,_,rfl,rfl,ab⟩)) ah ?_;rintro _ _⟨bm,rfl,rfl⟩;refine Hz ?_;intros;refine G.loop (α:=Nat×List (ByteArray×Bool)) (fun x=>x.1≤xs.length∧∀j,x.1≤j→j<xs.length→@List.lookup ByteArray Bool instBEqOfDecidableEq xs[j]!.name x.2=none) (fun x=>[(0,.slice ad xs.length c),(1,.func (.func 187) #[] #[]),(5,.map (some bm)),(11,.slice ad xs.length c),(12,ac xs.length),(13,ac (x.1:Int))]) (fun x=>gmap kvS encB bm x.2::isl cv 2 ad xs::L) (fun x=>xs.length - x.1) (0,[]) ⟨aj _,fun _ _ _=>rfl⟩ ai (Ent.refl _) ?_;rintro⟨i,m⟩ ⟨hi,hm⟩;dsimp only at hi hm ⊢;by_cases a1:i<xs.length
 case neg =>
  refine Hz ?_;intros;exact KX.d7 an Ent.drop ⟨rfl,rfl⟩
 have a2:(i:Int).toNat=i:=ab;refine Hz ?_;intros;rw[a2];refine GO.ef (Ef.g9 (first:=[]) (cap:=[]) (vs:=[.agg (cv xs[i]!).toArray]) (rO xs[i]!) rfl rfl) ah ?_;rintro _ _⟨rfl,rfl⟩;refine GO.ev (Ev.d7 (k:=xs[i]!.name) rfl rfl) ah ?_;rw[hm i (aB _) a1];simp only[fN,fF];refine Hz ?_;intros;refine GO.ef (Ef.g9 (first:=[]) (cap:=[]) (vs:=[.agg (cv xs[i]!).toArray]) (rO xs[i]!) rfl rfl) ah ?_;rintro _ _⟨rfl,rfl⟩;refine GO.efu (Ef.e8 (k:=xs[i]!.name) (e:=true) rfl rfl rfl rfl) ?_;rintro _ _ rfl;refine Hz ?_;intros;refine⟨(i+1,gins m xs[i]!.name true),⟨by dsimp only;omega,?_⟩,by dsimp only;omega,?_,Ent.d7 Ent.drop⟩
 ·intro j hj a0;dsimp only at hj ⊢;rw[ix,if_neg,hm j ab a0];intro e
  have h1:(xs.map (·.name))[j]'(by simpa using a0)=(xs.map (·.name))[i]'(by simp;omega):=by
   rw[getElem!_of a0,getElem!_of ab] at e;simpa using e
  have:=(eX hd).1 h1
  omega
 ·dsimp only;rw[aK i];exact ai
