/- Lemmas and contracts of functions. -/
import Derived.Test.YtommnllbflbdmaaGreatDoorGAuditTotalsaj
import Derived.Test.YtommnllbflbdmaaGreatDoorGAuditTotalsam
set_option linter.all false
namespace Go.Proofs.YtommnllbflbdmaaGreatDoor
section
open Go.V
attribute [local irreducible] G GO GP GPW GPK Ev Ef EfR Ent CB GB V.Enters
def kindsL:List Int:=[0,0,0,0,0,0,0,0,0,1,1,0,0,0,0,0,0,0,0,0,0,0,0,0,0,0,0,0,0,0,0,0,1,0,0,2,0,0,0,0,7,7,0,7,7,6,7,0,4,4,4,4,4,4,4,4,4,4,7,7,7,7,7,0,0,0,0,0,0,0,0,0,0,0,0,0,0,0,0,0,0,0,0,0,0,0,0,0,0,0,0,0,0,0,0,5,0,3,3,3,3,3,3,3,3,3,3,3,3,3,3,3,3,3,3,3,3,3,3,3,3,3,3,7,0,7,0,0]
abbrev cu:HP:=isl (encZ .u8) 1 (some ⟨2,0,none⟩) kindsL
theorem rr:kindsL.length=128:=by kernel_rfl
def gd (s:ByteArray) (i:Int):Int:=if i<s.size∧(fG s)[i.toNat]! < 128 then kindsL[((fG s)[i.toNat]!).toNat]! else 0
theorem ky {L:List HP} (s:ByteArray) (i:Int) (h0:0≤i) (hs:s.size≤1000000) [Rds L (some ⟨2,0,none⟩) Int (encZ .u8) 1 kindsL] :
  Tri Tryz.prog 310 #[.string s,.int .i64 i] L (fun v L'=>v=.int .u8 (gd s i)∧L' = L):=by
 have hkl:=rr
 refine Tri.body (args:=[.string s,.int .i64 i]) 20 FG Tryz.func310 rfl rfl rfl (by simp) ?_
 by_cases h1:i<s.size
 case neg =>
  have e:gd s i=0:=if_neg fun h=>h1 h.1
  rw [e]
  repeat first|refine run ?_|intro
  exact KX.d7 ag (Ent.refl _) ⟨rfl,rfl⟩
 have hb:=BI s _ (aG (show i.toNat<(fG s).length by rw [rm];omega))
 by_cases h2:(fG s)[i.toNat]! < 128
 case neg =>
  have e:gd s i=0:=if_neg fun h=>h2 h.2
  rw [e]
  repeat first|refine run ?_|intro
  exact KX.d7 ag (Ent.refl _) ⟨rfl,rfl⟩
 have e:gd s i=kindsL[((fG s)[i.toNat]!).toNat]!:=if_pos ⟨h1,h2⟩
 rw [e]
 obtain ⟨c,hc⟩:∃ c,(fG s)[i.toNat]! = c:=⟨_,rfl⟩
 rw [hc] at hb h2 ⊢
 have hm:((fG s)[i.toNat]!).toNat*1=c.toNat*1+0:=by rw [hc];omega
 have hm2:0+((fG s)[i.toNat]!).toNat*1=c.toNat*1+0:=by rw [hc];omega
 repeat first|refine run ?_|intro
 refine GO.ev (Ev.o6 (j:=c.toNat) (o:=0) rfl hm2 ab ac rfl) ac ?_
 repeat first|refine run ?_|intro
 exact KX.d7 ag (Ent.refl _) ⟨rfl,rfl⟩
structure IsWord (s:ByteArray):Prop where
 size:1≤s.size∧s.size≤16
 first:gd s 0=3
 rest:∀ i:Nat,i<s.size→gd s i=3∨gd s i=4∨gd s i=5
theorem BX (s:ByteArray):gd s s.size=0:=if_neg fun h=>absurd h.1 ab
theorem sF {L:List HP} (s:ByteArray) (i:Int) (h0:0≤i) (hs:s.size≤1000000) (hk:i<s.size→gd s i≠1∧gd s i≠2) [Rds L (some ⟨2,0,none⟩) Int (encZ .u8) 1 kindsL] :
  Tri Tryz.prog 296 #[.string s,.int .i64 i] L (fun v L'=>v=.int .i64 i∧L' = L):=by
 refine Tri.body (args:=[.string s,.int .i64 i]) 32 FO Tryz.func296 rfl rfl rfl (by simp) ?_
 repeat first|refine run ?_|intro
 refine G.e9 1 (GR.step ?_)
 by_cases h1:i<s.size
 case neg =>
  repeat first|refine run ?_|intro
  exact KX.d7 ag (Ent.refl _) ⟨rfl,rfl⟩
 obtain ⟨hk1,hk2⟩:=hk h1
 repeat first|refine run ?_|intro
 refine GO.ef (Ef.d7 (ky s i h0 hs) rfl) ac ?_
 rintro _ _ ⟨rfl,rfl⟩
 repeat first|refine run ?_|intro
 exact KX.d7 ag (Ent.refl _) ⟨rfl,rfl⟩
structure Tok where
 kind:Int
 text:ByteArray
 n:Int
 pos:Int
 deriving Inhabited
def encT (t:Tok):List Value:=[.int .i64 t.kind,.string t.text,.int .i64 t.n,.int .i64 t.pos]
theorem vO (t:Tok):∀ u∈encT t,u.oneCell' = true:=by simp [encT,Value.oneCell']
instance:EncC encT:=⟨vO⟩
def iW (s:ByteArray):Tok:=⟨0,s,0,0⟩
abbrev tTok:Nat:=303
abbrev xd:List Stp:=[.ev 0,.ev 1,.ev 2,.ev 3,.ev 4,.ev 5,.ev 6,.ev 7,.ev 8,.ev 9,.ef 10]
theorem gm {φ ψ:Prop} (k:ψ) (h:Hid ψ→φ:=by intro k;(with_reducible apply G.d8);first|refine G.d7 (N:=99) (id:=20) xd mixed an (Hid.out k)):φ:=h ⟨k⟩
theorem BJ {L:List HP} (s:ByteArray) (hw:IsWord s) [Rds L (some ⟨2,0,none⟩) Int (encZ .u8) 1 kindsL] :
  Tri Tryz.prog 297 #[.string s,.int .i64 0] L (fun v L'=>v=.tuple #[.agg (encT (iW s)).toArray,.int .i64 0]∧L' = L):=by
 have hsz:=hw.size
 refine Tri.body (args:=[.string s,.int .i64 0]) 99 FN Tryz.func297 rfl rfl rfl (by simp) ?_
 repeat first|refine run ?_|intro _|refine gm ?_
 rename_i b4 b6
 refine GO.ef (Ef.d7 (ky s 0 ac ab) rfl) ac ?_
 rintro _ _ ⟨rfl,rfl⟩
 rw [hw.first]
 repeat first|refine run ?_|intro _|refine gm ?_
 refine GO.ef (Ef.d7 (ky s (0+1) ac ab) rfl) ac ?_
 rintro _ _ ⟨rfl,rfl⟩
 repeat first|refine run ?_|intro _|refine gm ?_
 refine G.loop (α:=Nat) (fun e=>1≤e∧e≤s.size) (fun e=>[(0,.string s),(1,.int .i64 0),(4,.pointer (some ⟨b4,0,none⟩)),(6,.pointer (some ⟨b6,0,none⟩)),(7,.int .i64 (e:Int)),(8,.int .u8 (gd s (e:Int)))])
  (fun _=>obj b6 tTok [.int .i64 0,.string ⟨#[]⟩,.int .i64 0,.int .i64 0]::obj b4 tTok [.int .i64 0,.string ⟨#[]⟩,.int .i64 0,.int .i64 0]::L) (fun e=>s.size - e) 1 ⟨ab,ab⟩ ai (Ent.refl _) ?_
 rintro e ⟨he1,he2⟩
 by_cases hlt:e<s.size
 case neg =>
  have hes:e=s.size:=ab
  subst hes
  rw [BX]
  repeat first|refine run ?_|intro _|refine gm ?_
  rw [Int.toNat_zero,av,yj]
  exact KX.d7 (by exact ResOk.cell rfl (by rfl) (ResOk.tmp rfl (ResOk.nil))) (Ent.trans Ent.drop Ent.drop) ⟨rfl,rfl⟩
 have hr:=hw.rest e hlt
 have hgo:∀ {q:Prop},(gd s (e:Int)=3→q)→(gd s (e:Int)≠3→gd s (e:Int)=4→q)→(gd s (e:Int)≠3→gd s (e:Int)≠4→gd s (e:Int)=5→q)→q:=by
  intro q a b c
  rcases hr with h|h|h
  ·exact a h
  ·exact b ab h
  ·exact c ab ab h
 refine hgo ?_ ?_ ?_<;>intros
 all_goals
  repeat first|refine run ?_|intro _|refine gm ?_
  refine GO.ef (Ef.d7 (ky s ((e:Int)+1) ab ab) rfl) ac ?_
  rintro _ _ ⟨rfl,rfl⟩
  repeat first|refine run ?_|intro _|refine gm ?_
  refine ⟨e+1,⟨ab,ab⟩,ab,?_,Ent.refl _⟩
  rw [aM e]
  exact ai
theorem DD {L0:List HP} (bx:Nat) (s:ByteArray) (hw:IsWord s) [hrd:Rds L0 (some ⟨2,0,none⟩) Int (encZ .u8) 1 kindsL] :
  Iter Tryz.prog 295 [.pointer (some ⟨bx,0,none⟩)] [[.agg (encT (iW s)).toArray,.int .i64 0]] (obj bx 9 [.string s]::L0):=by
 have hsz:=hw.size
 have hk0:=hw.first
 have hts:(iW s).text.size=s.size:=rfl
 intro l J Jx hy
 have hy0:=hy 0 (by simp)
 simp only [List.getElem_cons_zero] at hy0
 show Tri _ _ _ _ (fun _ L'=>L' = J 1::_∨_)
 refine Tri.body (args:=[.func (.yield l) #[] #[],.pointer (some ⟨bx,0,none⟩)]) 34 DO Tryz.func295 rfl rfl rfl (by simp) ?_
 repeat first|refine run ?_|intro
 refine GO.ef (Ef.d7 (sF s 0 ac ab (fun _=>by rw [hk0];decide)) rfl) ac ?_
 rintro _ _ ⟨rfl,rfl⟩
 repeat first|refine run ?_|intro
 refine G.e9 2 (GR.step ?_)
 repeat first|refine run ?_|intro
 refine GO.ef (Ef.d7 (BJ s hw) rfl) ac ?_
 rintro _ _ ⟨rfl,rfl⟩
 repeat first|refine run ?_|intro _
 ((with_reducible apply GO.d7);refine GO.efR (EfR.yield (hy0) rfl rfl (by repeat (first|exact Ent.refl _|apply Ent.take))) ac ?_)
 rintro _ _ ⟨_,(⟨rfl,rfl⟩|⟨rfl,rfl⟩),hL⟩
 ·simp only [aq,aj] at hL;subst hL
  repeat first|refine run ?_|intro
  refine GO.ef (Ef.d7 (sF s (0+((iW s).text.size:Int)) ab ab (fun h=>absurd h ab)) rfl) ac ?_
  rintro _ _ ⟨rfl,rfl⟩
  repeat first|refine run ?_|intro
  refine GR.step ?_
  repeat first|refine run ?_|intro
  exact KX.e8 ag (Ent.d7 Ent.drop) (.inl rfl)
 ·simp only [aq,aj] at hL;subst hL
  repeat first|refine run ?_|intro
  exact KX.d7 ag (Ent.d7 Ent.drop) (.inr ⟨0,rfl⟩)
abbrev zW:List Stp:=[.ev 0,.ev 1,.ev 2,.ef 3,.ef 4,.ef 5]
theorem gS {φ ψ:Prop} (k:ψ) (h:Hid ψ→φ:=by intro k;first|((with_reducible apply GO.d7);refine GO.e7 uc Tryz.func280 rfl rfl rfl rfl (by simp) ac (Hid.out k))|((with_reducible apply GPW.d7);refine GPW.e7 uc Tryz.func280 rfl rfl rfl rfl (by simp) ac (Hid.out k))|((with_reducible apply GO.d7);refine GO.d8 rfl uc Tryz.func280 rfl rfl rfl rfl (by simp) ac (Hid.out k))|((with_reducible apply GPW.d7);refine GPW.d8 rfl uc Tryz.func280 rfl rfl rfl rfl (by simp) ac (Hid.out k))|((with_reducible apply KX.f7);first|refine KX.in0 (.inl rfl) (Hid.out k)|refine KX.in0 (.inr rfl) (Hid.out k)|refine KX.in1 (.inl rfl) rfl (Hid.out k)|refine KX.in2 (.inl rfl) rfl rfl (Hid.out k)|refine KX.in3 (.inl rfl) rfl rfl rfl (Hid.out k)|refine KX.inC (.inl rfl) rfl (by rfl) (Hid.out k)|refine KX.e9 (.inl rfl) rfl (by rfl) rfl (Hid.out k))):φ:=h ⟨k⟩
theorem gR {φ ψ:Prop} (k:ψ) (h:Hid ψ→φ:=by intro k;(with_reducible apply G.d8);first|refine G.d7 (N:=25) (id:=8) zW mixed an (Hid.out k)):φ:=h ⟨k⟩
theorem wn {L:List HP} (s:ByteArray) (hw:IsWord s) [Rds L (some ⟨2,0,none⟩) Int (encZ .u8) 1 kindsL] :
  Tri Tryz.prog 251 #[.string s] L (fun v L'=>∃ ad cap,v=.tuple #[.slice ad 1 cap,.int .i64 0,.int .i64 0]∧L' = osl encT 4 tTok ad cap [iW s]::L):=by
 have hsz:=hw.size
 refine Tri.body (args:=[.string s]) 25 Gq Tryz.func251 rfl rfl rfl (by simp) ?_
 repeat first|refine run ?_|intro _|refine gR ?_|refine gS ?_
 rename_i b2 b3 b4 b5 bx
 refine G.rangeFunc (DD (L0:=L) bx s hw) rfl DO ac (by simp) (fun k=>if k=0 then [obj b5 300 [.slice none 0 0],obj b2 300 [.slice none 0 0],obj b3 3 [.int .i64 0],obj b4 42 [.int .i64 0]] else [hex fun x:Option Addr×Nat=>cv [obj b5 300 [.slice x.1 1 x.2],osl encT 4 tTok x.1 x.2 [iW s]],obj b2 300 [.slice none 0 0],obj b3 3 [.int .i64 0],obj b4 42 [.int .i64 0]]) ?_ ?_ ?_
 ·simp only [if_true,aq,aj]
  exact ae
 ·intro k hk
  have hk0:k=0:=by simpa using hk
  subst hk0
  simp only [if_true,List.getElem_cons_zero,cD,Nat.one_ne_zero,if_false]
  show G _ _ _ ((14,.int .i64 0)::(13,.agg (encT (iW s)).toArray)::_) _ _
  repeat first|refine run ?_|intro _|refine gR ?_|refine gS ?_
  refine GO.ent (Ent.d8 encT 4 tTok) ?_
  refine GO.ef (Ef.d8 (enc:=encT) (e:=iW s) rfl rfl rfl rfl rfl (by rfl) (vO _) (by simp) (by simp)) ac ?_
  rintro _ _ ⟨ad2,cap2,rfl,rfl⟩
  repeat first|refine run ?_|intro _|refine gR ?_|refine gS ?_
  refine KX.round ?_
  refine Ent.trans ?_ (Ent.l5 (ad2,cap2) (Ent.refl _))
  simp only [aq,aj]
  exact ae
 simp only [bj,bZ,cD,Nat.one_ne_zero,if_false,aq,aj]
 refine KX.d8 ?_
 repeat first|refine run ?_|intro _|refine gR ?_|refine gS ?_
 refine GO.j0 (f:=fun x:Option Addr×Nat=>[obj b5 300 [.slice x.1 1 x.2],osl encT 4 tTok x.1 x.2 [iW s]]) ?_
 rintro ⟨ad2,cap2⟩
 simp only [aq,aj]
 repeat first|refine run ?_|intro _|refine gR ?_|refine gS ?_
 refine KX.d7 (by exact ResOk.d7 rfl (ResOk.d7 rfl (ResOk.d7 rfl (ResOk.nil)))) ?_ ⟨ad2,cap2,rfl,rfl⟩
 exact ae
theorem lj {L:List HP} (s:ByteArray) (hw:IsWord s) [Rds L (some ⟨2,0,none⟩) Int (encZ .u8) 1 kindsL] :
  Tri Tryz.prog 176 #[.string s] L (fun v L'=>v=.bool true∧L' = L):=by
 have hl1:([iW s]).length=1:=rfl
 refine Tri.body (args:=[.string s]) 34 HK Tryz.func176 rfl rfl rfl (by simp) ?_
 repeat first|refine run ?_|intro
 refine GO.ef (Ef.d7 (wn s hw) rfl) ac ?_
 rintro _ _ ⟨ad,cap,rfl,rfl⟩
 have h00:([iW s]:List Tok)[(0:Int).toNat]! = iW s:=rfl
 have hkd:(iW s).kind=0:=rfl
 repeat first|refine run ?_|intro
 rw [h00]
 repeat first|refine run ?_|intro
 refine KX.d7 ag Ent.drop ⟨?_,rfl⟩
 rw [aL (show (iW s).text=s from rfl)]
 rfl
end
section
open Go.V
def noP {α:Type} (_:α):HP:=cY True
theorem mK {α:Type} (l:List α) {L:List HP}:Ent L (allP noP l::L):=fun θ R w s=>by
 obtain ⟨ok,ι,h,a,b1,c,d⟩:=s
 exact ⟨ok,ι,h,a,b1,c,Hp.emp,Hp.emp,h,Hp.d7 _,Hp.d8 _,Hp.d7 _,Hp.sub.refl _,fun _ _=>trivial,d⟩
attribute [local irreducible] G GO GP GPW GPK Ev Ef EfR Ent CB GB V.Enters
def eB {α:Type} (f:FuncId) (cap:List Value) (enc:α→List Value) (p:α→HP) (C:HP) (x:α):Prop:=∀ L:List HP,Tri Tryz.prog f (([]++[Value.agg (enc x).toArray]++cap:List Value)).toArray (C::p x::L) (fun v L'=>v=.bool true∧L' = C::p x::L)
theorem oG {L:List HP} (f:FuncId) (cap:List Value) (C:HP) (ad:Option Addr) (c:Nat) (xs:List ItG) (hl:xs.length≤64) (hf:∀ x∈xs,eB f cap cU noP C x) :
  Tri Tryz.prog 174 #[.slice ad xs.length c,.func (.func f) #[] cap.toArray] (C::allP noP xs::isl cU 7 ad xs::L) (fun v L'=>v=.bool true∧L' = C::allP noP xs::isl cU 7 ad xs::L):=by
 refine Tri.body (args:=[.slice ad xs.length c,.func (.func f) #[] cap.toArray]) 18 HM Tryz.func174 rfl rfl rfl (by simp) ?_
 repeat first|refine aa ?_|intro
 refine G.loop (α:=Nat) (fun i=>i≤xs.length) (fun i=>[(0,.slice ad xs.length c),(1,.func (.func f) #[] cap.toArray),(7,.slice ad xs.length c),(8,.int .i64 xs.length),(9,.int .i64 (i:Int))]) (fun _=>C::allP noP xs::isl cU 7 ad xs::L) (fun i=>xs.length - i) 0 (al _) ai (Ent.refl _) ?_
 intro i hi
 by_cases hlt:i<xs.length
 case neg =>
  repeat first|refine aa ?_|intro
  exact KX.d7 ag (Ent.refl _) ⟨rfl,rfl⟩
 have hii:(i:Int).toNat=i:=ab
 have hmem:=aG hlt
 repeat first|refine aa ?_|intro
 rw [hii]
 refine GO.ent (Ent.drop.trans ((Ent.d7 (Ent.e7 (f:=noP) hmem)).trans (Ent.refl _))) ?_
 refine GO.ef (Ef.d9 rfl rfl (hf _ hmem _)) ac ?_
 rintro _ _ ⟨rfl,rfl⟩
 repeat first|refine aa ?_|intro
 refine ⟨i+1,ab,ab,?_,by exact ae⟩
 rw [aM i]
 exact ai
theorem lZ {L:List HP} (f:FuncId) (cap:List Value) (C:HP) (ad:Option Addr) (c:Nat) (xs:List RuV) (hl:xs.length≤64) (hf:∀ x∈xs,eB f cap cw ruP C x) :
  Tri Tryz.prog 168 #[.slice ad xs.length c,.func (.func f) #[] cap.toArray] (C::allP ruP xs::isl cw 9 ad xs::L) (fun v L'=>v=.bool true∧L' = C::allP ruP xs::isl cw 9 ad xs::L):=by
 refine Tri.body (args:=[.slice ad xs.length c,.func (.func f) #[] cap.toArray]) 18 HT Tryz.func168 rfl rfl rfl (by simp) ?_
 repeat first|refine aa ?_|intro
 refine G.loop (α:=Nat) (fun i=>i≤xs.length) (fun i=>[(0,.slice ad xs.length c),(1,.func (.func f) #[] cap.toArray),(7,.slice ad xs.length c),(8,.int .i64 xs.length),(9,.int .i64 (i:Int))]) (fun _=>C::allP ruP xs::isl cw 9 ad xs::L) (fun i=>xs.length - i) 0 (al _) ai (Ent.refl _) ?_
 intro i hi
 by_cases hlt:i<xs.length
 case neg =>
  repeat first|refine aa ?_|intro
  exact KX.d7 ag (Ent.refl _) ⟨rfl,rfl⟩
 have hii:(i:Int).toNat=i:=ab
 have hmem:=aG hlt
 repeat first|refine aa ?_|intro
 rw [hii]
 refine GO.ent (Ent.drop.trans ((Ent.d7 (Ent.e7 (f:=ruP) hmem)).trans (Ent.refl _))) ?_
 refine GO.ef (Ef.d9 rfl rfl (hf _ hmem _)) ac ?_
 rintro _ _ ⟨rfl,rfl⟩
 repeat first|refine aa ?_|intro
 refine ⟨i+1,ab,ab,?_,by exact ae⟩
 rw [aM i]
 exact ai
theorem lY {L:List HP} (f:FuncId) (cap:List Value) (C:HP) (ad:Option Addr) (c:Nat) (xs:List TbV) (hl:xs.length≤64) (hf:∀ x∈xs,eB f cap dy tbP C x) :
  Tri Tryz.prog 170 #[.slice ad xs.length c,.func (.func f) #[] cap.toArray] (C::allP tbP xs::isl dy 2 ad xs::L) (fun v L'=>v=.bool true∧L' = C::allP tbP xs::isl dy 2 ad xs::L):=by
 refine Tri.body (args:=[.slice ad xs.length c,.func (.func f) #[] cap.toArray]) 18 HR Tryz.func170 rfl rfl rfl (by simp) ?_
 repeat first|refine aa ?_|intro
 refine G.loop (α:=Nat) (fun i=>i≤xs.length) (fun i=>[(0,.slice ad xs.length c),(1,.func (.func f) #[] cap.toArray),(7,.slice ad xs.length c),(8,.int .i64 xs.length),(9,.int .i64 (i:Int))]) (fun _=>C::allP tbP xs::isl dy 2 ad xs::L) (fun i=>xs.length - i) 0 (al _) ai (Ent.refl _) ?_
 intro i hi
 by_cases hlt:i<xs.length
 case neg =>
  repeat first|refine aa ?_|intro
  exact KX.d7 ag (Ent.refl _) ⟨rfl,rfl⟩
 have hii:(i:Int).toNat=i:=ab
 have hmem:=aG hlt
 repeat first|refine aa ?_|intro
 rw [hii]
 refine GO.ent (Ent.drop.trans ((Ent.d7 (Ent.e7 (f:=tbP) hmem)).trans (Ent.refl _))) ?_
 refine GO.ef (Ef.d9 rfl rfl (hf _ hmem _)) ac ?_
 rintro _ _ ⟨rfl,rfl⟩
 repeat first|refine aa ?_|intro
 refine ⟨i+1,ab,ab,?_,by exact ae⟩
 rw [aM i]
 exact ai
theorem lX {L:List HP} (f:FuncId) (cap:List Value) (C:HP) (ad:Option Addr) (c:Nat) (xs:List TxV) (hl:xs.length≤64) (hf:∀ x∈xs,eB f cap dD txP C x) :
  Tri Tryz.prog 172 #[.slice ad xs.length c,.func (.func f) #[] cap.toArray] (C::allP txP xs::isl dD 2 ad xs::L) (fun v L'=>v=.bool true∧L' = C::allP txP xs::isl dD 2 ad xs::L):=by
 refine Tri.body (args:=[.slice ad xs.length c,.func (.func f) #[] cap.toArray]) 18 HO Tryz.func172 rfl rfl rfl (by simp) ?_
 repeat first|refine aa ?_|intro
 refine G.loop (α:=Nat) (fun i=>i≤xs.length) (fun i=>[(0,.slice ad xs.length c),(1,.func (.func f) #[] cap.toArray),(7,.slice ad xs.length c),(8,.int .i64 xs.length),(9,.int .i64 (i:Int))]) (fun _=>C::allP txP xs::isl dD 2 ad xs::L) (fun i=>xs.length - i) 0 (al _) ai (Ent.refl _) ?_
 intro i hi
 by_cases hlt:i<xs.length
 case neg =>
  repeat first|refine aa ?_|intro
  exact KX.d7 ag (Ent.refl _) ⟨rfl,rfl⟩
 have hii:(i:Int).toNat=i:=ab
 have hmem:=aG hlt
 repeat first|refine aa ?_|intro
 rw [hii]
 refine GO.ent (Ent.drop.trans ((Ent.d7 (Ent.e7 (f:=txP) hmem)).trans (Ent.refl _))) ?_
 refine GO.ef (Ef.d9 rfl rfl (hf _ hmem _)) ac ?_
 rintro _ _ ⟨rfl,rfl⟩
 repeat first|refine aa ?_|intro
 refine ⟨i+1,ab,ab,?_,by exact ae⟩
 rw [aM i]
 exact ai
theorem oF {L:List HP} (f:FuncId) (cap:List Value) (C:HP) (ad:Option Addr) (c:Nat) (xs:List RwV) (hl:xs.length≤64) (hf:∀ x∈xs,eB f cap eY rwP C x) :
  Tri Tryz.prog 194 #[.slice ad xs.length c,.func (.func f) #[] cap.toArray] (C::allP rwP xs::isl eY 2 ad xs::L) (fun v L'=>v=.bool true∧L' = C::allP rwP xs::isl eY 2 ad xs::L):=by
 refine Tri.body (args:=[.slice ad xs.length c,.func (.func f) #[] cap.toArray]) 18 Hs Tryz.func194 rfl rfl rfl (by simp) ?_
 repeat first|refine aa ?_|intro
 refine G.loop (α:=Nat) (fun i=>i≤xs.length) (fun i=>[(0,.slice ad xs.length c),(1,.func (.func f) #[] cap.toArray),(7,.slice ad xs.length c),(8,.int .i64 xs.length),(9,.int .i64 (i:Int))]) (fun _=>C::allP rwP xs::isl eY 2 ad xs::L) (fun i=>xs.length - i) 0 (al _) ai (Ent.refl _) ?_
 intro i hi
 by_cases hlt:i<xs.length
 case neg =>
  repeat first|refine aa ?_|intro
  exact KX.d7 ag (Ent.refl _) ⟨rfl,rfl⟩
 have hii:(i:Int).toNat=i:=ab
 have hmem:=aG hlt
 repeat first|refine aa ?_|intro
 rw [hii]
 refine GO.ent (Ent.drop.trans ((Ent.d7 (Ent.e7 (f:=rwP) hmem)).trans (Ent.refl _))) ?_
 refine GO.ef (Ef.d9 rfl rfl (hf _ hmem _)) ac ?_
 rintro _ _ ⟨rfl,rfl⟩
 repeat first|refine aa ?_|intro
 refine ⟨i+1,ab,ab,?_,by exact ae⟩
 rw [aM i]
 exact ai
theorem Cy {L:List HP} (f:FuncId) (cap:List Value) (C:HP) (ad:Option Addr) (c:Nat) (xs:List (Int×Int)) (hl:xs.length≤64) (hf:∀ x∈xs,eB f cap bV noP C x) :
  Tri Tryz.prog 198 #[.slice ad xs.length c,.func (.func f) #[] cap.toArray] (C::allP noP xs::isl bV 2 ad xs::L) (fun v L'=>v=.bool true∧L' = C::allP noP xs::isl bV 2 ad xs::L):=by
 refine Tri.body (args:=[.slice ad xs.length c,.func (.func f) #[] cap.toArray]) 18 Hn Tryz.func198 rfl rfl rfl (by simp) ?_
 repeat first|refine aa ?_|intro
 refine G.loop (α:=Nat) (fun i=>i≤xs.length) (fun i=>[(0,.slice ad xs.length c),(1,.func (.func f) #[] cap.toArray),(7,.slice ad xs.length c),(8,.int .i64 xs.length),(9,.int .i64 (i:Int))]) (fun _=>C::allP noP xs::isl bV 2 ad xs::L) (fun i=>xs.length - i) 0 (al _) ai (Ent.refl _) ?_
 intro i hi
 by_cases hlt:i<xs.length
 case neg =>
  repeat first|refine aa ?_|intro
  exact KX.d7 ag (Ent.refl _) ⟨rfl,rfl⟩
 have hii:(i:Int).toNat=i:=ab
 have hmem:=aG hlt
 repeat first|refine aa ?_|intro
 rw [hii]
 refine GO.ent (Ent.drop.trans ((Ent.d7 (Ent.e7 (f:=noP) hmem)).trans (Ent.refl _))) ?_
 refine GO.ef (Ef.d9 rfl rfl (hf _ hmem _)) ac ?_
 rintro _ _ ⟨rfl,rfl⟩
 repeat first|refine aa ?_|intro
 refine ⟨i+1,ab,ab,?_,by exact ae⟩
 rw [aM i]
 exact ai
theorem Cx {L:List HP} (f:FuncId) (cap:List Value) (C:HP) (ad:Option Addr) (c:Nat) (xs:List (Int×Int)) (hl:xs.length≤64) (hf:∀ x∈xs,eB f cap bV noP C x) :
  Tri Tryz.prog 253 #[.slice ad xs.length c,.func (.func f) #[] cap.toArray] (C::allP noP xs::isl bV 2 ad xs::L) (fun v L'=>v=.bool true∧L' = C::allP noP xs::isl bV 2 ad xs::L):=by
 refine Tri.body (args:=[.slice ad xs.length c,.func (.func f) #[] cap.toArray]) 18 Go Tryz.func253 rfl rfl rfl (by simp) ?_
 repeat first|refine aa ?_|intro
 refine G.loop (α:=Nat) (fun i=>i≤xs.length) (fun i=>[(0,.slice ad xs.length c),(1,.func (.func f) #[] cap.toArray),(7,.slice ad xs.length c),(8,.int .i64 xs.length),(9,.int .i64 (i:Int))]) (fun _=>C::allP noP xs::isl bV 2 ad xs::L) (fun i=>xs.length - i) 0 (al _) ai (Ent.refl _) ?_
 intro i hi
 by_cases hlt:i<xs.length
 case neg =>
  repeat first|refine aa ?_|intro
  exact KX.d7 ag (Ent.refl _) ⟨rfl,rfl⟩
 have hii:(i:Int).toNat=i:=ab
 have hmem:=aG hlt
 repeat first|refine aa ?_|intro
 rw [hii]
 refine GO.ent (Ent.drop.trans ((Ent.d7 (Ent.e7 (f:=noP) hmem)).trans (Ent.refl _))) ?_
 refine GO.ef (Ef.d9 rfl rfl (hf _ hmem _)) ac ?_
 rintro _ _ ⟨rfl,rfl⟩
 repeat first|refine aa ?_|intro
 refine ⟨i+1,ab,ab,?_,by exact ae⟩
 rw [aM i]
 exact ai
def encB (b:Bool):Value:=.bool b
theorem pG {L:List HP} (x:ItG):Tri Tryz.prog 181 #[.agg (cU x).toArray] L (fun u L'=>u=.string x.name∧L' = L):=by
 refine Tri.body (args:=[.agg (cU x).toArray]) 5 HF Tryz.func181 rfl rfl rfl (by simp) ?_
 repeat first|refine aa ?_|intro
 exact KX.d7 ag Ent.drop ⟨rfl,rfl⟩
theorem AN {L:List HP} (ad:Option Addr) (c:Nat) (xs:List ItG) (hl:xs.length≤64) (hd:(xs.map (·.name)).Nodup) :
  Tri Tryz.prog 180 #[.slice ad xs.length c,.func (.func 181) #[] #[]] (isl cU 7 ad xs::L) (fun v L'=>v=.bool true∧L' = isl cU 7 ad xs::L):=by
 refine Tri.body (args:=[.slice ad xs.length c,.func (.func 181) #[] #[]]) 27 HG Tryz.func180 rfl rfl rfl (by simp) ?_
 repeat first|refine aa ?_|intro
 refine GO.ef (Ef.e9 kvS encB (.inr ⟨_,_,_,rfl,rfl,ab⟩)) ac ?_
 rintro _ _ ⟨bm,rfl,rfl⟩
 repeat first|refine aa ?_|intro
 refine G.loop (α:=Nat×List (ByteArray×Bool)) (fun x=>x.1≤xs.length∧∀ j,x.1≤j→j<xs.length→@List.lookup ByteArray Bool instBEqOfDecidableEq xs[j]!.name x.2=none) (fun x=>[(0,.slice ad xs.length c),(1,.func (.func 181) #[] #[]),(5,.map (some bm)),(11,.slice ad xs.length c),(12,.int .i64 xs.length),(13,.int .i64 (x.1:Int))]) (fun x=>gmap kvS encB bm x.2::isl cU 7 ad xs::L) (fun x=>xs.length - x.1) (0,[]) ⟨al _,fun _ _ _=>rfl⟩ ai (Ent.refl _) ?_
 rintro ⟨i,m⟩ ⟨hi,hm⟩
 dsimp only at hi hm ⊢
 by_cases hlt:i<xs.length
 case neg =>
  repeat first|refine aa ?_|intro
  exact KX.d7 ag Ent.drop ⟨rfl,rfl⟩
 have hii:(i:Int).toNat=i:=ab
 repeat first|refine aa ?_|intro
 rw [hii]
 refine GO.ef (Ef.g8 (first:=[]) (cap:=[]) (vs:=[.agg (cU xs[i]!).toArray]) (pG xs[i]!) rfl rfl) ac ?_
 rintro _ _ ⟨rfl,rfl⟩
 refine GO.ev (Ev.e7 (k:=xs[i]!.name) rfl rfl) ac ?_
 rw [hm i (aw _) hlt]
 simp only [fj,fb]
 repeat first|refine aa ?_|intro
 refine GO.ef (Ef.g8 (first:=[]) (cap:=[]) (vs:=[.agg (cU xs[i]!).toArray]) (pG xs[i]!) rfl rfl) ac ?_
 rintro _ _ ⟨rfl,rfl⟩
 refine GO.efu (Ef.f7 (k:=xs[i]!.name) (e:=true) rfl rfl rfl rfl) ?_
 rintro _ _ rfl
 repeat first|refine aa ?_|intro
 refine ⟨(i+1,gins m xs[i]!.name true),⟨by dsimp only;omega,?_⟩,by dsimp only;omega,?_,Ent.d7 Ent.drop⟩
 ·intro j hj hjl
  dsimp only at hj ⊢
  rw [gE,if_neg,hm j ab hjl]
  intro e
  have h1:(xs.map (·.name))[j]'(by simpa using hjl)=(xs.map (·.name))[i]'(by simp;omega):=by
   rw [getElem!_of hjl,getElem!_of ab] at e
   simpa using e
  have:=(eo hd).1 h1
  omega
 ·dsimp only
  rw [aM i]
  exact ai
theorem pA {L:List HP} (x:RuV):Tri Tryz.prog 183 #[.agg (cw x).toArray] L (fun u L'=>u=.string x.name∧L' = L):=by
 refine Tri.body (args:=[.agg (cw x).toArray]) 5 HD Tryz.func183 rfl rfl rfl (by simp) ?_
 repeat first|refine aa ?_|intro
 exact KX.d7 ag Ent.drop ⟨rfl,rfl⟩
theorem AM {L:List HP} (ad:Option Addr) (c:Nat) (xs:List RuV) (hl:xs.length≤64) (hd:(xs.map (·.name)).Nodup) :
  Tri Tryz.prog 182 #[.slice ad xs.length c,.func (.func 183) #[] #[]] (isl cw 9 ad xs::L) (fun v L'=>v=.bool true∧L' = isl cw 9 ad xs::L):=by
 refine Tri.body (args:=[.slice ad xs.length c,.func (.func 183) #[] #[]]) 27 HE Tryz.func182 rfl rfl rfl (by simp) ?_
 repeat first|refine aa ?_|intro
 refine GO.ef (Ef.e9 kvS encB (.inr ⟨_,_,_,rfl,rfl,ab⟩)) ac ?_
 rintro _ _ ⟨bm,rfl,rfl⟩
 repeat first|refine aa ?_|intro
 refine G.loop (α:=Nat×List (ByteArray×Bool)) (fun x=>x.1≤xs.length∧∀ j,x.1≤j→j<xs.length→@List.lookup ByteArray Bool instBEqOfDecidableEq xs[j]!.name x.2=none) (fun x=>[(0,.slice ad xs.length c),(1,.func (.func 183) #[] #[]),(5,.map (some bm)),(11,.slice ad xs.length c),(12,.int .i64 xs.length),(13,.int .i64 (x.1:Int))]) (fun x=>gmap kvS encB bm x.2::isl cw 9 ad xs::L) (fun x=>xs.length - x.1) (0,[]) ⟨al _,fun _ _ _=>rfl⟩ ai (Ent.refl _) ?_
 rintro ⟨i,m⟩ ⟨hi,hm⟩
 dsimp only at hi hm ⊢
 by_cases hlt:i<xs.length
 case neg =>
  repeat first|refine aa ?_|intro
  exact KX.d7 ag Ent.drop ⟨rfl,rfl⟩
 have hii:(i:Int).toNat=i:=ab
 repeat first|refine aa ?_|intro
 rw [hii]
 refine GO.ef (Ef.g8 (first:=[]) (cap:=[]) (vs:=[.agg (cw xs[i]!).toArray]) (pA xs[i]!) rfl rfl) ac ?_
 rintro _ _ ⟨rfl,rfl⟩
 refine GO.ev (Ev.e7 (k:=xs[i]!.name) rfl rfl) ac ?_
 rw [hm i (aw _) hlt]
 simp only [fj,fb]
 repeat first|refine aa ?_|intro
 refine GO.ef (Ef.g8 (first:=[]) (cap:=[]) (vs:=[.agg (cw xs[i]!).toArray]) (pA xs[i]!) rfl rfl) ac ?_
 rintro _ _ ⟨rfl,rfl⟩
 refine GO.efu (Ef.f7 (k:=xs[i]!.name) (e:=true) rfl rfl rfl rfl) ?_
 rintro _ _ rfl
 repeat first|refine aa ?_|intro
 refine ⟨(i+1,gins m xs[i]!.name true),⟨by dsimp only;omega,?_⟩,by dsimp only;omega,?_,Ent.d7 Ent.drop⟩
 ·intro j hj hjl
  dsimp only at hj ⊢
  rw [gE,if_neg,hm j ab hjl]
  intro e
  have h1:(xs.map (·.name))[j]'(by simpa using hjl)=(xs.map (·.name))[i]'(by simp;omega):=by
   rw [getElem!_of hjl,getElem!_of ab] at e
   simpa using e
  have:=(eo hd).1 h1
  omega
 ·dsimp only
  rw [aM i]
  exact ai
theorem nW {L:List HP} (x:TbV):Tri Tryz.prog 185 #[.agg (dy x).toArray] L (fun u L'=>u=.string x.name∧L' = L):=by
 refine Tri.body (args:=[.agg (dy x).toArray]) 5 HB Tryz.func185 rfl rfl rfl (by simp) ?_
 repeat first|refine aa ?_|intro
 exact KX.d7 ag Ent.drop ⟨rfl,rfl⟩
theorem AL {L:List HP} (ad:Option Addr) (c:Nat) (xs:List TbV) (hl:xs.length≤64) (hd:(xs.map (·.name)).Nodup) :
  Tri Tryz.prog 184 #[.slice ad xs.length c,.func (.func 185) #[] #[]] (isl dy 2 ad xs::L) (fun v L'=>v=.bool true∧L' = isl dy 2 ad xs::L):=by
 refine Tri.body (args:=[.slice ad xs.length c,.func (.func 185) #[] #[]]) 27 HC Tryz.func184 rfl rfl rfl (by simp) ?_
 repeat first|refine aa ?_|intro
 refine GO.ef (Ef.e9 kvS encB (.inr ⟨_,_,_,rfl,rfl,ab⟩)) ac ?_
 rintro _ _ ⟨bm,rfl,rfl⟩
 repeat first|refine aa ?_|intro
 refine G.loop (α:=Nat×List (ByteArray×Bool)) (fun x=>x.1≤xs.length∧∀ j,x.1≤j→j<xs.length→@List.lookup ByteArray Bool instBEqOfDecidableEq xs[j]!.name x.2=none) (fun x=>[(0,.slice ad xs.length c),(1,.func (.func 185) #[] #[]),(5,.map (some bm)),(11,.slice ad xs.length c),(12,.int .i64 xs.length),(13,.int .i64 (x.1:Int))]) (fun x=>gmap kvS encB bm x.2::isl dy 2 ad xs::L) (fun x=>xs.length - x.1) (0,[]) ⟨al _,fun _ _ _=>rfl⟩ ai (Ent.refl _) ?_
 rintro ⟨i,m⟩ ⟨hi,hm⟩
 dsimp only at hi hm ⊢
 by_cases hlt:i<xs.length
 case neg =>
  repeat first|refine aa ?_|intro
  exact KX.d7 ag Ent.drop ⟨rfl,rfl⟩
 have hii:(i:Int).toNat=i:=ab
 repeat first|refine aa ?_|intro
 rw [hii]
 refine GO.ef (Ef.g8 (first:=[]) (cap:=[]) (vs:=[.agg (dy xs[i]!).toArray]) (nW xs[i]!) rfl rfl) ac ?_
 rintro _ _ ⟨rfl,rfl⟩
 refine GO.ev (Ev.e7 (k:=xs[i]!.name) rfl rfl) ac ?_
 rw [hm i (aw _) hlt]
 simp only [fj,fb]
 repeat first|refine aa ?_|intro
 refine GO.ef (Ef.g8 (first:=[]) (cap:=[]) (vs:=[.agg (dy xs[i]!).toArray]) (nW xs[i]!) rfl rfl) ac ?_
 rintro _ _ ⟨rfl,rfl⟩
 refine GO.efu (Ef.f7 (k:=xs[i]!.name) (e:=true) rfl rfl rfl rfl) ?_
 rintro _ _ rfl
 repeat first|refine aa ?_|intro
 refine ⟨(i+1,gins m xs[i]!.name true),⟨by dsimp only;omega,?_⟩,by dsimp only;omega,?_,Ent.d7 Ent.drop⟩
 ·intro j hj hjl
  dsimp only at hj ⊢
  rw [gE,if_neg,hm j ab hjl]
  intro e
  have h1:(xs.map (·.name))[j]'(by simpa using hjl)=(xs.map (·.name))[i]'(by simp;omega):=by
   rw [getElem!_of hjl,getElem!_of ab] at e
   simpa using e
  have:=(eo hd).1 h1
  omega
 ·dsimp only
  rw [aM i]
  exact ai
theorem qK {L:List HP} (x:TxV):Tri Tryz.prog 187 #[.agg (dD x).toArray] L (fun u L'=>u=.string x.name∧L' = L):=by
 refine Tri.body (args:=[.agg (dD x).toArray]) 5 Hz Tryz.func187 rfl rfl rfl (by simp) ?_
 repeat first|refine aa ?_|intro
 exact KX.d7 ag Ent.drop ⟨rfl,rfl⟩
theorem AK {L:List HP} (ad:Option Addr) (c:Nat) (xs:List TxV) (hl:xs.length≤64) (hd:(xs.map (·.name)).Nodup) :
  Tri Tryz.prog 186 #[.slice ad xs.length c,.func (.func 187) #[] #[]] (isl dD 2 ad xs::L) (fun v L'=>v=.bool true∧L' = isl dD 2 ad xs::L):=by
 refine Tri.body (args:=[.slice ad xs.length c,.func (.func 187) #[] #[]]) 27 HA Tryz.func186 rfl rfl rfl (by simp) ?_
 repeat first|refine aa ?_|intro
 refine GO.ef (Ef.e9 kvS encB (.inr ⟨_,_,_,rfl,rfl,ab⟩)) ac ?_
 rintro _ _ ⟨bm,rfl,rfl⟩
 repeat first|refine aa ?_|intro
 refine G.loop (α:=Nat×List (ByteArray×Bool)) (fun x=>x.1≤xs.length∧∀ j,x.1≤j→j<xs.length→@List.lookup ByteArray Bool instBEqOfDecidableEq xs[j]!.name x.2=none) (fun x=>[(0,.slice ad xs.length c),(1,.func (.func 187) #[] #[]),(5,.map (some bm)),(11,.slice ad xs.length c),(12,.int .i64 xs.length),(13,.int .i64 (x.1:Int))]) (fun x=>gmap kvS encB bm x.2::isl dD 2 ad xs::L) (fun x=>xs.length - x.1) (0,[]) ⟨al _,fun _ _ _=>rfl⟩ ai (Ent.refl _) ?_
 rintro ⟨i,m⟩ ⟨hi,hm⟩
 dsimp only at hi hm ⊢
 by_cases hlt:i<xs.length
 case neg =>
  repeat first|refine aa ?_|intro
  exact KX.d7 ag Ent.drop ⟨rfl,rfl⟩
 have hii:(i:Int).toNat=i:=ab
 repeat first|refine aa ?_|intro
 rw [hii]
 refine GO.ef (Ef.g8 (first:=[]) (cap:=[]) (vs:=[.agg (dD xs[i]!).toArray]) (qK xs[i]!) rfl rfl) ac ?_
 rintro _ _ ⟨rfl,rfl⟩
 refine GO.ev (Ev.e7 (k:=xs[i]!.name) rfl rfl) ac ?_
 rw [hm i (aw _) hlt]
 simp only [fj,fb]
 repeat first|refine aa ?_|intro
 refine GO.ef (Ef.g8 (first:=[]) (cap:=[]) (vs:=[.agg (dD xs[i]!).toArray]) (qK xs[i]!) rfl rfl) ac ?_
 rintro _ _ ⟨rfl,rfl⟩
 refine GO.efu (Ef.f7 (k:=xs[i]!.name) (e:=true) rfl rfl rfl rfl) ?_
 rintro _ _ rfl
 repeat first|refine aa ?_|intro
 refine ⟨(i+1,gins m xs[i]!.name true),⟨by dsimp only;omega,?_⟩,by dsimp only;omega,?_,Ent.d7 Ent.drop⟩
 ·intro j hj hjl
  dsimp only at hj ⊢
  rw [gE,if_neg,hm j ab hjl]
  intro e
  have h1:(xs.map (·.name))[j]'(by simpa using hjl)=(xs.map (·.name))[i]'(by simp;omega):=by
   rw [getElem!_of hjl,getElem!_of ab] at e
   simpa using e
  have:=(eo hd).1 h1
  omega
 ·dsimp only
  rw [aM i]
  exact ai
end
end Go.Proofs.YtommnllbflbdmaaGreatDoor
