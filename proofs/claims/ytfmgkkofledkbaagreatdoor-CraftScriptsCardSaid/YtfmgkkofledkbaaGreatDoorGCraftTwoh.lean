/- Lemmas and contracts of functions. -/
import Derived.Test.YtfmgkkofledkbaaGreatDoorGCraftTwod
import Derived.Test.YtfmgkkofledkbaaGreatDoorGCraftTwoe
set_option linter.all false
set_option maxHeartbeats 4000000
namespace Go.Proofs.YtfmgkkofledkbaaGreatDoor
open Go.V
def noP {α:Type} (_:α):HP:=bJ True
theorem li {α:Type} (l:List α) {L:List HP}:Ent L (allP noP l::L):=fun θ R w s=>by
 obtain ⟨ok,ι,h,a,b1,c,d⟩:=s
 exact ⟨ok,ι,h,a,b1,c,Hp.emp,Hp.emp,h,Hp.a6 _,Hp.a7 _,Hp.a6 _,Hp.sub.refl _,fun _ _=>trivial,d⟩
attribute [local irreducible] G GO GP GPW GPK Ev Ef EfR Ent CB GB V.Enters
def dj {α:Type} (f:FuncId) (cap:List Value) (enc:α→List Value) (p:α→HP) (C:HP) (x:α):Prop:=∀ L:List HP,Tri Tryz.prog f (([]++[Value.agg (enc x).toArray]++cap:List Value)).toArray (C::p x::L) (fun v L'=>v=.bool true∧L' = C::p x::L)
theorem np {L:List HP} (f:FuncId) (cap:List Value) (C:HP) (ad:Option Addr) (c:Nat) (xs:List ItG) (hl:xs.length≤64) (hf:∀ x∈xs,dj f cap aN noP C x) :
  Tri Tryz.prog 206 #[.slice ad xs.length c,.func (.func f) #[] cap.toArray] (C::allP noP xs::isl aN 7 ad xs::L) (fun v L'=>v=.bool true∧L' = C::allP noP xs::isl aN 7 ad xs::L):=by
 refine Tri.body (args:=[.slice ad xs.length c,.func (.func f) #[] cap.toArray]) 18 Hm Tryz.func206 rfl rfl rfl (by simp) ?_
 repeat first|refine aa ?_|intro _
 refine G.loop (α:=Nat) (fun i=>i≤xs.length) (fun i=>[(0,.slice ad xs.length c),(1,.func (.func f) #[] cap.toArray),(7,.slice ad xs.length c),(8,.int .i64 xs.length),(9,.int .i64 (i:Int))]) (fun _=>C::allP noP xs::isl aN 7 ad xs::L) (fun i=>xs.length - i) 0 (Nat.zero_le _) aj (Ent.refl _) ?_
 intro i hi
 by_cases hlt:i<xs.length
 case neg =>
  repeat first|refine aa ?_|intro _
  exact KX.a6 ai (Ent.refl _) ⟨rfl,rfl⟩
 have hii:(i:Int).toNat=i:=ab
 have hmem:=ap hlt
 repeat first|refine aa ?_|intro _
 rw [hii]
 refine GO.ent (Ent.drop.trans ((Ent.a6 (Ent.a8 (f:=noP) hmem)).trans (Ent.refl _))) ?_
 refine GO.ef (Ef.a8 rfl rfl (hf _ hmem _)) ac ?_
 rintro _ _ ⟨rfl,rfl⟩
 repeat first|refine aa ?_|intro _
 refine ⟨i+1,ab,ab,?_,by exact ae⟩
 rw [aq i]
 exact aj
theorem kH {L:List HP} (f:FuncId) (cap:List Value) (C:HP) (ad:Option Addr) (c:Nat) (xs:List RuV) (hl:xs.length≤64) (hf:∀ x∈xs,dj f cap aD ruP C x) :
  Tri Tryz.prog 200 #[.slice ad xs.length c,.func (.func f) #[] cap.toArray] (C::allP ruP xs::isl aD 9 ad xs::L) (fun v L'=>v=.bool true∧L' = C::allP ruP xs::isl aD 9 ad xs::L):=by
 refine Tri.body (args:=[.slice ad xs.length c,.func (.func f) #[] cap.toArray]) 18 Ht Tryz.func200 rfl rfl rfl (by simp) ?_
 repeat first|refine aa ?_|intro _
 refine G.loop (α:=Nat) (fun i=>i≤xs.length) (fun i=>[(0,.slice ad xs.length c),(1,.func (.func f) #[] cap.toArray),(7,.slice ad xs.length c),(8,.int .i64 xs.length),(9,.int .i64 (i:Int))]) (fun _=>C::allP ruP xs::isl aD 9 ad xs::L) (fun i=>xs.length - i) 0 (Nat.zero_le _) aj (Ent.refl _) ?_
 intro i hi
 by_cases hlt:i<xs.length
 case neg =>
  repeat first|refine aa ?_|intro _
  exact KX.a6 ai (Ent.refl _) ⟨rfl,rfl⟩
 have hii:(i:Int).toNat=i:=ab
 have hmem:=ap hlt
 repeat first|refine aa ?_|intro _
 rw [hii]
 refine GO.ent (Ent.drop.trans ((Ent.a6 (Ent.a8 (f:=ruP) hmem)).trans (Ent.refl _))) ?_
 refine GO.ef (Ef.a8 rfl rfl (hf _ hmem _)) ac ?_
 rintro _ _ ⟨rfl,rfl⟩
 repeat first|refine aa ?_|intro _
 refine ⟨i+1,ab,ab,?_,by exact ae⟩
 rw [aq i]
 exact aj
theorem kG {L:List HP} (f:FuncId) (cap:List Value) (C:HP) (ad:Option Addr) (c:Nat) (xs:List TbV) (hl:xs.length≤64) (hf:∀ x∈xs,dj f cap aQ tbP C x) :
  Tri Tryz.prog 202 #[.slice ad xs.length c,.func (.func f) #[] cap.toArray] (C::allP tbP xs::isl aQ 2 ad xs::L) (fun v L'=>v=.bool true∧L' = C::allP tbP xs::isl aQ 2 ad xs::L):=by
 refine Tri.body (args:=[.slice ad xs.length c,.func (.func f) #[] cap.toArray]) 18 Hr Tryz.func202 rfl rfl rfl (by simp) ?_
 repeat first|refine aa ?_|intro _
 refine G.loop (α:=Nat) (fun i=>i≤xs.length) (fun i=>[(0,.slice ad xs.length c),(1,.func (.func f) #[] cap.toArray),(7,.slice ad xs.length c),(8,.int .i64 xs.length),(9,.int .i64 (i:Int))]) (fun _=>C::allP tbP xs::isl aQ 2 ad xs::L) (fun i=>xs.length - i) 0 (Nat.zero_le _) aj (Ent.refl _) ?_
 intro i hi
 by_cases hlt:i<xs.length
 case neg =>
  repeat first|refine aa ?_|intro _
  exact KX.a6 ai (Ent.refl _) ⟨rfl,rfl⟩
 have hii:(i:Int).toNat=i:=ab
 have hmem:=ap hlt
 repeat first|refine aa ?_|intro _
 rw [hii]
 refine GO.ent (Ent.drop.trans ((Ent.a6 (Ent.a8 (f:=tbP) hmem)).trans (Ent.refl _))) ?_
 refine GO.ef (Ef.a8 rfl rfl (hf _ hmem _)) ac ?_
 rintro _ _ ⟨rfl,rfl⟩
 repeat first|refine aa ?_|intro _
 refine ⟨i+1,ab,ab,?_,by exact ae⟩
 rw [aq i]
 exact aj
theorem kF {L:List HP} (f:FuncId) (cap:List Value) (C:HP) (ad:Option Addr) (c:Nat) (xs:List TxV) (hl:xs.length≤64) (hf:∀ x∈xs,dj f cap aS txP C x) :
  Tri Tryz.prog 204 #[.slice ad xs.length c,.func (.func f) #[] cap.toArray] (C::allP txP xs::isl aS 2 ad xs::L) (fun v L'=>v=.bool true∧L' = C::allP txP xs::isl aS 2 ad xs::L):=by
 refine Tri.body (args:=[.slice ad xs.length c,.func (.func f) #[] cap.toArray]) 18 Ho Tryz.func204 rfl rfl rfl (by simp) ?_
 repeat first|refine aa ?_|intro _
 refine G.loop (α:=Nat) (fun i=>i≤xs.length) (fun i=>[(0,.slice ad xs.length c),(1,.func (.func f) #[] cap.toArray),(7,.slice ad xs.length c),(8,.int .i64 xs.length),(9,.int .i64 (i:Int))]) (fun _=>C::allP txP xs::isl aS 2 ad xs::L) (fun i=>xs.length - i) 0 (Nat.zero_le _) aj (Ent.refl _) ?_
 intro i hi
 by_cases hlt:i<xs.length
 case neg =>
  repeat first|refine aa ?_|intro _
  exact KX.a6 ai (Ent.refl _) ⟨rfl,rfl⟩
 have hii:(i:Int).toNat=i:=ab
 have hmem:=ap hlt
 repeat first|refine aa ?_|intro _
 rw [hii]
 refine GO.ent (Ent.drop.trans ((Ent.a6 (Ent.a8 (f:=txP) hmem)).trans (Ent.refl _))) ?_
 refine GO.ef (Ef.a8 rfl rfl (hf _ hmem _)) ac ?_
 rintro _ _ ⟨rfl,rfl⟩
 repeat first|refine aa ?_|intro _
 refine ⟨i+1,ab,ab,?_,by exact ae⟩
 rw [aq i]
 exact aj
theorem nn {L:List HP} (f:FuncId) (cap:List Value) (C:HP) (ad:Option Addr) (c:Nat) (xs:List RwV) (hl:xs.length≤64) (hf:∀ x∈xs,dj f cap cG rwP C x) :
  Tri Tryz.prog 226 #[.slice ad xs.length c,.func (.func f) #[] cap.toArray] (C::allP rwP xs::isl cG 2 ad xs::L) (fun v L'=>v=.bool true∧L' = C::allP rwP xs::isl cG 2 ad xs::L):=by
 refine Tri.body (args:=[.slice ad xs.length c,.func (.func f) #[] cap.toArray]) 18 GQ Tryz.func226 rfl rfl rfl (by simp) ?_
 repeat first|refine aa ?_|intro _
 refine G.loop (α:=Nat) (fun i=>i≤xs.length) (fun i=>[(0,.slice ad xs.length c),(1,.func (.func f) #[] cap.toArray),(7,.slice ad xs.length c),(8,.int .i64 xs.length),(9,.int .i64 (i:Int))]) (fun _=>C::allP rwP xs::isl cG 2 ad xs::L) (fun i=>xs.length - i) 0 (Nat.zero_le _) aj (Ent.refl _) ?_
 intro i hi
 by_cases hlt:i<xs.length
 case neg =>
  repeat first|refine aa ?_|intro _
  exact KX.a6 ai (Ent.refl _) ⟨rfl,rfl⟩
 have hii:(i:Int).toNat=i:=ab
 have hmem:=ap hlt
 repeat first|refine aa ?_|intro _
 rw [hii]
 refine GO.ent (Ent.drop.trans ((Ent.a6 (Ent.a8 (f:=rwP) hmem)).trans (Ent.refl _))) ?_
 refine GO.ef (Ef.a8 rfl rfl (hf _ hmem _)) ac ?_
 rintro _ _ ⟨rfl,rfl⟩
 repeat first|refine aa ?_|intro _
 refine ⟨i+1,ab,ab,?_,by exact ae⟩
 rw [aq i]
 exact aj
theorem Ca {L:List HP} (f:FuncId) (cap:List Value) (C:HP) (ad:Option Addr) (c:Nat) (xs:List (Int×Int)) (hl:xs.length≤64) (hf:∀ x∈xs,dj f cap aC noP C x) :
  Tri Tryz.prog 230 #[.slice ad xs.length c,.func (.func f) #[] cap.toArray] (C::allP noP xs::isl aC 2 ad xs::L) (fun v L'=>v=.bool true∧L' = C::allP noP xs::isl aC 2 ad xs::L):=by
 refine Tri.body (args:=[.slice ad xs.length c,.func (.func f) #[] cap.toArray]) 18 GK Tryz.func230 rfl rfl rfl (by simp) ?_
 repeat first|refine aa ?_|intro _
 refine G.loop (α:=Nat) (fun i=>i≤xs.length) (fun i=>[(0,.slice ad xs.length c),(1,.func (.func f) #[] cap.toArray),(7,.slice ad xs.length c),(8,.int .i64 xs.length),(9,.int .i64 (i:Int))]) (fun _=>C::allP noP xs::isl aC 2 ad xs::L) (fun i=>xs.length - i) 0 (Nat.zero_le _) aj (Ent.refl _) ?_
 intro i hi
 by_cases hlt:i<xs.length
 case neg =>
  repeat first|refine aa ?_|intro _
  exact KX.a6 ai (Ent.refl _) ⟨rfl,rfl⟩
 have hii:(i:Int).toNat=i:=ab
 have hmem:=ap hlt
 repeat first|refine aa ?_|intro _
 rw [hii]
 refine GO.ent (Ent.drop.trans ((Ent.a6 (Ent.a8 (f:=noP) hmem)).trans (Ent.refl _))) ?_
 refine GO.ef (Ef.a8 rfl rfl (hf _ hmem _)) ac ?_
 rintro _ _ ⟨rfl,rfl⟩
 repeat first|refine aa ?_|intro _
 refine ⟨i+1,ab,ab,?_,by exact ae⟩
 rw [aq i]
 exact aj
theorem BZ {L:List HP} (f:FuncId) (cap:List Value) (C:HP) (ad:Option Addr) (c:Nat) (xs:List (Int×Int)) (hl:xs.length≤64) (hf:∀ x∈xs,dj f cap aC noP C x) :
  Tri Tryz.prog 277 #[.slice ad xs.length c,.func (.func f) #[] cap.toArray] (C::allP noP xs::isl aC 2 ad xs::L) (fun v L'=>v=.bool true∧L' = C::allP noP xs::isl aC 2 ad xs::L):=by
 refine Tri.body (args:=[.slice ad xs.length c,.func (.func f) #[] cap.toArray]) 18 Gd Tryz.func277 rfl rfl rfl (by simp) ?_
 repeat first|refine aa ?_|intro _
 refine G.loop (α:=Nat) (fun i=>i≤xs.length) (fun i=>[(0,.slice ad xs.length c),(1,.func (.func f) #[] cap.toArray),(7,.slice ad xs.length c),(8,.int .i64 xs.length),(9,.int .i64 (i:Int))]) (fun _=>C::allP noP xs::isl aC 2 ad xs::L) (fun i=>xs.length - i) 0 (Nat.zero_le _) aj (Ent.refl _) ?_
 intro i hi
 by_cases hlt:i<xs.length
 case neg =>
  repeat first|refine aa ?_|intro _
  exact KX.a6 ai (Ent.refl _) ⟨rfl,rfl⟩
 have hii:(i:Int).toNat=i:=ab
 have hmem:=ap hlt
 repeat first|refine aa ?_|intro _
 rw [hii]
 refine GO.ent (Ent.drop.trans ((Ent.a6 (Ent.a8 (f:=noP) hmem)).trans (Ent.refl _))) ?_
 refine GO.ef (Ef.a8 rfl rfl (hf _ hmem _)) ac ?_
 rintro _ _ ⟨rfl,rfl⟩
 repeat first|refine aa ?_|intro _
 refine ⟨i+1,ab,ab,?_,by exact ae⟩
 rw [aq i]
 exact aj
def encB (b:Bool):Value:=.bool b
theorem oy {L:List HP} (x:ItG):Tri Tryz.prog 213 #[.agg (aN x).toArray] L (fun u L'=>u=.string x.name∧L' = L):=by
 refine Tri.body (args:=[.agg (aN x).toArray]) 5 Hf Tryz.func213 rfl rfl rfl (by simp) ?_
 repeat first|refine aa ?_|intro _
 exact KX.a6 ai Ent.drop ⟨rfl,rfl⟩
theorem AM {L:List HP} (ad:Option Addr) (c:Nat) (xs:List ItG) (hl:xs.length≤64) (hd:(xs.map (·.name)).Nodup) :
  Tri Tryz.prog 212 #[.slice ad xs.length c,.func (.func 213) #[] #[]] (isl aN 7 ad xs::L) (fun v L'=>v=.bool true∧L' = isl aN 7 ad xs::L):=by
 refine Tri.body (args:=[.slice ad xs.length c,.func (.func 213) #[] #[]]) 27 Hg Tryz.func212 rfl rfl rfl (by simp) ?_
 repeat first|refine aa ?_|intro _
 refine GO.ef (Ef.c7 kvS encB (.inr ⟨_,_,_,rfl,rfl,ab⟩)) ac ?_
 rintro _ _ ⟨bm,rfl,rfl⟩
 repeat first|refine aa ?_|intro _
 refine G.loop (α:=Nat×List (ByteArray×Bool)) (fun x=>x.1≤xs.length∧∀ j,x.1≤j→j<xs.length→@List.lookup ByteArray Bool instBEqOfDecidableEq xs[j]!.name x.2=none) (fun x=>[(0,.slice ad xs.length c),(1,.func (.func 213) #[] #[]),(5,.map (some bm)),(11,.slice ad xs.length c),(12,.int .i64 xs.length),(13,.int .i64 (x.1:Int))]) (fun x=>gmap kvS encB bm x.2::isl aN 7 ad xs::L) (fun x=>xs.length - x.1) (0,[]) ⟨Nat.zero_le _,fun _ _ _=>rfl⟩ aj (Ent.refl _) ?_
 rintro ⟨i,m⟩ ⟨hi,hm⟩
 dsimp only at hi hm ⊢
 by_cases hlt:i<xs.length
 case neg =>
  repeat first|refine aa ?_|intro _
  exact KX.a6 ai Ent.drop ⟨rfl,rfl⟩
 have hii:(i:Int).toNat=i:=ab
 repeat first|refine aa ?_|intro _
 rw [hii]
 refine GO.ef (Ef.d7 (first:=[]) (cap:=[]) (vs:=[.agg (aN xs[i]!).toArray]) (oy xs[i]!) rfl rfl) ac ?_
 rintro _ _ ⟨rfl,rfl⟩
 refine GO.ev (Ev.c7 (k:=xs[i]!.name) rfl rfl) ac ?_
 rw [hm i (Nat.le_refl _) hlt]
 simp only [Option.map_none,Option.getD_none]
 repeat first|refine aa ?_|intro _
 refine GO.ef (Ef.d7 (first:=[]) (cap:=[]) (vs:=[.agg (aN xs[i]!).toArray]) (oy xs[i]!) rfl rfl) ac ?_
 rintro _ _ ⟨rfl,rfl⟩
 refine GO.efu (Ef.e9 (k:=xs[i]!.name) (e:=true) rfl rfl rfl rfl) ?_
 rintro _ _ rfl
 repeat first|refine aa ?_|intro _
 refine ⟨(i+1,gins m xs[i]!.name true),⟨by dsimp only;omega,?_⟩,by dsimp only;omega,?_,Ent.a6 Ent.drop⟩
 ·intro j hj hjl
  dsimp only at hj ⊢
  rw [eU,if_neg,hm j ab hjl]
  intro e
  have h1:(xs.map (·.name))[j]'(by simpa using hjl)=(xs.map (·.name))[i]'(by simp;omega):=by
   rw [getElem!_of hjl,getElem!_of ab] at e
   simpa using e
  have:=(List.getElem_inj hd).1 h1
  omega
 ·dsimp only
  rw [aq i]
  exact aj
theorem oq {L:List HP} (x:RuV):Tri Tryz.prog 215 #[.agg (aD x).toArray] L (fun u L'=>u=.string x.name∧L' = L):=by
 refine Tri.body (args:=[.agg (aD x).toArray]) 5 Hc Tryz.func215 rfl rfl rfl (by simp) ?_
 repeat first|refine aa ?_|intro _
 exact KX.a6 ai Ent.drop ⟨rfl,rfl⟩
theorem AL {L:List HP} (ad:Option Addr) (c:Nat) (xs:List RuV) (hl:xs.length≤64) (hd:(xs.map (·.name)).Nodup) :
  Tri Tryz.prog 214 #[.slice ad xs.length c,.func (.func 215) #[] #[]] (isl aD 9 ad xs::L) (fun v L'=>v=.bool true∧L' = isl aD 9 ad xs::L):=by
 refine Tri.body (args:=[.slice ad xs.length c,.func (.func 215) #[] #[]]) 27 He Tryz.func214 rfl rfl rfl (by simp) ?_
 repeat first|refine aa ?_|intro _
 refine GO.ef (Ef.c7 kvS encB (.inr ⟨_,_,_,rfl,rfl,ab⟩)) ac ?_
 rintro _ _ ⟨bm,rfl,rfl⟩
 repeat first|refine aa ?_|intro _
 refine G.loop (α:=Nat×List (ByteArray×Bool)) (fun x=>x.1≤xs.length∧∀ j,x.1≤j→j<xs.length→@List.lookup ByteArray Bool instBEqOfDecidableEq xs[j]!.name x.2=none) (fun x=>[(0,.slice ad xs.length c),(1,.func (.func 215) #[] #[]),(5,.map (some bm)),(11,.slice ad xs.length c),(12,.int .i64 xs.length),(13,.int .i64 (x.1:Int))]) (fun x=>gmap kvS encB bm x.2::isl aD 9 ad xs::L) (fun x=>xs.length - x.1) (0,[]) ⟨Nat.zero_le _,fun _ _ _=>rfl⟩ aj (Ent.refl _) ?_
 rintro ⟨i,m⟩ ⟨hi,hm⟩
 dsimp only at hi hm ⊢
 by_cases hlt:i<xs.length
 case neg =>
  repeat first|refine aa ?_|intro _
  exact KX.a6 ai Ent.drop ⟨rfl,rfl⟩
 have hii:(i:Int).toNat=i:=ab
 repeat first|refine aa ?_|intro _
 rw [hii]
 refine GO.ef (Ef.d7 (first:=[]) (cap:=[]) (vs:=[.agg (aD xs[i]!).toArray]) (oq xs[i]!) rfl rfl) ac ?_
 rintro _ _ ⟨rfl,rfl⟩
 refine GO.ev (Ev.c7 (k:=xs[i]!.name) rfl rfl) ac ?_
 rw [hm i (Nat.le_refl _) hlt]
 simp only [Option.map_none,Option.getD_none]
 repeat first|refine aa ?_|intro _
 refine GO.ef (Ef.d7 (first:=[]) (cap:=[]) (vs:=[.agg (aD xs[i]!).toArray]) (oq xs[i]!) rfl rfl) ac ?_
 rintro _ _ ⟨rfl,rfl⟩
 refine GO.efu (Ef.e9 (k:=xs[i]!.name) (e:=true) rfl rfl rfl rfl) ?_
 rintro _ _ rfl
 repeat first|refine aa ?_|intro _
 refine ⟨(i+1,gins m xs[i]!.name true),⟨by dsimp only;omega,?_⟩,by dsimp only;omega,?_,Ent.a6 Ent.drop⟩
 ·intro j hj hjl
  dsimp only at hj ⊢
  rw [eU,if_neg,hm j ab hjl]
  intro e
  have h1:(xs.map (·.name))[j]'(by simpa using hjl)=(xs.map (·.name))[i]'(by simp;omega):=by
   rw [getElem!_of hjl,getElem!_of ab] at e
   simpa using e
  have:=(List.getElem_inj hd).1 h1
  omega
 ·dsimp only
  rw [aq i]
  exact aj
theorem mL {L:List HP} (x:TbV):Tri Tryz.prog 217 #[.agg (aQ x).toArray] L (fun u L'=>u=.string x.name∧L' = L):=by
 refine Tri.body (args:=[.agg (aQ x).toArray]) 5 Ha Tryz.func217 rfl rfl rfl (by simp) ?_
 repeat first|refine aa ?_|intro _
 exact KX.a6 ai Ent.drop ⟨rfl,rfl⟩
theorem AK {L:List HP} (ad:Option Addr) (c:Nat) (xs:List TbV) (hl:xs.length≤64) (hd:(xs.map (·.name)).Nodup) :
  Tri Tryz.prog 216 #[.slice ad xs.length c,.func (.func 217) #[] #[]] (isl aQ 2 ad xs::L) (fun v L'=>v=.bool true∧L' = isl aQ 2 ad xs::L):=by
 refine Tri.body (args:=[.slice ad xs.length c,.func (.func 217) #[] #[]]) 27 Hb Tryz.func216 rfl rfl rfl (by simp) ?_
 repeat first|refine aa ?_|intro _
 refine GO.ef (Ef.c7 kvS encB (.inr ⟨_,_,_,rfl,rfl,ab⟩)) ac ?_
 rintro _ _ ⟨bm,rfl,rfl⟩
 repeat first|refine aa ?_|intro _
 refine G.loop (α:=Nat×List (ByteArray×Bool)) (fun x=>x.1≤xs.length∧∀ j,x.1≤j→j<xs.length→@List.lookup ByteArray Bool instBEqOfDecidableEq xs[j]!.name x.2=none) (fun x=>[(0,.slice ad xs.length c),(1,.func (.func 217) #[] #[]),(5,.map (some bm)),(11,.slice ad xs.length c),(12,.int .i64 xs.length),(13,.int .i64 (x.1:Int))]) (fun x=>gmap kvS encB bm x.2::isl aQ 2 ad xs::L) (fun x=>xs.length - x.1) (0,[]) ⟨Nat.zero_le _,fun _ _ _=>rfl⟩ aj (Ent.refl _) ?_
 rintro ⟨i,m⟩ ⟨hi,hm⟩
 dsimp only at hi hm ⊢
 by_cases hlt:i<xs.length
 case neg =>
  repeat first|refine aa ?_|intro _
  exact KX.a6 ai Ent.drop ⟨rfl,rfl⟩
 have hii:(i:Int).toNat=i:=ab
 repeat first|refine aa ?_|intro _
 rw [hii]
 refine GO.ef (Ef.d7 (first:=[]) (cap:=[]) (vs:=[.agg (aQ xs[i]!).toArray]) (mL xs[i]!) rfl rfl) ac ?_
 rintro _ _ ⟨rfl,rfl⟩
 refine GO.ev (Ev.c7 (k:=xs[i]!.name) rfl rfl) ac ?_
 rw [hm i (Nat.le_refl _) hlt]
 simp only [Option.map_none,Option.getD_none]
 repeat first|refine aa ?_|intro _
 refine GO.ef (Ef.d7 (first:=[]) (cap:=[]) (vs:=[.agg (aQ xs[i]!).toArray]) (mL xs[i]!) rfl rfl) ac ?_
 rintro _ _ ⟨rfl,rfl⟩
 refine GO.efu (Ef.e9 (k:=xs[i]!.name) (e:=true) rfl rfl rfl rfl) ?_
 rintro _ _ rfl
 repeat first|refine aa ?_|intro _
 refine ⟨(i+1,gins m xs[i]!.name true),⟨by dsimp only;omega,?_⟩,by dsimp only;omega,?_,Ent.a6 Ent.drop⟩
 ·intro j hj hjl
  dsimp only at hj ⊢
  rw [eU,if_neg,hm j ab hjl]
  intro e
  have h1:(xs.map (·.name))[j]'(by simpa using hjl)=(xs.map (·.name))[i]'(by simp;omega):=by
   rw [getElem!_of hjl,getElem!_of ab] at e
   simpa using e
  have:=(List.getElem_inj hd).1 h1
  omega
 ·dsimp only
  rw [aq i]
  exact aj
theorem pz {L:List HP} (x:TxV):Tri Tryz.prog 219 #[.agg (aS x).toArray] L (fun u L'=>u=.string x.name∧L' = L):=by
 refine Tri.body (args:=[.agg (aS x).toArray]) 5 GY Tryz.func219 rfl rfl rfl (by simp) ?_
 repeat first|refine aa ?_|intro _
 exact KX.a6 ai Ent.drop ⟨rfl,rfl⟩
theorem AJ {L:List HP} (ad:Option Addr) (c:Nat) (xs:List TxV) (hl:xs.length≤64) (hd:(xs.map (·.name)).Nodup) :
  Tri Tryz.prog 218 #[.slice ad xs.length c,.func (.func 219) #[] #[]] (isl aS 2 ad xs::L) (fun v L'=>v=.bool true∧L' = isl aS 2 ad xs::L):=by
 refine Tri.body (args:=[.slice ad xs.length c,.func (.func 219) #[] #[]]) 27 GZ Tryz.func218 rfl rfl rfl (by simp) ?_
 repeat first|refine aa ?_|intro _
 refine GO.ef (Ef.c7 kvS encB (.inr ⟨_,_,_,rfl,rfl,ab⟩)) ac ?_
 rintro _ _ ⟨bm,rfl,rfl⟩
 repeat first|refine aa ?_|intro _
 refine G.loop (α:=Nat×List (ByteArray×Bool)) (fun x=>x.1≤xs.length∧∀ j,x.1≤j→j<xs.length→@List.lookup ByteArray Bool instBEqOfDecidableEq xs[j]!.name x.2=none) (fun x=>[(0,.slice ad xs.length c),(1,.func (.func 219) #[] #[]),(5,.map (some bm)),(11,.slice ad xs.length c),(12,.int .i64 xs.length),(13,.int .i64 (x.1:Int))]) (fun x=>gmap kvS encB bm x.2::isl aS 2 ad xs::L) (fun x=>xs.length - x.1) (0,[]) ⟨Nat.zero_le _,fun _ _ _=>rfl⟩ aj (Ent.refl _) ?_
 rintro ⟨i,m⟩ ⟨hi,hm⟩
 dsimp only at hi hm ⊢
 by_cases hlt:i<xs.length
 case neg =>
  repeat first|refine aa ?_|intro _
  exact KX.a6 ai Ent.drop ⟨rfl,rfl⟩
 have hii:(i:Int).toNat=i:=ab
 repeat first|refine aa ?_|intro _
 rw [hii]
 refine GO.ef (Ef.d7 (first:=[]) (cap:=[]) (vs:=[.agg (aS xs[i]!).toArray]) (pz xs[i]!) rfl rfl) ac ?_
 rintro _ _ ⟨rfl,rfl⟩
 refine GO.ev (Ev.c7 (k:=xs[i]!.name) rfl rfl) ac ?_
 rw [hm i (Nat.le_refl _) hlt]
 simp only [Option.map_none,Option.getD_none]
 repeat first|refine aa ?_|intro _
 refine GO.ef (Ef.d7 (first:=[]) (cap:=[]) (vs:=[.agg (aS xs[i]!).toArray]) (pz xs[i]!) rfl rfl) ac ?_
 rintro _ _ ⟨rfl,rfl⟩
 refine GO.efu (Ef.e9 (k:=xs[i]!.name) (e:=true) rfl rfl rfl rfl) ?_
 rintro _ _ rfl
 repeat first|refine aa ?_|intro _
 refine ⟨(i+1,gins m xs[i]!.name true),⟨by dsimp only;omega,?_⟩,by dsimp only;omega,?_,Ent.a6 Ent.drop⟩
 ·intro j hj hjl
  dsimp only at hj ⊢
  rw [eU,if_neg,hm j ab hjl]
  intro e
  have h1:(xs.map (·.name))[j]'(by simpa using hjl)=(xs.map (·.name))[i]'(by simp;omega):=by
   rw [getElem!_of hjl,getElem!_of ab] at e
   simpa using e
  have:=(List.getElem_inj hd).1 h1
  omega
 ·dsimp only
  rw [aq i]
  exact aj
end Go.Proofs.YtfmgkkofledkbaaGreatDoor
namespace Go.Proofs.YtfmgkkofledkbaaGreatDoor
open Go.V
attribute [local irreducible] G GO GP GPW GPK Ev Ef EfR Ent CB GB V.Enters
section
def fT (n:Nat) (l:List (Int×Int)):Prop:=(∀ a∈l,0≤a.1∧a.1<n∧1≤a.2∧a.2≤1099511627776)∧l.Pairwise (fun a b=>a.1<b.1)
def dK (l:List (Int×Int)) (i:Int):Int:=l.foldl (fun s a=>if a.1=i then s+a.2 else s) 0
structure ItGood (x:ItG):Prop where
 word:IsWord x.name
 form:if x.obj=true then x.mixed=false∧x.coin=false∧0≤x.bind∧x.bind≤2 else x.wear=0∧x.bind=0∧x.level=0
 num:(x.obj=true→1≤x.wear∧x.wear≤1048576)∧0≤x.level∧x.level≤100
structure RuGood (n:Nat) (r:RuM):Prop where
 word:IsWord r.name
 lim:r.take.length+r.give.length≤64∧r.take.length+r.back.length≤64
 take:fT n r.take
 give:fT n r.give
 back:fT n r.back
 form:(r.back.length=0∨r.chance≠r.of_)∧(if r.spawn=true then r.take.length=0∧r.back.length=0∧r.level=0∧r.time=0∧r.chance=r.of_ else 0<r.take.length∨r.time≠0)
 cont:∀ a∈r.back,dK r.back a.1≤dK r.take a.1
 num:(0≤r.level∧r.level≤100)∧(0≤r.time∧r.time≤1000000)∧(1≤r.of_∧r.of_≤1000000)∧1≤r.chance∧r.chance≤r.of_
structure RwGood (n:Nat) (r:RwM):Prop where
 num:1≤r.weight∧r.weight≤1099511627776
 give:fT n r.give
structure TbGood (n:Nat) (t:TbM):Prop where
 word:IsWord t.name
 rows:0<t.rows.length∧t.rows.length≤64
 good:∀ r∈t.rows,RwGood n r
structure TxGood (t:TxM):Prop where
 word:IsWord t.name
 brs:0<t.brs.length∧t.brs.length≤16
 first:t.brs[0]!.1=0
 srt:∀ i,i+1<t.brs.length→t.brs[i]!.1<t.brs[i+1]!.1
 num:∀ b∈t.brs,(0≤b.1∧b.1≤1099511627776)∧0≤b.2∧b.2≤10000
structure CatGood (c:CatM):Prop where
 items:c.items.length≤64
 rules:c.rules.length≤64
 tables:c.tables.length≤32
 taxes:c.taxes.length≤32
 it:∀ x∈c.items,ItGood x
 ru:∀ r∈c.rules,RuGood c.items.length r
 tb:∀ t∈c.tables,TbGood c.items.length t
 tx:∀ t∈c.taxes,TxGood t
 di:(c.items.map (·.name)).Nodup
 dr:(c.rules.map (·.name)).Nodup
 dt:(c.tables.map (·.name)).Nodup
 dx:(c.taxes.map (·.name)).Nodup
theorem EK (n:Nat) (r:RuV) (h:RuGood n r.m):dj 201 [] aD ruP (bJ True) r:=by
 intro L
 obtain ⟨h1,h2⟩:=h.lim
 change r.take.l.length+r.give.l.length≤64 at h1
 change r.take.l.length+r.back.l.length≤64 at h2
 refine Tri.body (args:=[.agg (aD r).toArray]) 21 Hs Tryz.func201 rfl rfl rfl (by simp) ?_
 repeat first|refine aa ?_|intro _
 exact KX.a6 ai Ent.drop ⟨by rw [ay ab];rfl,rfl⟩
theorem EJ (n:Nat) (t:TbV) (h:TbGood n t.m):dj 203 [] aQ tbP (bJ True) t:=by
 intro L
 have h1:t.rows.length≤64:=by have:=h.rows.2;simpa [TbV.m] using this
 refine Tri.body (args:=[.agg (aQ t).toArray]) 7 Hq Tryz.func203 rfl rfl rfl (by simp) ?_
 repeat first|refine aa ?_|intro _
 exact KX.a6 ai Ent.drop ⟨by rw [ay ab];rfl,rfl⟩
theorem EI (t:TxV) (h:TxGood t.m):dj 205 [] aS txP (bJ True) t:=by
 intro L
 have h1:t.brs.length≤16:=h.brs.2
 refine Tri.body (args:=[.agg (aS t).toArray]) 7 Hn Tryz.func205 rfl rfl rfl (by simp) ?_
 repeat first|refine aa ?_|intro _
 exact KX.a6 ai Ent.drop ⟨by rw [ay ab];rfl,rfl⟩
abbrev catS (c:CatV) (L:List HP):List HP:=isl aN 7 c.iad c.items::isl aD 9 c.rad c.rules::allP ruP c.rules::isl aQ 2 c.tad c.tables::allP tbP c.tables::isl aS 2 c.xad c.taxes::allP txP c.taxes::L
theorem catS_open {c:CatV} {L:List HP}:Ent (catP c::L) (catS c (catP c::L)) :=
 (Ent.dup (lp c).pers).trans (Ent.andE.trans (Ent.a6 (Ent.andE.trans (Ent.andE.trans (Ent.a6 (Ent.a6 (Ent.andE.trans (Ent.andE.trans (Ent.a6 (Ent.a6 Ent.andE))))))))))
theorem ik {c:CatV} (h:CatGood c.m):∀ r∈c.rules,RuGood c.items.length r.m:=fun _ hr=>h.ru _ (List.mem_map_of_mem hr)
theorem ij {c:CatV} (h:CatGood c.m):∀ t∈c.tables,TbGood c.items.length t.m:=fun _ ht=>h.tb _ (List.mem_map_of_mem ht)
theorem jc {c:CatV} (h:CatGood c.m):∀ t∈c.taxes,TxGood t.m:=fun _ ht=>h.tx _ (List.mem_map_of_mem ht)
theorem lens {c:CatV} (h:CatGood c.m):c.items.length≤64∧c.rules.length≤64∧c.tables.length≤32∧c.taxes.length≤32:=by
 have h1:=h.items
 have h2:=h.rules
 have h3:=h.tables
 have h4:=h.taxes
 simp only [CatV.m,List.length_map] at h1 h2 h3 h4
 exact ⟨h1,h2,h3,h4⟩
theorem pr {L:List HP} (c:CatV) (h:CatGood c.m):Tri Tryz.prog 137 #[.agg c.cells.toArray] (catS c (bz::L)) (fun v L'=>v=.bool true∧L' = catS c (bz::L)):=by
 obtain ⟨l1,l2,l3,l4⟩:=lens h
 refine Tri.body (args:=[.agg c.cells.toArray]) 40 Il Tryz.func137 rfl rfl rfl (by simp) ?_
 simp only [catS,CatV.cells]
 repeat first|refine aa ?_|intro _
 refine GO.ent (Ent.pure trivial (Ent.refl _)) ?_
 (first|refine GO.ef (Ef.call (kH (L:=[]) _ [] (bJ True) c.rad c.rcap c.rules l2 (fun r hr=>EK _ r (ik h r hr))) rfl (by repeat (first|exact Ent.refl _|apply Ent.take))) ac ?_)
 rintro _ _ ⟨_,⟨rfl,rfl⟩,hL⟩
 simp only [List.cons_append,List.nil_append] at hL;subst hL
 repeat first|refine aa ?_|intro _
 (first|refine GO.ef (Ef.call (kG (L:=[]) _ [] (bJ True) c.tad c.tcap c.tables ab (fun r hr=>EJ _ r (ij h r hr))) rfl (by repeat (first|exact Ent.refl _|apply Ent.take))) ac ?_)
 rintro _ _ ⟨_,⟨rfl,rfl⟩,hL⟩
 simp only [List.cons_append,List.nil_append] at hL;subst hL
 repeat first|refine aa ?_|intro _
 (first|refine GO.ef (Ef.call (kF (L:=[]) _ [] (bJ True) c.xad c.xcap c.taxes ab (fun r hr=>EI r (jc h r hr))) rfl (by repeat (first|exact Ent.refl _|apply Ent.take))) ac ?_)
 rintro _ _ ⟨_,⟨rfl,rfl⟩,hL⟩
 simp only [List.cons_append,List.nil_append] at hL;subst hL
 repeat first|refine aa ?_|intro _
 exact KX.a6 ai ae ⟨rfl,rfl⟩
theorem ET (x:ItG) (h:IsWord x.name):dj 207 [] aN noP bz x:=by
 intro L
 refine Tri.body (args:=[.agg (aN x).toArray]) 6 Hl Tryz.func207 rfl rfl rfl (by simp) ?_
 repeat first|refine aa ?_|intro _
 refine GO.ef (Ef.a6 (jP x.name h) rfl) ac ?_
 rintro _ _ ⟨rfl,rfl⟩
 repeat first|refine aa ?_|intro _
 exact KX.a6 ai Ent.drop ⟨rfl,rfl⟩
theorem ES (x:RuV) (h:IsWord x.name):dj 209 [] aD ruP bz x:=by
 intro L
 refine Tri.body (args:=[.agg (aD x).toArray]) 6 Hj Tryz.func209 rfl rfl rfl (by simp) ?_
 repeat first|refine aa ?_|intro _
 refine GO.ef (Ef.a6 (jP x.name h) rfl) ac ?_
 rintro _ _ ⟨rfl,rfl⟩
 repeat first|refine aa ?_|intro _
 exact KX.a6 ai Ent.drop ⟨rfl,rfl⟩
theorem ER (x:TbV) (h:IsWord x.name):dj 210 [] aQ tbP bz x:=by
 intro L
 refine Tri.body (args:=[.agg (aQ x).toArray]) 6 Hi Tryz.func210 rfl rfl rfl (by simp) ?_
 repeat first|refine aa ?_|intro _
 refine GO.ef (Ef.a6 (jP x.name h) rfl) ac ?_
 rintro _ _ ⟨rfl,rfl⟩
 repeat first|refine aa ?_|intro _
 exact KX.a6 ai Ent.drop ⟨rfl,rfl⟩
theorem EQ (x:TxV) (h:IsWord x.name):dj 211 [] aS txP bz x:=by
 intro L
 refine Tri.body (args:=[.agg (aS x).toArray]) 6 Hh Tryz.func211 rfl rfl rfl (by simp) ?_
 repeat first|refine aa ?_|intro _
 refine GO.ef (Ef.a6 (jP x.name h) rfl) ac ?_
 rintro _ _ ⟨rfl,rfl⟩
 repeat first|refine aa ?_|intro _
 exact KX.a6 ai Ent.drop ⟨rfl,rfl⟩
theorem xj {L:List HP} (c:CatV) (h:CatGood c.m):Tri Tryz.prog 138 #[.agg c.cells.toArray] (catS c (bz::L)) (fun v L'=>v=.bool true∧L' = catS c (bz::L)):=by
 obtain ⟨l1,l2,l3,l4⟩:=lens h
 refine Tri.body (args:=[.agg c.cells.toArray]) 21 Ik Tryz.func138 rfl rfl rfl (by simp) ?_
 simp only [catS,CatV.cells]
 repeat first|refine aa ?_|intro _
 refine GO.ent (li c.items) ?_
 (first|refine GO.ef (Ef.call (np (L:=[]) _ [] bz c.iad c.icap c.items l1 (fun x hx=>ET x (h.it x hx).word)) rfl (by repeat (first|exact Ent.refl _|apply Ent.take))) ac ?_)
 rintro _ _ ⟨_,⟨rfl,rfl⟩,hL⟩
 simp only [List.cons_append,List.nil_append] at hL;subst hL
 repeat first|refine aa ?_|intro _
 (first|refine GO.ef (Ef.call (kH (L:=[]) _ [] bz c.rad c.rcap c.rules l2 (fun r hr=>ES r (ik h r hr).word)) rfl (by repeat (first|exact Ent.refl _|apply Ent.take))) ac ?_)
 rintro _ _ ⟨_,⟨rfl,rfl⟩,hL⟩
 simp only [List.cons_append,List.nil_append] at hL;subst hL
 repeat first|refine aa ?_|intro _
 (first|refine GO.ef (Ef.call (kG (L:=[]) _ [] bz c.tad c.tcap c.tables ab (fun r hr=>ER r (ij h r hr).word)) rfl (by repeat (first|exact Ent.refl _|apply Ent.take))) ac ?_)
 rintro _ _ ⟨_,⟨rfl,rfl⟩,hL⟩
 simp only [List.cons_append,List.nil_append] at hL;subst hL
 repeat first|refine aa ?_|intro _
 (first|refine GO.ef (Ef.call (kF (L:=[]) _ [] bz c.xad c.xcap c.taxes ab (fun r hr=>EQ r (jc h r hr).word)) rfl (by repeat (first|exact Ent.refl _|apply Ent.take))) ac ?_)
 rintro _ _ ⟨_,⟨rfl,rfl⟩,hL⟩
 simp only [List.cons_append,List.nil_append] at hL;subst hL
 repeat first|refine aa ?_|intro _
 exact KX.a6 ai ae ⟨rfl,rfl⟩
theorem qY {L:List HP} (c:CatV) (h:CatGood c.m):Tri Tryz.prog 139 #[.agg c.cells.toArray] (catS c (bz::L)) (fun v L'=>v=.bool true∧L' = catS c (bz::L)):=by
 obtain ⟨l1,l2,l3,l4⟩:=lens h
 have d1:(c.items.map (·.name)).Nodup:=h.di
 have d2:(c.rules.map (·.name)).Nodup:=by have:=h.dr;simpa [CatV.m,RuV.m,TbV.m,TxV.m,Function.comp_def] using this
 have d3:(c.tables.map (·.name)).Nodup:=by have:=h.dt;simpa [CatV.m,RuV.m,TbV.m,TxV.m,Function.comp_def] using this
 have d4:(c.taxes.map (·.name)).Nodup:=by have:=h.dx;simpa [CatV.m,RuV.m,TbV.m,TxV.m,Function.comp_def] using this
 refine Tri.body (args:=[.agg c.cells.toArray]) 21 Ij Tryz.func139 rfl rfl rfl (by simp) ?_
 simp only [catS,CatV.cells]
 repeat first|refine aa ?_|intro _
 (first|refine GO.ef (Ef.call (AM (L:=[]) c.iad c.icap c.items l1 d1) rfl (by repeat (first|exact Ent.refl _|apply Ent.take))) ac ?_)
 rintro _ _ ⟨_,⟨rfl,rfl⟩,hL⟩
 simp only [List.cons_append,List.nil_append] at hL;subst hL
 repeat first|refine aa ?_|intro _
 (first|refine GO.ef (Ef.call (AL (L:=[]) c.rad c.rcap c.rules l2 d2) rfl (by repeat (first|exact Ent.refl _|apply Ent.take))) ac ?_)
 rintro _ _ ⟨_,⟨rfl,rfl⟩,hL⟩
 simp only [List.cons_append,List.nil_append] at hL;subst hL
 repeat first|refine aa ?_|intro _
 (first|refine GO.ef (Ef.call (AK (L:=[]) c.tad c.tcap c.tables ab d3) rfl (by repeat (first|exact Ent.refl _|apply Ent.take))) ac ?_)
 rintro _ _ ⟨_,⟨rfl,rfl⟩,hL⟩
 simp only [List.cons_append,List.nil_append] at hL;subst hL
 repeat first|refine aa ?_|intro _
 (first|refine GO.ef (Ef.call (AJ (L:=[]) c.xad c.xcap c.taxes ab d4) rfl (by repeat (first|exact Ent.refl _|apply Ent.take))) ac ?_)
 rintro _ _ ⟨_,⟨rfl,rfl⟩,hL⟩
 simp only [List.cons_append,List.nil_append] at hL;subst hL
 repeat first|refine aa ?_|intro _
 exact KX.a6 ai ae ⟨rfl,rfl⟩
end
section
abbrev tCat:Nat:=32
theorem pt {L:List HP} (b1:Nat) (c:CatV) (ad:Option Addr) (cap:Nat) (l:List (Int×Int)) (hl:l.length≤64) (hc:c.items.length≤64) (h:fT c.items.length l) :
  Tri Tryz.prog 220 #[.slice ad l.length cap,.pointer (some ⟨b1,0,none⟩)] (obj b1 tCat c.cells::isl aC 2 ad l::L) (fun v L'=>v=.bool true∧L' = obj b1 tCat c.cells::isl aC 2 ad l::L):=by
 obtain ⟨h1,h2⟩:=h
 refine Tri.body (args:=[.slice ad l.length cap,.pointer (some ⟨b1,0,none⟩)]) 28 GX Tryz.func220 rfl rfl rfl (by simp) ?_
 simp only [CatV.cells]
 repeat first|refine aa ?_|intro _
 refine G.loop (α:=Nat×Int) (fun x=>x.1≤l.length∧∀ j,x.1≤j→j<l.length→x.2<l[j]!.1) (fun x=>[(1,.pointer (some ⟨b1,0,none⟩)),(4,.int .i64 x.2),(7,.slice ad l.length cap),(8,.int .i64 l.length),(9,.int .i64 (x.1:Int))]) (fun _=>obj b1 tCat [.slice c.iad c.items.length c.icap,.slice c.rad c.rules.length c.rcap,.slice c.tad c.tables.length c.tcap,.slice c.xad c.taxes.length c.xcap]::isl aC 2 ad l::L) (fun x=>l.length - x.1) (0,-1) ⟨Nat.zero_le _,fun j _ hj=>by have:=h1 _ (ap hj);dsimp only;omega⟩ aj (Ent.refl _) ?_
 rintro ⟨i,last⟩ ⟨hi,hlast⟩
 dsimp only at hi hlast ⊢
 by_cases hlt:i<l.length
 case neg =>
  repeat first|refine aa ?_|intro _
  exact KX.a6 ai (Ent.refl _) ⟨rfl,rfl⟩
 have hii:(i:Int).toNat=i:=ab
 have ha:=h1 _ (ap hlt)
 have hb:=hlast i (Nat.le_refl _) hlt
 repeat first|refine aa ?_|intro _
 rw [hii]
 repeat first|refine aa ?_|intro _
 refine ⟨(i+1,l[i]!.1),⟨by dsimp only;omega,?_⟩,by dsimp only;omega,?_,Ent.drop⟩
 ·intro j hj hjl
  dsimp only at hj ⊢
  rw [getElem!_of hlt,getElem!_of hjl]
  exact List.pairwise_iff_getElem.1 h2 i j hlt hjl ab
 ·dsimp only
  rw [aq i]
  exact aj
theorem sQ (x:ItG) (h:ItGood x):dj 221 [] aN noP (bJ True) x:=by
 intro L
 have hf:=h.form
 refine Tri.body (args:=[.agg (aN x).toArray]) 36 GW Tryz.func221 rfl rfl rfl (by simp) ?_
 cases hx:x.obj with
 | true =>
  rw [if_pos hx] at hf
  obtain ⟨f1,f2,f3,f4⟩:=hf
  have e:aN x=[.string x.name,.bool true,.bool false,.bool false,.int .i64 x.wear,.int .i64 x.bind,.int .i64 x.level]:=by unfold aN;rw [hx,f1,f2]
  rw [e]
  repeat first|refine aa ?_|intro _
  exact KX.a6 ai Ent.drop ⟨by rw [ay f4];rfl,rfl⟩
 | false =>
  rw [if_neg (by rw [hx];decide)] at hf
  obtain ⟨f1,f2,f3⟩:=hf
  have e:aN x=[.string x.name,.bool false,.bool x.mixed,.bool x.coin,.int .i64 0,.int .i64 0,.int .i64 0]:=by unfold aN;rw [hx,f1,f2,f3]
  rw [e]
  repeat first|refine aa ?_|intro _
  exact KX.a6 ai Ent.drop ⟨by rw [ay rfl];rfl,rfl⟩
theorem sK {L:List HP} (n:Nat) (r:RuV) (h:RuGood n r.m):Tri Tryz.prog 223 #[.agg (aD r).toArray] L (fun v L'=>v=.bool true∧L' = L):=by
 obtain ⟨hf1,hf2⟩:=h.form
 change (r.back.l.length=0∨r.chance≠r.of_) at hf1
 have hg:∀ {q:Prop},(r.back.l.length=0→q)→(¬r.back.l.length=0→r.chance≠r.of_→q)→q:=by
  intro q a b
  by_cases h0:r.back.l.length=0
  ·exact a h0
  ·exact b h0 (hf1.resolve_left h0)
 change (if r.spawn=true then r.take.l.length=0∧r.back.l.length=0∧r.level=0∧r.time=0∧r.chance=r.of_ else 0<r.take.l.length∨r.time≠0) at hf2
 refine Tri.body (args:=[.agg (aD r).toArray]) 52 GU Tryz.func223 rfl rfl rfl (by simp) ?_
 cases hx:r.spawn with
 | true =>
  rw [if_pos hx] at hf2
  obtain ⟨f1,f2,f3,f4,f5⟩:=hf2
  have e:aD r=[.string r.name,.bool true,.int .i64 r.level,.int .i64 r.time,.int .i64 r.chance,.int .i64 r.of_,.slice r.take.ad r.take.l.length r.take.cap,.slice r.give.ad r.give.l.length r.give.cap,.slice r.back.ad r.back.l.length r.back.cap]:=by unfold aD;rw [hx]
  rw [e]
  repeat first|refine aa ?_|intro _
  exact KX.a6 ai Ent.drop ⟨by rw [ay f5];rfl,rfl⟩
 | false =>
  rw [if_neg (by rw [hx];decide)] at hf2
  have e:aD r=[.string r.name,.bool false,.int .i64 r.level,.int .i64 r.time,.int .i64 r.chance,.int .i64 r.of_,.slice r.take.ad r.take.l.length r.take.cap,.slice r.give.ad r.give.l.length r.give.cap,.slice r.back.ad r.back.l.length r.back.cap]:=by unfold aD;rw [hx]
  rw [e]
  refine hg ?_ ?_
  ·intro h0
   by_cases h5:0<r.take.l.length
   ·repeat first|refine aa ?_|intro _
    exact KX.a6 ai Ent.drop ⟨rfl,rfl⟩
   ·have h6:r.time≠0:=hf2.resolve_left h5
    repeat first|refine aa ?_|intro _
    exact KX.a6 ai Ent.drop ⟨by rw [ay h6];rfl,rfl⟩
  ·intro h0 hne
   by_cases h5:0<r.take.l.length
   ·repeat first|refine aa ?_|intro _
    exact KX.a6 ai Ent.drop ⟨rfl,rfl⟩
   ·have h6:r.time≠0:=hf2.resolve_left h5
    repeat first|refine aa ?_|intro _
    exact KX.a6 ai Ent.drop ⟨by rw [ay h6];rfl,rfl⟩
def amU (l:List (Int×Int)) (m:List (Int×Int)):Prop:=∀ i,(glk m i).getD 0=dK l i
theorem mq (l:List (Int×Int)) (a:Int×Int) (i:Int):dK (l++[a]) i=if a.1=i then dK l i+a.2 else dK l i:=by
 unfold dK
 rw [List.foldl_append]
 rfl
theorem pm {n:Nat} {l:List (Int×Int)} (h:∀ a∈l,0≤a.1∧a.1<n∧1≤a.2∧a.2≤1099511627776) (i:Int):∀ k,k≤l.length→0≤dK (l.take k) i∧dK (l.take k) i≤k*1099511627776:=by
 intro k
 induction k with
 | zero=>intro _;simp [dK]
 | succ k ih =>
  intro hk
  have h1:=ih ab
  have h2:=h _ (List.getElem_mem (show k<l.length by omega))
  rw [List.take_succ_eq_append_getElem ab,mq]
  split<;>omega
end
section
theorem BV (m:List (Int×Int)) (k q a:Int):glk (gins m k a) q=if q=k then some a else glk m q:=eU
theorem py (m:List (Int×Int)) (k d:Int):((@List.lookup _ _ instBEqOfDecidableEq k m).map encN).getD (.int .i64 d)=.int .i64 ((glk m k).getD d):=by
 unfold glk
 cases @List.lookup _ _ instBEqOfDecidableEq k m<;>rfl
theorem yu:amU [] []:=fun _=>rfl
theorem yv {l:List (Int×Int)} {m:List (Int×Int)} (h:amU l m) (a:Int×Int):amU (l++[a]) (gins m a.1 (dK l a.1+a.2)):=by
 intro i
 rw [mq,BV]
 by_cases hi:a.1=i
 ·subst hi
  rw [if_pos rfl,if_pos rfl]
  rfl
 ·rw [if_neg (fun e=>hi e.symm),if_neg hi]
  exact h i
theorem xL {L:List HP} (n:Nat) (ad1 ad2:Option Addr) (c1 c2:Nat) (tk bk:List (Int×Int)) (h1:tk.length≤64) (h2:bk.length≤64) (ht:fT n tk) (hb:fT n bk) (hc:∀ a∈bk,dK bk a.1≤dK tk a.1) :
  Tri Tryz.prog 224 #[.slice ad1 tk.length c1,.slice ad2 bk.length c2] (isl aC 2 ad1 tk::isl aC 2 ad2 bk::L) (fun v L'=>v=.bool true∧L' = isl aC 2 ad1 tk::isl aC 2 ad2 bk::L):=by
 refine Tri.body (args:=[.slice ad1 tk.length c1,.slice ad2 bk.length c2]) 59 GT Tryz.func224 rfl rfl rfl (by simp) ?_
 repeat first|refine aa ?_|intro _
 refine GO.ef (Ef.c7 kvI encN (.inl rfl)) ac ?_
 rintro _ _ ⟨b1,rfl,rfl⟩
 repeat first|refine aa ?_|intro _
 refine GO.ef (Ef.c7 kvI encN (.inl rfl)) ac ?_
 rintro _ _ ⟨b2,rfl,rfl⟩
 repeat first|((fail_if_success (with_reducible refine G.c7 2 ?_));(with_reducible apply G.seq))|refine aM ?_|intro _
 refine G.a8 (α:=List (Int×Int)) (fun m=>amU tk m) (fun _=>[(1,.slice ad2 bk.length c2),(5,.map (some b1)),(6,.map (some b2))]) (fun m=>gmap kvI encN b2 []::gmap kvI encN b1 m::isl aC 2 ad1 tk::isl aC 2 ad2 bk::L) ?_ ?_
 ·repeat first|refine aa ?_|intro _
  refine G.loop (α:=Nat×List (Int×Int)) (fun x=>x.1≤tk.length∧amU (tk.take x.1) x.2) (fun x=>[(1,.slice ad2 bk.length c2),(5,.map (some b1)),(6,.map (some b2)),(15,.slice ad1 tk.length c1),(16,.int .i64 tk.length),(17,.int .i64 (x.1:Int))]) (fun x=>gmap kvI encN b2 []::gmap kvI encN b1 x.2::isl aC 2 ad1 tk::isl aC 2 ad2 bk::L) (fun x=>tk.length - x.1) (0,[]) ⟨Nat.zero_le _,yu⟩ aj (Ent.refl _) ?_
  rintro ⟨i,m⟩ ⟨hi,hm⟩
  dsimp only at hi hm ⊢
  by_cases hlt:i<tk.length
  case neg =>
   rw [List.take_of_length_le ab] at hm
   repeat first|refine aa ?_|intro _
   exact ⟨m,hm,aj,Ent.refl _⟩
  have hii:(i:Int).toNat=i:=ab
  have ha:=ht.1 _ (ap hlt)
  have hcb:=pm ht.1 tk[i]!.1 i ab
  have hmi:=hm tk[i]!.1
  repeat first|refine aa ?_|intro _
  rw [hii]
  refine GO.ev (Ev.c7 rfl rfl) ac ?_
  rw [py,hmi]
  repeat first|refine aa ?_|intro _
  refine GO.efu (Ef.e9 (enc:=encN) (e:=dK (tk.take i) tk[i]!.1+tk[i]!.2) rfl rfl rfl rfl) ?_
  rintro _ _ rfl
  repeat first|refine aa ?_|intro _
  refine ⟨(i+1,gins m tk[i]!.1 (dK (tk.take i) tk[i]!.1+tk[i]!.2)),⟨by dsimp only;omega,?_⟩,by dsimp only;omega,?_,by exact ae⟩
  ·dsimp only
   rw [List.take_succ_eq_append_getElem hlt,← getElem!_of hlt]
   exact yv hm _
  ·dsimp only
   rw [aq i]
   exact aj
 intro m1 hm1
 refine G.a8 (α:=List (Int×Int)) (fun m=>amU bk m) (fun _=>[(1,.slice ad2 bk.length c2),(5,.map (some b1)),(6,.map (some b2))]) (fun m=>gmap kvI encN b2 m::gmap kvI encN b1 m1::isl aC 2 ad1 tk::isl aC 2 ad2 bk::L) ?_ ?_
 ·repeat first|refine aa ?_|intro _
  refine G.loop (α:=Nat×List (Int×Int)) (fun x=>x.1≤bk.length∧amU (bk.take x.1) x.2) (fun x=>[(1,.slice ad2 bk.length c2),(5,.map (some b1)),(6,.map (some b2)),(29,.slice ad2 bk.length c2),(30,.int .i64 bk.length),(31,.int .i64 (x.1:Int))]) (fun x=>gmap kvI encN b2 x.2::gmap kvI encN b1 m1::isl aC 2 ad1 tk::isl aC 2 ad2 bk::L) (fun x=>bk.length - x.1) (0,[]) ⟨Nat.zero_le _,yu⟩ aj (Ent.refl _) ?_
  rintro ⟨i,m⟩ ⟨hi,hm⟩
  dsimp only at hi hm ⊢
  by_cases hlt:i<bk.length
  case neg =>
   rw [List.take_of_length_le ab] at hm
   repeat first|refine aa ?_|intro _
   exact ⟨m,hm,aj,Ent.refl _⟩
  have hii:(i:Int).toNat=i:=ab
  have ha:=hb.1 _ (ap hlt)
  have hcb:=pm hb.1 bk[i]!.1 i ab
  have hmi:=hm bk[i]!.1
  repeat first|refine aa ?_|intro _
  rw [hii]
  refine GO.ev (Ev.c7 rfl rfl) ac ?_
  rw [py,hmi]
  repeat first|refine aa ?_|intro _
  refine GO.efu (Ef.e9 (enc:=encN) (e:=dK (bk.take i) bk[i]!.1+bk[i]!.2) rfl rfl rfl rfl) ?_
  rintro _ _ rfl
  repeat first|refine aa ?_|intro _
  refine ⟨(i+1,gins m bk[i]!.1 (dK (bk.take i) bk[i]!.1+bk[i]!.2)),⟨by dsimp only;omega,?_⟩,by dsimp only;omega,?_,by exact ae⟩
  ·dsimp only
   rw [List.take_succ_eq_append_getElem hlt,← getElem!_of hlt]
   exact yv hm _
  ·dsimp only
   rw [aq i]
   exact aj
 intro m2 hm2
 repeat first|refine aa ?_|intro _
 refine G.loop (α:=Nat) (fun i=>i≤bk.length) (fun i=>[(5,.map (some b1)),(6,.map (some b2)),(43,.slice ad2 bk.length c2),(44,.int .i64 bk.length),(45,.int .i64 (i:Int))]) (fun _=>gmap kvI encN b2 m2::gmap kvI encN b1 m1::isl aC 2 ad1 tk::isl aC 2 ad2 bk::L) (fun i=>bk.length - i) 0 (Nat.zero_le _) aj (Ent.refl _) ?_
 intro i hi
 by_cases hlt:i<bk.length
 case neg =>
  repeat first|refine aa ?_|intro _
  exact KX.a6 ai ae ⟨rfl,rfl⟩
 have hii:(i:Int).toNat=i:=ab
 have e1:=hm1 bk[i]!.1
 have e2:=hm2 bk[i]!.1
 have hle:=hc _ (ap hlt)
 repeat first|refine aa ?_|intro _
 rw [hii]
 refine GO.ev (Ev.c7 rfl rfl) ac ?_
 rw [py,e1]
 repeat first|refine aa ?_|intro _
 refine GO.ev (Ev.c7 rfl rfl) ac ?_
 rw [py,e2]
 repeat first|refine aa ?_|intro _
 refine ⟨i+1,ab,ab,?_,by exact ae⟩
 rw [aq i]
 exact aj
end
section
abbrev tSrt:Nat:=297
abbrev srtC (b3 b1:Nat) (c:CatV):List HP:=[obj b3 tSrt [.func (.func 220) #[] #[.pointer (some ⟨b1,0,none⟩)]],obj b1 tCat c.cells]
theorem tI {r:RuV} {L:List HP}:Ent (ruP r::L) (amS r.take::amS r.give::amS r.back::ruP r::L):=(Ent.dup (gh r).pers).trans ruOpen
theorem EM (b3 b1:Nat) (c:CatV) (hc:c.items.length≤64) (r:RuV) (h:RuGood c.items.length r.m):dj 222 [.pointer (some ⟨b3,0,none⟩)] aD ruP (aV (srtC b3 b1 c)) r:=by
 intro L
 have hl:=h.lim
 change r.take.l.length+r.give.l.length≤64∧r.take.l.length+r.back.l.length≤64 at hl
 refine Tri.body (args:=[.agg (aD r).toArray,.pointer (some ⟨b3,0,none⟩)]) 31 GV Tryz.func222 rfl rfl rfl (by simp) ?_
 refine G.ent (Ent.openS.trans (Ent.a6 (Ent.a6 tI))) ?_
 repeat first|refine aa ?_|intro _
 refine GO.ent (Ent.at (A:=amS r.take) (Ent.at (A:=obj b1 tCat c.cells) (Ent.refl _))) ?_
 refine GO.ef (Ef.a8 rfl rfl (pt b1 c r.take.ad r.take.cap r.take.l ab hc h.take)) ac ?_
 rintro _ _ ⟨rfl,rfl⟩
 repeat first|refine aa ?_|intro _
 refine GO.ent (Ent.at (A:=amS r.give) (Ent.at (A:=obj b1 tCat c.cells) (Ent.refl _))) ?_
 refine GO.ef (Ef.a8 rfl rfl (pt b1 c r.give.ad r.give.cap r.give.l ab hc h.give)) ac ?_
 rintro _ _ ⟨rfl,rfl⟩
 repeat first|refine aa ?_|intro _
 refine GO.ent (Ent.at (A:=amS r.back) (Ent.at (A:=obj b1 tCat c.cells) (Ent.refl _))) ?_
 refine GO.ef (Ef.a8 rfl rfl (pt b1 c r.back.ad r.back.cap r.back.l ab hc h.back)) ac ?_
 rintro _ _ ⟨rfl,rfl⟩
 repeat first|refine aa ?_|intro _
 refine GO.ef (Ef.a6 (sK _ r h) rfl) ac ?_
 rintro _ _ ⟨rfl,rfl⟩
 repeat first|refine aa ?_|intro _
 (first|refine GO.ef (Ef.call (xL (L:=[]) c.items.length r.take.ad r.back.ad r.take.cap r.back.cap r.take.l r.back.l ab ab h.take h.back h.cont) rfl (by repeat (first|exact Ent.refl _|apply Ent.take))) ac ?_)
 rintro _ _ ⟨_,⟨rfl,rfl⟩,hL⟩
 simp only [List.cons_append,List.nil_append] at hL;subst hL
 repeat first|refine aa ?_|intro _
 refine KX.a6 ai ?_ ⟨rfl,rfl⟩
 refine Ent.trans ?_ Ent.e7
 simp only [List.cons_append,List.nil_append]
 exact ae
theorem DP (b3 b1:Nat) (c:CatV) (hc:c.items.length≤64) (r:RwV) (hl:r.give.l.length≤64) (h:fT c.items.length r.give.l):dj 227 [.pointer (some ⟨b3,0,none⟩)] cG rwP (aV (srtC b3 b1 c)) r:=by
 intro L
 refine Tri.body (args:=[.agg (cG r).toArray,.pointer (some ⟨b3,0,none⟩)]) 8 GN Tryz.func227 rfl rfl rfl (by simp) ?_
 refine G.ent Ent.openS ?_
 simp only [List.cons_append,List.nil_append]
 repeat first|refine aa ?_|intro _
 refine GO.ent (Ent.at (A:=amS r.give) (Ent.at (A:=obj b1 tCat c.cells) (Ent.refl _))) ?_
 refine GO.ef (Ef.a8 rfl rfl (pt b1 c r.give.ad r.give.cap r.give.l hl hc h)) ac ?_
 rintro _ _ ⟨rfl,rfl⟩
 repeat first|refine aa ?_|intro _
 refine KX.a6 ai ?_ ⟨rfl,rfl⟩
 refine Ent.trans ?_ Ent.e7
 simp only [List.cons_append,List.nil_append]
 exact ae
theorem oI {t:TbV} {L:List HP}:Ent (tbP t::L) (isl cG 2 t.ad t.rows::allP rwP t.rows::tbP t::L):=(Ent.dup (iA t).pers).trans Ent.andE
theorem io {n:Nat} {t:TbV} (h:TbGood n t.m):(0<t.rows.length∧t.rows.length≤64)∧∀ r∈t.rows,RwGood n r.m:=by
 have h1:=h.rows
 have h2:=h.good
 simp only [TbV.m,List.length_map] at h1 h2
 exact ⟨h1,fun r hr=>h2 _ (List.mem_map_of_mem hr)⟩
theorem EL (b3 b1:Nat) (c:CatV) (hc:c.items.length≤64) (t:TbV) (hB:t.B) (h:TbGood c.items.length t.m):dj 225 [.pointer (some ⟨b3,0,none⟩)] aQ tbP (aV (srtC b3 b1 c)) t:=by
 intro L
 obtain ⟨⟨r1,r2⟩,r3⟩:=io h
 refine Tri.body (args:=[.agg (aQ t).toArray,.pointer (some ⟨b3,0,none⟩)]) 14 GS Tryz.func225 rfl rfl rfl (by simp) ?_
 refine G.ent (Ent.a6 oI) ?_
 repeat first|refine aa ?_|intro _
 (first|refine GO.ef (Ef.call (nn (L:=[]) _ [.pointer (some ⟨b3,0,none⟩)] (aV (srtC b3 b1 c)) t.ad t.cap t.rows r2 (fun r hr=>DP b3 b1 c hc r (hB.2 r hr) (r3 r hr).give)) rfl (by repeat (first|exact Ent.refl _|apply Ent.take))) ac ?_)
 rintro _ _ ⟨_,⟨rfl,rfl⟩,hL⟩
 simp only [List.cons_append,List.nil_append] at hL;subst hL
 repeat first|refine aa ?_|intro _
 exact KX.a6 ai ae ⟨rfl,rfl⟩
abbrev Ae:List Stp:=[.ev 0,.ev 1,.ev 2,.ev 3,.ev 4,.ev 5,.ev 6,.ev 7,.ev 8,.ev 9,.ev 10,.ev 11,.ev 12,.ev 13]
theorem kl {φ ψ:Prop} (k:ψ) (h:Hid ψ→φ:=by intro k;(with_reducible apply G.a7);first|refine G.a6 (N:=37) (id:=6) Ae mixed ah (Hid.out k)):φ:=h ⟨k⟩
theorem tw (t:TxV) (h:TxGood t.m):dj 228 [] aS txP (bJ True) t:=by
 intro L
 obtain ⟨h1,h2⟩:=h.brs
 change 0<t.brs.length at h1
 change t.brs.length≤16 at h2
 have h3:t.brs[(0:Int).toNat]!.1=0:=h.first
 have h4:∀ i,i+1<t.brs.length→t.brs[i]!.1<t.brs[i+1]!.1:=h.srt
 refine Tri.body (args:=[.agg (aS t).toArray]) 37 GM Tryz.func228 rfl rfl rfl (by simp) ?_
 refine G.ent (L':=isl aC 2 t.ad t.brs::bJ True::L) (by unfold txP;exact ae) ?_
 repeat first|refine aa ?_|intro _|refine kl ?_
 rename_i b1
 refine G.loop (α:=Nat) (fun i=>1≤i∧i≤t.brs.length) (fun i=>[(1,.pointer (some ⟨b1,0,none⟩)),(3,.int .i64 (i:Int))]) (fun _=>obj b1 115 (aS t)::isl aC 2 t.ad t.brs::bJ True::L) (fun i=>t.brs.length - i) 1 ⟨ab,ab⟩ aj ae ?_
 rintro i ⟨hi1,hi2⟩
 by_cases hlt:i<t.brs.length
 case neg =>
  repeat first|refine aa ?_|intro _|refine kl ?_
  refine KX.a6 ai ?_ ⟨rfl,rfl⟩
  unfold txP
  exact ae
 have h5:=h4 (i - 1) ab
 rw [show i - 1+1=i by omega] at h5
 have h6:t.brs[((i:Int) - 1).toNat]!.1<t.brs[(i:Int).toNat]!.1:=by
  rw [show ((i:Int) - 1).toNat=i - 1 by omega,show (i:Int).toNat=i by omega]
  exact h5
 repeat first|refine aa ?_|intro _|refine kl ?_
 refine ⟨i+1,⟨ab,ab⟩,ab,?_,by exact ae⟩
 rw [aq i]
 exact aj
theorem sF {L:List HP} (c:CatV) (hB:c.B) (h:CatGood c.m):Tri Tryz.prog 140 #[.agg c.cells.toArray] (catS c (bz::L)) (fun v L'=>v=.bool true∧L' = catS c (bz::L)):=by
 obtain ⟨l1,l2,l3,l4⟩:=lens h
 refine Tri.body (args:=[.agg c.cells.toArray]) 25 Ii Tryz.func140 rfl rfl rfl (by simp) ?_
 simp only [catS]
 repeat first|refine aa ?_|intro _
 rename_i b1 b3
 refine GO.ent (Ent.pure trivial (li c.items)) ?_
 simp only [CatV.cells]
 repeat first|refine aa ?_|intro _
 (first|refine GO.ef (Ef.call (np (L:=[]) _ [] (bJ True) c.iad c.icap c.items l1 (fun x hx=>sQ x (h.it x hx))) rfl (by repeat (first|exact Ent.refl _|apply Ent.take))) ac ?_)
 rintro _ _ ⟨_,⟨rfl,rfl⟩,hL⟩
 simp only [List.cons_append,List.nil_append] at hL;subst hL
 repeat first|refine aa ?_|intro _
 refine GO.ent (L':=aV (srtC b3 b1 c)::bJ True::isl aN 7 c.iad c.items::isl aD 9 c.rad c.rules::allP ruP c.rules::isl aQ 2 c.tad c.tables::allP tbP c.tables::isl aS 2 c.xad c.taxes::allP txP c.taxes::bz::L) ?_ ?_
 ·refine Ent.trans ?_ Ent.e7
  simp only [srtC,CatV.cells,List.cons_append,List.nil_append]
  exact ae
 (first|refine GO.ef (Ef.call (kH (L:=[]) _ [.pointer (some ⟨b3,0,none⟩)] (aV (srtC b3 b1 c)) c.rad c.rcap c.rules l2 (fun r hr=>EM b3 b1 c l1 r (ik h r hr))) rfl (by repeat (first|exact Ent.refl _|apply Ent.take))) ac ?_)
 rintro _ _ ⟨_,⟨rfl,rfl⟩,hL⟩
 simp only [List.cons_append,List.nil_append] at hL;subst hL
 refine GO.ent (Ent.openS (A:=srtC b3 b1 c)) ?_
 simp only [srtC,CatV.cells,List.cons_append,List.nil_append]
 repeat first|refine aa ?_|intro _
 refine GO.ent (L':=aV (srtC b3 b1 c)::bJ True::isl aN 7 c.iad c.items::isl aD 9 c.rad c.rules::allP ruP c.rules::isl aQ 2 c.tad c.tables::allP tbP c.tables::isl aS 2 c.xad c.taxes::allP txP c.taxes::bz::L) ?_ ?_
 ·refine Ent.trans ?_ Ent.e7
  simp only [srtC,CatV.cells,List.cons_append,List.nil_append]
  exact ae
 (first|refine GO.ef (Ef.call (kG (L:=[]) _ [.pointer (some ⟨b3,0,none⟩)] (aV (srtC b3 b1 c)) c.tad c.tcap c.tables ab (fun r hr=>EL b3 b1 c l1 r (hB.tb r hr) (ij h r hr))) rfl (by repeat (first|exact Ent.refl _|apply Ent.take))) ac ?_)
 rintro _ _ ⟨_,⟨rfl,rfl⟩,hL⟩
 simp only [List.cons_append,List.nil_append] at hL;subst hL
 refine GO.ent (Ent.openS (A:=srtC b3 b1 c)) ?_
 simp only [srtC,CatV.cells,List.cons_append,List.nil_append]
 repeat first|refine aa ?_|intro _
 (first|refine GO.ef (Ef.call (kF (L:=[]) _ [] (bJ True) c.xad c.xcap c.taxes ab (fun r hr=>tw r (jc h r hr))) rfl (by repeat (first|exact Ent.refl _|apply Ent.take))) ac ?_)
 rintro _ _ ⟨_,⟨rfl,rfl⟩,hL⟩
 simp only [List.cons_append,List.nil_append] at hL;subst hL
 repeat first|refine aa ?_|intro _
 exact KX.a6 ai ae ⟨rfl,rfl⟩
theorem Eq (a:Int×Int) (h:1≤a.2∧a.2≤1099511627776):dj 231 [] aC noP (bJ True) a:=by
 intro L
 obtain ⟨h1,h2⟩:=h
 refine Tri.body (args:=[.agg (aC a).toArray]) 11 GJ Tryz.func231 rfl rfl rfl (by simp) ?_
 repeat first|refine aa ?_|intro _
 exact KX.a6 ai Ent.drop ⟨by rw [ay h2];rfl,rfl⟩
theorem qr {L:List HP} (n:Nat) (ad:Option Addr) (cap:Nat) (l:List (Int×Int)) (hl:l.length≤64) (h:fT n l):Tri Tryz.prog 229 #[.slice ad l.length cap] (isl aC 2 ad l::L) (fun v L'=>v=.bool true∧L' = isl aC 2 ad l::L):=by
 refine Tri.body (args:=[.slice ad l.length cap]) 5 GL Tryz.func229 rfl rfl rfl (by simp) ?_
 repeat first|refine aa ?_|intro _
 refine GO.ent (Ent.pure trivial (li l)) ?_
 (first|refine GO.ef (Ef.call (Ca (L:=[]) _ [] (bJ True) ad cap l hl (fun a ha=>Eq a (h.1 a ha).2.2)) rfl (by repeat (first|exact Ent.refl _|apply Ent.take))) ac ?_)
 rintro _ _ ⟨_,⟨rfl,rfl⟩,hL⟩
 simp only [List.cons_append,List.nil_append] at hL;subst hL
 repeat first|refine aa ?_|intro _
 exact KX.a6 ai ae ⟨rfl,rfl⟩
theorem re (x:ItG) (h:ItGood x):dj 232 [] aN noP (bJ True) x:=by
 intro L
 obtain ⟨h1,h2,h3⟩:=h.num
 refine Tri.body (args:=[.agg (aN x).toArray]) 26 GI Tryz.func232 rfl rfl rfl (by simp) ?_
 cases hx:x.obj with
 | true =>
  obtain ⟨f1,f2⟩:=h1 hx
  have e:aN x=[.string x.name,.bool true,.bool x.mixed,.bool x.coin,.int .i64 x.wear,.int .i64 x.bind,.int .i64 x.level]:=by unfold aN;rw [hx]
  rw [e]
  repeat first|refine aa ?_|intro _
  exact KX.a6 ai Ent.drop ⟨by rw [ay h3];rfl,rfl⟩
 | false =>
  have e:aN x=[.string x.name,.bool false,.bool x.mixed,.bool x.coin,.int .i64 x.wear,.int .i64 x.bind,.int .i64 x.level]:=by unfold aN;rw [hx]
  rw [e]
  repeat first|refine aa ?_|intro _
  exact KX.a6 ai Ent.drop ⟨by rw [ay h3];rfl,rfl⟩
theorem qU {L:List HP} (n:Nat) (r:RuV) (h:RuGood n r.m):Tri Tryz.prog 234 #[.agg (aD r).toArray] L (fun v L'=>v=.bool true∧L' = L):=by
 obtain ⟨⟨h1,h2⟩,⟨h3,h4⟩,⟨h5,h6⟩,h7,h8⟩:=h.num
 change 0≤r.level at h1
 change r.level≤100 at h2
 change 0≤r.time at h3
 change r.time≤1000000 at h4
 change 1≤r.of_ at h5
 change r.of_≤1000000 at h6
 change 1≤r.chance at h7
 change r.chance≤r.of_ at h8
 refine Tri.body (args:=[.agg (aD r).toArray]) 43 GG Tryz.func234 rfl rfl rfl (by simp) ?_
 repeat first|refine aa ?_|intro _
 exact KX.a6 ai Ent.drop ⟨by rw [ay h8];rfl,rfl⟩
abbrev untC (b3:Nat):HP:=obj b3 tSrt [.func (.func 229) #[] #[]]
theorem Fa (b3 n:Nat) (r:RuV) (h:RuGood n r.m):dj 233 [.pointer (some ⟨b3,0,none⟩)] aD ruP (untC b3) r:=by
 intro L
 have hl:=h.lim
 change r.take.l.length+r.give.l.length≤64∧r.take.l.length+r.back.l.length≤64 at hl
 refine Tri.body (args:=[.agg (aD r).toArray,.pointer (some ⟨b3,0,none⟩)]) 24 GH Tryz.func233 rfl rfl rfl (by simp) ?_
 refine G.ent (Ent.a6 tI) ?_
 repeat first|refine aa ?_|intro _
 refine GO.ent (Ent.at (A:=amS r.take) (Ent.refl _)) ?_
 refine GO.ef (Ef.a8 rfl rfl (qr n r.take.ad r.take.cap r.take.l ab h.take)) ac ?_
 rintro _ _ ⟨rfl,rfl⟩
 repeat first|refine aa ?_|intro _
 refine GO.ent (Ent.at (A:=amS r.give) (Ent.refl _)) ?_
 refine GO.ef (Ef.a8 rfl rfl (qr n r.give.ad r.give.cap r.give.l ab h.give)) ac ?_
 rintro _ _ ⟨rfl,rfl⟩
 repeat first|refine aa ?_|intro _
 refine GO.ent (Ent.at (A:=amS r.back) (Ent.refl _)) ?_
 refine GO.ef (Ef.a8 rfl rfl (qr n r.back.ad r.back.cap r.back.l ab h.back)) ac ?_
 rintro _ _ ⟨rfl,rfl⟩
 repeat first|refine aa ?_|intro _
 refine GO.ef (Ef.a6 (qU n r h) rfl) ac ?_
 rintro _ _ ⟨rfl,rfl⟩
 repeat first|refine aa ?_|intro _
 exact KX.a6 ai ae ⟨rfl,rfl⟩
theorem DO (n:Nat) (r:RwV) (h:RwGood n r.m):dj 276 [] cG rwP (bJ True) r:=by
 intro L
 obtain ⟨h1,h2⟩:=h.num
 change 1≤r.weight at h1
 change r.weight≤1099511627776 at h2
 refine Tri.body (args:=[.agg (cG r).toArray]) 11 Ge Tryz.func276 rfl rfl rfl (by simp) ?_
 repeat first|refine aa ?_|intro _
 exact KX.a6 ai Ent.drop ⟨by rw [ay h2];rfl,rfl⟩
theorem nU {L:List HP} (n:Nat) (t:TbV) (h:TbGood n t.m):Tri Tryz.prog 236 #[.agg (aQ t).toArray] (tbP t::L) (fun v L'=>v=.bool true∧L' = tbP t::L):=by
 obtain ⟨⟨r1,r2⟩,r3⟩:=io h
 refine Tri.body (args:=[.agg (aQ t).toArray]) 6 GC Tryz.func236 rfl rfl rfl (by simp) ?_
 refine G.ent oI ?_
 repeat first|refine aa ?_|intro _
 refine GO.ent (Ent.pure trivial (Ent.refl _)) ?_
 (first|refine GO.ef (Ef.call (nn (L:=[]) _ [] (bJ True) t.ad t.cap t.rows r2 (fun r hr=>DO n r (r3 r hr))) rfl (by repeat (first|exact Ent.refl _|apply Ent.take))) ac ?_)
 rintro _ _ ⟨_,⟨rfl,rfl⟩,hL⟩
 simp only [List.cons_append,List.nil_append] at hL;subst hL
 repeat first|refine aa ?_|intro _
 exact KX.a6 ai ae ⟨rfl,rfl⟩
theorem Ep (b3 n:Nat) (r:RwV) (hl:r.give.l.length≤64) (h:fT n r.give.l):dj 237 [.pointer (some ⟨b3,0,none⟩)] cG rwP (untC b3) r:=by
 intro L
 refine Tri.body (args:=[.agg (cG r).toArray,.pointer (some ⟨b3,0,none⟩)]) 8 GA Tryz.func237 rfl rfl rfl (by simp) ?_
 repeat first|refine aa ?_|intro _
 refine GO.ent (Ent.at (A:=amS r.give) (Ent.refl _)) ?_
 refine GO.ef (Ef.a8 rfl rfl (qr n r.give.ad r.give.cap r.give.l hl h)) ac ?_
 rintro _ _ ⟨rfl,rfl⟩
 repeat first|refine aa ?_|intro _
 exact KX.a6 ai ae ⟨rfl,rfl⟩
theorem EZ (b3 n:Nat) (t:TbV) (hB:t.B) (h:TbGood n t.m):dj 235 [.pointer (some ⟨b3,0,none⟩)] aQ tbP (untC b3) t:=by
 intro L
 obtain ⟨⟨r1,r2⟩,r3⟩:=io h
 refine Tri.body (args:=[.agg (aQ t).toArray,.pointer (some ⟨b3,0,none⟩)]) 12 GD Tryz.func235 rfl rfl rfl (by simp) ?_
 repeat first|refine aa ?_|intro _
 (first|refine GO.ef (Ef.call (nU (L:=[]) n t h) rfl (by repeat (first|exact Ent.refl _|apply Ent.take))) ac ?_)
 rintro _ _ ⟨_,⟨rfl,rfl⟩,hL⟩
 simp only [List.cons_append,List.nil_append] at hL;subst hL
 refine GO.ent oI ?_
 repeat first|refine aa ?_|intro _
 (first|refine GO.ef (Ef.call (nn (L:=[]) _ [.pointer (some ⟨b3,0,none⟩)] (untC b3) t.ad t.cap t.rows r2 (fun r hr=>Ep b3 n r (hB.2 r hr) (r3 r hr).give)) rfl (by repeat (first|exact Ent.refl _|apply Ent.take))) ac ?_)
 rintro _ _ ⟨_,⟨rfl,rfl⟩,hL⟩
 simp only [List.cons_append,List.nil_append] at hL;subst hL
 repeat first|refine aa ?_|intro _
 exact KX.a6 ai ae ⟨rfl,rfl⟩
theorem DR (b:Int×Int) (h:(0≤b.1∧b.1≤1099511627776)∧0≤b.2∧b.2≤10000):dj 278 [] aC noP (bJ True) b:=by
 intro L
 obtain ⟨⟨h1,h2⟩,h3,h4⟩:=h
 refine Tri.body (args:=[.agg (aC b).toArray]) 21 Gc Tryz.func278 rfl rfl rfl (by simp) ?_
 repeat first|refine aa ?_|intro _
 exact KX.a6 ai Ent.drop ⟨by rw [ay h4];rfl,rfl⟩
theorem sG (t:TxV) (h:TxGood t.m):dj 238 [] aS txP (bJ True) t:=by
 intro L
 obtain ⟨h1,h2⟩:=h.brs
 change 0<t.brs.length at h1
 change t.brs.length≤16 at h2
 refine Tri.body (args:=[.agg (aS t).toArray]) 6 Gz Tryz.func238 rfl rfl rfl (by simp) ?_
 refine G.ent (L':=isl aC 2 t.ad t.brs::bJ True::L) (by unfold txP;exact ae) ?_
 repeat first|refine aa ?_|intro _
 refine GO.ent (li t.brs) ?_
 (first|refine GO.ef (Ef.call (BZ (L:=[]) _ [] (bJ True) t.ad t.cap t.brs ab (fun b hb=>DR b (h.num b hb))) rfl (by repeat (first|exact Ent.refl _|apply Ent.take))) ac ?_)
 rintro _ _ ⟨_,⟨rfl,rfl⟩,hL⟩
 simp only [List.cons_append,List.nil_append] at hL;subst hL
 repeat first|refine aa ?_|intro _
 refine KX.a6 ai ?_ ⟨rfl,rfl⟩
 unfold txP
 exact ae
theorem Au {L:List HP} (c:CatV) (hB:c.B) (h:CatGood c.m):Tri Tryz.prog 141 #[.agg c.cells.toArray] (catS c (bz::L)) (fun v L'=>v=.bool true∧L' = catS c (bz::L)):=by
 obtain ⟨l1,l2,l3,l4⟩:=lens h
 refine Tri.body (args:=[.agg c.cells.toArray]) 24 Ih Tryz.func141 rfl rfl rfl (by simp) ?_
 simp only [catS,CatV.cells]
 repeat first|refine aa ?_|intro _
 rename_i b1 b3
 refine GO.ent (Ent.pure trivial (li c.items)) ?_
 (first|refine GO.ef (Ef.call (np (L:=[]) _ [] (bJ True) c.iad c.icap c.items l1 (fun x hx=>re x (h.it x hx))) rfl (by repeat (first|exact Ent.refl _|apply Ent.take))) ac ?_)
 rintro _ _ ⟨_,⟨rfl,rfl⟩,hL⟩
 simp only [List.cons_append,List.nil_append] at hL;subst hL
 repeat first|refine aa ?_|intro _
 (first|refine GO.ef (Ef.call (kH (L:=[]) _ [.pointer (some ⟨b3,0,none⟩)] (untC b3) c.rad c.rcap c.rules l2 (fun r hr=>Fa b3 _ r (ik h r hr))) rfl (by repeat (first|exact Ent.refl _|apply Ent.take))) ac ?_)
 rintro _ _ ⟨_,⟨rfl,rfl⟩,hL⟩
 simp only [List.cons_append,List.nil_append] at hL;subst hL
 repeat first|refine aa ?_|intro _
 (first|refine GO.ef (Ef.call (kG (L:=[]) _ [.pointer (some ⟨b3,0,none⟩)] (untC b3) c.tad c.tcap c.tables ab (fun r hr=>EZ b3 _ r (hB.tb r hr) (ij h r hr))) rfl (by repeat (first|exact Ent.refl _|apply Ent.take))) ac ?_)
 rintro _ _ ⟨_,⟨rfl,rfl⟩,hL⟩
 simp only [List.cons_append,List.nil_append] at hL;subst hL
 repeat first|refine aa ?_|intro _
 (first|refine GO.ef (Ef.call (kF (L:=[]) _ [] (bJ True) c.xad c.xcap c.taxes ab (fun r hr=>sG r (jc h r hr))) rfl (by repeat (first|exact Ent.refl _|apply Ent.take))) ac ?_)
 rintro _ _ ⟨_,⟨rfl,rfl⟩,hL⟩
 simp only [List.cons_append,List.nil_append] at hL;subst hL
 repeat first|refine aa ?_|intro _
 exact KX.a6 ai ae ⟨rfl,rfl⟩
theorem Cg {L:List HP} (c:CatV) (hB:c.B) (h:CatGood c.m):Tri Tryz.prog 93 #[.agg c.cells.toArray] (catP c::bz::L) (fun v L'=>v=.int .i64 0∧L' = catP c::bz::L):=by
 refine Tri.body (args:=[.agg c.cells.toArray]) 23 en93 Tryz.func93 rfl rfl rfl (by simp) ?_
 refine G.ent (L':=catS c (bz::catP c::L)) (catS_open.trans (by simp only [catS];exact ae)) ?_
 simp only [CatV.cells]
 repeat first|refine aa ?_|intro _
 rename_i b1
 refine GO.ent (L':=catS c (bz::obj b1 tCat c.cells::catP c::L)) (by simp only [catS,CatV.cells];exact ae) ?_
 refine GO.ef (Ef.a6 (pr c h) rfl) ac ?_
 rintro _ _ ⟨rfl,rfl⟩
 simp only [catS,CatV.cells]
 repeat first|refine aa ?_|intro _
 refine GO.ent (L':=catS c (bz::obj b1 tCat c.cells::catP c::L)) (by simp only [catS,CatV.cells];exact ae) ?_
 refine GO.ef (Ef.a6 (xj c h) rfl) ac ?_
 rintro _ _ ⟨rfl,rfl⟩
 simp only [catS,CatV.cells]
 repeat first|refine aa ?_|intro _
 refine GO.ent (L':=catS c (bz::obj b1 tCat c.cells::catP c::L)) (by simp only [catS,CatV.cells];exact ae) ?_
 refine GO.ef (Ef.a6 (qY c h) rfl) ac ?_
 rintro _ _ ⟨rfl,rfl⟩
 simp only [catS,CatV.cells]
 repeat first|refine aa ?_|intro _
 refine GO.ent (L':=catS c (bz::obj b1 tCat c.cells::catP c::L)) (by simp only [catS,CatV.cells];exact ae) ?_
 refine GO.ef (Ef.a6 (sF c hB h) rfl) ac ?_
 rintro _ _ ⟨rfl,rfl⟩
 simp only [catS,CatV.cells]
 repeat first|refine aa ?_|intro _
 refine GO.ent (L':=catS c (bz::obj b1 tCat c.cells::catP c::L)) (by simp only [catS,CatV.cells];exact ae) ?_
 refine GO.ef (Ef.a6 (Au c hB h) rfl) ac ?_
 rintro _ _ ⟨rfl,rfl⟩
 simp only [catS,CatV.cells]
 repeat first|refine aa ?_|intro _
 refine KX.a6 ai ?_ ⟨rfl,rfl⟩
 exact ae
end
end Go.Proofs.YtfmgkkofledkbaaGreatDoor
namespace Go.V
theorem Ent.d7 {L R:List HP} {α:Type} {enc:α→List Value} {sz b T:Nat} {cs:List Value} [h:PickObj L b T cs R] (xs:List α) (hc:cs=xs.flatMap enc) (hs:∀ x∈xs,(enc x).length=sz) (hm:xs.length≤9223372036854775807):Ent L (isl enc sz (some ⟨b,0,none⟩) xs::R) :=
 (Ent.perm h.perm).trans ((Ent.c6 hc rfl hs hm).trans Ent.freezeSl)
end Go.V
namespace Go.Proofs.YtfmgkkofledkbaaGreatDoor
open Go.V
attribute [local irreducible] G GO GP GPW GPK Ev Ef EfR Ent CB GB V.Enters
section
theorem jX {r:RuV} {L:List HP}:Ent (amS r.take::amS r.give::amS r.back::L) (ruP r::L):=(Ent.a6 (Ent.d8 (fS _) (fS _))).trans (Ent.d8 (fS _) ((fS _).and (fS _)))
def it16:List ItG:=[⟨⟨#[103,111,108,100]⟩,false,true,true,0,0,0⟩,⟨⟨#[111,114,101]⟩,false,false,false,0,0,0⟩,⟨⟨#[99,111,97,108]⟩,false,true,false,0,0,0⟩,⟨⟨#[98,97,114]⟩,false,false,false,0,0,0⟩,⟨⟨#[115,119,111,114,100]⟩,true,false,false,20,2,3⟩]
def cat16:CatM:=⟨it16,[⟨⟨#[100,105,103]⟩,true,0,0,1,1,[],[(1,4),(2,3)],[]⟩,⟨⟨#[115,109,101,108,116]⟩,false,2,5,2,3,[(1,2),(2,1)],[(3,1)],[(1,1)]⟩,⟨⟨#[102,111,114,103,101]⟩,false,3,10,1,1,[(3,3)],[(4,1)],[]⟩,⟨⟨#[115,99,114,97,112]⟩,false,0,1,1,1,[(4,1)],[(3,3)],[]⟩,⟨⟨#[115,101,108,108]⟩,false,0,1,1,1,[(3,1)],[(0,7)],[]⟩],[⟨⟨#[99,104,101,115,116]⟩,[⟨5,[(0,10)]⟩,⟨1,[(3,2)]⟩]⟩],[⟨⟨#[115,97,108,101]⟩,[(0,500),(100,1000)]⟩]⟩
abbrev pS (bi g0 t1 g1 k1 t2 g2 t3 g3 t4 g4 br w0 w1 bw bt bb bx:Nat):RuV:=⟨⟨#[100,105,103]⟩,true,0,0,1,1,⟨[],none,0⟩,⟨[(1,4),(2,3)],some ⟨g0,0,none⟩,2⟩,⟨[],none,0⟩⟩
abbrev pR (bi g0 t1 g1 k1 t2 g2 t3 g3 t4 g4 br w0 w1 bw bt bb bx:Nat):RuV:=⟨⟨#[115,109,101,108,116]⟩,false,2,5,2,3,⟨[(1,2),(2,1)],some ⟨t1,0,none⟩,2⟩,⟨[(3,1)],some ⟨g1,0,none⟩,1⟩,⟨[(1,1)],some ⟨k1,0,none⟩,1⟩⟩
abbrev pQ (bi g0 t1 g1 k1 t2 g2 t3 g3 t4 g4 br w0 w1 bw bt bb bx:Nat):RuV:=⟨⟨#[102,111,114,103,101]⟩,false,3,10,1,1,⟨[(3,3)],some ⟨t2,0,none⟩,1⟩,⟨[(4,1)],some ⟨g2,0,none⟩,1⟩,⟨[],none,0⟩⟩
abbrev pP (bi g0 t1 g1 k1 t2 g2 t3 g3 t4 g4 br w0 w1 bw bt bb bx:Nat):RuV:=⟨⟨#[115,99,114,97,112]⟩,false,0,1,1,1,⟨[(4,1)],some ⟨t3,0,none⟩,1⟩,⟨[(3,3)],some ⟨g3,0,none⟩,1⟩,⟨[],none,0⟩⟩
abbrev pO (bi g0 t1 g1 k1 t2 g2 t3 g3 t4 g4 br w0 w1 bw bt bb bx:Nat):RuV:=⟨⟨#[115,101,108,108]⟩,false,0,1,1,1,⟨[(3,1)],some ⟨t4,0,none⟩,1⟩,⟨[(0,7)],some ⟨g4,0,none⟩,1⟩,⟨[],none,0⟩⟩
abbrev pM (bi g0 t1 g1 k1 t2 g2 t3 g3 t4 g4 br w0 w1 bw bt bb bx:Nat):RwV:=⟨5,⟨[(0,10)],some ⟨w0,0,none⟩,1⟩⟩
abbrev pL (bi g0 t1 g1 k1 t2 g2 t3 g3 t4 g4 br w0 w1 bw bt bb bx:Nat):RwV:=⟨1,⟨[(3,2)],some ⟨w1,0,none⟩,1⟩⟩
abbrev tb16 (bi g0 t1 g1 k1 t2 g2 t3 g3 t4 g4 br w0 w1 bw bt bb bx:Nat):TbV:=⟨⟨#[99,104,101,115,116]⟩,[pM bi g0 t1 g1 k1 t2 g2 t3 g3 t4 g4 br w0 w1 bw bt bb bx,pL bi g0 t1 g1 k1 t2 g2 t3 g3 t4 g4 br w0 w1 bw bt bb bx],some ⟨bw,0,none⟩,2⟩
abbrev tx16 (bi g0 t1 g1 k1 t2 g2 t3 g3 t4 g4 br w0 w1 bw bt bb bx:Nat):TxV:=⟨⟨#[115,97,108,101]⟩,[(0,500),(100,1000)],some ⟨bb,0,none⟩,2⟩
def eP (bi g0 t1 g1 k1 t2 g2 t3 g3 t4 g4 br w0 w1 bw bt bb bx:Nat):CatV:=⟨it16,some ⟨bi,0,none⟩,5,[pS bi g0 t1 g1 k1 t2 g2 t3 g3 t4 g4 br w0 w1 bw bt bb bx,pR bi g0 t1 g1 k1 t2 g2 t3 g3 t4 g4 br w0 w1 bw bt bb bx,pQ bi g0 t1 g1 k1 t2 g2 t3 g3 t4 g4 br w0 w1 bw bt bb bx,pP bi g0 t1 g1 k1 t2 g2 t3 g3 t4 g4 br w0 w1 bw bt bb bx,pO bi g0 t1 g1 k1 t2 g2 t3 g3 t4 g4 br w0 w1 bw bt bb bx],some ⟨br,0,none⟩,5,[tb16 bi g0 t1 g1 k1 t2 g2 t3 g3 t4 g4 br w0 w1 bw bt bb bx],some ⟨bt,0,none⟩,1,[tx16 bi g0 t1 g1 k1 t2 g2 t3 g3 t4 g4 br w0 w1 bw bt bb bx],some ⟨bx,0,none⟩,1⟩
theorem Dq (bi g0 t1 g1 k1 t2 g2 t3 g3 t4 g4 br w0 w1 bw bt bb bx:Nat):(eP bi g0 t1 g1 k1 t2 g2 t3 g3 t4 g4 br w0 w1 bw bt bb bx).m=cat16:=rfl
theorem Dr (bi g0 t1 g1 k1 t2 g2 t3 g3 t4 g4 br w0 w1 bw bt bb bx:Nat):(eP bi g0 t1 g1 k1 t2 g2 t3 g3 t4 g4 br w0 w1 bw bt bb bx).B:=by
 refine ⟨Nat.le_of_ble_eq_true rfl,Nat.le_of_ble_eq_true rfl,Nat.le_of_ble_eq_true rfl,Nat.le_of_ble_eq_true rfl,?_,?_,?_⟩
 ·intro r hr
  simp only [eP,List.mem_cons,List.not_mem_nil,or_false] at hr
  rcases hr with rfl|rfl|rfl|rfl|rfl<;>exact ⟨Nat.le_of_ble_eq_true rfl,Nat.le_of_ble_eq_true rfl,Nat.le_of_ble_eq_true rfl⟩
 ·intro r hr
  simp only [eP,List.mem_cons,List.not_mem_nil,or_false] at hr
  subst hr
  refine ⟨Nat.le_of_ble_eq_true rfl,?_⟩
  intro w hw
  simp only [tb16,List.mem_cons,List.not_mem_nil,or_false] at hw
  rcases hw with rfl|rfl<;>exact Nat.le_of_ble_eq_true rfl
 ·intro r hr
  simp only [eP,List.mem_cons,List.not_mem_nil,or_false] at hr
  subst hr
  exact Nat.le_of_ble_eq_true rfl
theorem ja {L:List HP}:Tri Tryz.prog 11 #[] L (fun v L'=>∃ c:CatV,v=.agg c.cells.toArray∧(c.m=cat16∧c.B)∧L' = catP c::L):=by
 refine Tri.body (args:=[]) 50 en11 Tryz.func11 rfl rfl rfl (by simp) ?_
 repeat first|refine aa ?_|intro _
 rename_i b0 bi g0 t1 g1 k1 t2 g2 t3 g3 t4 g4 br w0 w1 bw bt bb bx
 refine KX.a6 (vs:=[.agg (eP bi g0 t1 g1 k1 t2 g2 t3 g3 t4 g4 br w0 w1 bw bt bb bx).cells.toArray]) (ResOk.cell rfl (by rfl) ResOk.nil) ?_ ⟨eP bi g0 t1 g1 k1 t2 g2 t3 g3 t4 g4 br w0 w1 bw bt bb bx,rfl,⟨Dq ..,Dr ..⟩,rfl⟩
 refine (Ent.d7 (b:=g0) (enc:=aC) (sz:=2) [(1,4),(2,3)] rfl (fun _ _=>rfl) (Nat.le_of_ble_eq_true rfl)).trans ?_
 refine (Ent.d7 (b:=t1) (enc:=aC) (sz:=2) [(1,2),(2,1)] rfl (fun _ _=>rfl) (Nat.le_of_ble_eq_true rfl)).trans ?_
 refine (Ent.d7 (b:=g1) (enc:=aC) (sz:=2) [(3,1)] rfl (fun _ _=>rfl) (Nat.le_of_ble_eq_true rfl)).trans ?_
 refine (Ent.d7 (b:=k1) (enc:=aC) (sz:=2) [(1,1)] rfl (fun _ _=>rfl) (Nat.le_of_ble_eq_true rfl)).trans ?_
 refine (Ent.d7 (b:=t2) (enc:=aC) (sz:=2) [(3,3)] rfl (fun _ _=>rfl) (Nat.le_of_ble_eq_true rfl)).trans ?_
 refine (Ent.d7 (b:=g2) (enc:=aC) (sz:=2) [(4,1)] rfl (fun _ _=>rfl) (Nat.le_of_ble_eq_true rfl)).trans ?_
 refine (Ent.d7 (b:=t3) (enc:=aC) (sz:=2) [(4,1)] rfl (fun _ _=>rfl) (Nat.le_of_ble_eq_true rfl)).trans ?_
 refine (Ent.d7 (b:=g3) (enc:=aC) (sz:=2) [(3,3)] rfl (fun _ _=>rfl) (Nat.le_of_ble_eq_true rfl)).trans ?_
 refine (Ent.d7 (b:=t4) (enc:=aC) (sz:=2) [(3,1)] rfl (fun _ _=>rfl) (Nat.le_of_ble_eq_true rfl)).trans ?_
 refine (Ent.d7 (b:=g4) (enc:=aC) (sz:=2) [(0,7)] rfl (fun _ _=>rfl) (Nat.le_of_ble_eq_true rfl)).trans ?_
 refine (Ent.d7 (b:=w0) (enc:=aC) (sz:=2) [(0,10)] rfl (fun _ _=>rfl) (Nat.le_of_ble_eq_true rfl)).trans ?_
 refine (Ent.d7 (b:=w1) (enc:=aC) (sz:=2) [(3,2)] rfl (fun _ _=>rfl) (Nat.le_of_ble_eq_true rfl)).trans ?_
 refine (Ent.d7 (b:=bb) (enc:=aC) (sz:=2) [(0,500),(100,1000)] rfl (fun _ _=>rfl) (Nat.le_of_ble_eq_true rfl)).trans ?_
 refine (Ent.d7 (b:=bi) (enc:=aN) (sz:=7) it16 rfl (fun _ _=>rfl) (Nat.le_of_ble_eq_true rfl)).trans ?_
 refine (Ent.d7 (b:=br) (enc:=aD) (sz:=9) [pS bi g0 t1 g1 k1 t2 g2 t3 g3 t4 g4 br w0 w1 bw bt bb bx,pR bi g0 t1 g1 k1 t2 g2 t3 g3 t4 g4 br w0 w1 bw bt bb bx,pQ bi g0 t1 g1 k1 t2 g2 t3 g3 t4 g4 br w0 w1 bw bt bb bx,pP bi g0 t1 g1 k1 t2 g2 t3 g3 t4 g4 br w0 w1 bw bt bb bx,pO bi g0 t1 g1 k1 t2 g2 t3 g3 t4 g4 br w0 w1 bw bt bb bx] rfl (fun _ _=>rfl) (Nat.le_of_ble_eq_true rfl)).trans ?_
 refine (Ent.d7 (b:=bw) (enc:=cG) (sz:=2) [pM bi g0 t1 g1 k1 t2 g2 t3 g3 t4 g4 br w0 w1 bw bt bb bx,pL bi g0 t1 g1 k1 t2 g2 t3 g3 t4 g4 br w0 w1 bw bt bb bx] rfl (fun _ _=>rfl) (Nat.le_of_ble_eq_true rfl)).trans ?_
 refine (Ent.d7 (b:=bt) (enc:=aQ) (sz:=2) [tb16 bi g0 t1 g1 k1 t2 g2 t3 g3 t4 g4 br w0 w1 bw bt bb bx] rfl (fun _ _=>rfl) (Nat.le_of_ble_eq_true rfl)).trans ?_
 refine (Ent.d7 (b:=bx) (enc:=aS) (sz:=2) [tx16 bi g0 t1 g1 k1 t2 g2 t3 g3 t4 g4 br w0 w1 bw bt bb bx] rfl (fun _ _=>rfl) (Nat.le_of_ble_eq_true rfl)).trans ?_
 refine (Ent.c8 aC 2 none).trans ?_
 refine (Ent.at (A:=isl aC 2 (some ⟨g4,0,none⟩) [(0,7)]) (Ent.refl _)).trans ?_
 refine (Ent.at (A:=isl aC 2 (some ⟨t4,0,none⟩) [(3,1)]) (Ent.refl _)).trans ?_
 refine (jX (r:=pO bi g0 t1 g1 k1 t2 g2 t3 g3 t4 g4 br w0 w1 bw bt bb bx)).trans ?_
 refine (Ent.d9 (f:=ruP) gh).trans ?_
 refine (Ent.c8 aC 2 none).trans ?_
 refine (Ent.at (A:=isl aC 2 (some ⟨g3,0,none⟩) [(3,3)]) (Ent.refl _)).trans ?_
 refine (Ent.at (A:=isl aC 2 (some ⟨t3,0,none⟩) [(4,1)]) (Ent.refl _)).trans ?_
 refine (jX (r:=pP bi g0 t1 g1 k1 t2 g2 t3 g3 t4 g4 br w0 w1 bw bt bb bx)).trans ?_
 refine (Ent.c9 (f:=ruP) gh).trans ?_
 refine (Ent.c8 aC 2 none).trans ?_
 refine (Ent.at (A:=isl aC 2 (some ⟨g2,0,none⟩) [(4,1)]) (Ent.refl _)).trans ?_
 refine (Ent.at (A:=isl aC 2 (some ⟨t2,0,none⟩) [(3,3)]) (Ent.refl _)).trans ?_
 refine (jX (r:=pQ bi g0 t1 g1 k1 t2 g2 t3 g3 t4 g4 br w0 w1 bw bt bb bx)).trans ?_
 refine (Ent.c9 (f:=ruP) gh).trans ?_
 refine (Ent.at (A:=isl aC 2 (some ⟨k1,0,none⟩) [(1,1)]) (Ent.refl _)).trans ?_
 refine (Ent.at (A:=isl aC 2 (some ⟨g1,0,none⟩) [(3,1)]) (Ent.refl _)).trans ?_
 refine (Ent.at (A:=isl aC 2 (some ⟨t1,0,none⟩) [(1,2),(2,1)]) (Ent.refl _)).trans ?_
 refine (jX (r:=pR bi g0 t1 g1 k1 t2 g2 t3 g3 t4 g4 br w0 w1 bw bt bb bx)).trans ?_
 refine (Ent.c9 (f:=ruP) gh).trans ?_
 refine (Ent.c8 aC 2 none).trans ?_
 refine (Ent.at (A:=isl aC 2 (some ⟨g0,0,none⟩) [(1,4),(2,3)]) (Ent.refl _)).trans ?_
 refine (Ent.c8 aC 2 none).trans ?_
 refine (jX (r:=pS bi g0 t1 g1 k1 t2 g2 t3 g3 t4 g4 br w0 w1 bw bt bb bx)).trans ?_
 refine (Ent.c9 (f:=ruP) gh).trans ?_
 refine (Ent.at (A:=isl aD 9 (some ⟨br,0,none⟩) [pS bi g0 t1 g1 k1 t2 g2 t3 g3 t4 g4 br w0 w1 bw bt bb bx,pR bi g0 t1 g1 k1 t2 g2 t3 g3 t4 g4 br w0 w1 bw bt bb bx,pQ bi g0 t1 g1 k1 t2 g2 t3 g3 t4 g4 br w0 w1 bw bt bb bx,pP bi g0 t1 g1 k1 t2 g2 t3 g3 t4 g4 br w0 w1 bw bt bb bx,pO bi g0 t1 g1 k1 t2 g2 t3 g3 t4 g4 br w0 w1 bw bt bb bx]) (Ent.d8 (bu _ _ _ _) (cj gh))).trans ?_
 refine (Ent.at (A:=isl aC 2 (some ⟨w1,0,none⟩) [(3,2)]) (Ent.refl _)).trans ?_
 refine (Ent.d9 (f:=rwP) (x:=pL bi g0 t1 g1 k1 t2 g2 t3 g3 t4 g4 br w0 w1 bw bt bb bx) lC).trans ?_
 refine (Ent.at (A:=isl aC 2 (some ⟨w0,0,none⟩) [(0,10)]) (Ent.refl _)).trans ?_
 refine (Ent.c9 (f:=rwP) (x:=pM bi g0 t1 g1 k1 t2 g2 t3 g3 t4 g4 br w0 w1 bw bt bb bx) lC).trans ?_
 refine (Ent.at (A:=isl cG 2 (some ⟨bw,0,none⟩) [pM bi g0 t1 g1 k1 t2 g2 t3 g3 t4 g4 br w0 w1 bw bt bb bx,pL bi g0 t1 g1 k1 t2 g2 t3 g3 t4 g4 br w0 w1 bw bt bb bx]) (Ent.d8 (bu _ _ _ _) (cj lC))).trans ?_
 refine (Ent.d9 (f:=tbP) (x:=tb16 bi g0 t1 g1 k1 t2 g2 t3 g3 t4 g4 br w0 w1 bw bt bb bx) iA).trans ?_
 refine (Ent.at (A:=isl aQ 2 (some ⟨bt,0,none⟩) [tb16 bi g0 t1 g1 k1 t2 g2 t3 g3 t4 g4 br w0 w1 bw bt bb bx]) (Ent.d8 (bu _ _ _ _) (cj iA))).trans ?_
 refine (Ent.at (A:=isl aC 2 (some ⟨bb,0,none⟩) [(0,500),(100,1000)]) (Ent.refl _)).trans ?_
 refine (Ent.d9 (f:=txP) (x:=tx16 bi g0 t1 g1 k1 t2 g2 t3 g3 t4 g4 br w0 w1 bw bt bb bx) jI).trans ?_
 refine (Ent.at (A:=isl aS 2 (some ⟨bx,0,none⟩) [tx16 bi g0 t1 g1 k1 t2 g2 t3 g3 t4 g4 br w0 w1 bw bt bb bx]) (Ent.d8 (bu _ _ _ _) (cj jI))).trans ?_
 refine (Ent.swap.trans (Ent.d8 (qI (eP bi g0 t1 g1 k1 t2 g2 t3 g3 t4 g4 br w0 w1 bw bt bb bx)) (qH (eP bi g0 t1 g1 k1 t2 g2 t3 g3 t4 g4 br w0 w1 bw bt bb bx)))).trans ?_
 refine (Ent.swap.trans (Ent.d8 (vk (eP bi g0 t1 g1 k1 t2 g2 t3 g3 t4 g4 br w0 w1 bw bt bb bx)) ((qI (eP bi g0 t1 g1 k1 t2 g2 t3 g3 t4 g4 br w0 w1 bw bt bb bx)).and (qH (eP bi g0 t1 g1 k1 t2 g2 t3 g3 t4 g4 br w0 w1 bw bt bb bx))))).trans ?_
 refine (Ent.swap.trans (Ent.d8 (Ci (eP bi g0 t1 g1 k1 t2 g2 t3 g3 t4 g4 br w0 w1 bw bt bb bx)) ((vk (eP bi g0 t1 g1 k1 t2 g2 t3 g3 t4 g4 br w0 w1 bw bt bb bx)).and ((qI (eP bi g0 t1 g1 k1 t2 g2 t3 g3 t4 g4 br w0 w1 bw bt bb bx)).and (qH (eP bi g0 t1 g1 k1 t2 g2 t3 g3 t4 g4 br w0 w1 bw bt bb bx)))))).trans ?_
 exact Ent.a6 Ent.drop
theorem kB {s:ByteArray} (h:(1≤s.size∧s.size≤16)∧dI s 0=3∧∀ i:Nat,i<s.size→dI s i=3∨dI s i=4∨dI s i=5):IsWord s:=⟨h.1,h.2.1,h.2.2⟩
theorem mp {n:Nat} {l:List (Int×Int)} (h:(∀ a∈l,0≤a.1∧a.1<n∧1≤a.2∧a.2≤1099511627776)∧l.Pairwise (fun a b=>a.1<b.1)):fT n l:=h
theorem cat16_good:CatGood cat16:=by
 refine ⟨by decide,by decide,by decide,by decide,?_,?_,?_,?_,by decide,by decide,by decide,by decide⟩
 ·intro x hx
  simp only [cat16,it16,List.mem_cons,List.not_mem_nil,or_false] at hx
  rcases hx with rfl|rfl|rfl|rfl|rfl<;>exact ⟨kB (by decide +kernel),by decide,by decide⟩
 ·intro r hr
  simp only [cat16,List.mem_cons,List.not_mem_nil,or_false] at hr
  rcases hr with rfl|rfl|rfl|rfl|rfl<;>exact ⟨kB (by decide +kernel),by decide,mp ac,mp ac,mp ac,by decide,by decide,by decide⟩
 ·intro t ht
  simp only [cat16,List.mem_cons,List.not_mem_nil,or_false] at ht
  subst ht
  refine ⟨kB (by decide +kernel),by decide,?_⟩
  intro r hr
  simp only [List.mem_cons,List.not_mem_nil,or_false] at hr
  rcases hr with rfl|rfl<;>exact ⟨by decide,mp ac⟩
 ·intro t ht
  simp only [cat16,List.mem_cons,List.not_mem_nil,or_false] at ht
  subst ht
  refine ⟨kB (by decide +kernel),by decide,by decide,?_,by decide⟩
  intro i hi
  have hi0:i=0:=by simp only [List.length_cons,List.length_nil] at hi;omega
  subst hi0
  decide
theorem mn:cat16.Ok:=⟨fun r hr a ha=>⟨by have:=(cat16_good.ru r hr).take.1 a ha;omega,((cat16_good.ru r hr).take.1 a ha).2.2.2⟩,fun r hr a ha=>⟨by have:=(cat16_good.ru r hr).give.1 a ha;omega,((cat16_good.ru r hr).give.1 a ha).2.2.2⟩,fun r hr a ha=>⟨by have:=(cat16_good.ru r hr).back.1 a ha;omega,((cat16_good.ru r hr).back.1 a ha).2.2.2⟩⟩
end
end Go.Proofs.YtfmgkkofledkbaaGreatDoor
