/- Lemmas and contracts of functions. -/
import Derived.Test.YtfmgkkofledkbaaGreatDoorGCraftNewd
import Derived.Test.YtfmgkkofledkbaaGreatDoorGCraftNewe
set_option linter.all false
set_option maxHeartbeats 4000000
namespace Go.Proofs.YtfmgkkofledkbaaGreatDoor
section
open Go.V
def noP {α:Type} (_:α):HP:=cj True
theorem mS {α:Type} (l:List α) {L:List HP}:Ent L (allP noP l::L):=fun θ R w s=>by
 obtain ⟨ok,ι,h,a,b1,c,d⟩:=s
 exact ⟨ok,ι,h,a,b1,c,Hp.emp,Hp.emp,h,Hp.a6 _,Hp.a7 _,Hp.a6 _,Hp.sub.refl _,fun _ _=>trivial,d⟩
attribute [local irreducible] G GO GP GPW GPK Ev Ef EfR Ent CB GB V.Enters
def eO {α:Type} (f:FuncId) (cap:List Value) (enc:α→List Value) (p:α→HP) (C:HP) (x:α):Prop:=∀ L:List HP,Tri Tryz.prog f (([]++[Value.agg (enc x).toArray]++cap:List Value)).toArray (C::p x::L) (fun v L'=>v=.bool true∧L' = C::p x::L)
theorem oR {L:List HP} (f:FuncId) (cap:List Value) (C:HP) (ad:Option Addr) (c:Nat) (xs:List ItG) (hl:xs.length≤64) (hf:∀ x∈xs,eO f cap bC noP C x) :
  Tri Tryz.prog 206 #[.slice ad xs.length c,.func (.func f) #[] cap.toArray] (C::allP noP xs::isl bC 7 ad xs::L) (fun v L'=>v=.bool true∧L' = C::allP noP xs::isl bC 7 ad xs::L):=by
 refine Tri.body (args:=[.slice ad xs.length c,.func (.func f) #[] cap.toArray]) 18 Ip Tryz.func206 rfl rfl rfl (by simp) ?_
 repeat first|refine aa ?_|intro
 refine G.loop (α:=Nat) (fun i=>i≤xs.length) (fun i=>[(0,.slice ad xs.length c),(1,.func (.func f) #[] cap.toArray),(7,.slice ad xs.length c),(8,.int .i64 xs.length),(9,.int .i64 (i:Int))]) (fun _=>C::allP noP xs::isl bC 7 ad xs::L) (fun i=>xs.length - i) 0 (ap _) ao (Ent.refl _) ?_
 intro i hi
 by_cases hlt:i<xs.length
 case neg =>
  repeat first|refine aa ?_|intro
  exact KX.a6 am (Ent.refl _) ⟨rfl,rfl⟩
 have hii:(i:Int).toNat=i:=ab
 have hmem:=aB hlt
 repeat first|refine aa ?_|intro
 rw [hii]
 refine GO.ent (Ent.drop.trans ((Ent.a6 (Ent.a8 (f:=noP) hmem)).trans (Ent.refl _))) ?_
 refine GO.ef (Ef.a8 rfl rfl (hf _ hmem _)) ac ?_
 rintro _ _ ⟨rfl,rfl⟩
 repeat first|refine aa ?_|intro
 refine ⟨i+1,ab,ab,?_,by exact ai⟩
 rw [aF i]
 exact ao
theorem mw {L:List HP} (f:FuncId) (cap:List Value) (C:HP) (ad:Option Addr) (c:Nat) (xs:List RuV) (hl:xs.length≤64) (hf:∀ x∈xs,eO f cap aY ruP C x) :
  Tri Tryz.prog 200 #[.slice ad xs.length c,.func (.func f) #[] cap.toArray] (C::allP ruP xs::isl aY 9 ad xs::L) (fun v L'=>v=.bool true∧L' = C::allP ruP xs::isl aY 9 ad xs::L):=by
 refine Tri.body (args:=[.slice ad xs.length c,.func (.func f) #[] cap.toArray]) 18 Iv Tryz.func200 rfl rfl rfl (by simp) ?_
 repeat first|refine aa ?_|intro
 refine G.loop (α:=Nat) (fun i=>i≤xs.length) (fun i=>[(0,.slice ad xs.length c),(1,.func (.func f) #[] cap.toArray),(7,.slice ad xs.length c),(8,.int .i64 xs.length),(9,.int .i64 (i:Int))]) (fun _=>C::allP ruP xs::isl aY 9 ad xs::L) (fun i=>xs.length - i) 0 (ap _) ao (Ent.refl _) ?_
 intro i hi
 by_cases hlt:i<xs.length
 case neg =>
  repeat first|refine aa ?_|intro
  exact KX.a6 am (Ent.refl _) ⟨rfl,rfl⟩
 have hii:(i:Int).toNat=i:=ab
 have hmem:=aB hlt
 repeat first|refine aa ?_|intro
 rw [hii]
 refine GO.ent (Ent.drop.trans ((Ent.a6 (Ent.a8 (f:=ruP) hmem)).trans (Ent.refl _))) ?_
 refine GO.ef (Ef.a8 rfl rfl (hf _ hmem _)) ac ?_
 rintro _ _ ⟨rfl,rfl⟩
 repeat first|refine aa ?_|intro
 refine ⟨i+1,ab,ab,?_,by exact ai⟩
 rw [aF i]
 exact ao
theorem mu {L:List HP} (f:FuncId) (cap:List Value) (C:HP) (ad:Option Addr) (c:Nat) (xs:List TbV) (hl:xs.length≤64) (hf:∀ x∈xs,eO f cap bI tbP C x) :
  Tri Tryz.prog 202 #[.slice ad xs.length c,.func (.func f) #[] cap.toArray] (C::allP tbP xs::isl bI 2 ad xs::L) (fun v L'=>v=.bool true∧L' = C::allP tbP xs::isl bI 2 ad xs::L):=by
 refine Tri.body (args:=[.slice ad xs.length c,.func (.func f) #[] cap.toArray]) 18 It Tryz.func202 rfl rfl rfl (by simp) ?_
 repeat first|refine aa ?_|intro
 refine G.loop (α:=Nat) (fun i=>i≤xs.length) (fun i=>[(0,.slice ad xs.length c),(1,.func (.func f) #[] cap.toArray),(7,.slice ad xs.length c),(8,.int .i64 xs.length),(9,.int .i64 (i:Int))]) (fun _=>C::allP tbP xs::isl bI 2 ad xs::L) (fun i=>xs.length - i) 0 (ap _) ao (Ent.refl _) ?_
 intro i hi
 by_cases hlt:i<xs.length
 case neg =>
  repeat first|refine aa ?_|intro
  exact KX.a6 am (Ent.refl _) ⟨rfl,rfl⟩
 have hii:(i:Int).toNat=i:=ab
 have hmem:=aB hlt
 repeat first|refine aa ?_|intro
 rw [hii]
 refine GO.ent (Ent.drop.trans ((Ent.a6 (Ent.a8 (f:=tbP) hmem)).trans (Ent.refl _))) ?_
 refine GO.ef (Ef.a8 rfl rfl (hf _ hmem _)) ac ?_
 rintro _ _ ⟨rfl,rfl⟩
 repeat first|refine aa ?_|intro
 refine ⟨i+1,ab,ab,?_,by exact ai⟩
 rw [aF i]
 exact ao
theorem mq {L:List HP} (f:FuncId) (cap:List Value) (C:HP) (ad:Option Addr) (c:Nat) (xs:List TxV) (hl:xs.length≤64) (hf:∀ x∈xs,eO f cap bN txP C x) :
  Tri Tryz.prog 204 #[.slice ad xs.length c,.func (.func f) #[] cap.toArray] (C::allP txP xs::isl bN 2 ad xs::L) (fun v L'=>v=.bool true∧L' = C::allP txP xs::isl bN 2 ad xs::L):=by
 refine Tri.body (args:=[.slice ad xs.length c,.func (.func f) #[] cap.toArray]) 18 Ir Tryz.func204 rfl rfl rfl (by simp) ?_
 repeat first|refine aa ?_|intro
 refine G.loop (α:=Nat) (fun i=>i≤xs.length) (fun i=>[(0,.slice ad xs.length c),(1,.func (.func f) #[] cap.toArray),(7,.slice ad xs.length c),(8,.int .i64 xs.length),(9,.int .i64 (i:Int))]) (fun _=>C::allP txP xs::isl bN 2 ad xs::L) (fun i=>xs.length - i) 0 (ap _) ao (Ent.refl _) ?_
 intro i hi
 by_cases hlt:i<xs.length
 case neg =>
  repeat first|refine aa ?_|intro
  exact KX.a6 am (Ent.refl _) ⟨rfl,rfl⟩
 have hii:(i:Int).toNat=i:=ab
 have hmem:=aB hlt
 repeat first|refine aa ?_|intro
 rw [hii]
 refine GO.ent (Ent.drop.trans ((Ent.a6 (Ent.a8 (f:=txP) hmem)).trans (Ent.refl _))) ?_
 refine GO.ef (Ef.a8 rfl rfl (hf _ hmem _)) ac ?_
 rintro _ _ ⟨rfl,rfl⟩
 repeat first|refine aa ?_|intro
 refine ⟨i+1,ab,ab,?_,by exact ai⟩
 rw [aF i]
 exact ao
theorem oQ {L:List HP} (f:FuncId) (cap:List Value) (C:HP) (ad:Option Addr) (c:Nat) (xs:List RwV) (hl:xs.length≤64) (hf:∀ x∈xs,eO f cap dT rwP C x) :
  Tri Tryz.prog 226 #[.slice ad xs.length c,.func (.func f) #[] cap.toArray] (C::allP rwP xs::isl dT 2 ad xs::L) (fun v L'=>v=.bool true∧L' = C::allP rwP xs::isl dT 2 ad xs::L):=by
 refine Tri.body (args:=[.slice ad xs.length c,.func (.func f) #[] cap.toArray]) 18 HV Tryz.func226 rfl rfl rfl (by simp) ?_
 repeat first|refine aa ?_|intro
 refine G.loop (α:=Nat) (fun i=>i≤xs.length) (fun i=>[(0,.slice ad xs.length c),(1,.func (.func f) #[] cap.toArray),(7,.slice ad xs.length c),(8,.int .i64 xs.length),(9,.int .i64 (i:Int))]) (fun _=>C::allP rwP xs::isl dT 2 ad xs::L) (fun i=>xs.length - i) 0 (ap _) ao (Ent.refl _) ?_
 intro i hi
 by_cases hlt:i<xs.length
 case neg =>
  repeat first|refine aa ?_|intro
  exact KX.a6 am (Ent.refl _) ⟨rfl,rfl⟩
 have hii:(i:Int).toNat=i:=ab
 have hmem:=aB hlt
 repeat first|refine aa ?_|intro
 rw [hii]
 refine GO.ent (Ent.drop.trans ((Ent.a6 (Ent.a8 (f:=rwP) hmem)).trans (Ent.refl _))) ?_
 refine GO.ef (Ef.a8 rfl rfl (hf _ hmem _)) ac ?_
 rintro _ _ ⟨rfl,rfl⟩
 repeat first|refine aa ?_|intro
 refine ⟨i+1,ab,ab,?_,by exact ai⟩
 rw [aF i]
 exact ao
theorem Dd {L:List HP} (f:FuncId) (cap:List Value) (C:HP) (ad:Option Addr) (c:Nat) (xs:List (Int×Int)) (hl:xs.length≤64) (hf:∀ x∈xs,eO f cap aV noP C x) :
  Tri Tryz.prog 230 #[.slice ad xs.length c,.func (.func f) #[] cap.toArray] (C::allP noP xs::isl aV 2 ad xs::L) (fun v L'=>v=.bool true∧L' = C::allP noP xs::isl aV 2 ad xs::L):=by
 refine Tri.body (args:=[.slice ad xs.length c,.func (.func f) #[] cap.toArray]) 18 HR Tryz.func230 rfl rfl rfl (by simp) ?_
 repeat first|refine aa ?_|intro
 refine G.loop (α:=Nat) (fun i=>i≤xs.length) (fun i=>[(0,.slice ad xs.length c),(1,.func (.func f) #[] cap.toArray),(7,.slice ad xs.length c),(8,.int .i64 xs.length),(9,.int .i64 (i:Int))]) (fun _=>C::allP noP xs::isl aV 2 ad xs::L) (fun i=>xs.length - i) 0 (ap _) ao (Ent.refl _) ?_
 intro i hi
 by_cases hlt:i<xs.length
 case neg =>
  repeat first|refine aa ?_|intro
  exact KX.a6 am (Ent.refl _) ⟨rfl,rfl⟩
 have hii:(i:Int).toNat=i:=ab
 have hmem:=aB hlt
 repeat first|refine aa ?_|intro
 rw [hii]
 refine GO.ent (Ent.drop.trans ((Ent.a6 (Ent.a8 (f:=noP) hmem)).trans (Ent.refl _))) ?_
 refine GO.ef (Ef.a8 rfl rfl (hf _ hmem _)) ac ?_
 rintro _ _ ⟨rfl,rfl⟩
 repeat first|refine aa ?_|intro
 refine ⟨i+1,ab,ab,?_,by exact ai⟩
 rw [aF i]
 exact ao
theorem Dc {L:List HP} (f:FuncId) (cap:List Value) (C:HP) (ad:Option Addr) (c:Nat) (xs:List (Int×Int)) (hl:xs.length≤64) (hf:∀ x∈xs,eO f cap aV noP C x) :
  Tri Tryz.prog 277 #[.slice ad xs.length c,.func (.func f) #[] cap.toArray] (C::allP noP xs::isl aV 2 ad xs::L) (fun v L'=>v=.bool true∧L' = C::allP noP xs::isl aV 2 ad xs::L):=by
 refine Tri.body (args:=[.slice ad xs.length c,.func (.func f) #[] cap.toArray]) 18 Hl Tryz.func277 rfl rfl rfl (by simp) ?_
 repeat first|refine aa ?_|intro
 refine G.loop (α:=Nat) (fun i=>i≤xs.length) (fun i=>[(0,.slice ad xs.length c),(1,.func (.func f) #[] cap.toArray),(7,.slice ad xs.length c),(8,.int .i64 xs.length),(9,.int .i64 (i:Int))]) (fun _=>C::allP noP xs::isl aV 2 ad xs::L) (fun i=>xs.length - i) 0 (ap _) ao (Ent.refl _) ?_
 intro i hi
 by_cases hlt:i<xs.length
 case neg =>
  repeat first|refine aa ?_|intro
  exact KX.a6 am (Ent.refl _) ⟨rfl,rfl⟩
 have hii:(i:Int).toNat=i:=ab
 have hmem:=aB hlt
 repeat first|refine aa ?_|intro
 rw [hii]
 refine GO.ent (Ent.drop.trans ((Ent.a6 (Ent.a8 (f:=noP) hmem)).trans (Ent.refl _))) ?_
 refine GO.ef (Ef.a8 rfl rfl (hf _ hmem _)) ac ?_
 rintro _ _ ⟨rfl,rfl⟩
 repeat first|refine aa ?_|intro
 refine ⟨i+1,ab,ab,?_,by exact ai⟩
 rw [aF i]
 exact ao
def encB (b:Bool):Value:=.bool b
theorem pT {L:List HP} (x:ItG):Tri Tryz.prog 213 #[.agg (bC x).toArray] L (fun u L'=>u=.string x.name∧L' = L):=by
 refine Tri.body (args:=[.agg (bC x).toArray]) 5 Ii Tryz.func213 rfl rfl rfl (by simp) ?_
 repeat first|refine aa ?_|intro
 exact KX.a6 am Ent.drop ⟨rfl,rfl⟩
theorem BM {L:List HP} (ad:Option Addr) (c:Nat) (xs:List ItG) (hl:xs.length≤64) (hd:(xs.map (·.name)).Nodup) :
  Tri Tryz.prog 212 #[.slice ad xs.length c,.func (.func 213) #[] #[]] (isl bC 7 ad xs::L) (fun v L'=>v=.bool true∧L' = isl bC 7 ad xs::L):=by
 refine Tri.body (args:=[.slice ad xs.length c,.func (.func 213) #[] #[]]) 27 Ij Tryz.func212 rfl rfl rfl (by simp) ?_
 repeat first|refine aa ?_|intro
 refine GO.ef (Ef.c7 kvS encB (.inr ⟨_,_,_,rfl,rfl,ab⟩)) ac ?_
 rintro _ _ ⟨bm,rfl,rfl⟩
 repeat first|refine aa ?_|intro
 refine G.loop (α:=Nat×List (ByteArray×Bool)) (fun x=>x.1≤xs.length∧∀ j,x.1≤j→j<xs.length→@List.lookup ByteArray Bool instBEqOfDecidableEq xs[j]!.name x.2=none) (fun x=>[(0,.slice ad xs.length c),(1,.func (.func 213) #[] #[]),(5,.map (some bm)),(11,.slice ad xs.length c),(12,.int .i64 xs.length),(13,.int .i64 (x.1:Int))]) (fun x=>gmap kvS encB bm x.2::isl bC 7 ad xs::L) (fun x=>xs.length - x.1) (0,[]) ⟨ap _,fun _ _ _=>rfl⟩ ao (Ent.refl _) ?_
 rintro ⟨i,m⟩ ⟨hi,hm⟩
 dsimp only at hi hm ⊢
 by_cases hlt:i<xs.length
 case neg =>
  repeat first|refine aa ?_|intro
  exact KX.a6 am Ent.drop ⟨rfl,rfl⟩
 have hii:(i:Int).toNat=i:=ab
 repeat first|refine aa ?_|intro
 rw [hii]
 refine GO.ef (Ef.d7 (first:=[]) (cap:=[]) (vs:=[.agg (bC xs[i]!).toArray]) (pT xs[i]!) rfl rfl) ac ?_
 rintro _ _ ⟨rfl,rfl⟩
 refine GO.ev (Ev.c7 (k:=xs[i]!.name) rfl rfl) ac ?_
 rw [hm i (aM _) hlt]
 simp only [fo,fc]
 repeat first|refine aa ?_|intro
 refine GO.ef (Ef.d7 (first:=[]) (cap:=[]) (vs:=[.agg (bC xs[i]!).toArray]) (pT xs[i]!) rfl rfl) ac ?_
 rintro _ _ ⟨rfl,rfl⟩
 refine GO.efu (Ef.e9 (k:=xs[i]!.name) (e:=true) rfl rfl rfl rfl) ?_
 rintro _ _ rfl
 repeat first|refine aa ?_|intro
 refine ⟨(i+1,gins m xs[i]!.name true),⟨by dsimp only;omega,?_⟩,by dsimp only;omega,?_,Ent.a6 Ent.drop⟩
 ·intro j hj hjl
  dsimp only at hj ⊢
  rw [gO,if_neg,hm j ab hjl]
  intro e
  have h1:(xs.map (·.name))[j]'(by simpa using hjl)=(xs.map (·.name))[i]'(by simp;omega):=by
   rw [getElem!_of hjl,getElem!_of ab] at e
   simpa using e
  have:=(eC hd).1 h1
  omega
 ·dsimp only
  rw [aF i]
  exact ao
theorem pP {L:List HP} (x:RuV):Tri Tryz.prog 215 #[.agg (aY x).toArray] L (fun u L'=>u=.string x.name∧L' = L):=by
 refine Tri.body (args:=[.agg (aY x).toArray]) 5 Ig Tryz.func215 rfl rfl rfl (by simp) ?_
 repeat first|refine aa ?_|intro
 exact KX.a6 am Ent.drop ⟨rfl,rfl⟩
theorem BL {L:List HP} (ad:Option Addr) (c:Nat) (xs:List RuV) (hl:xs.length≤64) (hd:(xs.map (·.name)).Nodup) :
  Tri Tryz.prog 214 #[.slice ad xs.length c,.func (.func 215) #[] #[]] (isl aY 9 ad xs::L) (fun v L'=>v=.bool true∧L' = isl aY 9 ad xs::L):=by
 refine Tri.body (args:=[.slice ad xs.length c,.func (.func 215) #[] #[]]) 27 Ih Tryz.func214 rfl rfl rfl (by simp) ?_
 repeat first|refine aa ?_|intro
 refine GO.ef (Ef.c7 kvS encB (.inr ⟨_,_,_,rfl,rfl,ab⟩)) ac ?_
 rintro _ _ ⟨bm,rfl,rfl⟩
 repeat first|refine aa ?_|intro
 refine G.loop (α:=Nat×List (ByteArray×Bool)) (fun x=>x.1≤xs.length∧∀ j,x.1≤j→j<xs.length→@List.lookup ByteArray Bool instBEqOfDecidableEq xs[j]!.name x.2=none) (fun x=>[(0,.slice ad xs.length c),(1,.func (.func 215) #[] #[]),(5,.map (some bm)),(11,.slice ad xs.length c),(12,.int .i64 xs.length),(13,.int .i64 (x.1:Int))]) (fun x=>gmap kvS encB bm x.2::isl aY 9 ad xs::L) (fun x=>xs.length - x.1) (0,[]) ⟨ap _,fun _ _ _=>rfl⟩ ao (Ent.refl _) ?_
 rintro ⟨i,m⟩ ⟨hi,hm⟩
 dsimp only at hi hm ⊢
 by_cases hlt:i<xs.length
 case neg =>
  repeat first|refine aa ?_|intro
  exact KX.a6 am Ent.drop ⟨rfl,rfl⟩
 have hii:(i:Int).toNat=i:=ab
 repeat first|refine aa ?_|intro
 rw [hii]
 refine GO.ef (Ef.d7 (first:=[]) (cap:=[]) (vs:=[.agg (aY xs[i]!).toArray]) (pP xs[i]!) rfl rfl) ac ?_
 rintro _ _ ⟨rfl,rfl⟩
 refine GO.ev (Ev.c7 (k:=xs[i]!.name) rfl rfl) ac ?_
 rw [hm i (aM _) hlt]
 simp only [fo,fc]
 repeat first|refine aa ?_|intro
 refine GO.ef (Ef.d7 (first:=[]) (cap:=[]) (vs:=[.agg (aY xs[i]!).toArray]) (pP xs[i]!) rfl rfl) ac ?_
 rintro _ _ ⟨rfl,rfl⟩
 refine GO.efu (Ef.e9 (k:=xs[i]!.name) (e:=true) rfl rfl rfl rfl) ?_
 rintro _ _ rfl
 repeat first|refine aa ?_|intro
 refine ⟨(i+1,gins m xs[i]!.name true),⟨by dsimp only;omega,?_⟩,by dsimp only;omega,?_,Ent.a6 Ent.drop⟩
 ·intro j hj hjl
  dsimp only at hj ⊢
  rw [gO,if_neg,hm j ab hjl]
  intro e
  have h1:(xs.map (·.name))[j]'(by simpa using hjl)=(xs.map (·.name))[i]'(by simp;omega):=by
   rw [getElem!_of hjl,getElem!_of ab] at e
   simpa using e
  have:=(eC hd).1 h1
  omega
 ·dsimp only
  rw [aF i]
  exact ao
theorem oq {L:List HP} (x:TbV):Tri Tryz.prog 217 #[.agg (bI x).toArray] L (fun u L'=>u=.string x.name∧L' = L):=by
 refine Tri.body (args:=[.agg (bI x).toArray]) 5 Ie Tryz.func217 rfl rfl rfl (by simp) ?_
 repeat first|refine aa ?_|intro
 exact KX.a6 am Ent.drop ⟨rfl,rfl⟩
theorem BK {L:List HP} (ad:Option Addr) (c:Nat) (xs:List TbV) (hl:xs.length≤64) (hd:(xs.map (·.name)).Nodup) :
  Tri Tryz.prog 216 #[.slice ad xs.length c,.func (.func 217) #[] #[]] (isl bI 2 ad xs::L) (fun v L'=>v=.bool true∧L' = isl bI 2 ad xs::L):=by
 refine Tri.body (args:=[.slice ad xs.length c,.func (.func 217) #[] #[]]) 27 If Tryz.func216 rfl rfl rfl (by simp) ?_
 repeat first|refine aa ?_|intro
 refine GO.ef (Ef.c7 kvS encB (.inr ⟨_,_,_,rfl,rfl,ab⟩)) ac ?_
 rintro _ _ ⟨bm,rfl,rfl⟩
 repeat first|refine aa ?_|intro
 refine G.loop (α:=Nat×List (ByteArray×Bool)) (fun x=>x.1≤xs.length∧∀ j,x.1≤j→j<xs.length→@List.lookup ByteArray Bool instBEqOfDecidableEq xs[j]!.name x.2=none) (fun x=>[(0,.slice ad xs.length c),(1,.func (.func 217) #[] #[]),(5,.map (some bm)),(11,.slice ad xs.length c),(12,.int .i64 xs.length),(13,.int .i64 (x.1:Int))]) (fun x=>gmap kvS encB bm x.2::isl bI 2 ad xs::L) (fun x=>xs.length - x.1) (0,[]) ⟨ap _,fun _ _ _=>rfl⟩ ao (Ent.refl _) ?_
 rintro ⟨i,m⟩ ⟨hi,hm⟩
 dsimp only at hi hm ⊢
 by_cases hlt:i<xs.length
 case neg =>
  repeat first|refine aa ?_|intro
  exact KX.a6 am Ent.drop ⟨rfl,rfl⟩
 have hii:(i:Int).toNat=i:=ab
 repeat first|refine aa ?_|intro
 rw [hii]
 refine GO.ef (Ef.d7 (first:=[]) (cap:=[]) (vs:=[.agg (bI xs[i]!).toArray]) (oq xs[i]!) rfl rfl) ac ?_
 rintro _ _ ⟨rfl,rfl⟩
 refine GO.ev (Ev.c7 (k:=xs[i]!.name) rfl rfl) ac ?_
 rw [hm i (aM _) hlt]
 simp only [fo,fc]
 repeat first|refine aa ?_|intro
 refine GO.ef (Ef.d7 (first:=[]) (cap:=[]) (vs:=[.agg (bI xs[i]!).toArray]) (oq xs[i]!) rfl rfl) ac ?_
 rintro _ _ ⟨rfl,rfl⟩
 refine GO.efu (Ef.e9 (k:=xs[i]!.name) (e:=true) rfl rfl rfl rfl) ?_
 rintro _ _ rfl
 repeat first|refine aa ?_|intro
 refine ⟨(i+1,gins m xs[i]!.name true),⟨by dsimp only;omega,?_⟩,by dsimp only;omega,?_,Ent.a6 Ent.drop⟩
 ·intro j hj hjl
  dsimp only at hj ⊢
  rw [gO,if_neg,hm j ab hjl]
  intro e
  have h1:(xs.map (·.name))[j]'(by simpa using hjl)=(xs.map (·.name))[i]'(by simp;omega):=by
   rw [getElem!_of hjl,getElem!_of ab] at e
   simpa using e
  have:=(eC hd).1 h1
  omega
 ·dsimp only
  rw [aF i]
  exact ao
theorem qP {L:List HP} (x:TxV):Tri Tryz.prog 219 #[.agg (bN x).toArray] L (fun u L'=>u=.string x.name∧L' = L):=by
 refine Tri.body (args:=[.agg (bN x).toArray]) 5 Ic Tryz.func219 rfl rfl rfl (by simp) ?_
 repeat first|refine aa ?_|intro
 exact KX.a6 am Ent.drop ⟨rfl,rfl⟩
theorem BJ {L:List HP} (ad:Option Addr) (c:Nat) (xs:List TxV) (hl:xs.length≤64) (hd:(xs.map (·.name)).Nodup) :
  Tri Tryz.prog 218 #[.slice ad xs.length c,.func (.func 219) #[] #[]] (isl bN 2 ad xs::L) (fun v L'=>v=.bool true∧L' = isl bN 2 ad xs::L):=by
 refine Tri.body (args:=[.slice ad xs.length c,.func (.func 219) #[] #[]]) 27 Id Tryz.func218 rfl rfl rfl (by simp) ?_
 repeat first|refine aa ?_|intro
 refine GO.ef (Ef.c7 kvS encB (.inr ⟨_,_,_,rfl,rfl,ab⟩)) ac ?_
 rintro _ _ ⟨bm,rfl,rfl⟩
 repeat first|refine aa ?_|intro
 refine G.loop (α:=Nat×List (ByteArray×Bool)) (fun x=>x.1≤xs.length∧∀ j,x.1≤j→j<xs.length→@List.lookup ByteArray Bool instBEqOfDecidableEq xs[j]!.name x.2=none) (fun x=>[(0,.slice ad xs.length c),(1,.func (.func 219) #[] #[]),(5,.map (some bm)),(11,.slice ad xs.length c),(12,.int .i64 xs.length),(13,.int .i64 (x.1:Int))]) (fun x=>gmap kvS encB bm x.2::isl bN 2 ad xs::L) (fun x=>xs.length - x.1) (0,[]) ⟨ap _,fun _ _ _=>rfl⟩ ao (Ent.refl _) ?_
 rintro ⟨i,m⟩ ⟨hi,hm⟩
 dsimp only at hi hm ⊢
 by_cases hlt:i<xs.length
 case neg =>
  repeat first|refine aa ?_|intro
  exact KX.a6 am Ent.drop ⟨rfl,rfl⟩
 have hii:(i:Int).toNat=i:=ab
 repeat first|refine aa ?_|intro
 rw [hii]
 refine GO.ef (Ef.d7 (first:=[]) (cap:=[]) (vs:=[.agg (bN xs[i]!).toArray]) (qP xs[i]!) rfl rfl) ac ?_
 rintro _ _ ⟨rfl,rfl⟩
 refine GO.ev (Ev.c7 (k:=xs[i]!.name) rfl rfl) ac ?_
 rw [hm i (aM _) hlt]
 simp only [fo,fc]
 repeat first|refine aa ?_|intro
 refine GO.ef (Ef.d7 (first:=[]) (cap:=[]) (vs:=[.agg (bN xs[i]!).toArray]) (qP xs[i]!) rfl rfl) ac ?_
 rintro _ _ ⟨rfl,rfl⟩
 refine GO.efu (Ef.e9 (k:=xs[i]!.name) (e:=true) rfl rfl rfl rfl) ?_
 rintro _ _ rfl
 repeat first|refine aa ?_|intro
 refine ⟨(i+1,gins m xs[i]!.name true),⟨by dsimp only;omega,?_⟩,by dsimp only;omega,?_,Ent.a6 Ent.drop⟩
 ·intro j hj hjl
  dsimp only at hj ⊢
  rw [gO,if_neg,hm j ab hjl]
  intro e
  have h1:(xs.map (·.name))[j]'(by simpa using hjl)=(xs.map (·.name))[i]'(by simp;omega):=by
   rw [getElem!_of hjl,getElem!_of ab] at e
   simpa using e
  have:=(eC hd).1 h1
  omega
 ·dsimp only
  rw [aF i]
  exact ao
end
section
open Go.V
attribute [local irreducible] G GO GP GPW GPK Ev Ef EfR Ent CB GB V.Enters
def iE (n:Nat) (l:List (Int×Int)):Prop:=(∀ a∈l,0≤a.1∧a.1<n∧1≤a.2∧a.2≤1099511627776)∧l.Pairwise (fun a b=>a.1<b.1)
def fC (l:List (Int×Int)) (i:Int):Int:=l.foldl (fun s a=>if a.1=i then s+a.2 else s) 0
structure ItGood (x:ItG):Prop where
 word:IsWord x.name
 form:if x.obj=true then x.mixed=false∧x.coin=false∧0≤x.bind∧x.bind≤2 else x.wear=0∧x.bind=0∧x.level=0
 num:(x.obj=true→1≤x.wear∧x.wear≤1048576)∧0≤x.level∧x.level≤100
structure RuGood (n:Nat) (r:RuM):Prop where
 word:IsWord r.name
 lim:r.take.length+r.give.length≤64∧r.take.length+r.back.length≤64
 take:iE n r.take
 give:iE n r.give
 back:iE n r.back
 form:(r.back.length=0∨r.chance≠r.of_)∧(if r.spawn=true then r.take.length=0∧r.back.length=0∧r.level=0∧r.time=0∧r.chance=r.of_ else 0<r.take.length∨r.time≠0)
 cont:∀ a∈r.back,fC r.back a.1≤fC r.take a.1
 num:(0≤r.level∧r.level≤100)∧(0≤r.time∧r.time≤1000000)∧(1≤r.of_∧r.of_≤1000000)∧1≤r.chance∧r.chance≤r.of_
structure RwGood (n:Nat) (r:RwM):Prop where
 num:1≤r.weight∧r.weight≤1099511627776
 give:iE n r.give
structure TbGood (n:Nat) (t:TbM):Prop where
 word:IsWord t.name
 rows:0<t.rows.length∧t.rows.length≤64
 good:∀ r∈t.rows,RwGood n r
structure TxGood (t:TxM):Prop where
 word:IsWord t.name
 brs:0<t.brs.length∧t.brs.length≤16
 first:t.brs[0]!.1=0
 srt:∀ i,i+1<t.brs.length→t.brs[i]!.1<t.brs[i+1]!.1
 num:∀ b∈t.brs,(0≤b.1∧b.1≤1099511627776)∧0≤b.2∧b.2≤10000
structure CatGood (c:CatM):Prop where
 items:c.items.length≤64
 rules:c.rules.length≤64
 tables:c.tables.length≤32
 taxes:c.taxes.length≤32
 it:∀ x∈c.items,ItGood x
 ru:∀ r∈c.rules,RuGood c.items.length r
 tb:∀ t∈c.tables,TbGood c.items.length t
 tx:∀ t∈c.taxes,TxGood t
 di:(c.items.map (·.name)).Nodup
 dr:(c.rules.map (·.name)).Nodup
 dt:(c.tables.map (·.name)).Nodup
 dx:(c.taxes.map (·.name)).Nodup
theorem FO (n:Nat) (r:RuV) (h:RuGood n r.m):eO 201 [] aY ruP (cj True) r:=by
 intro L
 obtain ⟨h1,h2⟩:=h.lim
 change r.take.l.length+r.give.l.length≤64 at h1
 change r.take.l.length+r.back.l.length≤64 at h2
 refine Tri.body (args:=[.agg (aY r).toArray]) 21 Iu Tryz.func201 rfl rfl rfl (by simp) ?_
 repeat first|refine aa ?_|intro
 exact KX.a6 am Ent.drop ⟨by rw [aO ab];rfl,rfl⟩
theorem FN (n:Nat) (t:TbV) (h:TbGood n t.m):eO 203 [] bI tbP (cj True) t:=by
 intro L
 have h1:t.rows.length≤64:=by have:=h.rows.2;simpa [TbV.m] using this
 refine Tri.body (args:=[.agg (bI t).toArray]) 7 Is Tryz.func203 rfl rfl rfl (by simp) ?_
 repeat first|refine aa ?_|intro
 exact KX.a6 am Ent.drop ⟨by rw [aO ab];rfl,rfl⟩
theorem FM (t:TxV) (h:TxGood t.m):eO 205 [] bN txP (cj True) t:=by
 intro L
 have h1:t.brs.length≤16:=h.brs.2
 refine Tri.body (args:=[.agg (bN t).toArray]) 7 Iq Tryz.func205 rfl rfl rfl (by simp) ?_
 repeat first|refine aa ?_|intro
 exact KX.a6 am Ent.drop ⟨by rw [aO ab];rfl,rfl⟩
abbrev catS (c:CatV) (L:List HP):List HP:=isl bC 7 c.iad c.items::isl aY 9 c.rad c.rules::allP ruP c.rules::isl bI 2 c.tad c.tables::allP tbP c.tables::isl bN 2 c.xad c.taxes::allP txP c.taxes::L
theorem catS_open {c:CatV} {L:List HP}:Ent (catP c::L) (catS c (catP c::L)) :=
 (Ent.dup (mZ c).pers).trans (Ent.andE.trans (Ent.a6 (Ent.andE.trans (Ent.andE.trans (Ent.a6 (Ent.a6 (Ent.andE.trans (Ent.andE.trans (Ent.a6 (Ent.a6 Ent.andE))))))))))
theorem jM {c:CatV} (h:CatGood c.m):∀ r∈c.rules,RuGood c.items.length r.m:=fun _ hr=>h.ru _ (alStd0List_mem_map_of_mem hr)
theorem jL {c:CatV} (h:CatGood c.m):∀ t∈c.tables,TbGood c.items.length t.m:=fun _ ht=>h.tb _ (alStd0List_mem_map_of_mem ht)
theorem kI {c:CatV} (h:CatGood c.m):∀ t∈c.taxes,TxGood t.m:=fun _ ht=>h.tx _ (alStd0List_mem_map_of_mem ht)
theorem lens {c:CatV} (h:CatGood c.m):c.items.length≤64∧c.rules.length≤64∧c.tables.length≤32∧c.taxes.length≤32:=by
 have h1:=h.items
 have h2:=h.rules
 have h3:=h.tables
 have h4:=h.taxes
 simp only [CatV.m,av] at h1 h2 h3 h4
 exact ⟨h1,h2,h3,h4⟩
theorem qJ {L:List HP} (c:CatV) (h:CatGood c.m):Tri Tryz.prog 137 #[.agg c.cells.toArray] (catS c (cm::L)) (fun v L'=>v=.bool true∧L' = catS c (cm::L)):=by
 obtain ⟨l1,l2,l3,l4⟩:=lens h
 refine Tri.body (args:=[.agg c.cells.toArray]) 40 Jm Tryz.func137 rfl rfl rfl (by simp) ?_
 simp only [catS,CatV.cells]
 repeat first|refine aa ?_|intro
 refine GO.ent (Ent.pure trivial (Ent.refl _)) ?_
 (first|refine GO.ef (Ef.call (mw (L:=[]) _ [] (cj True) c.rad c.rcap c.rules l2 (fun r hr=>FO _ r (jM h r hr))) rfl (by repeat (first|exact Ent.refl _|apply Ent.take))) ac ?_)
 rintro _ _ ⟨_,⟨rfl,rfl⟩,hL⟩
 simp only [ae,ah] at hL;subst hL
 repeat first|refine aa ?_|intro _
 (first|refine GO.ef (Ef.call (mu (L:=[]) _ [] (cj True) c.tad c.tcap c.tables ab (fun r hr=>FN _ r (jL h r hr))) rfl (by repeat (first|exact Ent.refl _|apply Ent.take))) ac ?_)
 rintro _ _ ⟨_,⟨rfl,rfl⟩,hL⟩
 simp only [ae,ah] at hL;subst hL
 repeat first|refine aa ?_|intro _
 (first|refine GO.ef (Ef.call (mq (L:=[]) _ [] (cj True) c.xad c.xcap c.taxes ab (fun r hr=>FM r (kI h r hr))) rfl (by repeat (first|exact Ent.refl _|apply Ent.take))) ac ?_)
 rintro _ _ ⟨_,⟨rfl,rfl⟩,hL⟩
 simp only [ae,ah] at hL;subst hL
 repeat first|refine aa ?_|intro
 exact KX.a6 am ai ⟨rfl,rfl⟩
theorem FY (x:ItG) (h:IsWord x.name):eO 207 [] bC noP cm x:=by
 intro L
 refine Tri.body (args:=[.agg (bC x).toArray]) 6 Io Tryz.func207 rfl rfl rfl (by simp) ?_
 repeat first|refine aa ?_|intro
 refine GO.ef (Ef.a6 (lz x.name h) rfl) ac ?_
 rintro _ _ ⟨rfl,rfl⟩
 repeat first|refine aa ?_|intro
 exact KX.a6 am Ent.drop ⟨rfl,rfl⟩
theorem FX (x:RuV) (h:IsWord x.name):eO 209 [] aY ruP cm x:=by
 intro L
 refine Tri.body (args:=[.agg (aY x).toArray]) 6 Im Tryz.func209 rfl rfl rfl (by simp) ?_
 repeat first|refine aa ?_|intro
 refine GO.ef (Ef.a6 (lz x.name h) rfl) ac ?_
 rintro _ _ ⟨rfl,rfl⟩
 repeat first|refine aa ?_|intro
 exact KX.a6 am Ent.drop ⟨rfl,rfl⟩
theorem FV (x:TbV) (h:IsWord x.name):eO 210 [] bI tbP cm x:=by
 intro L
 refine Tri.body (args:=[.agg (bI x).toArray]) 6 Il Tryz.func210 rfl rfl rfl (by simp) ?_
 repeat first|refine aa ?_|intro
 refine GO.ef (Ef.a6 (lz x.name h) rfl) ac ?_
 rintro _ _ ⟨rfl,rfl⟩
 repeat first|refine aa ?_|intro
 exact KX.a6 am Ent.drop ⟨rfl,rfl⟩
theorem FU (x:TxV) (h:IsWord x.name):eO 211 [] bN txP cm x:=by
 intro L
 refine Tri.body (args:=[.agg (bN x).toArray]) 6 Ik Tryz.func211 rfl rfl rfl (by simp) ?_
 repeat first|refine aa ?_|intro
 refine GO.ef (Ef.a6 (lz x.name h) rfl) ac ?_
 rintro _ _ ⟨rfl,rfl⟩
 repeat first|refine aa ?_|intro
 exact KX.a6 am Ent.drop ⟨rfl,rfl⟩
theorem yr {L:List HP} (c:CatV) (h:CatGood c.m):Tri Tryz.prog 138 #[.agg c.cells.toArray] (catS c (cm::L)) (fun v L'=>v=.bool true∧L' = catS c (cm::L)):=by
 obtain ⟨l1,l2,l3,l4⟩:=lens h
 refine Tri.body (args:=[.agg c.cells.toArray]) 21 Jl Tryz.func138 rfl rfl rfl (by simp) ?_
 simp only [catS,CatV.cells]
 repeat first|refine aa ?_|intro
 refine GO.ent (mS c.items) ?_
 (first|refine GO.ef (Ef.call (oR (L:=[]) _ [] cm c.iad c.icap c.items l1 (fun x hx=>FY x (h.it x hx).word)) rfl (by repeat (first|exact Ent.refl _|apply Ent.take))) ac ?_)
 rintro _ _ ⟨_,⟨rfl,rfl⟩,hL⟩
 simp only [ae,ah] at hL;subst hL
 repeat first|refine aa ?_|intro _
 (first|refine GO.ef (Ef.call (mw (L:=[]) _ [] cm c.rad c.rcap c.rules l2 (fun r hr=>FX r (jM h r hr).word)) rfl (by repeat (first|exact Ent.refl _|apply Ent.take))) ac ?_)
 rintro _ _ ⟨_,⟨rfl,rfl⟩,hL⟩
 simp only [ae,ah] at hL;subst hL
 repeat first|refine aa ?_|intro _
 (first|refine GO.ef (Ef.call (mu (L:=[]) _ [] cm c.tad c.tcap c.tables ab (fun r hr=>FV r (jL h r hr).word)) rfl (by repeat (first|exact Ent.refl _|apply Ent.take))) ac ?_)
 rintro _ _ ⟨_,⟨rfl,rfl⟩,hL⟩
 simp only [ae,ah] at hL;subst hL
 repeat first|refine aa ?_|intro _
 (first|refine GO.ef (Ef.call (mq (L:=[]) _ [] cm c.xad c.xcap c.taxes ab (fun r hr=>FU r (kI h r hr).word)) rfl (by repeat (first|exact Ent.refl _|apply Ent.take))) ac ?_)
 rintro _ _ ⟨_,⟨rfl,rfl⟩,hL⟩
 simp only [ae,ah] at hL;subst hL
 repeat first|refine aa ?_|intro
 exact KX.a6 am ai ⟨rfl,rfl⟩
theorem sw {L:List HP} (c:CatV) (h:CatGood c.m):Tri Tryz.prog 139 #[.agg c.cells.toArray] (catS c (cm::L)) (fun v L'=>v=.bool true∧L' = catS c (cm::L)):=by
 obtain ⟨l1,l2,l3,l4⟩:=lens h
 have d1:(c.items.map (·.name)).Nodup:=h.di
 have d2:(c.rules.map (·.name)).Nodup:=by have:=h.dr;simpa [CatV.m,RuV.m,TbV.m,TxV.m,Function.comp_def] using this
 have d3:(c.tables.map (·.name)).Nodup:=by have:=h.dt;simpa [CatV.m,RuV.m,TbV.m,TxV.m,Function.comp_def] using this
 have d4:(c.taxes.map (·.name)).Nodup:=by have:=h.dx;simpa [CatV.m,RuV.m,TbV.m,TxV.m,Function.comp_def] using this
 refine Tri.body (args:=[.agg c.cells.toArray]) 21 Jk Tryz.func139 rfl rfl rfl (by simp) ?_
 simp only [catS,CatV.cells]
 repeat first|refine aa ?_|intro _
 (first|refine GO.ef (Ef.call (BM (L:=[]) c.iad c.icap c.items l1 d1) rfl (by repeat (first|exact Ent.refl _|apply Ent.take))) ac ?_)
 rintro _ _ ⟨_,⟨rfl,rfl⟩,hL⟩
 simp only [ae,ah] at hL;subst hL
 repeat first|refine aa ?_|intro _
 (first|refine GO.ef (Ef.call (BL (L:=[]) c.rad c.rcap c.rules l2 d2) rfl (by repeat (first|exact Ent.refl _|apply Ent.take))) ac ?_)
 rintro _ _ ⟨_,⟨rfl,rfl⟩,hL⟩
 simp only [ae,ah] at hL;subst hL
 repeat first|refine aa ?_|intro _
 (first|refine GO.ef (Ef.call (BK (L:=[]) c.tad c.tcap c.tables ab d3) rfl (by repeat (first|exact Ent.refl _|apply Ent.take))) ac ?_)
 rintro _ _ ⟨_,⟨rfl,rfl⟩,hL⟩
 simp only [ae,ah] at hL;subst hL
 repeat first|refine aa ?_|intro _
 (first|refine GO.ef (Ef.call (BJ (L:=[]) c.xad c.xcap c.taxes ab d4) rfl (by repeat (first|exact Ent.refl _|apply Ent.take))) ac ?_)
 rintro _ _ ⟨_,⟨rfl,rfl⟩,hL⟩
 simp only [ae,ah] at hL;subst hL
 repeat first|refine aa ?_|intro
 exact KX.a6 am ai ⟨rfl,rfl⟩
end
section
open Go.V
attribute [local irreducible] G GO GP GPW GPK Ev Ef EfR Ent CB GB V.Enters
abbrev tCat:Nat:=32
theorem qK {L:List HP} (b1:Nat) (c:CatV) (ad:Option Addr) (cap:Nat) (l:List (Int×Int)) (hl:l.length≤64) (hc:c.items.length≤64) (h:iE c.items.length l) :
  Tri Tryz.prog 220 #[.slice ad l.length cap,.pointer (some ⟨b1,0,none⟩)] (obj b1 tCat c.cells::isl aV 2 ad l::L) (fun v L'=>v=.bool true∧L' = obj b1 tCat c.cells::isl aV 2 ad l::L):=by
 obtain ⟨h1,h2⟩:=h
 refine Tri.body (args:=[.slice ad l.length cap,.pointer (some ⟨b1,0,none⟩)]) 28 Ib Tryz.func220 rfl rfl rfl (by simp) ?_
 simp only [CatV.cells]
 repeat first|refine aa ?_|intro
 refine G.loop (α:=Nat×Int) (fun x=>x.1≤l.length∧∀ j,x.1≤j→j<l.length→x.2<l[j]!.1) (fun x=>[(1,.pointer (some ⟨b1,0,none⟩)),(4,.int .i64 x.2),(7,.slice ad l.length cap),(8,.int .i64 l.length),(9,.int .i64 (x.1:Int))]) (fun _=>obj b1 tCat [.slice c.iad c.items.length c.icap,.slice c.rad c.rules.length c.rcap,.slice c.tad c.tables.length c.tcap,.slice c.xad c.taxes.length c.xcap]::isl aV 2 ad l::L) (fun x=>l.length - x.1) (0,-1) ⟨ap _,fun j _ hj=>by have:=h1 _ (aB hj);dsimp only;omega⟩ ao (Ent.refl _) ?_
 rintro ⟨i,last⟩ ⟨hi,hlast⟩
 dsimp only at hi hlast ⊢
 by_cases hlt:i<l.length
 case neg =>
  repeat first|refine aa ?_|intro
  exact KX.a6 am (Ent.refl _) ⟨rfl,rfl⟩
 have hii:(i:Int).toNat=i:=ab
 have ha:=h1 _ (aB hlt)
 have hb:=hlast i (aM _) hlt
 repeat first|refine aa ?_|intro
 rw [hii]
 repeat first|refine aa ?_|intro
 refine ⟨(i+1,l[i]!.1),⟨by dsimp only;omega,?_⟩,by dsimp only;omega,?_,Ent.drop⟩
 ·intro j hj hjl
  dsimp only at hj ⊢
  rw [getElem!_of hlt,getElem!_of hjl]
  exact List.pairwise_iff_getElem.1 h2 i j hlt hjl ab
 ·dsimp only
  rw [aF i]
  exact ao
theorem ub (x:ItG) (h:ItGood x):eO 221 [] bC noP (cj True) x:=by
 intro L
 have hf:=h.form
 refine Tri.body (args:=[.agg (bC x).toArray]) 36 Ia Tryz.func221 rfl rfl rfl (by simp) ?_
 cases hx:x.obj with
 | true =>
  rw [if_pos hx] at hf
  obtain ⟨f1,f2,f3,f4⟩:=hf
  have e:bC x=[.string x.name,.bool true,.bool false,.bool false,.int .i64 x.wear,.int .i64 x.bind,.int .i64 x.level]:=by unfold bC;rw [hx,f1,f2]
  rw [e]
  repeat first|refine aa ?_|intro
  exact KX.a6 am Ent.drop ⟨by rw [aO f4];rfl,rfl⟩
 | false =>
  rw [if_neg (by rw [hx];decide)] at hf
  obtain ⟨f1,f2,f3⟩:=hf
  have e:bC x=[.string x.name,.bool false,.bool x.mixed,.bool x.coin,.int .i64 0,.int .i64 0,.int .i64 0]:=by unfold bC;rw [hx,f1,f2,f3]
  rw [e]
  repeat first|refine aa ?_|intro
  exact KX.a6 am Ent.drop ⟨by rw [aO rfl];rfl,rfl⟩
theorem tW {L:List HP} (n:Nat) (r:RuV) (h:RuGood n r.m):Tri Tryz.prog 223 #[.agg (aY r).toArray] L (fun v L'=>v=.bool true∧L' = L):=by
 obtain ⟨hf1,hf2⟩:=h.form
 change (r.back.l.length=0∨r.chance≠r.of_) at hf1
 have hg:∀ {q:Prop},(r.back.l.length=0→q)→(¬r.back.l.length=0→r.chance≠r.of_→q)→q:=by
  intro q a b
  by_cases h0:r.back.l.length=0
  ·exact a h0
  ·exact b h0 (hf1.resolve_left h0)
 change (if r.spawn=true then r.take.l.length=0∧r.back.l.length=0∧r.level=0∧r.time=0∧r.chance=r.of_ else 0<r.take.l.length∨r.time≠0) at hf2
 refine Tri.body (args:=[.agg (aY r).toArray]) 52 HY Tryz.func223 rfl rfl rfl (by simp) ?_
 cases hx:r.spawn with
 | true =>
  rw [if_pos hx] at hf2
  obtain ⟨f1,f2,f3,f4,f5⟩:=hf2
  have e:aY r=[.string r.name,.bool true,.int .i64 r.level,.int .i64 r.time,.int .i64 r.chance,.int .i64 r.of_,.slice r.take.ad r.take.l.length r.take.cap,.slice r.give.ad r.give.l.length r.give.cap,.slice r.back.ad r.back.l.length r.back.cap]:=by unfold aY;rw [hx]
  rw [e]
  repeat first|refine aa ?_|intro
  exact KX.a6 am Ent.drop ⟨by rw [aO f5];rfl,rfl⟩
 | false =>
  rw [if_neg (by rw [hx];decide)] at hf2
  have e:aY r=[.string r.name,.bool false,.int .i64 r.level,.int .i64 r.time,.int .i64 r.chance,.int .i64 r.of_,.slice r.take.ad r.take.l.length r.take.cap,.slice r.give.ad r.give.l.length r.give.cap,.slice r.back.ad r.back.l.length r.back.cap]:=by unfold aY;rw [hx]
  rw [e]
  refine hg ?_ ?_
  ·intro h0
   by_cases h5:0<r.take.l.length
   ·repeat first|refine aa ?_|intro
    exact KX.a6 am Ent.drop ⟨rfl,rfl⟩
   ·have h6:r.time≠0:=hf2.resolve_left h5
    repeat first|refine aa ?_|intro
    exact KX.a6 am Ent.drop ⟨by rw [aO h6];rfl,rfl⟩
  ·intro h0 hne
   by_cases h5:0<r.take.l.length
   ·repeat first|refine aa ?_|intro
    exact KX.a6 am Ent.drop ⟨rfl,rfl⟩
   ·have h6:r.time≠0:=hf2.resolve_left h5
    repeat first|refine aa ?_|intro
    exact KX.a6 am Ent.drop ⟨by rw [aO h6];rfl,rfl⟩
def amU (l:List (Int×Int)) (m:List (Int×Int)):Prop:=∀ i,(glk m i).getD 0=fC l i
theorem nT (l:List (Int×Int)) (a:Int×Int) (i:Int):fC (l++[a]) i=if a.1=i then fC l i+a.2 else fC l i:=by
 unfold fC
 rw [bS]
 rfl
theorem qD {n:Nat} {l:List (Int×Int)} (h:∀ a∈l,0≤a.1∧a.1<n∧1≤a.2∧a.2≤1099511627776) (i:Int):∀ k,k≤l.length→0≤fC (l.take k) i∧fC (l.take k) i≤k*1099511627776:=by
 intro k
 induction k with
 | zero=>intro _;simp [fC]
 | succ k ih =>
  intro hk
  have h1:=ih ab
  have h2:=h _ (cd (show k<l.length by omega))
  rw [au ab,nT]
  split<;>omega
end
section
open Go.V
attribute [local irreducible] G GO GP GPW GPK Ev Ef EfR Ent CB GB V.Enters
theorem CY (m:List (Int×Int)) (k q a:Int):glk (gins m k a) q=if q=k then some a else glk m q:=gO
theorem qO (m:List (Int×Int)) (k d:Int):((@List.lookup _ _ instBEqOfDecidableEq k m).map encN).getD (.int .i64 d)=.int .i64 ((glk m k).getD d):=by
 unfold glk
 cases @List.lookup _ _ instBEqOfDecidableEq k m<;>rfl
theorem zr:amU [] []:=fun _=>rfl
theorem zt {l:List (Int×Int)} {m:List (Int×Int)} (h:amU l m) (a:Int×Int):amU (l++[a]) (gins m a.1 (fC l a.1+a.2)):=by
 intro i
 rw [nT,CY]
 by_cases hi:a.1=i
 ·subst hi
  rw [if_pos rfl,if_pos rfl]
  rfl
 ·rw [if_neg (fun e=>hi e.symm),if_neg hi]
  exact h i
theorem yT {L:List HP} (n:Nat) (ad1 ad2:Option Addr) (c1 c2:Nat) (tk bk:List (Int×Int)) (h1:tk.length≤64) (h2:bk.length≤64) (ht:iE n tk) (hb:iE n bk) (hc:∀ a∈bk,fC bk a.1≤fC tk a.1) :
  Tri Tryz.prog 224 #[.slice ad1 tk.length c1,.slice ad2 bk.length c2] (isl aV 2 ad1 tk::isl aV 2 ad2 bk::L) (fun v L'=>v=.bool true∧L' = isl aV 2 ad1 tk::isl aV 2 ad2 bk::L):=by
 refine Tri.body (args:=[.slice ad1 tk.length c1,.slice ad2 bk.length c2]) 59 HX Tryz.func224 rfl rfl rfl (by simp) ?_
 repeat first|refine aa ?_|intro
 refine GO.ef (Ef.c7 kvI encN (.inl rfl)) ac ?_
 rintro _ _ ⟨b1,rfl,rfl⟩
 repeat first|refine aa ?_|intro
 refine GO.ef (Ef.c7 kvI encN (.inl rfl)) ac ?_
 rintro _ _ ⟨b2,rfl,rfl⟩
 repeat first|((fail_if_success (with_reducible refine G.c7 2 ?_));(with_reducible apply G.seq))|refine bu ?_|intro
 refine G.a8 (α:=List (Int×Int)) (fun m=>amU tk m) (fun _=>[(1,.slice ad2 bk.length c2),(5,.map (some b1)),(6,.map (some b2))]) (fun m=>gmap kvI encN b2 []::gmap kvI encN b1 m::isl aV 2 ad1 tk::isl aV 2 ad2 bk::L) ?_ ?_
 ·repeat first|refine aa ?_|intro
  refine G.loop (α:=Nat×List (Int×Int)) (fun x=>x.1≤tk.length∧amU (tk.take x.1) x.2) (fun x=>[(1,.slice ad2 bk.length c2),(5,.map (some b1)),(6,.map (some b2)),(15,.slice ad1 tk.length c1),(16,.int .i64 tk.length),(17,.int .i64 (x.1:Int))]) (fun x=>gmap kvI encN b2 []::gmap kvI encN b1 x.2::isl aV 2 ad1 tk::isl aV 2 ad2 bk::L) (fun x=>tk.length - x.1) (0,[]) ⟨ap _,zr⟩ ao (Ent.refl _) ?_
  rintro ⟨i,m⟩ ⟨hi,hm⟩
  dsimp only at hi hm ⊢
  by_cases hlt:i<tk.length
  case neg =>
   rw [ax ab] at hm
   repeat first|refine aa ?_|intro
   exact ⟨m,hm,ao,Ent.refl _⟩
  have hii:(i:Int).toNat=i:=ab
  have ha:=ht.1 _ (aB hlt)
  have hcb:=qD ht.1 tk[i]!.1 i ab
  have hmi:=hm tk[i]!.1
  repeat first|refine aa ?_|intro
  rw [hii]
  refine GO.ev (Ev.c7 rfl rfl) ac ?_
  rw [qO,hmi]
  repeat first|refine aa ?_|intro
  refine GO.efu (Ef.e9 (enc:=encN) (e:=fC (tk.take i) tk[i]!.1+tk[i]!.2) rfl rfl rfl rfl) ?_
  rintro _ _ rfl
  repeat first|refine aa ?_|intro
  refine ⟨(i+1,gins m tk[i]!.1 (fC (tk.take i) tk[i]!.1+tk[i]!.2)),⟨by dsimp only;omega,?_⟩,by dsimp only;omega,?_,by exact ai⟩
  ·dsimp only
   rw [au hlt,← getElem!_of hlt]
   exact zt hm _
  ·dsimp only
   rw [aF i]
   exact ao
 intro m1 hm1
 refine G.a8 (α:=List (Int×Int)) (fun m=>amU bk m) (fun _=>[(1,.slice ad2 bk.length c2),(5,.map (some b1)),(6,.map (some b2))]) (fun m=>gmap kvI encN b2 m::gmap kvI encN b1 m1::isl aV 2 ad1 tk::isl aV 2 ad2 bk::L) ?_ ?_
 ·repeat first|refine aa ?_|intro
  refine G.loop (α:=Nat×List (Int×Int)) (fun x=>x.1≤bk.length∧amU (bk.take x.1) x.2) (fun x=>[(1,.slice ad2 bk.length c2),(5,.map (some b1)),(6,.map (some b2)),(29,.slice ad2 bk.length c2),(30,.int .i64 bk.length),(31,.int .i64 (x.1:Int))]) (fun x=>gmap kvI encN b2 x.2::gmap kvI encN b1 m1::isl aV 2 ad1 tk::isl aV 2 ad2 bk::L) (fun x=>bk.length - x.1) (0,[]) ⟨ap _,zr⟩ ao (Ent.refl _) ?_
  rintro ⟨i,m⟩ ⟨hi,hm⟩
  dsimp only at hi hm ⊢
  by_cases hlt:i<bk.length
  case neg =>
   rw [ax ab] at hm
   repeat first|refine aa ?_|intro
   exact ⟨m,hm,ao,Ent.refl _⟩
  have hii:(i:Int).toNat=i:=ab
  have ha:=hb.1 _ (aB hlt)
  have hcb:=qD hb.1 bk[i]!.1 i ab
  have hmi:=hm bk[i]!.1
  repeat first|refine aa ?_|intro
  rw [hii]
  refine GO.ev (Ev.c7 rfl rfl) ac ?_
  rw [qO,hmi]
  repeat first|refine aa ?_|intro
  refine GO.efu (Ef.e9 (enc:=encN) (e:=fC (bk.take i) bk[i]!.1+bk[i]!.2) rfl rfl rfl rfl) ?_
  rintro _ _ rfl
  repeat first|refine aa ?_|intro
  refine ⟨(i+1,gins m bk[i]!.1 (fC (bk.take i) bk[i]!.1+bk[i]!.2)),⟨by dsimp only;omega,?_⟩,by dsimp only;omega,?_,by exact ai⟩
  ·dsimp only
   rw [au hlt,← getElem!_of hlt]
   exact zt hm _
  ·dsimp only
   rw [aF i]
   exact ao
 intro m2 hm2
 repeat first|refine aa ?_|intro
 refine G.loop (α:=Nat) (fun i=>i≤bk.length) (fun i=>[(5,.map (some b1)),(6,.map (some b2)),(43,.slice ad2 bk.length c2),(44,.int .i64 bk.length),(45,.int .i64 (i:Int))]) (fun _=>gmap kvI encN b2 m2::gmap kvI encN b1 m1::isl aV 2 ad1 tk::isl aV 2 ad2 bk::L) (fun i=>bk.length - i) 0 (ap _) ao (Ent.refl _) ?_
 intro i hi
 by_cases hlt:i<bk.length
 case neg =>
  repeat first|refine aa ?_|intro
  exact KX.a6 am ai ⟨rfl,rfl⟩
 have hii:(i:Int).toNat=i:=ab
 have e1:=hm1 bk[i]!.1
 have e2:=hm2 bk[i]!.1
 have hle:=hc _ (aB hlt)
 repeat first|refine aa ?_|intro
 rw [hii]
 refine GO.ev (Ev.c7 rfl rfl) ac ?_
 rw [qO,e1]
 repeat first|refine aa ?_|intro
 refine GO.ev (Ev.c7 rfl rfl) ac ?_
 rw [qO,e2]
 repeat first|refine aa ?_|intro
 refine ⟨i+1,ab,ab,?_,by exact ai⟩
 rw [aF i]
 exact ao
end
section
open Go.V
attribute [local irreducible] G GO GP GPW GPK Ev Ef EfR Ent CB GB V.Enters
abbrev tSrt:Nat:=297
abbrev srtC (b3 b1:Nat) (c:CatV):List HP:=[obj b3 tSrt [.func (.func 220) #[] #[.pointer (some ⟨b1,0,none⟩)]],obj b1 tCat c.cells]
theorem uP {r:RuV} {L:List HP}:Ent (ruP r::L) (amS r.take::amS r.give::amS r.back::ruP r::L):=(Ent.dup (iO r).pers).trans ruOpen
theorem FQ (b3 b1:Nat) (c:CatV) (hc:c.items.length≤64) (r:RuV) (h:RuGood c.items.length r.m):eO 222 [.pointer (some ⟨b3,0,none⟩)] aY ruP (bK (srtC b3 b1 c)) r:=by
 intro L
 have hl:=h.lim
 change r.take.l.length+r.give.l.length≤64∧r.take.l.length+r.back.l.length≤64 at hl
 refine Tri.body (args:=[.agg (aY r).toArray,.pointer (some ⟨b3,0,none⟩)]) 31 HZ Tryz.func222 rfl rfl rfl (by simp) ?_
 refine G.ent (Ent.openS.trans (Ent.a6 (Ent.a6 uP))) ?_
 repeat first|refine aa ?_|intro
 refine GO.ent (Ent.at (A:=amS r.take) (Ent.at (A:=obj b1 tCat c.cells) (Ent.refl _))) ?_
 refine GO.ef (Ef.a8 rfl rfl (qK b1 c r.take.ad r.take.cap r.take.l ab hc h.take)) ac ?_
 rintro _ _ ⟨rfl,rfl⟩
 repeat first|refine aa ?_|intro
 refine GO.ent (Ent.at (A:=amS r.give) (Ent.at (A:=obj b1 tCat c.cells) (Ent.refl _))) ?_
 refine GO.ef (Ef.a8 rfl rfl (qK b1 c r.give.ad r.give.cap r.give.l ab hc h.give)) ac ?_
 rintro _ _ ⟨rfl,rfl⟩
 repeat first|refine aa ?_|intro
 refine GO.ent (Ent.at (A:=amS r.back) (Ent.at (A:=obj b1 tCat c.cells) (Ent.refl _))) ?_
 refine GO.ef (Ef.a8 rfl rfl (qK b1 c r.back.ad r.back.cap r.back.l ab hc h.back)) ac ?_
 rintro _ _ ⟨rfl,rfl⟩
 repeat first|refine aa ?_|intro
 refine GO.ef (Ef.a6 (tW _ r h) rfl) ac ?_
 rintro _ _ ⟨rfl,rfl⟩
 repeat first|refine aa ?_|intro _
 (first|refine GO.ef (Ef.call (yT (L:=[]) c.items.length r.take.ad r.back.ad r.take.cap r.back.cap r.take.l r.back.l ab ab h.take h.back h.cont) rfl (by repeat (first|exact Ent.refl _|apply Ent.take))) ac ?_)
 rintro _ _ ⟨_,⟨rfl,rfl⟩,hL⟩
 simp only [ae,ah] at hL;subst hL
 repeat first|refine aa ?_|intro
 refine KX.a6 am ?_ ⟨rfl,rfl⟩
 refine Ent.trans ?_ Ent.e7
 simp only [ae,ah]
 exact ai
theorem ER (b3 b1:Nat) (c:CatV) (hc:c.items.length≤64) (r:RwV) (hl:r.give.l.length≤64) (h:iE c.items.length r.give.l):eO 227 [.pointer (some ⟨b3,0,none⟩)] dT rwP (bK (srtC b3 b1 c)) r:=by
 intro L
 refine Tri.body (args:=[.agg (dT r).toArray,.pointer (some ⟨b3,0,none⟩)]) 8 HU Tryz.func227 rfl rfl rfl (by simp) ?_
 refine G.ent Ent.openS ?_
 simp only [ae,ah]
 repeat first|refine aa ?_|intro
 refine GO.ent (Ent.at (A:=amS r.give) (Ent.at (A:=obj b1 tCat c.cells) (Ent.refl _))) ?_
 refine GO.ef (Ef.a8 rfl rfl (qK b1 c r.give.ad r.give.cap r.give.l hl hc h)) ac ?_
 rintro _ _ ⟨rfl,rfl⟩
 repeat first|refine aa ?_|intro
 refine KX.a6 am ?_ ⟨rfl,rfl⟩
 refine Ent.trans ?_ Ent.e7
 simp only [ae,ah]
 exact ai
theorem qg {t:TbV} {L:List HP}:Ent (tbP t::L) (isl dT 2 t.ad t.rows::allP rwP t.rows::tbP t::L):=(Ent.dup (jZ t).pers).trans Ent.andE
theorem jP {n:Nat} {t:TbV} (h:TbGood n t.m):(0<t.rows.length∧t.rows.length≤64)∧∀ r∈t.rows,RwGood n r.m:=by
 have h1:=h.rows
 have h2:=h.good
 simp only [TbV.m,av] at h1 h2
 exact ⟨h1,fun r hr=>h2 _ (alStd0List_mem_map_of_mem hr)⟩
theorem FP (b3 b1:Nat) (c:CatV) (hc:c.items.length≤64) (t:TbV) (hB:t.B) (h:TbGood c.items.length t.m):eO 225 [.pointer (some ⟨b3,0,none⟩)] bI tbP (bK (srtC b3 b1 c)) t:=by
 intro L
 obtain ⟨⟨r1,r2⟩,r3⟩:=jP h
 refine Tri.body (args:=[.agg (bI t).toArray,.pointer (some ⟨b3,0,none⟩)]) 14 HW Tryz.func225 rfl rfl rfl (by simp) ?_
 refine G.ent (Ent.a6 qg) ?_
 repeat first|refine aa ?_|intro _
 (first|refine GO.ef (Ef.call (oQ (L:=[]) _ [.pointer (some ⟨b3,0,none⟩)] (bK (srtC b3 b1 c)) t.ad t.cap t.rows r2 (fun r hr=>ER b3 b1 c hc r (hB.2 r hr) (r3 r hr).give)) rfl (by repeat (first|exact Ent.refl _|apply Ent.take))) ac ?_)
 rintro _ _ ⟨_,⟨rfl,rfl⟩,hL⟩
 simp only [ae,ah] at hL;subst hL
 repeat first|refine aa ?_|intro
 exact KX.a6 am ai ⟨rfl,rfl⟩
abbrev Bd:List Stp:=[.ev 0,.ev 1,.ev 2,.ev 3,.ev 4,.ev 5,.ev 6,.ev 7,.ev 8,.ev 9,.ev 10,.ev 11,.ev 12,.ev 13]
theorem lU {φ ψ:Prop} (k:ψ) (h:Hid ψ→φ:=by intro k;(with_reducible apply G.a7);first|refine G.a6 (N:=37) (id:=6) Bd mixed aj (Hid.out k)):φ:=h ⟨k⟩
theorem uC (t:TxV) (h:TxGood t.m):eO 228 [] bN txP (cj True) t:=by
 intro L
 obtain ⟨h1,h2⟩:=h.brs
 change 0<t.brs.length at h1
 change t.brs.length≤16 at h2
 have h3:t.brs[(0:Int).toNat]!.1=0:=h.first
 have h4:∀ i,i+1<t.brs.length→t.brs[i]!.1<t.brs[i+1]!.1:=h.srt
 refine Tri.body (args:=[.agg (bN t).toArray]) 37 HT Tryz.func228 rfl rfl rfl (by simp) ?_
 refine G.ent (L':=isl aV 2 t.ad t.brs::cj True::L) (by unfold txP;exact ai) ?_
 repeat first|refine aa ?_|intro _|refine lU ?_
 rename_i b1
 refine G.loop (α:=Nat) (fun i=>1≤i∧i≤t.brs.length) (fun i=>[(1,.pointer (some ⟨b1,0,none⟩)),(3,.int .i64 (i:Int))]) (fun _=>obj b1 115 (bN t)::isl aV 2 t.ad t.brs::cj True::L) (fun i=>t.brs.length - i) 1 ⟨ab,ab⟩ ao ai ?_
 rintro i ⟨hi1,hi2⟩
 by_cases hlt:i<t.brs.length
 case neg =>
  repeat first|refine aa ?_|intro _|refine lU ?_
  refine KX.a6 am ?_ ⟨rfl,rfl⟩
  unfold txP
  exact ai
 have h5:=h4 (i - 1) ab
 rw [show i - 1+1=i by omega] at h5
 have h6:t.brs[((i:Int) - 1).toNat]!.1<t.brs[(i:Int).toNat]!.1:=by
  rw [show ((i:Int) - 1).toNat=i - 1 by omega,show (i:Int).toNat=i by omega]
  exact h5
 repeat first|refine aa ?_|intro _|refine lU ?_
 refine ⟨i+1,⟨ab,ab⟩,ab,?_,by exact ai⟩
 rw [aF i]
 exact ao
theorem tR {L:List HP} (c:CatV) (hB:c.B) (h:CatGood c.m):Tri Tryz.prog 140 #[.agg c.cells.toArray] (catS c (cm::L)) (fun v L'=>v=.bool true∧L' = catS c (cm::L)):=by
 obtain ⟨l1,l2,l3,l4⟩:=lens h
 refine Tri.body (args:=[.agg c.cells.toArray]) 25 Jj Tryz.func140 rfl rfl rfl (by simp) ?_
 simp only [catS]
 repeat first|refine aa ?_|intro
 rename_i b1 b3
 refine GO.ent (Ent.pure trivial (mS c.items)) ?_
 simp only [CatV.cells]
 repeat first|refine aa ?_|intro _
 (first|refine GO.ef (Ef.call (oR (L:=[]) _ [] (cj True) c.iad c.icap c.items l1 (fun x hx=>ub x (h.it x hx))) rfl (by repeat (first|exact Ent.refl _|apply Ent.take))) ac ?_)
 rintro _ _ ⟨_,⟨rfl,rfl⟩,hL⟩
 simp only [ae,ah] at hL;subst hL
 repeat first|refine aa ?_|intro
 refine GO.ent (L':=bK (srtC b3 b1 c)::cj True::isl bC 7 c.iad c.items::isl aY 9 c.rad c.rules::allP ruP c.rules::isl bI 2 c.tad c.tables::allP tbP c.tables::isl bN 2 c.xad c.taxes::allP txP c.taxes::cm::L) ?_ ?_
 ·refine Ent.trans ?_ Ent.e7
  simp only [srtC,CatV.cells,ae,ah]
  exact ai
 (first|refine GO.ef (Ef.call (mw (L:=[]) _ [.pointer (some ⟨b3,0,none⟩)] (bK (srtC b3 b1 c)) c.rad c.rcap c.rules l2 (fun r hr=>FQ b3 b1 c l1 r (jM h r hr))) rfl (by repeat (first|exact Ent.refl _|apply Ent.take))) ac ?_)
 rintro _ _ ⟨_,⟨rfl,rfl⟩,hL⟩
 simp only [ae,ah] at hL;subst hL
 refine GO.ent (Ent.openS (A:=srtC b3 b1 c)) ?_
 simp only [srtC,CatV.cells,ae,ah]
 repeat first|refine aa ?_|intro
 refine GO.ent (L':=bK (srtC b3 b1 c)::cj True::isl bC 7 c.iad c.items::isl aY 9 c.rad c.rules::allP ruP c.rules::isl bI 2 c.tad c.tables::allP tbP c.tables::isl bN 2 c.xad c.taxes::allP txP c.taxes::cm::L) ?_ ?_
 ·refine Ent.trans ?_ Ent.e7
  simp only [srtC,CatV.cells,ae,ah]
  exact ai
 (first|refine GO.ef (Ef.call (mu (L:=[]) _ [.pointer (some ⟨b3,0,none⟩)] (bK (srtC b3 b1 c)) c.tad c.tcap c.tables ab (fun r hr=>FP b3 b1 c l1 r (hB.tb r hr) (jL h r hr))) rfl (by repeat (first|exact Ent.refl _|apply Ent.take))) ac ?_)
 rintro _ _ ⟨_,⟨rfl,rfl⟩,hL⟩
 simp only [ae,ah] at hL;subst hL
 refine GO.ent (Ent.openS (A:=srtC b3 b1 c)) ?_
 simp only [srtC,CatV.cells,ae,ah]
 repeat first|refine aa ?_|intro _
 (first|refine GO.ef (Ef.call (mq (L:=[]) _ [] (cj True) c.xad c.xcap c.taxes ab (fun r hr=>uC r (kI h r hr))) rfl (by repeat (first|exact Ent.refl _|apply Ent.take))) ac ?_)
 rintro _ _ ⟨_,⟨rfl,rfl⟩,hL⟩
 simp only [ae,ah] at hL;subst hL
 repeat first|refine aa ?_|intro
 exact KX.a6 am ai ⟨rfl,rfl⟩
theorem Ft (a:Int×Int) (h:1≤a.2∧a.2≤1099511627776):eO 231 [] aV noP (cj True) a:=by
 intro L
 obtain ⟨h1,h2⟩:=h
 refine Tri.body (args:=[.agg (aV a).toArray]) 11 HQ Tryz.func231 rfl rfl rfl (by simp) ?_
 repeat first|refine aa ?_|intro
 exact KX.a6 am Ent.drop ⟨by rw [aO h2];rfl,rfl⟩
theorem rH {L:List HP} (n:Nat) (ad:Option Addr) (cap:Nat) (l:List (Int×Int)) (hl:l.length≤64) (h:iE n l):Tri Tryz.prog 229 #[.slice ad l.length cap] (isl aV 2 ad l::L) (fun v L'=>v=.bool true∧L' = isl aV 2 ad l::L):=by
 refine Tri.body (args:=[.slice ad l.length cap]) 5 HS Tryz.func229 rfl rfl rfl (by simp) ?_
 repeat first|refine aa ?_|intro
 refine GO.ent (Ent.pure trivial (mS l)) ?_
 (first|refine GO.ef (Ef.call (Dd (L:=[]) _ [] (cj True) ad cap l hl (fun a ha=>Ft a (h.1 a ha).2.2)) rfl (by repeat (first|exact Ent.refl _|apply Ent.take))) ac ?_)
 rintro _ _ ⟨_,⟨rfl,rfl⟩,hL⟩
 simp only [ae,ah] at hL;subst hL
 repeat first|refine aa ?_|intro
 exact KX.a6 am ai ⟨rfl,rfl⟩
theorem sC (x:ItG) (h:ItGood x):eO 232 [] bC noP (cj True) x:=by
 intro L
 obtain ⟨h1,h2,h3⟩:=h.num
 refine Tri.body (args:=[.agg (bC x).toArray]) 26 HO Tryz.func232 rfl rfl rfl (by simp) ?_
 cases hx:x.obj with
 | true =>
  obtain ⟨f1,f2⟩:=h1 hx
  have e:bC x=[.string x.name,.bool true,.bool x.mixed,.bool x.coin,.int .i64 x.wear,.int .i64 x.bind,.int .i64 x.level]:=by unfold bC;rw [hx]
  rw [e]
  repeat first|refine aa ?_|intro
  exact KX.a6 am Ent.drop ⟨by rw [aO h3];rfl,rfl⟩
 | false =>
  have e:bC x=[.string x.name,.bool false,.bool x.mixed,.bool x.coin,.int .i64 x.wear,.int .i64 x.bind,.int .i64 x.level]:=by unfold bC;rw [hx]
  rw [e]
  repeat first|refine aa ?_|intro
  exact KX.a6 am Ent.drop ⟨by rw [aO h3];rfl,rfl⟩
theorem so {L:List HP} (n:Nat) (r:RuV) (h:RuGood n r.m):Tri Tryz.prog 234 #[.agg (aY r).toArray] L (fun v L'=>v=.bool true∧L' = L):=by
 obtain ⟨⟨h1,h2⟩,⟨h3,h4⟩,⟨h5,h6⟩,h7,h8⟩:=h.num
 change 0≤r.level at h1
 change r.level≤100 at h2
 change 0≤r.time at h3
 change r.time≤1000000 at h4
 change 1≤r.of_ at h5
 change r.of_≤1000000 at h6
 change 1≤r.chance at h7
 change r.chance≤r.of_ at h8
 refine Tri.body (args:=[.agg (aY r).toArray]) 43 HM Tryz.func234 rfl rfl rfl (by simp) ?_
 repeat first|refine aa ?_|intro
 exact KX.a6 am Ent.drop ⟨by rw [aO h8];rfl,rfl⟩
abbrev untC (b3:Nat):HP:=obj b3 tSrt [.func (.func 229) #[] #[]]
theorem Gf (b3 n:Nat) (r:RuV) (h:RuGood n r.m):eO 233 [.pointer (some ⟨b3,0,none⟩)] aY ruP (untC b3) r:=by
 intro L
 have hl:=h.lim
 change r.take.l.length+r.give.l.length≤64∧r.take.l.length+r.back.l.length≤64 at hl
 refine Tri.body (args:=[.agg (aY r).toArray,.pointer (some ⟨b3,0,none⟩)]) 24 HN Tryz.func233 rfl rfl rfl (by simp) ?_
 refine G.ent (Ent.a6 uP) ?_
 repeat first|refine aa ?_|intro
 refine GO.ent (Ent.at (A:=amS r.take) (Ent.refl _)) ?_
 refine GO.ef (Ef.a8 rfl rfl (rH n r.take.ad r.take.cap r.take.l ab h.take)) ac ?_
 rintro _ _ ⟨rfl,rfl⟩
 repeat first|refine aa ?_|intro
 refine GO.ent (Ent.at (A:=amS r.give) (Ent.refl _)) ?_
 refine GO.ef (Ef.a8 rfl rfl (rH n r.give.ad r.give.cap r.give.l ab h.give)) ac ?_
 rintro _ _ ⟨rfl,rfl⟩
 repeat first|refine aa ?_|intro
 refine GO.ent (Ent.at (A:=amS r.back) (Ent.refl _)) ?_
 refine GO.ef (Ef.a8 rfl rfl (rH n r.back.ad r.back.cap r.back.l ab h.back)) ac ?_
 rintro _ _ ⟨rfl,rfl⟩
 repeat first|refine aa ?_|intro
 refine GO.ef (Ef.a6 (so n r h) rfl) ac ?_
 rintro _ _ ⟨rfl,rfl⟩
 repeat first|refine aa ?_|intro
 exact KX.a6 am ai ⟨rfl,rfl⟩
theorem EQ (n:Nat) (r:RwV) (h:RwGood n r.m):eO 276 [] dT rwP (cj True) r:=by
 intro L
 obtain ⟨h1,h2⟩:=h.num
 change 1≤r.weight at h1
 change r.weight≤1099511627776 at h2
 refine Tri.body (args:=[.agg (dT r).toArray]) 11 Hm Tryz.func276 rfl rfl rfl (by simp) ?_
 repeat first|refine aa ?_|intro
 exact KX.a6 am Ent.drop ⟨by rw [aO h2];rfl,rfl⟩
theorem pD {L:List HP} (n:Nat) (t:TbV) (h:TbGood n t.m):Tri Tryz.prog 236 #[.agg (bI t).toArray] (tbP t::L) (fun v L'=>v=.bool true∧L' = tbP t::L):=by
 obtain ⟨⟨r1,r2⟩,r3⟩:=jP h
 refine Tri.body (args:=[.agg (bI t).toArray]) 6 HK Tryz.func236 rfl rfl rfl (by simp) ?_
 refine G.ent qg ?_
 repeat first|refine aa ?_|intro
 refine GO.ent (Ent.pure trivial (Ent.refl _)) ?_
 (first|refine GO.ef (Ef.call (oQ (L:=[]) _ [] (cj True) t.ad t.cap t.rows r2 (fun r hr=>EQ n r (r3 r hr))) rfl (by repeat (first|exact Ent.refl _|apply Ent.take))) ac ?_)
 rintro _ _ ⟨_,⟨rfl,rfl⟩,hL⟩
 simp only [ae,ah] at hL;subst hL
 repeat first|refine aa ?_|intro
 exact KX.a6 am ai ⟨rfl,rfl⟩
theorem Fs (b3 n:Nat) (r:RwV) (hl:r.give.l.length≤64) (h:iE n r.give.l):eO 237 [.pointer (some ⟨b3,0,none⟩)] dT rwP (untC b3) r:=by
 intro L
 refine Tri.body (args:=[.agg (dT r).toArray,.pointer (some ⟨b3,0,none⟩)]) 8 HJ Tryz.func237 rfl rfl rfl (by simp) ?_
 repeat first|refine aa ?_|intro
 refine GO.ent (Ent.at (A:=amS r.give) (Ent.refl _)) ?_
 refine GO.ef (Ef.a8 rfl rfl (rH n r.give.ad r.give.cap r.give.l hl h)) ac ?_
 rintro _ _ ⟨rfl,rfl⟩
 repeat first|refine aa ?_|intro
 exact KX.a6 am ai ⟨rfl,rfl⟩
theorem Ge (b3 n:Nat) (t:TbV) (hB:t.B) (h:TbGood n t.m):eO 235 [.pointer (some ⟨b3,0,none⟩)] bI tbP (untC b3) t:=by
 intro L
 obtain ⟨⟨r1,r2⟩,r3⟩:=jP h
 refine Tri.body (args:=[.agg (bI t).toArray,.pointer (some ⟨b3,0,none⟩)]) 12 HL Tryz.func235 rfl rfl rfl (by simp) ?_
 repeat first|refine aa ?_|intro _
 (first|refine GO.ef (Ef.call (pD (L:=[]) n t h) rfl (by repeat (first|exact Ent.refl _|apply Ent.take))) ac ?_)
 rintro _ _ ⟨_,⟨rfl,rfl⟩,hL⟩
 simp only [ae,ah] at hL;subst hL
 refine GO.ent qg ?_
 repeat first|refine aa ?_|intro _
 (first|refine GO.ef (Ef.call (oQ (L:=[]) _ [.pointer (some ⟨b3,0,none⟩)] (untC b3) t.ad t.cap t.rows r2 (fun r hr=>Fs b3 n r (hB.2 r hr) (r3 r hr).give)) rfl (by repeat (first|exact Ent.refl _|apply Ent.take))) ac ?_)
 rintro _ _ ⟨_,⟨rfl,rfl⟩,hL⟩
 simp only [ae,ah] at hL;subst hL
 repeat first|refine aa ?_|intro
 exact KX.a6 am ai ⟨rfl,rfl⟩
theorem ET (b:Int×Int) (h:(0≤b.1∧b.1≤1099511627776)∧0≤b.2∧b.2≤10000):eO 278 [] aV noP (cj True) b:=by
 intro L
 obtain ⟨⟨h1,h2⟩,h3,h4⟩:=h
 refine Tri.body (args:=[.agg (aV b).toArray]) 21 Hk Tryz.func278 rfl rfl rfl (by simp) ?_
 repeat first|refine aa ?_|intro
 exact KX.a6 am Ent.drop ⟨by rw [aO h4];rfl,rfl⟩
theorem tS (t:TxV) (h:TxGood t.m):eO 238 [] bN txP (cj True) t:=by
 intro L
 obtain ⟨h1,h2⟩:=h.brs
 change 0<t.brs.length at h1
 change t.brs.length≤16 at h2
 refine Tri.body (args:=[.agg (bN t).toArray]) 6 HI Tryz.func238 rfl rfl rfl (by simp) ?_
 refine G.ent (L':=isl aV 2 t.ad t.brs::cj True::L) (by unfold txP;exact ai) ?_
 repeat first|refine aa ?_|intro
 refine GO.ent (mS t.brs) ?_
 (first|refine GO.ef (Ef.call (Dc (L:=[]) _ [] (cj True) t.ad t.cap t.brs ab (fun b hb=>ET b (h.num b hb))) rfl (by repeat (first|exact Ent.refl _|apply Ent.take))) ac ?_)
 rintro _ _ ⟨_,⟨rfl,rfl⟩,hL⟩
 simp only [ae,ah] at hL;subst hL
 repeat first|refine aa ?_|intro
 refine KX.a6 am ?_ ⟨rfl,rfl⟩
 unfold txP
 exact ai
theorem Bs {L:List HP} (c:CatV) (hB:c.B) (h:CatGood c.m):Tri Tryz.prog 141 #[.agg c.cells.toArray] (catS c (cm::L)) (fun v L'=>v=.bool true∧L' = catS c (cm::L)):=by
 obtain ⟨l1,l2,l3,l4⟩:=lens h
 refine Tri.body (args:=[.agg c.cells.toArray]) 24 Ji Tryz.func141 rfl rfl rfl (by simp) ?_
 simp only [catS,CatV.cells]
 repeat first|refine aa ?_|intro
 rename_i b1 b3
 refine GO.ent (Ent.pure trivial (mS c.items)) ?_
 (first|refine GO.ef (Ef.call (oR (L:=[]) _ [] (cj True) c.iad c.icap c.items l1 (fun x hx=>sC x (h.it x hx))) rfl (by repeat (first|exact Ent.refl _|apply Ent.take))) ac ?_)
 rintro _ _ ⟨_,⟨rfl,rfl⟩,hL⟩
 simp only [ae,ah] at hL;subst hL
 repeat first|refine aa ?_|intro _
 (first|refine GO.ef (Ef.call (mw (L:=[]) _ [.pointer (some ⟨b3,0,none⟩)] (untC b3) c.rad c.rcap c.rules l2 (fun r hr=>Gf b3 _ r (jM h r hr))) rfl (by repeat (first|exact Ent.refl _|apply Ent.take))) ac ?_)
 rintro _ _ ⟨_,⟨rfl,rfl⟩,hL⟩
 simp only [ae,ah] at hL;subst hL
 repeat first|refine aa ?_|intro _
 (first|refine GO.ef (Ef.call (mu (L:=[]) _ [.pointer (some ⟨b3,0,none⟩)] (untC b3) c.tad c.tcap c.tables ab (fun r hr=>Ge b3 _ r (hB.tb r hr) (jL h r hr))) rfl (by repeat (first|exact Ent.refl _|apply Ent.take))) ac ?_)
 rintro _ _ ⟨_,⟨rfl,rfl⟩,hL⟩
 simp only [ae,ah] at hL;subst hL
 repeat first|refine aa ?_|intro _
 (first|refine GO.ef (Ef.call (mq (L:=[]) _ [] (cj True) c.xad c.xcap c.taxes ab (fun r hr=>tS r (kI h r hr))) rfl (by repeat (first|exact Ent.refl _|apply Ent.take))) ac ?_)
 rintro _ _ ⟨_,⟨rfl,rfl⟩,hL⟩
 simp only [ae,ah] at hL;subst hL
 repeat first|refine aa ?_|intro
 exact KX.a6 am ai ⟨rfl,rfl⟩
theorem Dg {L:List HP} (c:CatV) (hB:c.B) (h:CatGood c.m):Tri Tryz.prog 93 #[.agg c.cells.toArray] (catP c::cm::L) (fun v L'=>v=.int .i64 0∧L' = catP c::cm::L):=by
 refine Tri.body (args:=[.agg c.cells.toArray]) 23 en93 Tryz.func93 rfl rfl rfl (by simp) ?_
 refine G.ent (L':=catS c (cm::catP c::L)) (catS_open.trans (by simp only [catS];exact ai)) ?_
 simp only [CatV.cells]
 repeat first|refine aa ?_|intro
 rename_i b1
 refine GO.ent (L':=catS c (cm::obj b1 tCat c.cells::catP c::L)) (by simp only [catS,CatV.cells];exact ai) ?_
 refine GO.ef (Ef.a6 (qJ c h) rfl) ac ?_
 rintro _ _ ⟨rfl,rfl⟩
 simp only [catS,CatV.cells]
 repeat first|refine aa ?_|intro
 refine GO.ent (L':=catS c (cm::obj b1 tCat c.cells::catP c::L)) (by simp only [catS,CatV.cells];exact ai) ?_
 refine GO.ef (Ef.a6 (yr c h) rfl) ac ?_
 rintro _ _ ⟨rfl,rfl⟩
 simp only [catS,CatV.cells]
 repeat first|refine aa ?_|intro
 refine GO.ent (L':=catS c (cm::obj b1 tCat c.cells::catP c::L)) (by simp only [catS,CatV.cells];exact ai) ?_
 refine GO.ef (Ef.a6 (sw c h) rfl) ac ?_
 rintro _ _ ⟨rfl,rfl⟩
 simp only [catS,CatV.cells]
 repeat first|refine aa ?_|intro
 refine GO.ent (L':=catS c (cm::obj b1 tCat c.cells::catP c::L)) (by simp only [catS,CatV.cells];exact ai) ?_
 refine GO.ef (Ef.a6 (tR c hB h) rfl) ac ?_
 rintro _ _ ⟨rfl,rfl⟩
 simp only [catS,CatV.cells]
 repeat first|refine aa ?_|intro
 refine GO.ent (L':=catS c (cm::obj b1 tCat c.cells::catP c::L)) (by simp only [catS,CatV.cells];exact ai) ?_
 refine GO.ef (Ef.a6 (Bs c hB h) rfl) ac ?_
 rintro _ _ ⟨rfl,rfl⟩
 simp only [catS,CatV.cells]
 repeat first|refine aa ?_|intro
 refine KX.a6 am ?_ ⟨rfl,rfl⟩
 exact ai
end
end Go.Proofs.YtfmgkkofledkbaaGreatDoor
namespace Go.V
theorem Ent.d7 {L R:List HP} {α:Type} {enc:α→List Value} {sz b T:Nat} {cs:List Value} [h:PickObj L b T cs R] (xs:List α) (hc:cs=xs.flatMap enc) (hs:∀ x∈xs,(enc x).length=sz) (hm:xs.length≤9223372036854775807):Ent L (isl enc sz (some ⟨b,0,none⟩) xs::R) :=
 (Ent.perm h.perm).trans ((Ent.c6 hc rfl hs hm).trans Ent.freezeSl)
end Go.V
namespace Go.Proofs.YtfmgkkofledkbaaGreatDoor
open Go.V
attribute [local irreducible] G GO GP GPW GPK Ev Ef EfR Ent CB GB V.Enters
theorem lH {r:RuV} {L:List HP}:Ent (amS r.take::amS r.give::amS r.back::L) (ruP r::L):=(Ent.a6 (Ent.d8 (iD _) (iD _))).trans (Ent.d8 (iD _) ((iD _).and (iD _)))
def it16:List ItG:=[⟨⟨#[103,111,108,100]⟩,false,true,true,0,0,0⟩,⟨⟨#[111,114,101]⟩,false,false,false,0,0,0⟩,⟨⟨#[99,111,97,108]⟩,false,true,false,0,0,0⟩,⟨⟨#[98,97,114]⟩,false,false,false,0,0,0⟩,⟨⟨#[115,119,111,114,100]⟩,true,false,false,20,2,3⟩]
def cat16:CatM:=⟨it16,[⟨⟨#[100,105,103]⟩,true,0,0,1,1,[],[(1,4),(2,3)],[]⟩,⟨⟨#[115,109,101,108,116]⟩,false,2,5,2,3,[(1,2),(2,1)],[(3,1)],[(1,1)]⟩,⟨⟨#[102,111,114,103,101]⟩,false,3,10,1,1,[(3,3)],[(4,1)],[]⟩,⟨⟨#[115,99,114,97,112]⟩,false,0,1,1,1,[(4,1)],[(3,3)],[]⟩,⟨⟨#[115,101,108,108]⟩,false,0,1,1,1,[(3,1)],[(0,7)],[]⟩],[⟨⟨#[99,104,101,115,116]⟩,[⟨5,[(0,10)]⟩,⟨1,[(3,2)]⟩]⟩],[⟨⟨#[115,97,108,101]⟩,[(0,500),(100,1000)]⟩]⟩
abbrev ri (bi g0 t1 g1 k1 t2 g2 t3 g3 t4 g4 br w0 w1 bw bt bb bx:Nat):RuV:=⟨⟨#[100,105,103]⟩,true,0,0,1,1,⟨[],none,0⟩,⟨[(1,4),(2,3)],some ⟨g0,0,none⟩,2⟩,⟨[],none,0⟩⟩
abbrev rh (bi g0 t1 g1 k1 t2 g2 t3 g3 t4 g4 br w0 w1 bw bt bb bx:Nat):RuV:=⟨⟨#[115,109,101,108,116]⟩,false,2,5,2,3,⟨[(1,2),(2,1)],some ⟨t1,0,none⟩,2⟩,⟨[(3,1)],some ⟨g1,0,none⟩,1⟩,⟨[(1,1)],some ⟨k1,0,none⟩,1⟩⟩
abbrev rg (bi g0 t1 g1 k1 t2 g2 t3 g3 t4 g4 br w0 w1 bw bt bb bx:Nat):RuV:=⟨⟨#[102,111,114,103,101]⟩,false,3,10,1,1,⟨[(3,3)],some ⟨t2,0,none⟩,1⟩,⟨[(4,1)],some ⟨g2,0,none⟩,1⟩,⟨[],none,0⟩⟩
abbrev rf (bi g0 t1 g1 k1 t2 g2 t3 g3 t4 g4 br w0 w1 bw bt bb bx:Nat):RuV:=⟨⟨#[115,99,114,97,112]⟩,false,0,1,1,1,⟨[(4,1)],some ⟨t3,0,none⟩,1⟩,⟨[(3,3)],some ⟨g3,0,none⟩,1⟩,⟨[],none,0⟩⟩
abbrev re (bi g0 t1 g1 k1 t2 g2 t3 g3 t4 g4 br w0 w1 bw bt bb bx:Nat):RuV:=⟨⟨#[115,101,108,108]⟩,false,0,1,1,1,⟨[(3,1)],some ⟨t4,0,none⟩,1⟩,⟨[(0,7)],some ⟨g4,0,none⟩,1⟩,⟨[],none,0⟩⟩
abbrev ra (bi g0 t1 g1 k1 t2 g2 t3 g3 t4 g4 br w0 w1 bw bt bb bx:Nat):RwV:=⟨5,⟨[(0,10)],some ⟨w0,0,none⟩,1⟩⟩
abbrev qZ (bi g0 t1 g1 k1 t2 g2 t3 g3 t4 g4 br w0 w1 bw bt bb bx:Nat):RwV:=⟨1,⟨[(3,2)],some ⟨w1,0,none⟩,1⟩⟩
abbrev tb16 (bi g0 t1 g1 k1 t2 g2 t3 g3 t4 g4 br w0 w1 bw bt bb bx:Nat):TbV:=⟨⟨#[99,104,101,115,116]⟩,[ra bi g0 t1 g1 k1 t2 g2 t3 g3 t4 g4 br w0 w1 bw bt bb bx,qZ bi g0 t1 g1 k1 t2 g2 t3 g3 t4 g4 br w0 w1 bw bt bb bx],some ⟨bw,0,none⟩,2⟩
abbrev tx16 (bi g0 t1 g1 k1 t2 g2 t3 g3 t4 g4 br w0 w1 bw bt bb bx:Nat):TxV:=⟨⟨#[115,97,108,101]⟩,[(0,500),(100,1000)],some ⟨bb,0,none⟩,2⟩
def gJ (bi g0 t1 g1 k1 t2 g2 t3 g3 t4 g4 br w0 w1 bw bt bb bx:Nat):CatV:=⟨it16,some ⟨bi,0,none⟩,5,[ri bi g0 t1 g1 k1 t2 g2 t3 g3 t4 g4 br w0 w1 bw bt bb bx,rh bi g0 t1 g1 k1 t2 g2 t3 g3 t4 g4 br w0 w1 bw bt bb bx,rg bi g0 t1 g1 k1 t2 g2 t3 g3 t4 g4 br w0 w1 bw bt bb bx,rf bi g0 t1 g1 k1 t2 g2 t3 g3 t4 g4 br w0 w1 bw bt bb bx,re bi g0 t1 g1 k1 t2 g2 t3 g3 t4 g4 br w0 w1 bw bt bb bx],some ⟨br,0,none⟩,5,[tb16 bi g0 t1 g1 k1 t2 g2 t3 g3 t4 g4 br w0 w1 bw bt bb bx],some ⟨bt,0,none⟩,1,[tx16 bi g0 t1 g1 k1 t2 g2 t3 g3 t4 g4 br w0 w1 bw bt bb bx],some ⟨bx,0,none⟩,1⟩
theorem Er (bi g0 t1 g1 k1 t2 g2 t3 g3 t4 g4 br w0 w1 bw bt bb bx:Nat):(gJ bi g0 t1 g1 k1 t2 g2 t3 g3 t4 g4 br w0 w1 bw bt bb bx).m=cat16:=rfl
theorem Es (bi g0 t1 g1 k1 t2 g2 t3 g3 t4 g4 br w0 w1 bw bt bb bx:Nat):(gJ bi g0 t1 g1 k1 t2 g2 t3 g3 t4 g4 br w0 w1 bw bt bb bx).B:=by
 refine ⟨an rfl,an rfl,an rfl,an rfl,?_,?_,?_⟩
 ·intro r hr
  simp only [gJ,aL,aJ,or_false] at hr
  rcases hr with rfl|rfl|rfl|rfl|rfl<;>exact ⟨an rfl,an rfl,an rfl⟩
 ·intro r hr
  simp only [gJ,aL,aJ,or_false] at hr
  subst hr
  refine ⟨an rfl,?_⟩
  intro w hw
  simp only [tb16,aL,aJ,or_false] at hw
  rcases hw with rfl|rfl<;>exact an rfl
 ·intro r hr
  simp only [gJ,aL,aJ,or_false] at hr
  subst hr
  exact an rfl
theorem jt {L:List HP}:Tri Tryz.prog 11 #[] L (fun v L'=>∃ c:CatV,v=.agg c.cells.toArray∧(c.m=cat16∧c.B)∧L' = catP c::L):=by
 refine Tri.body (args:=[]) 50 en11 Tryz.func11 rfl rfl rfl (by simp) ?_
 repeat first|refine aa ?_|intro
 rename_i b0 bi g0 t1 g1 k1 t2 g2 t3 g3 t4 g4 br w0 w1 bw bt bb bx
 refine KX.a6 (vs:=[.agg (gJ bi g0 t1 g1 k1 t2 g2 t3 g3 t4 g4 br w0 w1 bw bt bb bx).cells.toArray]) (ResOk.cell rfl (by rfl) ResOk.nil) ?_ ⟨gJ bi g0 t1 g1 k1 t2 g2 t3 g3 t4 g4 br w0 w1 bw bt bb bx,rfl,⟨Er ..,Es ..⟩,rfl⟩
 refine (Ent.d7 (b:=g0) (enc:=aV) (sz:=2) [(1,4),(2,3)] rfl (fun _ _=>rfl) (an rfl)).trans ?_
 refine (Ent.d7 (b:=t1) (enc:=aV) (sz:=2) [(1,2),(2,1)] rfl (fun _ _=>rfl) (an rfl)).trans ?_
 refine (Ent.d7 (b:=g1) (enc:=aV) (sz:=2) [(3,1)] rfl (fun _ _=>rfl) (an rfl)).trans ?_
 refine (Ent.d7 (b:=k1) (enc:=aV) (sz:=2) [(1,1)] rfl (fun _ _=>rfl) (an rfl)).trans ?_
 refine (Ent.d7 (b:=t2) (enc:=aV) (sz:=2) [(3,3)] rfl (fun _ _=>rfl) (an rfl)).trans ?_
 refine (Ent.d7 (b:=g2) (enc:=aV) (sz:=2) [(4,1)] rfl (fun _ _=>rfl) (an rfl)).trans ?_
 refine (Ent.d7 (b:=t3) (enc:=aV) (sz:=2) [(4,1)] rfl (fun _ _=>rfl) (an rfl)).trans ?_
 refine (Ent.d7 (b:=g3) (enc:=aV) (sz:=2) [(3,3)] rfl (fun _ _=>rfl) (an rfl)).trans ?_
 refine (Ent.d7 (b:=t4) (enc:=aV) (sz:=2) [(3,1)] rfl (fun _ _=>rfl) (an rfl)).trans ?_
 refine (Ent.d7 (b:=g4) (enc:=aV) (sz:=2) [(0,7)] rfl (fun _ _=>rfl) (an rfl)).trans ?_
 refine (Ent.d7 (b:=w0) (enc:=aV) (sz:=2) [(0,10)] rfl (fun _ _=>rfl) (an rfl)).trans ?_
 refine (Ent.d7 (b:=w1) (enc:=aV) (sz:=2) [(3,2)] rfl (fun _ _=>rfl) (an rfl)).trans ?_
 refine (Ent.d7 (b:=bb) (enc:=aV) (sz:=2) [(0,500),(100,1000)] rfl (fun _ _=>rfl) (an rfl)).trans ?_
 refine (Ent.d7 (b:=bi) (enc:=bC) (sz:=7) it16 rfl (fun _ _=>rfl) (an rfl)).trans ?_
 refine (Ent.d7 (b:=br) (enc:=aY) (sz:=9) [ri bi g0 t1 g1 k1 t2 g2 t3 g3 t4 g4 br w0 w1 bw bt bb bx,rh bi g0 t1 g1 k1 t2 g2 t3 g3 t4 g4 br w0 w1 bw bt bb bx,rg bi g0 t1 g1 k1 t2 g2 t3 g3 t4 g4 br w0 w1 bw bt bb bx,rf bi g0 t1 g1 k1 t2 g2 t3 g3 t4 g4 br w0 w1 bw bt bb bx,re bi g0 t1 g1 k1 t2 g2 t3 g3 t4 g4 br w0 w1 bw bt bb bx] rfl (fun _ _=>rfl) (an rfl)).trans ?_
 refine (Ent.d7 (b:=bw) (enc:=dT) (sz:=2) [ra bi g0 t1 g1 k1 t2 g2 t3 g3 t4 g4 br w0 w1 bw bt bb bx,qZ bi g0 t1 g1 k1 t2 g2 t3 g3 t4 g4 br w0 w1 bw bt bb bx] rfl (fun _ _=>rfl) (an rfl)).trans ?_
 refine (Ent.d7 (b:=bt) (enc:=bI) (sz:=2) [tb16 bi g0 t1 g1 k1 t2 g2 t3 g3 t4 g4 br w0 w1 bw bt bb bx] rfl (fun _ _=>rfl) (an rfl)).trans ?_
 refine (Ent.d7 (b:=bx) (enc:=bN) (sz:=2) [tx16 bi g0 t1 g1 k1 t2 g2 t3 g3 t4 g4 br w0 w1 bw bt bb bx] rfl (fun _ _=>rfl) (an rfl)).trans ?_
 refine (Ent.c8 aV 2 none).trans ?_
 refine (Ent.at (A:=isl aV 2 (some ⟨g4,0,none⟩) [(0,7)]) (Ent.refl _)).trans ?_
 refine (Ent.at (A:=isl aV 2 (some ⟨t4,0,none⟩) [(3,1)]) (Ent.refl _)).trans ?_
 refine (lH (r:=re bi g0 t1 g1 k1 t2 g2 t3 g3 t4 g4 br w0 w1 bw bt bb bx)).trans ?_
 refine (Ent.d9 (f:=ruP) iO).trans ?_
 refine (Ent.c8 aV 2 none).trans ?_
 refine (Ent.at (A:=isl aV 2 (some ⟨g3,0,none⟩) [(3,3)]) (Ent.refl _)).trans ?_
 refine (Ent.at (A:=isl aV 2 (some ⟨t3,0,none⟩) [(4,1)]) (Ent.refl _)).trans ?_
 refine (lH (r:=rf bi g0 t1 g1 k1 t2 g2 t3 g3 t4 g4 br w0 w1 bw bt bb bx)).trans ?_
 refine (Ent.c9 (f:=ruP) iO).trans ?_
 refine (Ent.c8 aV 2 none).trans ?_
 refine (Ent.at (A:=isl aV 2 (some ⟨g2,0,none⟩) [(4,1)]) (Ent.refl _)).trans ?_
 refine (Ent.at (A:=isl aV 2 (some ⟨t2,0,none⟩) [(3,3)]) (Ent.refl _)).trans ?_
 refine (lH (r:=rg bi g0 t1 g1 k1 t2 g2 t3 g3 t4 g4 br w0 w1 bw bt bb bx)).trans ?_
 refine (Ent.c9 (f:=ruP) iO).trans ?_
 refine (Ent.at (A:=isl aV 2 (some ⟨k1,0,none⟩) [(1,1)]) (Ent.refl _)).trans ?_
 refine (Ent.at (A:=isl aV 2 (some ⟨g1,0,none⟩) [(3,1)]) (Ent.refl _)).trans ?_
 refine (Ent.at (A:=isl aV 2 (some ⟨t1,0,none⟩) [(1,2),(2,1)]) (Ent.refl _)).trans ?_
 refine (lH (r:=rh bi g0 t1 g1 k1 t2 g2 t3 g3 t4 g4 br w0 w1 bw bt bb bx)).trans ?_
 refine (Ent.c9 (f:=ruP) iO).trans ?_
 refine (Ent.c8 aV 2 none).trans ?_
 refine (Ent.at (A:=isl aV 2 (some ⟨g0,0,none⟩) [(1,4),(2,3)]) (Ent.refl _)).trans ?_
 refine (Ent.c8 aV 2 none).trans ?_
 refine (lH (r:=ri bi g0 t1 g1 k1 t2 g2 t3 g3 t4 g4 br w0 w1 bw bt bb bx)).trans ?_
 refine (Ent.c9 (f:=ruP) iO).trans ?_
 refine (Ent.at (A:=isl aY 9 (some ⟨br,0,none⟩) [ri bi g0 t1 g1 k1 t2 g2 t3 g3 t4 g4 br w0 w1 bw bt bb bx,rh bi g0 t1 g1 k1 t2 g2 t3 g3 t4 g4 br w0 w1 bw bt bb bx,rg bi g0 t1 g1 k1 t2 g2 t3 g3 t4 g4 br w0 w1 bw bt bb bx,rf bi g0 t1 g1 k1 t2 g2 t3 g3 t4 g4 br w0 w1 bw bt bb bx,re bi g0 t1 g1 k1 t2 g2 t3 g3 t4 g4 br w0 w1 bw bt bb bx]) (Ent.d8 (cc _ _ _ _) (dg iO))).trans ?_
 refine (Ent.at (A:=isl aV 2 (some ⟨w1,0,none⟩) [(3,2)]) (Ent.refl _)).trans ?_
 refine (Ent.d9 (f:=rwP) (x:=qZ bi g0 t1 g1 k1 t2 g2 t3 g3 t4 g4 br w0 w1 bw bt bb bx) np).trans ?_
 refine (Ent.at (A:=isl aV 2 (some ⟨w0,0,none⟩) [(0,10)]) (Ent.refl _)).trans ?_
 refine (Ent.c9 (f:=rwP) (x:=ra bi g0 t1 g1 k1 t2 g2 t3 g3 t4 g4 br w0 w1 bw bt bb bx) np).trans ?_
 refine (Ent.at (A:=isl dT 2 (some ⟨bw,0,none⟩) [ra bi g0 t1 g1 k1 t2 g2 t3 g3 t4 g4 br w0 w1 bw bt bb bx,qZ bi g0 t1 g1 k1 t2 g2 t3 g3 t4 g4 br w0 w1 bw bt bb bx]) (Ent.d8 (cc _ _ _ _) (dg np))).trans ?_
 refine (Ent.d9 (f:=tbP) (x:=tb16 bi g0 t1 g1 k1 t2 g2 t3 g3 t4 g4 br w0 w1 bw bt bb bx) jZ).trans ?_
 refine (Ent.at (A:=isl bI 2 (some ⟨bt,0,none⟩) [tb16 bi g0 t1 g1 k1 t2 g2 t3 g3 t4 g4 br w0 w1 bw bt bb bx]) (Ent.d8 (cc _ _ _ _) (dg jZ))).trans ?_
 refine (Ent.at (A:=isl aV 2 (some ⟨bb,0,none⟩) [(0,500),(100,1000)]) (Ent.refl _)).trans ?_
 refine (Ent.d9 (f:=txP) (x:=tx16 bi g0 t1 g1 k1 t2 g2 t3 g3 t4 g4 br w0 w1 bw bt bb bx) lr).trans ?_
 refine (Ent.at (A:=isl bN 2 (some ⟨bx,0,none⟩) [tx16 bi g0 t1 g1 k1 t2 g2 t3 g3 t4 g4 br w0 w1 bw bt bb bx]) (Ent.d8 (cc _ _ _ _) (dg lr))).trans ?_
 refine (Ent.swap.trans (Ent.d8 (rZ (gJ bi g0 t1 g1 k1 t2 g2 t3 g3 t4 g4 br w0 w1 bw bt bb bx)) (rY (gJ bi g0 t1 g1 k1 t2 g2 t3 g3 t4 g4 br w0 w1 bw bt bb bx)))).trans ?_
 refine (Ent.swap.trans (Ent.d8 (wo (gJ bi g0 t1 g1 k1 t2 g2 t3 g3 t4 g4 br w0 w1 bw bt bb bx)) ((rZ (gJ bi g0 t1 g1 k1 t2 g2 t3 g3 t4 g4 br w0 w1 bw bt bb bx)).and (rY (gJ bi g0 t1 g1 k1 t2 g2 t3 g3 t4 g4 br w0 w1 bw bt bb bx))))).trans ?_
 refine (Ent.swap.trans (Ent.d8 (Di (gJ bi g0 t1 g1 k1 t2 g2 t3 g3 t4 g4 br w0 w1 bw bt bb bx)) ((wo (gJ bi g0 t1 g1 k1 t2 g2 t3 g3 t4 g4 br w0 w1 bw bt bb bx)).and ((rZ (gJ bi g0 t1 g1 k1 t2 g2 t3 g3 t4 g4 br w0 w1 bw bt bb bx)).and (rY (gJ bi g0 t1 g1 k1 t2 g2 t3 g3 t4 g4 br w0 w1 bw bt bb bx)))))).trans ?_
 exact Ent.a6 Ent.drop
theorem ml {s:ByteArray} (h:(1≤s.size∧s.size≤16)∧fA s 0=3∧∀ i:Nat,i<s.size→fA s i=3∨fA s i=4∨fA s i=5):IsWord s:=⟨h.1,h.2.1,h.2.2⟩
theorem nS {n:Nat} {l:List (Int×Int)} (h:(∀ a∈l,0≤a.1∧a.1<n∧1≤a.2∧a.2≤1099511627776)∧l.Pairwise (fun a b=>a.1<b.1)):iE n l:=h
theorem cat16_good:CatGood cat16:=by
 refine ⟨by decide,by decide,by decide,by decide,?_,?_,?_,?_,by decide,by decide,by decide,by decide⟩
 ·intro x hx
  simp only [cat16,it16,aL,aJ,or_false] at hx
  rcases hx with rfl|rfl|rfl|rfl|rfl<;>exact ⟨ml (by decide +kernel),by decide,by decide⟩
 ·intro r hr
  simp only [cat16,aL,aJ,or_false] at hr
  rcases hr with rfl|rfl|rfl|rfl|rfl<;>exact ⟨ml (by decide +kernel),by decide,nS ac,nS ac,nS ac,by decide,by decide,by decide⟩
 ·intro t ht
  simp only [cat16,aL,aJ,or_false] at ht
  subst ht
  refine ⟨ml (by decide +kernel),by decide,?_⟩
  intro r hr
  simp only [aL,aJ,or_false] at hr
  rcases hr with rfl|rfl<;>exact ⟨by decide,nS ac⟩
 ·intro t ht
  simp only [cat16,aL,aJ,or_false] at ht
  subst ht
  refine ⟨ml (by decide +kernel),by decide,by decide,?_,by decide⟩
  intro i hi
  have hi0:i=0:=by simp only [aR,bQ] at hi;omega
  subst hi0
  decide
theorem qB:cat16.Ok:=⟨fun r hr a ha=>⟨by have:=(cat16_good.ru r hr).take.1 a ha;omega,((cat16_good.ru r hr).take.1 a ha).2.2.2⟩,fun r hr a ha=>⟨by have:=(cat16_good.ru r hr).give.1 a ha;omega,((cat16_good.ru r hr).give.1 a ha).2.2.2⟩,fun r hr a ha=>⟨by have:=(cat16_good.ru r hr).back.1 a ha;omega,((cat16_good.ru r hr).back.1 a ha).2.2.2⟩⟩
end Go.Proofs.YtfmgkkofledkbaaGreatDoor
