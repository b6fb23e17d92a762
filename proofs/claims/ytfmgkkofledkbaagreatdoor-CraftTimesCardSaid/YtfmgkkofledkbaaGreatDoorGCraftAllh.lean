/- Lemmas and contracts of functions, in the order: K2, K3, K4, K5, K6, K7. -/
import Derived.Test.YtfmgkkofledkbaaGreatDoorGCraftAlld
import Derived.Test.YtfmgkkofledkbaaGreatDoorGCraftAlle
set_option linter.all false
set_option maxHeartbeats 4000000
namespace Go.Proofs.YtfmgkkofledkbaaGreatDoor
open Go.V
def noP {α:Type} (_:α):HP:=bK True
theorem lE {α:Type} (l:List α) {L:List HP}:Ent L (allP noP l::L):=fun θ R w s=>by
 obtain ⟨ok,ι,h,a,b1,c,d⟩:=s
 exact ⟨ok,ι,h,a,b1,c,Hp.emp,Hp.emp,h,Hp.a6 _,Hp.a7 _,Hp.a6 _,Hp.sub.refl _,fun _ _=>trivial,d⟩
attribute [local irreducible] G GO GP GPW GPK Ev Ef EfR Ent CB GB V.Enters
def dn {α:Type} (f:FuncId) (cap:List Value) (enc:α→List Value) (p:α→HP) (C:HP) (x:α):Prop:=∀ L:List HP,Tri Tryz.prog f (([]++[Value.agg (enc x).toArray]++cap:List Value)).toArray (C::p x::L) (fun v L'=>v=.bool true∧L' = C::p x::L)
theorem nS {L:List HP} (f:FuncId) (cap:List Value) (C:HP) (ad:Option Addr) (c:Nat) (xs:List ItG) (hl:xs.length≤64) (hf:∀ x∈xs,dn f cap aN noP C x) :
  Tri Tryz.prog 206 #[.slice ad xs.length c,.func (.func f) #[] cap.toArray] (C::allP noP xs::isl aN 7 ad xs::L) (fun v L'=>v=.bool true∧L' = C::allP noP xs::isl aN 7 ad xs::L):=by
 refine Tri.body (args:=[.slice ad xs.length c,.func (.func f) #[] cap.toArray]) 18 Id Tryz.func206 rfl rfl rfl (by simp) ?_
 repeat first|refine aa ?_|intro _
 refine G.loop (α:=Nat) (fun i=>i≤xs.length) (fun i=>[(0,.slice ad xs.length c),(1,.func (.func f) #[] cap.toArray),(7,.slice ad xs.length c),(8,.int .i64 xs.length),(9,.int .i64 (i:Int))]) (fun _=>C::allP noP xs::isl aN 7 ad xs::L) (fun i=>xs.length - i) 0 (Nat.zero_le _) aj (Ent.refl _) ?_
 intro i hi
 by_cases hlt:i<xs.length
 case neg =>
  repeat first|refine aa ?_|intro _
  exact KX.a6 ai (Ent.refl _) ⟨rfl,rfl⟩
 have hii:(i:Int).toNat=i:=ab
 have hmem:=ap hlt
 repeat first|refine aa ?_|intro _
 rw [hii]
 refine GO.ent (Ent.drop.trans ((Ent.a6 (Ent.a8 (f:=noP) hmem)).trans (Ent.refl _))) ?_
 refine GO.ef (Ef.a8 rfl rfl (hf _ hmem _)) ac ?_
 rintro _ _ ⟨rfl,rfl⟩
 repeat first|refine aa ?_|intro _
 refine ⟨i+1,ab,ab,?_,by exact ae⟩
 rw [show ((i+1:Nat):Int)=(i:Int)+1 by omega]
 exact aj
theorem kY {L:List HP} (f:FuncId) (cap:List Value) (C:HP) (ad:Option Addr) (c:Nat) (xs:List RuV) (hl:xs.length≤64) (hf:∀ x∈xs,dn f cap aA ruP C x) :
  Tri Tryz.prog 200 #[.slice ad xs.length c,.func (.func f) #[] cap.toArray] (C::allP ruP xs::isl aA 9 ad xs::L) (fun v L'=>v=.bool true∧L' = C::allP ruP xs::isl aA 9 ad xs::L):=by
 refine Tri.body (args:=[.slice ad xs.length c,.func (.func f) #[] cap.toArray]) 18 Ij Tryz.func200 rfl rfl rfl (by simp) ?_
 repeat first|refine aa ?_|intro _
 refine G.loop (α:=Nat) (fun i=>i≤xs.length) (fun i=>[(0,.slice ad xs.length c),(1,.func (.func f) #[] cap.toArray),(7,.slice ad xs.length c),(8,.int .i64 xs.length),(9,.int .i64 (i:Int))]) (fun _=>C::allP ruP xs::isl aA 9 ad xs::L) (fun i=>xs.length - i) 0 (Nat.zero_le _) aj (Ent.refl _) ?_
 intro i hi
 by_cases hlt:i<xs.length
 case neg =>
  repeat first|refine aa ?_|intro _
  exact KX.a6 ai (Ent.refl _) ⟨rfl,rfl⟩
 have hii:(i:Int).toNat=i:=ab
 have hmem:=ap hlt
 repeat first|refine aa ?_|intro _
 rw [hii]
 refine GO.ent (Ent.drop.trans ((Ent.a6 (Ent.a8 (f:=ruP) hmem)).trans (Ent.refl _))) ?_
 refine GO.ef (Ef.a8 rfl rfl (hf _ hmem _)) ac ?_
 rintro _ _ ⟨rfl,rfl⟩
 repeat first|refine aa ?_|intro _
 refine ⟨i+1,ab,ab,?_,by exact ae⟩
 rw [show ((i+1:Nat):Int)=(i:Int)+1 by omega]
 exact aj
theorem kX {L:List HP} (f:FuncId) (cap:List Value) (C:HP) (ad:Option Addr) (c:Nat) (xs:List TbV) (hl:xs.length≤64) (hf:∀ x∈xs,dn f cap aS tbP C x) :
  Tri Tryz.prog 202 #[.slice ad xs.length c,.func (.func f) #[] cap.toArray] (C::allP tbP xs::isl aS 2 ad xs::L) (fun v L'=>v=.bool true∧L' = C::allP tbP xs::isl aS 2 ad xs::L):=by
 refine Tri.body (args:=[.slice ad xs.length c,.func (.func f) #[] cap.toArray]) 18 Ih Tryz.func202 rfl rfl rfl (by simp) ?_
 repeat first|refine aa ?_|intro _
 refine G.loop (α:=Nat) (fun i=>i≤xs.length) (fun i=>[(0,.slice ad xs.length c),(1,.func (.func f) #[] cap.toArray),(7,.slice ad xs.length c),(8,.int .i64 xs.length),(9,.int .i64 (i:Int))]) (fun _=>C::allP tbP xs::isl aS 2 ad xs::L) (fun i=>xs.length - i) 0 (Nat.zero_le _) aj (Ent.refl _) ?_
 intro i hi
 by_cases hlt:i<xs.length
 case neg =>
  repeat first|refine aa ?_|intro _
  exact KX.a6 ai (Ent.refl _) ⟨rfl,rfl⟩
 have hii:(i:Int).toNat=i:=ab
 have hmem:=ap hlt
 repeat first|refine aa ?_|intro _
 rw [hii]
 refine GO.ent (Ent.drop.trans ((Ent.a6 (Ent.a8 (f:=tbP) hmem)).trans (Ent.refl _))) ?_
 refine GO.ef (Ef.a8 rfl rfl (hf _ hmem _)) ac ?_
 rintro _ _ ⟨rfl,rfl⟩
 repeat first|refine aa ?_|intro _
 refine ⟨i+1,ab,ab,?_,by exact ae⟩
 rw [show ((i+1:Nat):Int)=(i:Int)+1 by omega]
 exact aj
theorem kW {L:List HP} (f:FuncId) (cap:List Value) (C:HP) (ad:Option Addr) (c:Nat) (xs:List TxV) (hl:xs.length≤64) (hf:∀ x∈xs,dn f cap aU txP C x) :
  Tri Tryz.prog 204 #[.slice ad xs.length c,.func (.func f) #[] cap.toArray] (C::allP txP xs::isl aU 2 ad xs::L) (fun v L'=>v=.bool true∧L' = C::allP txP xs::isl aU 2 ad xs::L):=by
 refine Tri.body (args:=[.slice ad xs.length c,.func (.func f) #[] cap.toArray]) 18 If Tryz.func204 rfl rfl rfl (by simp) ?_
 repeat first|refine aa ?_|intro _
 refine G.loop (α:=Nat) (fun i=>i≤xs.length) (fun i=>[(0,.slice ad xs.length c),(1,.func (.func f) #[] cap.toArray),(7,.slice ad xs.length c),(8,.int .i64 xs.length),(9,.int .i64 (i:Int))]) (fun _=>C::allP txP xs::isl aU 2 ad xs::L) (fun i=>xs.length - i) 0 (Nat.zero_le _) aj (Ent.refl _) ?_
 intro i hi
 by_cases hlt:i<xs.length
 case neg =>
  repeat first|refine aa ?_|intro _
  exact KX.a6 ai (Ent.refl _) ⟨rfl,rfl⟩
 have hii:(i:Int).toNat=i:=ab
 have hmem:=ap hlt
 repeat first|refine aa ?_|intro _
 rw [hii]
 refine GO.ent (Ent.drop.trans ((Ent.a6 (Ent.a8 (f:=txP) hmem)).trans (Ent.refl _))) ?_
 refine GO.ef (Ef.a8 rfl rfl (hf _ hmem _)) ac ?_
 rintro _ _ ⟨rfl,rfl⟩
 repeat first|refine aa ?_|intro _
 refine ⟨i+1,ab,ab,?_,by exact ae⟩
 rw [show ((i+1:Nat):Int)=(i:Int)+1 by omega]
 exact aj
theorem nR {L:List HP} (f:FuncId) (cap:List Value) (C:HP) (ad:Option Addr) (c:Nat) (xs:List RwV) (hl:xs.length≤64) (hf:∀ x∈xs,dn f cap cI rwP C x) :
  Tri Tryz.prog 226 #[.slice ad xs.length c,.func (.func f) #[] cap.toArray] (C::allP rwP xs::isl cI 2 ad xs::L) (fun v L'=>v=.bool true∧L' = C::allP rwP xs::isl cI 2 ad xs::L):=by
 refine Tri.body (args:=[.slice ad xs.length c,.func (.func f) #[] cap.toArray]) 18 HI Tryz.func226 rfl rfl rfl (by simp) ?_
 repeat first|refine aa ?_|intro _
 refine G.loop (α:=Nat) (fun i=>i≤xs.length) (fun i=>[(0,.slice ad xs.length c),(1,.func (.func f) #[] cap.toArray),(7,.slice ad xs.length c),(8,.int .i64 xs.length),(9,.int .i64 (i:Int))]) (fun _=>C::allP rwP xs::isl cI 2 ad xs::L) (fun i=>xs.length - i) 0 (Nat.zero_le _) aj (Ent.refl _) ?_
 intro i hi
 by_cases hlt:i<xs.length
 case neg =>
  repeat first|refine aa ?_|intro _
  exact KX.a6 ai (Ent.refl _) ⟨rfl,rfl⟩
 have hii:(i:Int).toNat=i:=ab
 have hmem:=ap hlt
 repeat first|refine aa ?_|intro _
 rw [hii]
 refine GO.ent (Ent.drop.trans ((Ent.a6 (Ent.a8 (f:=rwP) hmem)).trans (Ent.refl _))) ?_
 refine GO.ef (Ef.a8 rfl rfl (hf _ hmem _)) ac ?_
 rintro _ _ ⟨rfl,rfl⟩
 repeat first|refine aa ?_|intro _
 refine ⟨i+1,ab,ab,?_,by exact ae⟩
 rw [show ((i+1:Nat):Int)=(i:Int)+1 by omega]
 exact aj
theorem CP {L:List HP} (f:FuncId) (cap:List Value) (C:HP) (ad:Option Addr) (c:Nat) (xs:List (Int×Int)) (hl:xs.length≤64) (hf:∀ x∈xs,dn f cap aB noP C x) :
  Tri Tryz.prog 230 #[.slice ad xs.length c,.func (.func f) #[] cap.toArray] (C::allP noP xs::isl aB 2 ad xs::L) (fun v L'=>v=.bool true∧L' = C::allP noP xs::isl aB 2 ad xs::L):=by
 refine Tri.body (args:=[.slice ad xs.length c,.func (.func f) #[] cap.toArray]) 18 HE Tryz.func230 rfl rfl rfl (by simp) ?_
 repeat first|refine aa ?_|intro _
 refine G.loop (α:=Nat) (fun i=>i≤xs.length) (fun i=>[(0,.slice ad xs.length c),(1,.func (.func f) #[] cap.toArray),(7,.slice ad xs.length c),(8,.int .i64 xs.length),(9,.int .i64 (i:Int))]) (fun _=>C::allP noP xs::isl aB 2 ad xs::L) (fun i=>xs.length - i) 0 (Nat.zero_le _) aj (Ent.refl _) ?_
 intro i hi
 by_cases hlt:i<xs.length
 case neg =>
  repeat first|refine aa ?_|intro _
  exact KX.a6 ai (Ent.refl _) ⟨rfl,rfl⟩
 have hii:(i:Int).toNat=i:=ab
 have hmem:=ap hlt
 repeat first|refine aa ?_|intro _
 rw [hii]
 refine GO.ent (Ent.drop.trans ((Ent.a6 (Ent.a8 (f:=noP) hmem)).trans (Ent.refl _))) ?_
 refine GO.ef (Ef.a8 rfl rfl (hf _ hmem _)) ac ?_
 rintro _ _ ⟨rfl,rfl⟩
 repeat first|refine aa ?_|intro _
 refine ⟨i+1,ab,ab,?_,by exact ae⟩
 rw [show ((i+1:Nat):Int)=(i:Int)+1 by omega]
 exact aj
theorem CO {L:List HP} (f:FuncId) (cap:List Value) (C:HP) (ad:Option Addr) (c:Nat) (xs:List (Int×Int)) (hl:xs.length≤64) (hf:∀ x∈xs,dn f cap aB noP C x) :
  Tri Tryz.prog 277 #[.slice ad xs.length c,.func (.func f) #[] cap.toArray] (C::allP noP xs::isl aB 2 ad xs::L) (fun v L'=>v=.bool true∧L' = C::allP noP xs::isl aB 2 ad xs::L):=by
 refine Tri.body (args:=[.slice ad xs.length c,.func (.func f) #[] cap.toArray]) 18 GY Tryz.func277 rfl rfl rfl (by simp) ?_
 repeat first|refine aa ?_|intro _
 refine G.loop (α:=Nat) (fun i=>i≤xs.length) (fun i=>[(0,.slice ad xs.length c),(1,.func (.func f) #[] cap.toArray),(7,.slice ad xs.length c),(8,.int .i64 xs.length),(9,.int .i64 (i:Int))]) (fun _=>C::allP noP xs::isl aB 2 ad xs::L) (fun i=>xs.length - i) 0 (Nat.zero_le _) aj (Ent.refl _) ?_
 intro i hi
 by_cases hlt:i<xs.length
 case neg =>
  repeat first|refine aa ?_|intro _
  exact KX.a6 ai (Ent.refl _) ⟨rfl,rfl⟩
 have hii:(i:Int).toNat=i:=ab
 have hmem:=ap hlt
 repeat first|refine aa ?_|intro _
 rw [hii]
 refine GO.ent (Ent.drop.trans ((Ent.a6 (Ent.a8 (f:=noP) hmem)).trans (Ent.refl _))) ?_
 refine GO.ef (Ef.a8 rfl rfl (hf _ hmem _)) ac ?_
 rintro _ _ ⟨rfl,rfl⟩
 repeat first|refine aa ?_|intro _
 refine ⟨i+1,ab,ab,?_,by exact ae⟩
 rw [show ((i+1:Nat):Int)=(i:Int)+1 by omega]
 exact aj
def encB (b:Bool):Value:=.bool b
theorem oY {L:List HP} (x:ItG):Tri Tryz.prog 213 #[.agg (aN x).toArray] L (fun u L'=>u=.string x.name∧L' = L):=by
 refine Tri.body (args:=[.agg (aN x).toArray]) 5 HW Tryz.func213 rfl rfl rfl (by simp) ?_
 repeat first|refine aa ?_|intro _
 exact KX.a6 ai Ent.drop ⟨rfl,rfl⟩
theorem Br {L:List HP} (ad:Option Addr) (c:Nat) (xs:List ItG) (hl:xs.length≤64) (hd:(xs.map (·.name)).Nodup) :
  Tri Tryz.prog 212 #[.slice ad xs.length c,.func (.func 213) #[] #[]] (isl aN 7 ad xs::L) (fun v L'=>v=.bool true∧L' = isl aN 7 ad xs::L):=by
 refine Tri.body (args:=[.slice ad xs.length c,.func (.func 213) #[] #[]]) 27 HX Tryz.func212 rfl rfl rfl (by simp) ?_
 repeat first|refine aa ?_|intro _
 refine GO.ef (Ef.c7 kvS encB (.inr ⟨_,_,_,rfl,rfl,ab⟩)) ac ?_
 rintro _ _ ⟨bm,rfl,rfl⟩
 repeat first|refine aa ?_|intro _
 refine G.loop (α:=Nat×List (ByteArray×Bool)) (fun x=>x.1≤xs.length∧∀ j,x.1≤j→j<xs.length→@List.lookup ByteArray Bool instBEqOfDecidableEq xs[j]!.name x.2=none) (fun x=>[(0,.slice ad xs.length c),(1,.func (.func 213) #[] #[]),(5,.map (some bm)),(11,.slice ad xs.length c),(12,.int .i64 xs.length),(13,.int .i64 (x.1:Int))]) (fun x=>gmap kvS encB bm x.2::isl aN 7 ad xs::L) (fun x=>xs.length - x.1) (0,[]) ⟨Nat.zero_le _,fun _ _ _=>rfl⟩ aj (Ent.refl _) ?_
 rintro ⟨i,m⟩ ⟨hi,hm⟩
 dsimp only at hi hm ⊢
 by_cases hlt:i<xs.length
 case neg =>
  repeat first|refine aa ?_|intro _
  exact KX.a6 ai Ent.drop ⟨rfl,rfl⟩
 have hii:(i:Int).toNat=i:=ab
 repeat first|refine aa ?_|intro _
 rw [hii]
 refine GO.ef (Ef.d7 (first:=[]) (cap:=[]) (vs:=[.agg (aN xs[i]!).toArray]) (oY xs[i]!) rfl rfl) ac ?_
 rintro _ _ ⟨rfl,rfl⟩
 refine GO.ev (Ev.c7 (k:=xs[i]!.name) rfl rfl) ac ?_
 rw [hm i (Nat.le_refl _) hlt]
 simp only [Option.map_none,Option.getD_none]
 repeat first|refine aa ?_|intro _
 refine GO.ef (Ef.d7 (first:=[]) (cap:=[]) (vs:=[.agg (aN xs[i]!).toArray]) (oY xs[i]!) rfl rfl) ac ?_
 rintro _ _ ⟨rfl,rfl⟩
 refine GO.efu (Ef.e9 (k:=xs[i]!.name) (e:=true) rfl rfl rfl rfl) ?_
 rintro _ _ rfl
 repeat first|refine aa ?_|intro _
 refine ⟨(i+1,gins m xs[i]!.name true),⟨by dsimp only;omega,?_⟩,by dsimp only;omega,?_,Ent.a6 Ent.drop⟩
 ·intro j hj hjl
  dsimp only at hj ⊢
  rw [fc,if_neg,hm j ab hjl]
  intro e
  have h1:(xs.map (·.name))[j]'(by simpa using hjl)=(xs.map (·.name))[i]'(by simp;omega):=by
   rw [getElem!_of hjl,getElem!_of ab] at e
   simpa using e
  have:=(List.getElem_inj hd).1 h1
  omega
 ·dsimp only
  rw [show ((i+1:Nat):Int)=(i:Int)+1 by omega]
  exact aj
theorem oT {L:List HP} (x:RuV):Tri Tryz.prog 215 #[.agg (aA x).toArray] L (fun u L'=>u=.string x.name∧L' = L):=by
 refine Tri.body (args:=[.agg (aA x).toArray]) 5 HU Tryz.func215 rfl rfl rfl (by simp) ?_
 repeat first|refine aa ?_|intro _
 exact KX.a6 ai Ent.drop ⟨rfl,rfl⟩
theorem Bq {L:List HP} (ad:Option Addr) (c:Nat) (xs:List RuV) (hl:xs.length≤64) (hd:(xs.map (·.name)).Nodup) :
  Tri Tryz.prog 214 #[.slice ad xs.length c,.func (.func 215) #[] #[]] (isl aA 9 ad xs::L) (fun v L'=>v=.bool true∧L' = isl aA 9 ad xs::L):=by
 refine Tri.body (args:=[.slice ad xs.length c,.func (.func 215) #[] #[]]) 27 HV Tryz.func214 rfl rfl rfl (by simp) ?_
 repeat first|refine aa ?_|intro _
 refine GO.ef (Ef.c7 kvS encB (.inr ⟨_,_,_,rfl,rfl,ab⟩)) ac ?_
 rintro _ _ ⟨bm,rfl,rfl⟩
 repeat first|refine aa ?_|intro _
 refine G.loop (α:=Nat×List (ByteArray×Bool)) (fun x=>x.1≤xs.length∧∀ j,x.1≤j→j<xs.length→@List.lookup ByteArray Bool instBEqOfDecidableEq xs[j]!.name x.2=none) (fun x=>[(0,.slice ad xs.length c),(1,.func (.func 215) #[] #[]),(5,.map (some bm)),(11,.slice ad xs.length c),(12,.int .i64 xs.length),(13,.int .i64 (x.1:Int))]) (fun x=>gmap kvS encB bm x.2::isl aA 9 ad xs::L) (fun x=>xs.length - x.1) (0,[]) ⟨Nat.zero_le _,fun _ _ _=>rfl⟩ aj (Ent.refl _) ?_
 rintro ⟨i,m⟩ ⟨hi,hm⟩
 dsimp only at hi hm ⊢
 by_cases hlt:i<xs.length
 case neg =>
  repeat first|refine aa ?_|intro _
  exact KX.a6 ai Ent.drop ⟨rfl,rfl⟩
 have hii:(i:Int).toNat=i:=ab
 repeat first|refine aa ?_|intro _
 rw [hii]
 refine GO.ef (Ef.d7 (first:=[]) (cap:=[]) (vs:=[.agg (aA xs[i]!).toArray]) (oT xs[i]!) rfl rfl) ac ?_
 rintro _ _ ⟨rfl,rfl⟩
 refine GO.ev (Ev.c7 (k:=xs[i]!.name) rfl rfl) ac ?_
 rw [hm i (Nat.le_refl _) hlt]
 simp only [Option.map_none,Option.getD_none]
 repeat first|refine aa ?_|intro _
 refine GO.ef (Ef.d7 (first:=[]) (cap:=[]) (vs:=[.agg (aA xs[i]!).toArray]) (oT xs[i]!) rfl rfl) ac ?_
 rintro _ _ ⟨rfl,rfl⟩
 refine GO.efu (Ef.e9 (k:=xs[i]!.name) (e:=true) rfl rfl rfl rfl) ?_
 rintro _ _ rfl
 repeat first|refine aa ?_|intro _
 refine ⟨(i+1,gins m xs[i]!.name true),⟨by dsimp only;omega,?_⟩,by dsimp only;omega,?_,Ent.a6 Ent.drop⟩
 ·intro j hj hjl
  dsimp only at hj ⊢
  rw [fc,if_neg,hm j ab hjl]
  intro e
  have h1:(xs.map (·.name))[j]'(by simpa using hjl)=(xs.map (·.name))[i]'(by simp;omega):=by
   rw [getElem!_of hjl,getElem!_of ab] at e
   simpa using e
  have:=(List.getElem_inj hd).1 h1
  omega
 ·dsimp only
  rw [show ((i+1:Nat):Int)=(i:Int)+1 by omega]
  exact aj
theorem np {L:List HP} (x:TbV):Tri Tryz.prog 217 #[.agg (aS x).toArray] L (fun u L'=>u=.string x.name∧L' = L):=by
 refine Tri.body (args:=[.agg (aS x).toArray]) 5 HS Tryz.func217 rfl rfl rfl (by simp) ?_
 repeat first|refine aa ?_|intro _
 exact KX.a6 ai Ent.drop ⟨rfl,rfl⟩
theorem Bp {L:List HP} (ad:Option Addr) (c:Nat) (xs:List TbV) (hl:xs.length≤64) (hd:(xs.map (·.name)).Nodup) :
  Tri Tryz.prog 216 #[.slice ad xs.length c,.func (.func 217) #[] #[]] (isl aS 2 ad xs::L) (fun v L'=>v=.bool true∧L' = isl aS 2 ad xs::L):=by
 refine Tri.body (args:=[.slice ad xs.length c,.func (.func 217) #[] #[]]) 27 HT Tryz.func216 rfl rfl rfl (by simp) ?_
 repeat first|refine aa ?_|intro _
 refine GO.ef (Ef.c7 kvS encB (.inr ⟨_,_,_,rfl,rfl,ab⟩)) ac ?_
 rintro _ _ ⟨bm,rfl,rfl⟩
 repeat first|refine aa ?_|intro _
 refine G.loop (α:=Nat×List (ByteArray×Bool)) (fun x=>x.1≤xs.length∧∀ j,x.1≤j→j<xs.length→@List.lookup ByteArray Bool instBEqOfDecidableEq xs[j]!.name x.2=none) (fun x=>[(0,.slice ad xs.length c),(1,.func (.func 217) #[] #[]),(5,.map (some bm)),(11,.slice ad xs.length c),(12,.int .i64 xs.length),(13,.int .i64 (x.1:Int))]) (fun x=>gmap kvS encB bm x.2::isl aS 2 ad xs::L) (fun x=>xs.length - x.1) (0,[]) ⟨Nat.zero_le _,fun _ _ _=>rfl⟩ aj (Ent.refl _) ?_
 rintro ⟨i,m⟩ ⟨hi,hm⟩
 dsimp only at hi hm ⊢
 by_cases hlt:i<xs.length
 case neg =>
  repeat first|refine aa ?_|intro _
  exact KX.a6 ai Ent.drop ⟨rfl,rfl⟩
 have hii:(i:Int).toNat=i:=ab
 repeat first|refine aa ?_|intro _
 rw [hii]
 refine GO.ef (Ef.d7 (first:=[]) (cap:=[]) (vs:=[.agg (aS xs[i]!).toArray]) (np xs[i]!) rfl rfl) ac ?_
 rintro _ _ ⟨rfl,rfl⟩
 refine GO.ev (Ev.c7 (k:=xs[i]!.name) rfl rfl) ac ?_
 rw [hm i (Nat.le_refl _) hlt]
 simp only [Option.map_none,Option.getD_none]
 repeat first|refine aa ?_|intro _
 refine GO.ef (Ef.d7 (first:=[]) (cap:=[]) (vs:=[.agg (aS xs[i]!).toArray]) (np xs[i]!) rfl rfl) ac ?_
 rintro _ _ ⟨rfl,rfl⟩
 refine GO.efu (Ef.e9 (k:=xs[i]!.name) (e:=true) rfl rfl rfl rfl) ?_
 rintro _ _ rfl
 repeat first|refine aa ?_|intro _
 refine ⟨(i+1,gins m xs[i]!.name true),⟨by dsimp only;omega,?_⟩,by dsimp only;omega,?_,Ent.a6 Ent.drop⟩
 ·intro j hj hjl
  dsimp only at hj ⊢
  rw [fc,if_neg,hm j ab hjl]
  intro e
  have h1:(xs.map (·.name))[j]'(by simpa using hjl)=(xs.map (·.name))[i]'(by simp;omega):=by
   rw [getElem!_of hjl,getElem!_of ab] at e
   simpa using e
  have:=(List.getElem_inj hd).1 h1
  omega
 ·dsimp only
  rw [show ((i+1:Nat):Int)=(i:Int)+1 by omega]
  exact aj
theorem pZ {L:List HP} (x:TxV):Tri Tryz.prog 219 #[.agg (aU x).toArray] L (fun u L'=>u=.string x.name∧L' = L):=by
 refine Tri.body (args:=[.agg (aU x).toArray]) 5 HQ Tryz.func219 rfl rfl rfl (by simp) ?_
 repeat first|refine aa ?_|intro _
 exact KX.a6 ai Ent.drop ⟨rfl,rfl⟩
theorem Bo {L:List HP} (ad:Option Addr) (c:Nat) (xs:List TxV) (hl:xs.length≤64) (hd:(xs.map (·.name)).Nodup) :
  Tri Tryz.prog 218 #[.slice ad xs.length c,.func (.func 219) #[] #[]] (isl aU 2 ad xs::L) (fun v L'=>v=.bool true∧L' = isl aU 2 ad xs::L):=by
 refine Tri.body (args:=[.slice ad xs.length c,.func (.func 219) #[] #[]]) 27 HR Tryz.func218 rfl rfl rfl (by simp) ?_
 repeat first|refine aa ?_|intro _
 refine GO.ef (Ef.c7 kvS encB (.inr ⟨_,_,_,rfl,rfl,ab⟩)) ac ?_
 rintro _ _ ⟨bm,rfl,rfl⟩
 repeat first|refine aa ?_|intro _
 refine G.loop (α:=Nat×List (ByteArray×Bool)) (fun x=>x.1≤xs.length∧∀ j,x.1≤j→j<xs.length→@List.lookup ByteArray Bool instBEqOfDecidableEq xs[j]!.name x.2=none) (fun x=>[(0,.slice ad xs.length c),(1,.func (.func 219) #[] #[]),(5,.map (some bm)),(11,.slice ad xs.length c),(12,.int .i64 xs.length),(13,.int .i64 (x.1:Int))]) (fun x=>gmap kvS encB bm x.2::isl aU 2 ad xs::L) (fun x=>xs.length - x.1) (0,[]) ⟨Nat.zero_le _,fun _ _ _=>rfl⟩ aj (Ent.refl _) ?_
 rintro ⟨i,m⟩ ⟨hi,hm⟩
 dsimp only at hi hm ⊢
 by_cases hlt:i<xs.length
 case neg =>
  repeat first|refine aa ?_|intro _
  exact KX.a6 ai Ent.drop ⟨rfl,rfl⟩
 have hii:(i:Int).toNat=i:=ab
 repeat first|refine aa ?_|intro _
 rw [hii]
 refine GO.ef (Ef.d7 (first:=[]) (cap:=[]) (vs:=[.agg (aU xs[i]!).toArray]) (pZ xs[i]!) rfl rfl) ac ?_
 rintro _ _ ⟨rfl,rfl⟩
 refine GO.ev (Ev.c7 (k:=xs[i]!.name) rfl rfl) ac ?_
 rw [hm i (Nat.le_refl _) hlt]
 simp only [Option.map_none,Option.getD_none]
 repeat first|refine aa ?_|intro _
 refine GO.ef (Ef.d7 (first:=[]) (cap:=[]) (vs:=[.agg (aU xs[i]!).toArray]) (pZ xs[i]!) rfl rfl) ac ?_
 rintro _ _ ⟨rfl,rfl⟩
 refine GO.efu (Ef.e9 (k:=xs[i]!.name) (e:=true) rfl rfl rfl rfl) ?_
 rintro _ _ rfl
 repeat first|refine aa ?_|intro _
 refine ⟨(i+1,gins m xs[i]!.name true),⟨by dsimp only;omega,?_⟩,by dsimp only;omega,?_,Ent.a6 Ent.drop⟩
 ·intro j hj hjl
  dsimp only at hj ⊢
  rw [fc,if_neg,hm j ab hjl]
  intro e
  have h1:(xs.map (·.name))[j]'(by simpa using hjl)=(xs.map (·.name))[i]'(by simp;omega):=by
   rw [getElem!_of hjl,getElem!_of ab] at e
   simpa using e
  have:=(List.getElem_inj hd).1 h1
  omega
 ·dsimp only
  rw [show ((i+1:Nat):Int)=(i:Int)+1 by omega]
  exact aj
end Go.Proofs.YtfmgkkofledkbaaGreatDoor
namespace Go.Proofs.YtfmgkkofledkbaaGreatDoor
open Go.V
attribute [local irreducible] G GO GP GPW GPK Ev Ef EfR Ent CB GB V.Enters
section
def gi (n:Nat) (l:List (Int×Int)):Prop:=(∀ a∈l,0≤a.1∧a.1<n∧1≤a.2∧a.2≤1099511627776)∧l.Pairwise (fun a b=>a.1<b.1)
def dP (l:List (Int×Int)) (i:Int):Int:=l.foldl (fun s a=>if a.1=i then s+a.2 else s) 0
structure ItGood (x:ItG):Prop where
 word:IsWord x.name
 form:if x.obj=true then x.mixed=false∧x.coin=false∧0≤x.bind∧x.bind≤2 else x.wear=0∧x.bind=0∧x.level=0
 num:(x.obj=true→1≤x.wear∧x.wear≤1048576)∧0≤x.level∧x.level≤100
structure RuGood (n:Nat) (r:RuM):Prop where
 word:IsWord r.name
 lim:r.take.length+r.give.length≤64∧r.take.length+r.back.length≤64
 take:gi n r.take
 give:gi n r.give
 back:gi n r.back
 form:(r.back.length=0∨r.chance≠r.of_)∧(if r.spawn=true then r.take.length=0∧r.back.length=0∧r.level=0∧r.time=0∧r.chance=r.of_ else 0<r.take.length∨r.time≠0)
 cont:∀ a∈r.back,dP r.back a.1≤dP r.take a.1
 num:(0≤r.level∧r.level≤100)∧(0≤r.time∧r.time≤1000000)∧(1≤r.of_∧r.of_≤1000000)∧1≤r.chance∧r.chance≤r.of_
structure RwGood (n:Nat) (r:RwM):Prop where
 num:1≤r.weight∧r.weight≤1099511627776
 give:gi n r.give
structure TbGood (n:Nat) (t:TbM):Prop where
 word:IsWord t.name
 rows:0<t.rows.length∧t.rows.length≤64
 good:∀ r∈t.rows,RwGood n r
structure TxGood (t:TxM):Prop where
 word:IsWord t.name
 brs:0<t.brs.length∧t.brs.length≤16
 first:t.brs[0]!.1=0
 srt:∀ i,i+1<t.brs.length→t.brs[i]!.1<t.brs[i+1]!.1
 num:∀ b∈t.brs,(0≤b.1∧b.1≤1099511627776)∧0≤b.2∧b.2≤10000
structure CatGood (c:CatM):Prop where
 items:c.items.length≤64
 rules:c.rules.length≤64
 tables:c.tables.length≤32
 taxes:c.taxes.length≤32
 it:∀ x∈c.items,ItGood x
 ru:∀ r∈c.rules,RuGood c.items.length r
 tb:∀ t∈c.tables,TbGood c.items.length t
 tx:∀ t∈c.taxes,TxGood t
 di:(c.items.map (·.name)).Nodup
 dr:(c.rules.map (·.name)).Nodup
 dt:(c.tables.map (·.name)).Nodup
 dx:(c.taxes.map (·.name)).Nodup
theorem FA (n:Nat) (r:RuV) (h:RuGood n r.m):dn 201 [] aA ruP (bK True) r:=by
 intro L
 obtain ⟨h1,h2⟩:=h.lim
 change r.take.l.length+r.give.l.length≤64 at h1
 change r.take.l.length+r.back.l.length≤64 at h2
 refine Tri.body (args:=[.agg (aA r).toArray]) 21 Ii Tryz.func201 rfl rfl rfl (by simp) ?_
 repeat first|refine aa ?_|intro _
 exact KX.a6 ai Ent.drop ⟨by rw [aw ab];rfl,rfl⟩
theorem Fz (n:Nat) (t:TbV) (h:TbGood n t.m):dn 203 [] aS tbP (bK True) t:=by
 intro L
 have h1:t.rows.length≤64:=by have:=h.rows.2;simpa [TbV.m] using this
 refine Tri.body (args:=[.agg (aS t).toArray]) 7 Ig Tryz.func203 rfl rfl rfl (by simp) ?_
 repeat first|refine aa ?_|intro _
 exact KX.a6 ai Ent.drop ⟨by rw [aw ab];rfl,rfl⟩
theorem Fy (t:TxV) (h:TxGood t.m):dn 205 [] aU txP (bK True) t:=by
 intro L
 have h1:t.brs.length≤16:=h.brs.2
 refine Tri.body (args:=[.agg (aU t).toArray]) 7 Ie Tryz.func205 rfl rfl rfl (by simp) ?_
 repeat first|refine aa ?_|intro _
 exact KX.a6 ai Ent.drop ⟨by rw [aw ab];rfl,rfl⟩
abbrev catS (c:CatV) (L:List HP):List HP:=isl aN 7 c.iad c.items::isl aA 9 c.rad c.rules::allP ruP c.rules::isl aS 2 c.tad c.tables::allP tbP c.tables::isl aU 2 c.xad c.taxes::allP txP c.taxes::L
theorem catS_open {c:CatV} {L:List HP}:Ent (catP c::L) (catS c (catP c::L)) :=
 (Ent.dup (lL c).pers).trans (Ent.andE.trans (Ent.a6 (Ent.andE.trans (Ent.andE.trans (Ent.a6 (Ent.a6 (Ent.andE.trans (Ent.andE.trans (Ent.a6 (Ent.a6 Ent.andE))))))))))
theorem iA {c:CatV} (h:CatGood c.m):∀ r∈c.rules,RuGood c.items.length r.m:=fun _ hr=>h.ru _ (List.mem_map_of_mem hr)
theorem iz {c:CatV} (h:CatGood c.m):∀ t∈c.tables,TbGood c.items.length t.m:=fun _ ht=>h.tb _ (List.mem_map_of_mem ht)
theorem jr {c:CatV} (h:CatGood c.m):∀ t∈c.taxes,TxGood t.m:=fun _ ht=>h.tx _ (List.mem_map_of_mem ht)
theorem lens {c:CatV} (h:CatGood c.m):c.items.length≤64∧c.rules.length≤64∧c.tables.length≤32∧c.taxes.length≤32:=by
 have h1:=h.items
 have h2:=h.rules
 have h3:=h.tables
 have h4:=h.taxes
 simp only [CatV.m,List.length_map] at h1 h2 h3 h4
 exact ⟨h1,h2,h3,h4⟩
theorem pT {L:List HP} (c:CatV) (h:CatGood c.m):Tri Tryz.prog 137 #[.agg c.cells.toArray] (catS c (aP::L)) (fun v L'=>v=.bool true∧L' = catS c (aP::L)):=by
 obtain ⟨l1,l2,l3,l4⟩:=lens h
 refine Tri.body (args:=[.agg c.cells.toArray]) 40 Ja Tryz.func137 rfl rfl rfl (by simp) ?_
 simp only [catS,CatV.cells]
 repeat first|refine aa ?_|intro _
 refine GO.ent (Ent.pure trivial (Ent.refl _)) ?_
 (first|refine GO.ef (Ef.call (kY (L:=[]) _ [] (bK True) c.rad c.rcap c.rules l2 (fun r hr=>FA _ r (iA h r hr))) rfl (by repeat (first|exact Ent.refl _|apply Ent.take))) ac ?_)
 rintro _ _ ⟨_,⟨rfl,rfl⟩,hL⟩
 simp only [List.cons_append,List.nil_append] at hL;subst hL
 repeat first|refine aa ?_|intro _
 (first|refine GO.ef (Ef.call (kX (L:=[]) _ [] (bK True) c.tad c.tcap c.tables ab (fun r hr=>Fz _ r (iz h r hr))) rfl (by repeat (first|exact Ent.refl _|apply Ent.take))) ac ?_)
 rintro _ _ ⟨_,⟨rfl,rfl⟩,hL⟩
 simp only [List.cons_append,List.nil_append] at hL;subst hL
 repeat first|refine aa ?_|intro _
 (first|refine GO.ef (Ef.call (kW (L:=[]) _ [] (bK True) c.xad c.xcap c.taxes ab (fun r hr=>Fy r (jr h r hr))) rfl (by repeat (first|exact Ent.refl _|apply Ent.take))) ac ?_)
 rintro _ _ ⟨_,⟨rfl,rfl⟩,hL⟩
 simp only [List.cons_append,List.nil_append] at hL;subst hL
 repeat first|refine aa ?_|intro _
 exact KX.a6 ai ae ⟨rfl,rfl⟩
theorem FJ (x:ItG) (h:IsWord x.name):dn 207 [] aN noP aP x:=by
 intro L
 refine Tri.body (args:=[.agg (aN x).toArray]) 6 Ic Tryz.func207 rfl rfl rfl (by simp) ?_
 repeat first|refine aa ?_|intro _
 refine GO.ef (Ef.a6 (kh x.name h) rfl) ac ?_
 rintro _ _ ⟨rfl,rfl⟩
 repeat first|refine aa ?_|intro _
 exact KX.a6 ai Ent.drop ⟨rfl,rfl⟩
theorem FI (x:RuV) (h:IsWord x.name):dn 209 [] aA ruP aP x:=by
 intro L
 refine Tri.body (args:=[.agg (aA x).toArray]) 6 Ia Tryz.func209 rfl rfl rfl (by simp) ?_
 repeat first|refine aa ?_|intro _
 refine GO.ef (Ef.a6 (kh x.name h) rfl) ac ?_
 rintro _ _ ⟨rfl,rfl⟩
 repeat first|refine aa ?_|intro _
 exact KX.a6 ai Ent.drop ⟨rfl,rfl⟩
theorem FH (x:TbV) (h:IsWord x.name):dn 210 [] aS tbP aP x:=by
 intro L
 refine Tri.body (args:=[.agg (aS x).toArray]) 6 HZ Tryz.func210 rfl rfl rfl (by simp) ?_
 repeat first|refine aa ?_|intro _
 refine GO.ef (Ef.a6 (kh x.name h) rfl) ac ?_
 rintro _ _ ⟨rfl,rfl⟩
 repeat first|refine aa ?_|intro _
 exact KX.a6 ai Ent.drop ⟨rfl,rfl⟩
theorem FG (x:TxV) (h:IsWord x.name):dn 211 [] aU txP aP x:=by
 intro L
 refine Tri.body (args:=[.agg (aU x).toArray]) 6 HY Tryz.func211 rfl rfl rfl (by simp) ?_
 repeat first|refine aa ?_|intro _
 refine GO.ef (Ef.a6 (kh x.name h) rfl) ac ?_
 rintro _ _ ⟨rfl,rfl⟩
 repeat first|refine aa ?_|intro _
 exact KX.a6 ai Ent.drop ⟨rfl,rfl⟩
theorem xR {L:List HP} (c:CatV) (h:CatGood c.m):Tri Tryz.prog 138 #[.agg c.cells.toArray] (catS c (aP::L)) (fun v L'=>v=.bool true∧L' = catS c (aP::L)):=by
 obtain ⟨l1,l2,l3,l4⟩:=lens h
 refine Tri.body (args:=[.agg c.cells.toArray]) 21 IZ Tryz.func138 rfl rfl rfl (by simp) ?_
 simp only [catS,CatV.cells]
 repeat first|refine aa ?_|intro _
 refine GO.ent (lE c.items) ?_
 (first|refine GO.ef (Ef.call (nS (L:=[]) _ [] aP c.iad c.icap c.items l1 (fun x hx=>FJ x (h.it x hx).word)) rfl (by repeat (first|exact Ent.refl _|apply Ent.take))) ac ?_)
 rintro _ _ ⟨_,⟨rfl,rfl⟩,hL⟩
 simp only [List.cons_append,List.nil_append] at hL;subst hL
 repeat first|refine aa ?_|intro _
 (first|refine GO.ef (Ef.call (kY (L:=[]) _ [] aP c.rad c.rcap c.rules l2 (fun r hr=>FI r (iA h r hr).word)) rfl (by repeat (first|exact Ent.refl _|apply Ent.take))) ac ?_)
 rintro _ _ ⟨_,⟨rfl,rfl⟩,hL⟩
 simp only [List.cons_append,List.nil_append] at hL;subst hL
 repeat first|refine aa ?_|intro _
 (first|refine GO.ef (Ef.call (kX (L:=[]) _ [] aP c.tad c.tcap c.tables ab (fun r hr=>FH r (iz h r hr).word)) rfl (by repeat (first|exact Ent.refl _|apply Ent.take))) ac ?_)
 rintro _ _ ⟨_,⟨rfl,rfl⟩,hL⟩
 simp only [List.cons_append,List.nil_append] at hL;subst hL
 repeat first|refine aa ?_|intro _
 (first|refine GO.ef (Ef.call (kW (L:=[]) _ [] aP c.xad c.xcap c.taxes ab (fun r hr=>FG r (jr h r hr).word)) rfl (by repeat (first|exact Ent.refl _|apply Ent.take))) ac ?_)
 rintro _ _ ⟨_,⟨rfl,rfl⟩,hL⟩
 simp only [List.cons_append,List.nil_append] at hL;subst hL
 repeat first|refine aa ?_|intro _
 exact KX.a6 ai ae ⟨rfl,rfl⟩
theorem rI {L:List HP} (c:CatV) (h:CatGood c.m):Tri Tryz.prog 139 #[.agg c.cells.toArray] (catS c (aP::L)) (fun v L'=>v=.bool true∧L' = catS c (aP::L)):=by
 obtain ⟨l1,l2,l3,l4⟩:=lens h
 have d1:(c.items.map (·.name)).Nodup:=h.di
 have d2:(c.rules.map (·.name)).Nodup:=by have:=h.dr;simpa [CatV.m,RuV.m,TbV.m,TxV.m,Function.comp_def] using this
 have d3:(c.tables.map (·.name)).Nodup:=by have:=h.dt;simpa [CatV.m,RuV.m,TbV.m,TxV.m,Function.comp_def] using this
 have d4:(c.taxes.map (·.name)).Nodup:=by have:=h.dx;simpa [CatV.m,RuV.m,TbV.m,TxV.m,Function.comp_def] using this
 refine Tri.body (args:=[.agg c.cells.toArray]) 21 IY Tryz.func139 rfl rfl rfl (by simp) ?_
 simp only [catS,CatV.cells]
 repeat first|refine aa ?_|intro _
 (first|refine GO.ef (Ef.call (Br (L:=[]) c.iad c.icap c.items l1 d1) rfl (by repeat (first|exact Ent.refl _|apply Ent.take))) ac ?_)
 rintro _ _ ⟨_,⟨rfl,rfl⟩,hL⟩
 simp only [List.cons_append,List.nil_append] at hL;subst hL
 repeat first|refine aa ?_|intro _
 (first|refine GO.ef (Ef.call (Bq (L:=[]) c.rad c.rcap c.rules l2 d2) rfl (by repeat (first|exact Ent.refl _|apply Ent.take))) ac ?_)
 rintro _ _ ⟨_,⟨rfl,rfl⟩,hL⟩
 simp only [List.cons_append,List.nil_append] at hL;subst hL
 repeat first|refine aa ?_|intro _
 (first|refine GO.ef (Ef.call (Bp (L:=[]) c.tad c.tcap c.tables ab d3) rfl (by repeat (first|exact Ent.refl _|apply Ent.take))) ac ?_)
 rintro _ _ ⟨_,⟨rfl,rfl⟩,hL⟩
 simp only [List.cons_append,List.nil_append] at hL;subst hL
 repeat first|refine aa ?_|intro _
 (first|refine GO.ef (Ef.call (Bo (L:=[]) c.xad c.xcap c.taxes ab d4) rfl (by repeat (first|exact Ent.refl _|apply Ent.take))) ac ?_)
 rintro _ _ ⟨_,⟨rfl,rfl⟩,hL⟩
 simp only [List.cons_append,List.nil_append] at hL;subst hL
 repeat first|refine aa ?_|intro _
 exact KX.a6 ai ae ⟨rfl,rfl⟩
end
section
abbrev tCat:Nat:=32
theorem pU {L:List HP} (b1:Nat) (c:CatV) (ad:Option Addr) (cap:Nat) (l:List (Int×Int)) (hl:l.length≤64) (hc:c.items.length≤64) (h:gi c.items.length l) :
  Tri Tryz.prog 220 #[.slice ad l.length cap,.pointer (some ⟨b1,0,none⟩)] (obj b1 tCat c.cells::isl aB 2 ad l::L) (fun v L'=>v=.bool true∧L' = obj b1 tCat c.cells::isl aB 2 ad l::L):=by
 obtain ⟨h1,h2⟩:=h
 refine Tri.body (args:=[.slice ad l.length cap,.pointer (some ⟨b1,0,none⟩)]) 28 HO Tryz.func220 rfl rfl rfl (by simp) ?_
 simp only [CatV.cells]
 repeat first|refine aa ?_|intro _
 refine G.loop (α:=Nat×Int) (fun x=>x.1≤l.length∧∀ j,x.1≤j→j<l.length→x.2<l[j]!.1) (fun x=>[(1,.pointer (some ⟨b1,0,none⟩)),(4,.int .i64 x.2),(7,.slice ad l.length cap),(8,.int .i64 l.length),(9,.int .i64 (x.1:Int))]) (fun _=>obj b1 tCat [.slice c.iad c.items.length c.icap,.slice c.rad c.rules.length c.rcap,.slice c.tad c.tables.length c.tcap,.slice c.xad c.taxes.length c.xcap]::isl aB 2 ad l::L) (fun x=>l.length - x.1) (0,-1) ⟨Nat.zero_le _,fun j _ hj=>by have:=h1 _ (ap hj);dsimp only;omega⟩ aj (Ent.refl _) ?_
 rintro ⟨i,last⟩ ⟨hi,hlast⟩
 dsimp only at hi hlast ⊢
 by_cases hlt:i<l.length
 case neg =>
  repeat first|refine aa ?_|intro _
  exact KX.a6 ai (Ent.refl _) ⟨rfl,rfl⟩
 have hii:(i:Int).toNat=i:=ab
 have ha:=h1 _ (ap hlt)
 have hb:=hlast i (Nat.le_refl _) hlt
 repeat first|refine aa ?_|intro _
 rw [hii]
 repeat first|refine aa ?_|intro _
 refine ⟨(i+1,l[i]!.1),⟨by dsimp only;omega,?_⟩,by dsimp only;omega,?_,Ent.drop⟩
 ·intro j hj hjl
  dsimp only at hj ⊢
  rw [getElem!_of hlt,getElem!_of hjl]
  exact List.pairwise_iff_getElem.1 h2 i j hlt hjl ab
 ·dsimp only
  rw [show ((i+1:Nat):Int)=(i:Int)+1 by omega]
  exact aj
theorem tD (x:ItG) (h:ItGood x):dn 221 [] aN noP (bK True) x:=by
 intro L
 have hf:=h.form
 refine Tri.body (args:=[.agg (aN x).toArray]) 36 HN Tryz.func221 rfl rfl rfl (by simp) ?_
 cases hx:x.obj with
 | true =>
  rw [if_pos hx] at hf
  obtain ⟨f1,f2,f3,f4⟩:=hf
  have e:aN x=[.string x.name,.bool true,.bool false,.bool false,.int .i64 x.wear,.int .i64 x.bind,.int .i64 x.level]:=by unfold aN;rw [hx,f1,f2]
  rw [e]
  repeat first|refine aa ?_|intro _
  exact KX.a6 ai Ent.drop ⟨by rw [aw f4];rfl,rfl⟩
 | false =>
  rw [if_neg (by rw [hx];decide)] at hf
  obtain ⟨f1,f2,f3⟩:=hf
  have e:aN x=[.string x.name,.bool false,.bool x.mixed,.bool x.coin,.int .i64 0,.int .i64 0,.int .i64 0]:=by unfold aN;rw [hx,f1,f2,f3]
  rw [e]
  repeat first|refine aa ?_|intro _
  exact KX.a6 ai Ent.drop ⟨by rw [aw rfl];rfl,rfl⟩
theorem tw {L:List HP} (n:Nat) (r:RuV) (h:RuGood n r.m):Tri Tryz.prog 223 #[.agg (aA r).toArray] L (fun v L'=>v=.bool true∧L' = L):=by
 obtain ⟨hf1,hf2⟩:=h.form
 change (r.back.l.length=0∨r.chance≠r.of_) at hf1
 have hg:∀ {q:Prop},(r.back.l.length=0→q)→(¬r.back.l.length=0→r.chance≠r.of_→q)→q:=by
  intro q a b
  by_cases h0:r.back.l.length=0
  ·exact a h0
  ·exact b h0 (hf1.resolve_left h0)
 change (if r.spawn=true then r.take.l.length=0∧r.back.l.length=0∧r.level=0∧r.time=0∧r.chance=r.of_ else 0<r.take.l.length∨r.time≠0) at hf2
 refine Tri.body (args:=[.agg (aA r).toArray]) 52 HL Tryz.func223 rfl rfl rfl (by simp) ?_
 cases hx:r.spawn with
 | true =>
  rw [if_pos hx] at hf2
  obtain ⟨f1,f2,f3,f4,f5⟩:=hf2
  have e:aA r=[.string r.name,.bool true,.int .i64 r.level,.int .i64 r.time,.int .i64 r.chance,.int .i64 r.of_,.slice r.take.ad r.take.l.length r.take.cap,.slice r.give.ad r.give.l.length r.give.cap,.slice r.back.ad r.back.l.length r.back.cap]:=by unfold aA;rw [hx]
  rw [e]
  repeat first|refine aa ?_|intro _
  exact KX.a6 ai Ent.drop ⟨by rw [aw f5];rfl,rfl⟩
 | false =>
  rw [if_neg (by rw [hx];decide)] at hf2
  have e:aA r=[.string r.name,.bool false,.int .i64 r.level,.int .i64 r.time,.int .i64 r.chance,.int .i64 r.of_,.slice r.take.ad r.take.l.length r.take.cap,.slice r.give.ad r.give.l.length r.give.cap,.slice r.back.ad r.back.l.length r.back.cap]:=by unfold aA;rw [hx]
  rw [e]
  refine hg ?_ ?_
  ·intro h0
   by_cases h5:0<r.take.l.length
   ·repeat first|refine aa ?_|intro _
    exact KX.a6 ai Ent.drop ⟨rfl,rfl⟩
   ·have h6:r.time≠0:=hf2.resolve_left h5
    repeat first|refine aa ?_|intro _
    exact KX.a6 ai Ent.drop ⟨by rw [aw h6];rfl,rfl⟩
  ·intro h0 hne
   by_cases h5:0<r.take.l.length
   ·repeat first|refine aa ?_|intro _
    exact KX.a6 ai Ent.drop ⟨rfl,rfl⟩
   ·have h6:r.time≠0:=hf2.resolve_left h5
    repeat first|refine aa ?_|intro _
    exact KX.a6 ai Ent.drop ⟨by rw [aw h6];rfl,rfl⟩
def amU (l:List (Int×Int)) (m:List (Int×Int)):Prop:=∀ i,(glk m i).getD 0=dP l i
theorem mT (l:List (Int×Int)) (a:Int×Int) (i:Int):dP (l++[a]) i=if a.1=i then dP l i+a.2 else dP l i:=by
 unfold dP
 rw [List.foldl_append]
 rfl
theorem pO {n:Nat} {l:List (Int×Int)} (h:∀ a∈l,0≤a.1∧a.1<n∧1≤a.2∧a.2≤1099511627776) (i:Int):∀ k,k≤l.length→0≤dP (l.take k) i∧dP (l.take k) i≤k*1099511627776:=by
 intro k
 induction k with
 | zero=>intro _;simp [dP]
 | succ k ih =>
  intro hk
  have h1:=ih ab
  have h2:=h _ (List.getElem_mem (show k<l.length by omega))
  rw [List.take_succ_eq_append_getElem ab,mT]
  split<;>omega
end
section
theorem CK (m:List (Int×Int)) (k q a:Int):glk (gins m k a) q=if q=k then some a else glk m q:=fc
theorem pY (m:List (Int×Int)) (k d:Int):((@List.lookup _ _ instBEqOfDecidableEq k m).map encN).getD (.int .i64 d)=.int .i64 ((glk m k).getD d):=by
 unfold glk
 cases @List.lookup _ _ instBEqOfDecidableEq k m<;>rfl
theorem yW:amU [] []:=fun _=>rfl
theorem yX {l:List (Int×Int)} {m:List (Int×Int)} (h:amU l m) (a:Int×Int):amU (l++[a]) (gins m a.1 (dP l a.1+a.2)):=by
 intro i
 rw [mT,CK]
 by_cases hi:a.1=i
 ·subst hi
  rw [if_pos rfl,if_pos rfl]
  rfl
 ·rw [if_neg (fun e=>hi e.symm),if_neg hi]
  exact h i
theorem yu {L:List HP} (n:Nat) (ad1 ad2:Option Addr) (c1 c2:Nat) (tk bk:List (Int×Int)) (h1:tk.length≤64) (h2:bk.length≤64) (ht:gi n tk) (hb:gi n bk) (hc:∀ a∈bk,dP bk a.1≤dP tk a.1) :
  Tri Tryz.prog 224 #[.slice ad1 tk.length c1,.slice ad2 bk.length c2] (isl aB 2 ad1 tk::isl aB 2 ad2 bk::L) (fun v L'=>v=.bool true∧L' = isl aB 2 ad1 tk::isl aB 2 ad2 bk::L):=by
 refine Tri.body (args:=[.slice ad1 tk.length c1,.slice ad2 bk.length c2]) 59 HK Tryz.func224 rfl rfl rfl (by simp) ?_
 repeat first|refine aa ?_|intro _
 refine GO.ef (Ef.c7 kvI encN (.inl rfl)) ac ?_
 rintro _ _ ⟨b1,rfl,rfl⟩
 repeat first|refine aa ?_|intro _
 refine GO.ef (Ef.c7 kvI encN (.inl rfl)) ac ?_
 rintro _ _ ⟨b2,rfl,rfl⟩
 repeat first|((fail_if_success (with_reducible refine G.c7 2 ?_));(with_reducible apply G.seq))|refine aL ?_|intro _
 refine G.a8 (α:=List (Int×Int)) (fun m=>amU tk m) (fun _=>[(1,.slice ad2 bk.length c2),(5,.map (some b1)),(6,.map (some b2))]) (fun m=>gmap kvI encN b2 []::gmap kvI encN b1 m::isl aB 2 ad1 tk::isl aB 2 ad2 bk::L) ?_ ?_
 ·repeat first|refine aa ?_|intro _
  refine G.loop (α:=Nat×List (Int×Int)) (fun x=>x.1≤tk.length∧amU (tk.take x.1) x.2) (fun x=>[(1,.slice ad2 bk.length c2),(5,.map (some b1)),(6,.map (some b2)),(15,.slice ad1 tk.length c1),(16,.int .i64 tk.length),(17,.int .i64 (x.1:Int))]) (fun x=>gmap kvI encN b2 []::gmap kvI encN b1 x.2::isl aB 2 ad1 tk::isl aB 2 ad2 bk::L) (fun x=>tk.length - x.1) (0,[]) ⟨Nat.zero_le _,yW⟩ aj (Ent.refl _) ?_
  rintro ⟨i,m⟩ ⟨hi,hm⟩
  dsimp only at hi hm ⊢
  by_cases hlt:i<tk.length
  case neg =>
   rw [List.take_of_length_le ab] at hm
   repeat first|refine aa ?_|intro _
   exact ⟨m,hm,aj,Ent.refl _⟩
  have hii:(i:Int).toNat=i:=ab
  have ha:=ht.1 _ (ap hlt)
  have hcb:=pO ht.1 tk[i]!.1 i ab
  have hmi:=hm tk[i]!.1
  repeat first|refine aa ?_|intro _
  rw [hii]
  refine GO.ev (Ev.c7 rfl rfl) ac ?_
  rw [pY,hmi]
  repeat first|refine aa ?_|intro _
  refine GO.efu (Ef.e9 (enc:=encN) (e:=dP (tk.take i) tk[i]!.1+tk[i]!.2) rfl rfl rfl rfl) ?_
  rintro _ _ rfl
  repeat first|refine aa ?_|intro _
  refine ⟨(i+1,gins m tk[i]!.1 (dP (tk.take i) tk[i]!.1+tk[i]!.2)),⟨by dsimp only;omega,?_⟩,by dsimp only;omega,?_,by exact ae⟩
  ·dsimp only
   rw [List.take_succ_eq_append_getElem hlt,← getElem!_of hlt]
   exact yX hm _
  ·dsimp only
   rw [show ((i+1:Nat):Int)=(i:Int)+1 by omega]
   exact aj
 intro m1 hm1
 refine G.a8 (α:=List (Int×Int)) (fun m=>amU bk m) (fun _=>[(1,.slice ad2 bk.length c2),(5,.map (some b1)),(6,.map (some b2))]) (fun m=>gmap kvI encN b2 m::gmap kvI encN b1 m1::isl aB 2 ad1 tk::isl aB 2 ad2 bk::L) ?_ ?_
 ·repeat first|refine aa ?_|intro _
  refine G.loop (α:=Nat×List (Int×Int)) (fun x=>x.1≤bk.length∧amU (bk.take x.1) x.2) (fun x=>[(1,.slice ad2 bk.length c2),(5,.map (some b1)),(6,.map (some b2)),(29,.slice ad2 bk.length c2),(30,.int .i64 bk.length),(31,.int .i64 (x.1:Int))]) (fun x=>gmap kvI encN b2 x.2::gmap kvI encN b1 m1::isl aB 2 ad1 tk::isl aB 2 ad2 bk::L) (fun x=>bk.length - x.1) (0,[]) ⟨Nat.zero_le _,yW⟩ aj (Ent.refl _) ?_
  rintro ⟨i,m⟩ ⟨hi,hm⟩
  dsimp only at hi hm ⊢
  by_cases hlt:i<bk.length
  case neg =>
   rw [List.take_of_length_le ab] at hm
   repeat first|refine aa ?_|intro _
   exact ⟨m,hm,aj,Ent.refl _⟩
  have hii:(i:Int).toNat=i:=ab
  have ha:=hb.1 _ (ap hlt)
  have hcb:=pO hb.1 bk[i]!.1 i ab
  have hmi:=hm bk[i]!.1
  repeat first|refine aa ?_|intro _
  rw [hii]
  refine GO.ev (Ev.c7 rfl rfl) ac ?_
  rw [pY,hmi]
  repeat first|refine aa ?_|intro _
  refine GO.efu (Ef.e9 (enc:=encN) (e:=dP (bk.take i) bk[i]!.1+bk[i]!.2) rfl rfl rfl rfl) ?_
  rintro _ _ rfl
  repeat first|refine aa ?_|intro _
  refine ⟨(i+1,gins m bk[i]!.1 (dP (bk.take i) bk[i]!.1+bk[i]!.2)),⟨by dsimp only;omega,?_⟩,by dsimp only;omega,?_,by exact ae⟩
  ·dsimp only
   rw [List.take_succ_eq_append_getElem hlt,← getElem!_of hlt]
   exact yX hm _
  ·dsimp only
   rw [show ((i+1:Nat):Int)=(i:Int)+1 by omega]
   exact aj
 intro m2 hm2
 repeat first|refine aa ?_|intro _
 refine G.loop (α:=Nat) (fun i=>i≤bk.length) (fun i=>[(5,.map (some b1)),(6,.map (some b2)),(43,.slice ad2 bk.length c2),(44,.int .i64 bk.length),(45,.int .i64 (i:Int))]) (fun _=>gmap kvI encN b2 m2::gmap kvI encN b1 m1::isl aB 2 ad1 tk::isl aB 2 ad2 bk::L) (fun i=>bk.length - i) 0 (Nat.zero_le _) aj (Ent.refl _) ?_
 intro i hi
 by_cases hlt:i<bk.length
 case neg =>
  repeat first|refine aa ?_|intro _
  exact KX.a6 ai ae ⟨rfl,rfl⟩
 have hii:(i:Int).toNat=i:=ab
 have e1:=hm1 bk[i]!.1
 have e2:=hm2 bk[i]!.1
 have hle:=hc _ (ap hlt)
 repeat first|refine aa ?_|intro _
 rw [hii]
 refine GO.ev (Ev.c7 rfl rfl) ac ?_
 rw [pY,e1]
 repeat first|refine aa ?_|intro _
 refine GO.ev (Ev.c7 rfl rfl) ac ?_
 rw [pY,e2]
 repeat first|refine aa ?_|intro _
 refine ⟨i+1,ab,ab,?_,by exact ae⟩
 rw [show ((i+1:Nat):Int)=(i:Int)+1 by omega]
 exact aj
end
section
abbrev tSrt:Nat:=297
abbrev srtC (b3 b1:Nat) (c:CatV):List HP:=[obj b3 tSrt [.func (.func 220) #[] #[.pointer (some ⟨b1,0,none⟩)]],obj b1 tCat c.cells]
theorem uk {r:RuV} {L:List HP}:Ent (ruP r::L) (amS r.take::amS r.give::amS r.back::ruP r::L):=(Ent.dup (gA r).pers).trans ruOpen
theorem FC (b3 b1:Nat) (c:CatV) (hc:c.items.length≤64) (r:RuV) (h:RuGood c.items.length r.m):dn 222 [.pointer (some ⟨b3,0,none⟩)] aA ruP (aX (srtC b3 b1 c)) r:=by
 intro L
 have hl:=h.lim
 change r.take.l.length+r.give.l.length≤64∧r.take.l.length+r.back.l.length≤64 at hl
 refine Tri.body (args:=[.agg (aA r).toArray,.pointer (some ⟨b3,0,none⟩)]) 31 HM Tryz.func222 rfl rfl rfl (by simp) ?_
 refine G.ent (Ent.openS.trans (Ent.a6 (Ent.a6 uk))) ?_
 repeat first|refine aa ?_|intro _
 refine GO.ent (Ent.at (A:=amS r.take) (Ent.at (A:=obj b1 tCat c.cells) (Ent.refl _))) ?_
 refine GO.ef (Ef.a8 rfl rfl (pU b1 c r.take.ad r.take.cap r.take.l ab hc h.take)) ac ?_
 rintro _ _ ⟨rfl,rfl⟩
 repeat first|refine aa ?_|intro _
 refine GO.ent (Ent.at (A:=amS r.give) (Ent.at (A:=obj b1 tCat c.cells) (Ent.refl _))) ?_
 refine GO.ef (Ef.a8 rfl rfl (pU b1 c r.give.ad r.give.cap r.give.l ab hc h.give)) ac ?_
 rintro _ _ ⟨rfl,rfl⟩
 repeat first|refine aa ?_|intro _
 refine GO.ent (Ent.at (A:=amS r.back) (Ent.at (A:=obj b1 tCat c.cells) (Ent.refl _))) ?_
 refine GO.ef (Ef.a8 rfl rfl (pU b1 c r.back.ad r.back.cap r.back.l ab hc h.back)) ac ?_
 rintro _ _ ⟨rfl,rfl⟩
 repeat first|refine aa ?_|intro _
 refine GO.ef (Ef.a6 (tw _ r h) rfl) ac ?_
 rintro _ _ ⟨rfl,rfl⟩
 repeat first|refine aa ?_|intro _
 (first|refine GO.ef (Ef.call (yu (L:=[]) c.items.length r.take.ad r.back.ad r.take.cap r.back.cap r.take.l r.back.l ab ab h.take h.back h.cont) rfl (by repeat (first|exact Ent.refl _|apply Ent.take))) ac ?_)
 rintro _ _ ⟨_,⟨rfl,rfl⟩,hL⟩
 simp only [List.cons_append,List.nil_append] at hL;subst hL
 repeat first|refine aa ?_|intro _
 refine KX.a6 ai ?_ ⟨rfl,rfl⟩
 refine Ent.trans ?_ Ent.e7
 simp only [List.cons_append,List.nil_append]
 exact ae
theorem EH (b3 b1:Nat) (c:CatV) (hc:c.items.length≤64) (r:RwV) (hl:r.give.l.length≤64) (h:gi c.items.length r.give.l):dn 227 [.pointer (some ⟨b3,0,none⟩)] cI rwP (aX (srtC b3 b1 c)) r:=by
 intro L
 refine Tri.body (args:=[.agg (cI r).toArray,.pointer (some ⟨b3,0,none⟩)]) 8 HH Tryz.func227 rfl rfl rfl (by simp) ?_
 refine G.ent Ent.openS ?_
 simp only [List.cons_append,List.nil_append]
 repeat first|refine aa ?_|intro _
 refine GO.ent (Ent.at (A:=amS r.give) (Ent.at (A:=obj b1 tCat c.cells) (Ent.refl _))) ?_
 refine GO.ef (Ef.a8 rfl rfl (pU b1 c r.give.ad r.give.cap r.give.l hl hc h)) ac ?_
 rintro _ _ ⟨rfl,rfl⟩
 repeat first|refine aa ?_|intro _
 refine KX.a6 ai ?_ ⟨rfl,rfl⟩
 refine Ent.trans ?_ Ent.e7
 simp only [List.cons_append,List.nil_append]
 exact ae
theorem pk {t:TbV} {L:List HP}:Ent (tbP t::L) (isl cI 2 t.ad t.rows::allP rwP t.rows::tbP t::L):=(Ent.dup (iO t).pers).trans Ent.andE
theorem iE {n:Nat} {t:TbV} (h:TbGood n t.m):(0<t.rows.length∧t.rows.length≤64)∧∀ r∈t.rows,RwGood n r.m:=by
 have h1:=h.rows
 have h2:=h.good
 simp only [TbV.m,List.length_map] at h1 h2
 exact ⟨h1,fun r hr=>h2 _ (List.mem_map_of_mem hr)⟩
theorem FB (b3 b1:Nat) (c:CatV) (hc:c.items.length≤64) (t:TbV) (hB:t.B) (h:TbGood c.items.length t.m):dn 225 [.pointer (some ⟨b3,0,none⟩)] aS tbP (aX (srtC b3 b1 c)) t:=by
 intro L
 obtain ⟨⟨r1,r2⟩,r3⟩:=iE h
 refine Tri.body (args:=[.agg (aS t).toArray,.pointer (some ⟨b3,0,none⟩)]) 14 HJ Tryz.func225 rfl rfl rfl (by simp) ?_
 refine G.ent (Ent.a6 pk) ?_
 repeat first|refine aa ?_|intro _
 (first|refine GO.ef (Ef.call (nR (L:=[]) _ [.pointer (some ⟨b3,0,none⟩)] (aX (srtC b3 b1 c)) t.ad t.cap t.rows r2 (fun r hr=>EH b3 b1 c hc r (hB.2 r hr) (r3 r hr).give)) rfl (by repeat (first|exact Ent.refl _|apply Ent.take))) ac ?_)
 rintro _ _ ⟨_,⟨rfl,rfl⟩,hL⟩
 simp only [List.cons_append,List.nil_append] at hL;subst hL
 repeat first|refine aa ?_|intro _
 exact KX.a6 ai ae ⟨rfl,rfl⟩
abbrev AH:List Stp:=[.ev 0,.ev 1,.ev 2,.ev 3,.ev 4,.ev 5,.ev 6,.ev 7,.ev 8,.ev 9,.ev 10,.ev 11,.ev 12,.ev 13]
theorem kH {φ ψ:Prop} (k:ψ) (h:Hid ψ→φ:=by intro k;(with_reducible apply G.a7);first|refine G.a6 (N:=37) (id:=6) AH mixed ah (Hid.out k)):φ:=h ⟨k⟩
theorem ub (t:TxV) (h:TxGood t.m):dn 228 [] aU txP (bK True) t:=by
 intro L
 obtain ⟨h1,h2⟩:=h.brs
 change 0<t.brs.length at h1
 change t.brs.length≤16 at h2
 have h3:t.brs[(0:Int).toNat]!.1=0:=h.first
 have h4:∀ i,i+1<t.brs.length→t.brs[i]!.1<t.brs[i+1]!.1:=h.srt
 refine Tri.body (args:=[.agg (aU t).toArray]) 37 HG Tryz.func228 rfl rfl rfl (by simp) ?_
 refine G.ent (L':=isl aB 2 t.ad t.brs::bK True::L) (by unfold txP;exact ae) ?_
 repeat first|refine aa ?_|intro _|refine kH ?_
 rename_i b1
 refine G.loop (α:=Nat) (fun i=>1≤i∧i≤t.brs.length) (fun i=>[(1,.pointer (some ⟨b1,0,none⟩)),(3,.int .i64 (i:Int))]) (fun _=>obj b1 115 (aU t)::isl aB 2 t.ad t.brs::bK True::L) (fun i=>t.brs.length - i) 1 ⟨ab,ab⟩ aj ae ?_
 rintro i ⟨hi1,hi2⟩
 by_cases hlt:i<t.brs.length
 case neg =>
  repeat first|refine aa ?_|intro _|refine kH ?_
  refine KX.a6 ai ?_ ⟨rfl,rfl⟩
  unfold txP
  exact ae
 have h5:=h4 (i - 1) ab
 rw [show i - 1+1=i by omega] at h5
 have h6:t.brs[((i:Int) - 1).toNat]!.1<t.brs[(i:Int).toNat]!.1:=by
  rw [show ((i:Int) - 1).toNat=i - 1 by omega,show (i:Int).toNat=i by omega]
  exact h5
 repeat first|refine aa ?_|intro _|refine kH ?_
 refine ⟨i+1,⟨ab,ab⟩,ab,?_,by exact ae⟩
 rw [show ((i+1:Nat):Int)=(i:Int)+1 by omega]
 exact aj
theorem tn {L:List HP} (c:CatV) (hB:c.B) (h:CatGood c.m):Tri Tryz.prog 140 #[.agg c.cells.toArray] (catS c (aP::L)) (fun v L'=>v=.bool true∧L' = catS c (aP::L)):=by
 obtain ⟨l1,l2,l3,l4⟩:=lens h
 refine Tri.body (args:=[.agg c.cells.toArray]) 25 IX Tryz.func140 rfl rfl rfl (by simp) ?_
 simp only [catS]
 repeat first|refine aa ?_|intro _
 rename_i b1 b3
 refine GO.ent (Ent.pure trivial (lE c.items)) ?_
 simp only [CatV.cells]
 repeat first|refine aa ?_|intro _
 (first|refine GO.ef (Ef.call (nS (L:=[]) _ [] (bK True) c.iad c.icap c.items l1 (fun x hx=>tD x (h.it x hx))) rfl (by repeat (first|exact Ent.refl _|apply Ent.take))) ac ?_)
 rintro _ _ ⟨_,⟨rfl,rfl⟩,hL⟩
 simp only [List.cons_append,List.nil_append] at hL;subst hL
 repeat first|refine aa ?_|intro _
 refine GO.ent (L':=aX (srtC b3 b1 c)::bK True::isl aN 7 c.iad c.items::isl aA 9 c.rad c.rules::allP ruP c.rules::isl aS 2 c.tad c.tables::allP tbP c.tables::isl aU 2 c.xad c.taxes::allP txP c.taxes::aP::L) ?_ ?_
 ·refine Ent.trans ?_ Ent.e7
  simp only [srtC,CatV.cells,List.cons_append,List.nil_append]
  exact ae
 (first|refine GO.ef (Ef.call (kY (L:=[]) _ [.pointer (some ⟨b3,0,none⟩)] (aX (srtC b3 b1 c)) c.rad c.rcap c.rules l2 (fun r hr=>FC b3 b1 c l1 r (iA h r hr))) rfl (by repeat (first|exact Ent.refl _|apply Ent.take))) ac ?_)
 rintro _ _ ⟨_,⟨rfl,rfl⟩,hL⟩
 simp only [List.cons_append,List.nil_append] at hL;subst hL
 refine GO.ent (Ent.openS (A:=srtC b3 b1 c)) ?_
 simp only [srtC,CatV.cells,List.cons_append,List.nil_append]
 repeat first|refine aa ?_|intro _
 refine GO.ent (L':=aX (srtC b3 b1 c)::bK True::isl aN 7 c.iad c.items::isl aA 9 c.rad c.rules::allP ruP c.rules::isl aS 2 c.tad c.tables::allP tbP c.tables::isl aU 2 c.xad c.taxes::allP txP c.taxes::aP::L) ?_ ?_
 ·refine Ent.trans ?_ Ent.e7
  simp only [srtC,CatV.cells,List.cons_append,List.nil_append]
  exact ae
 (first|refine GO.ef (Ef.call (kX (L:=[]) _ [.pointer (some ⟨b3,0,none⟩)] (aX (srtC b3 b1 c)) c.tad c.tcap c.tables ab (fun r hr=>FB b3 b1 c l1 r (hB.tb r hr) (iz h r hr))) rfl (by repeat (first|exact Ent.refl _|apply Ent.take))) ac ?_)
 rintro _ _ ⟨_,⟨rfl,rfl⟩,hL⟩
 simp only [List.cons_append,List.nil_append] at hL;subst hL
 refine GO.ent (Ent.openS (A:=srtC b3 b1 c)) ?_
 simp only [srtC,CatV.cells,List.cons_append,List.nil_append]
 repeat first|refine aa ?_|intro _
 (first|refine GO.ef (Ef.call (kW (L:=[]) _ [] (bK True) c.xad c.xcap c.taxes ab (fun r hr=>ub r (jr h r hr))) rfl (by repeat (first|exact Ent.refl _|apply Ent.take))) ac ?_)
 rintro _ _ ⟨_,⟨rfl,rfl⟩,hL⟩
 simp only [List.cons_append,List.nil_append] at hL;subst hL
 repeat first|refine aa ?_|intro _
 exact KX.a6 ai ae ⟨rfl,rfl⟩
theorem Fh (a:Int×Int) (h:1≤a.2∧a.2≤1099511627776):dn 231 [] aB noP (bK True) a:=by
 intro L
 obtain ⟨h1,h2⟩:=h
 refine Tri.body (args:=[.agg (aB a).toArray]) 11 HD Tryz.func231 rfl rfl rfl (by simp) ?_
 repeat first|refine aa ?_|intro _
 exact KX.a6 ai Ent.drop ⟨by rw [aw h2];rfl,rfl⟩
theorem qS {L:List HP} (n:Nat) (ad:Option Addr) (cap:Nat) (l:List (Int×Int)) (hl:l.length≤64) (h:gi n l):Tri Tryz.prog 229 #[.slice ad l.length cap] (isl aB 2 ad l::L) (fun v L'=>v=.bool true∧L' = isl aB 2 ad l::L):=by
 refine Tri.body (args:=[.slice ad l.length cap]) 5 HF Tryz.func229 rfl rfl rfl (by simp) ?_
 repeat first|refine aa ?_|intro _
 refine GO.ent (Ent.pure trivial (lE l)) ?_
 (first|refine GO.ef (Ef.call (CP (L:=[]) _ [] (bK True) ad cap l hl (fun a ha=>Fh a (h.1 a ha).2.2)) rfl (by repeat (first|exact Ent.refl _|apply Ent.take))) ac ?_)
 rintro _ _ ⟨_,⟨rfl,rfl⟩,hL⟩
 simp only [List.cons_append,List.nil_append] at hL;subst hL
 repeat first|refine aa ?_|intro _
 exact KX.a6 ai ae ⟨rfl,rfl⟩
theorem rM (x:ItG) (h:ItGood x):dn 232 [] aN noP (bK True) x:=by
 intro L
 obtain ⟨h1,h2,h3⟩:=h.num
 refine Tri.body (args:=[.agg (aN x).toArray]) 26 HC Tryz.func232 rfl rfl rfl (by simp) ?_
 cases hx:x.obj with
 | true =>
  obtain ⟨f1,f2⟩:=h1 hx
  have e:aN x=[.string x.name,.bool true,.bool x.mixed,.bool x.coin,.int .i64 x.wear,.int .i64 x.bind,.int .i64 x.level]:=by unfold aN;rw [hx]
  rw [e]
  repeat first|refine aa ?_|intro _
  exact KX.a6 ai Ent.drop ⟨by rw [aw h3];rfl,rfl⟩
 | false =>
  have e:aN x=[.string x.name,.bool false,.bool x.mixed,.bool x.coin,.int .i64 x.wear,.int .i64 x.bind,.int .i64 x.level]:=by unfold aN;rw [hx]
  rw [e]
  repeat first|refine aa ?_|intro _
  exact KX.a6 ai Ent.drop ⟨by rw [aw h3];rfl,rfl⟩
theorem rD {L:List HP} (n:Nat) (r:RuV) (h:RuGood n r.m):Tri Tryz.prog 234 #[.agg (aA r).toArray] L (fun v L'=>v=.bool true∧L' = L):=by
 obtain ⟨⟨h1,h2⟩,⟨h3,h4⟩,⟨h5,h6⟩,h7,h8⟩:=h.num
 change 0≤r.level at h1
 change r.level≤100 at h2
 change 0≤r.time at h3
 change r.time≤1000000 at h4
 change 1≤r.of_ at h5
 change r.of_≤1000000 at h6
 change 1≤r.chance at h7
 change r.chance≤r.of_ at h8
 refine Tri.body (args:=[.agg (aA r).toArray]) 43 HA Tryz.func234 rfl rfl rfl (by simp) ?_
 repeat first|refine aa ?_|intro _
 exact KX.a6 ai Ent.drop ⟨by rw [aw h8];rfl,rfl⟩
abbrev untC (b3:Nat):HP:=obj b3 tSrt [.func (.func 229) #[] #[]]
theorem FQ (b3 n:Nat) (r:RuV) (h:RuGood n r.m):dn 233 [.pointer (some ⟨b3,0,none⟩)] aA ruP (untC b3) r:=by
 intro L
 have hl:=h.lim
 change r.take.l.length+r.give.l.length≤64∧r.take.l.length+r.back.l.length≤64 at hl
 refine Tri.body (args:=[.agg (aA r).toArray,.pointer (some ⟨b3,0,none⟩)]) 24 HB Tryz.func233 rfl rfl rfl (by simp) ?_
 refine G.ent (Ent.a6 uk) ?_
 repeat first|refine aa ?_|intro _
 refine GO.ent (Ent.at (A:=amS r.take) (Ent.refl _)) ?_
 refine GO.ef (Ef.a8 rfl rfl (qS n r.take.ad r.take.cap r.take.l ab h.take)) ac ?_
 rintro _ _ ⟨rfl,rfl⟩
 repeat first|refine aa ?_|intro _
 refine GO.ent (Ent.at (A:=amS r.give) (Ent.refl _)) ?_
 refine GO.ef (Ef.a8 rfl rfl (qS n r.give.ad r.give.cap r.give.l ab h.give)) ac ?_
 rintro _ _ ⟨rfl,rfl⟩
 repeat first|refine aa ?_|intro _
 refine GO.ent (Ent.at (A:=amS r.back) (Ent.refl _)) ?_
 refine GO.ef (Ef.a8 rfl rfl (qS n r.back.ad r.back.cap r.back.l ab h.back)) ac ?_
 rintro _ _ ⟨rfl,rfl⟩
 repeat first|refine aa ?_|intro _
 refine GO.ef (Ef.a6 (rD n r h) rfl) ac ?_
 rintro _ _ ⟨rfl,rfl⟩
 repeat first|refine aa ?_|intro _
 exact KX.a6 ai ae ⟨rfl,rfl⟩
theorem EG (n:Nat) (r:RwV) (h:RwGood n r.m):dn 276 [] cI rwP (bK True) r:=by
 intro L
 obtain ⟨h1,h2⟩:=h.num
 change 1≤r.weight at h1
 change r.weight≤1099511627776 at h2
 refine Tri.body (args:=[.agg (cI r).toArray]) 11 GZ Tryz.func276 rfl rfl rfl (by simp) ?_
 repeat first|refine aa ?_|intro _
 exact KX.a6 ai Ent.drop ⟨by rw [aw h2];rfl,rfl⟩
theorem oE {L:List HP} (n:Nat) (t:TbV) (h:TbGood n t.m):Tri Tryz.prog 236 #[.agg (aS t).toArray] (tbP t::L) (fun v L'=>v=.bool true∧L' = tbP t::L):=by
 obtain ⟨⟨r1,r2⟩,r3⟩:=iE h
 refine Tri.body (args:=[.agg (aS t).toArray]) 6 Hy Tryz.func236 rfl rfl rfl (by simp) ?_
 refine G.ent pk ?_
 repeat first|refine aa ?_|intro _
 refine GO.ent (Ent.pure trivial (Ent.refl _)) ?_
 (first|refine GO.ef (Ef.call (nR (L:=[]) _ [] (bK True) t.ad t.cap t.rows r2 (fun r hr=>EG n r (r3 r hr))) rfl (by repeat (first|exact Ent.refl _|apply Ent.take))) ac ?_)
 rintro _ _ ⟨_,⟨rfl,rfl⟩,hL⟩
 simp only [List.cons_append,List.nil_append] at hL;subst hL
 repeat first|refine aa ?_|intro _
 exact KX.a6 ai ae ⟨rfl,rfl⟩
theorem Fg (b3 n:Nat) (r:RwV) (hl:r.give.l.length≤64) (h:gi n r.give.l):dn 237 [.pointer (some ⟨b3,0,none⟩)] cI rwP (untC b3) r:=by
 intro L
 refine Tri.body (args:=[.agg (cI r).toArray,.pointer (some ⟨b3,0,none⟩)]) 8 Hx Tryz.func237 rfl rfl rfl (by simp) ?_
 repeat first|refine aa ?_|intro _
 refine GO.ent (Ent.at (A:=amS r.give) (Ent.refl _)) ?_
 refine GO.ef (Ef.a8 rfl rfl (qS n r.give.ad r.give.cap r.give.l hl h)) ac ?_
 rintro _ _ ⟨rfl,rfl⟩
 repeat first|refine aa ?_|intro _
 exact KX.a6 ai ae ⟨rfl,rfl⟩
theorem FP (b3 n:Nat) (t:TbV) (hB:t.B) (h:TbGood n t.m):dn 235 [.pointer (some ⟨b3,0,none⟩)] aS tbP (untC b3) t:=by
 intro L
 obtain ⟨⟨r1,r2⟩,r3⟩:=iE h
 refine Tri.body (args:=[.agg (aS t).toArray,.pointer (some ⟨b3,0,none⟩)]) 12 Hz Tryz.func235 rfl rfl rfl (by simp) ?_
 repeat first|refine aa ?_|intro _
 (first|refine GO.ef (Ef.call (oE (L:=[]) n t h) rfl (by repeat (first|exact Ent.refl _|apply Ent.take))) ac ?_)
 rintro _ _ ⟨_,⟨rfl,rfl⟩,hL⟩
 simp only [List.cons_append,List.nil_append] at hL;subst hL
 refine GO.ent pk ?_
 repeat first|refine aa ?_|intro _
 (first|refine GO.ef (Ef.call (nR (L:=[]) _ [.pointer (some ⟨b3,0,none⟩)] (untC b3) t.ad t.cap t.rows r2 (fun r hr=>Fg b3 n r (hB.2 r hr) (r3 r hr).give)) rfl (by repeat (first|exact Ent.refl _|apply Ent.take))) ac ?_)
 rintro _ _ ⟨_,⟨rfl,rfl⟩,hL⟩
 simp only [List.cons_append,List.nil_append] at hL;subst hL
 repeat first|refine aa ?_|intro _
 exact KX.a6 ai ae ⟨rfl,rfl⟩
theorem EJ (b:Int×Int) (h:(0≤b.1∧b.1≤1099511627776)∧0≤b.2∧b.2≤10000):dn 278 [] aB noP (bK True) b:=by
 intro L
 obtain ⟨⟨h1,h2⟩,h3,h4⟩:=h
 refine Tri.body (args:=[.agg (aB b).toArray]) 21 GX Tryz.func278 rfl rfl rfl (by simp) ?_
 repeat first|refine aa ?_|intro _
 exact KX.a6 ai Ent.drop ⟨by rw [aw h4];rfl,rfl⟩
theorem tq (t:TxV) (h:TxGood t.m):dn 238 [] aU txP (bK True) t:=by
 intro L
 obtain ⟨h1,h2⟩:=h.brs
 change 0<t.brs.length at h1
 change t.brs.length≤16 at h2
 refine Tri.body (args:=[.agg (aU t).toArray]) 6 Hw Tryz.func238 rfl rfl rfl (by simp) ?_
 refine G.ent (L':=isl aB 2 t.ad t.brs::bK True::L) (by unfold txP;exact ae) ?_
 repeat first|refine aa ?_|intro _
 refine GO.ent (lE t.brs) ?_
 (first|refine GO.ef (Ef.call (CO (L:=[]) _ [] (bK True) t.ad t.cap t.brs ab (fun b hb=>EJ b (h.num b hb))) rfl (by repeat (first|exact Ent.refl _|apply Ent.take))) ac ?_)
 rintro _ _ ⟨_,⟨rfl,rfl⟩,hL⟩
 simp only [List.cons_append,List.nil_append] at hL;subst hL
 repeat first|refine aa ?_|intro _
 refine KX.a6 ai ?_ ⟨rfl,rfl⟩
 unfold txP
 exact ae
theorem AY {L:List HP} (c:CatV) (hB:c.B) (h:CatGood c.m):Tri Tryz.prog 141 #[.agg c.cells.toArray] (catS c (aP::L)) (fun v L'=>v=.bool true∧L' = catS c (aP::L)):=by
 obtain ⟨l1,l2,l3,l4⟩:=lens h
 refine Tri.body (args:=[.agg c.cells.toArray]) 24 IW Tryz.func141 rfl rfl rfl (by simp) ?_
 simp only [catS,CatV.cells]
 repeat first|refine aa ?_|intro _
 rename_i b1 b3
 refine GO.ent (Ent.pure trivial (lE c.items)) ?_
 (first|refine GO.ef (Ef.call (nS (L:=[]) _ [] (bK True) c.iad c.icap c.items l1 (fun x hx=>rM x (h.it x hx))) rfl (by repeat (first|exact Ent.refl _|apply Ent.take))) ac ?_)
 rintro _ _ ⟨_,⟨rfl,rfl⟩,hL⟩
 simp only [List.cons_append,List.nil_append] at hL;subst hL
 repeat first|refine aa ?_|intro _
 (first|refine GO.ef (Ef.call (kY (L:=[]) _ [.pointer (some ⟨b3,0,none⟩)] (untC b3) c.rad c.rcap c.rules l2 (fun r hr=>FQ b3 _ r (iA h r hr))) rfl (by repeat (first|exact Ent.refl _|apply Ent.take))) ac ?_)
 rintro _ _ ⟨_,⟨rfl,rfl⟩,hL⟩
 simp only [List.cons_append,List.nil_append] at hL;subst hL
 repeat first|refine aa ?_|intro _
 (first|refine GO.ef (Ef.call (kX (L:=[]) _ [.pointer (some ⟨b3,0,none⟩)] (untC b3) c.tad c.tcap c.tables ab (fun r hr=>FP b3 _ r (hB.tb r hr) (iz h r hr))) rfl (by repeat (first|exact Ent.refl _|apply Ent.take))) ac ?_)
 rintro _ _ ⟨_,⟨rfl,rfl⟩,hL⟩
 simp only [List.cons_append,List.nil_append] at hL;subst hL
 repeat first|refine aa ?_|intro _
 (first|refine GO.ef (Ef.call (kW (L:=[]) _ [] (bK True) c.xad c.xcap c.taxes ab (fun r hr=>tq r (jr h r hr))) rfl (by repeat (first|exact Ent.refl _|apply Ent.take))) ac ?_)
 rintro _ _ ⟨_,⟨rfl,rfl⟩,hL⟩
 simp only [List.cons_append,List.nil_append] at hL;subst hL
 repeat first|refine aa ?_|intro _
 exact KX.a6 ai ae ⟨rfl,rfl⟩
theorem CV {L:List HP} (c:CatV) (hB:c.B) (h:CatGood c.m):Tri Tryz.prog 93 #[.agg c.cells.toArray] (catP c::aP::L) (fun v L'=>v=.int .i64 0∧L' = catP c::aP::L):=by
 refine Tri.body (args:=[.agg c.cells.toArray]) 23 en93 Tryz.func93 rfl rfl rfl (by simp) ?_
 refine G.ent (L':=catS c (aP::catP c::L)) (catS_open.trans (by simp only [catS];exact ae)) ?_
 simp only [CatV.cells]
 repeat first|refine aa ?_|intro _
 rename_i b1
 refine GO.ent (L':=catS c (aP::obj b1 tCat c.cells::catP c::L)) (by simp only [catS,CatV.cells];exact ae) ?_
 refine GO.ef (Ef.a6 (pT c h) rfl) ac ?_
 rintro _ _ ⟨rfl,rfl⟩
 simp only [catS,CatV.cells]
 repeat first|refine aa ?_|intro _
 refine GO.ent (L':=catS c (aP::obj b1 tCat c.cells::catP c::L)) (by simp only [catS,CatV.cells];exact ae) ?_
 refine GO.ef (Ef.a6 (xR c h) rfl) ac ?_
 rintro _ _ ⟨rfl,rfl⟩
 simp only [catS,CatV.cells]
 repeat first|refine aa ?_|intro _
 refine GO.ent (L':=catS c (aP::obj b1 tCat c.cells::catP c::L)) (by simp only [catS,CatV.cells];exact ae) ?_
 refine GO.ef (Ef.a6 (rI c h) rfl) ac ?_
 rintro _ _ ⟨rfl,rfl⟩
 simp only [catS,CatV.cells]
 repeat first|refine aa ?_|intro _
 refine GO.ent (L':=catS c (aP::obj b1 tCat c.cells::catP c::L)) (by simp only [catS,CatV.cells];exact ae) ?_
 refine GO.ef (Ef.a6 (tn c hB h) rfl) ac ?_
 rintro _ _ ⟨rfl,rfl⟩
 simp only [catS,CatV.cells]
 repeat first|refine aa ?_|intro _
 refine GO.ent (L':=catS c (aP::obj b1 tCat c.cells::catP c::L)) (by simp only [catS,CatV.cells];exact ae) ?_
 refine GO.ef (Ef.a6 (AY c hB h) rfl) ac ?_
 rintro _ _ ⟨rfl,rfl⟩
 simp only [catS,CatV.cells]
 repeat first|refine aa ?_|intro _
 refine KX.a6 ai ?_ ⟨rfl,rfl⟩
 exact ae
end
end Go.Proofs.YtfmgkkofledkbaaGreatDoor
namespace Go.V
theorem Ent.d7 {L R:List HP} {α:Type} {enc:α→List Value} {sz b T:Nat} {cs:List Value} [h:PickObj L b T cs R] (xs:List α) (hc:cs=xs.flatMap enc) (hs:∀ x∈xs,(enc x).length=sz) (hm:xs.length≤9223372036854775807):Ent L (isl enc sz (some ⟨b,0,none⟩) xs::R) :=
 (Ent.perm h.perm).trans ((Ent.c6 hc rfl hs hm).trans Ent.freezeSl)
end Go.V
namespace Go.Proofs.YtfmgkkofledkbaaGreatDoor
open Go.V
attribute [local irreducible] G GO GP GPW GPK Ev Ef EfR Ent CB GB V.Enters
section
theorem kq {r:RuV} {L:List HP}:Ent (amS r.take::amS r.give::amS r.back::L) (ruP r::L):=(Ent.a6 (Ent.d8 (gh _) (gh _))).trans (Ent.d8 (gh _) ((gh _).and (gh _)))
def it16:List ItG:=[⟨⟨#[103,111,108,100]⟩,false,true,true,0,0,0⟩,⟨⟨#[111,114,101]⟩,false,false,false,0,0,0⟩,⟨⟨#[99,111,97,108]⟩,false,true,false,0,0,0⟩,⟨⟨#[98,97,114]⟩,false,false,false,0,0,0⟩,⟨⟨#[115,119,111,114,100]⟩,true,false,false,20,2,3⟩]
def cat16:CatM:=⟨it16,[⟨⟨#[100,105,103]⟩,true,0,0,1,1,[],[(1,4),(2,3)],[]⟩,⟨⟨#[115,109,101,108,116]⟩,false,2,5,2,3,[(1,2),(2,1)],[(3,1)],[(1,1)]⟩,⟨⟨#[102,111,114,103,101]⟩,false,3,10,1,1,[(3,3)],[(4,1)],[]⟩,⟨⟨#[115,99,114,97,112]⟩,false,0,1,1,1,[(4,1)],[(3,3)],[]⟩,⟨⟨#[115,101,108,108]⟩,false,0,1,1,1,[(3,1)],[(0,7)],[]⟩],[⟨⟨#[99,104,101,115,116]⟩,[⟨5,[(0,10)]⟩,⟨1,[(3,2)]⟩]⟩],[⟨⟨#[115,97,108,101]⟩,[(0,500),(100,1000)]⟩]⟩
abbrev qu (bi g0 t1 g1 k1 t2 g2 t3 g3 t4 g4 br w0 w1 bw bt bb bx:Nat):RuV:=⟨⟨#[100,105,103]⟩,true,0,0,1,1,⟨[],none,0⟩,⟨[(1,4),(2,3)],some ⟨g0,0,none⟩,2⟩,⟨[],none,0⟩⟩
abbrev qt (bi g0 t1 g1 k1 t2 g2 t3 g3 t4 g4 br w0 w1 bw bt bb bx:Nat):RuV:=⟨⟨#[115,109,101,108,116]⟩,false,2,5,2,3,⟨[(1,2),(2,1)],some ⟨t1,0,none⟩,2⟩,⟨[(3,1)],some ⟨g1,0,none⟩,1⟩,⟨[(1,1)],some ⟨k1,0,none⟩,1⟩⟩
abbrev qs (bi g0 t1 g1 k1 t2 g2 t3 g3 t4 g4 br w0 w1 bw bt bb bx:Nat):RuV:=⟨⟨#[102,111,114,103,101]⟩,false,3,10,1,1,⟨[(3,3)],some ⟨t2,0,none⟩,1⟩,⟨[(4,1)],some ⟨g2,0,none⟩,1⟩,⟨[],none,0⟩⟩
abbrev qr (bi g0 t1 g1 k1 t2 g2 t3 g3 t4 g4 br w0 w1 bw bt bb bx:Nat):RuV:=⟨⟨#[115,99,114,97,112]⟩,false,0,1,1,1,⟨[(4,1)],some ⟨t3,0,none⟩,1⟩,⟨[(3,3)],some ⟨g3,0,none⟩,1⟩,⟨[],none,0⟩⟩
abbrev qq (bi g0 t1 g1 k1 t2 g2 t3 g3 t4 g4 br w0 w1 bw bt bb bx:Nat):RuV:=⟨⟨#[115,101,108,108]⟩,false,0,1,1,1,⟨[(3,1)],some ⟨t4,0,none⟩,1⟩,⟨[(0,7)],some ⟨g4,0,none⟩,1⟩,⟨[],none,0⟩⟩
abbrev qo (bi g0 t1 g1 k1 t2 g2 t3 g3 t4 g4 br w0 w1 bw bt bb bx:Nat):RwV:=⟨5,⟨[(0,10)],some ⟨w0,0,none⟩,1⟩⟩
abbrev qn (bi g0 t1 g1 k1 t2 g2 t3 g3 t4 g4 br w0 w1 bw bt bb bx:Nat):RwV:=⟨1,⟨[(3,2)],some ⟨w1,0,none⟩,1⟩⟩
abbrev tb16 (bi g0 t1 g1 k1 t2 g2 t3 g3 t4 g4 br w0 w1 bw bt bb bx:Nat):TbV:=⟨⟨#[99,104,101,115,116]⟩,[qo bi g0 t1 g1 k1 t2 g2 t3 g3 t4 g4 br w0 w1 bw bt bb bx,qn bi g0 t1 g1 k1 t2 g2 t3 g3 t4 g4 br w0 w1 bw bt bb bx],some ⟨bw,0,none⟩,2⟩
abbrev tx16 (bi g0 t1 g1 k1 t2 g2 t3 g3 t4 g4 br w0 w1 bw bt bb bx:Nat):TxV:=⟨⟨#[115,97,108,101]⟩,[(0,500),(100,1000)],some ⟨bb,0,none⟩,2⟩
def eW (bi g0 t1 g1 k1 t2 g2 t3 g3 t4 g4 br w0 w1 bw bt bb bx:Nat):CatV:=⟨it16,some ⟨bi,0,none⟩,5,[qu bi g0 t1 g1 k1 t2 g2 t3 g3 t4 g4 br w0 w1 bw bt bb bx,qt bi g0 t1 g1 k1 t2 g2 t3 g3 t4 g4 br w0 w1 bw bt bb bx,qs bi g0 t1 g1 k1 t2 g2 t3 g3 t4 g4 br w0 w1 bw bt bb bx,qr bi g0 t1 g1 k1 t2 g2 t3 g3 t4 g4 br w0 w1 bw bt bb bx,qq bi g0 t1 g1 k1 t2 g2 t3 g3 t4 g4 br w0 w1 bw bt bb bx],some ⟨br,0,none⟩,5,[tb16 bi g0 t1 g1 k1 t2 g2 t3 g3 t4 g4 br w0 w1 bw bt bb bx],some ⟨bt,0,none⟩,1,[tx16 bi g0 t1 g1 k1 t2 g2 t3 g3 t4 g4 br w0 w1 bw bt bb bx],some ⟨bx,0,none⟩,1⟩
theorem Ei (bi g0 t1 g1 k1 t2 g2 t3 g3 t4 g4 br w0 w1 bw bt bb bx:Nat):(eW bi g0 t1 g1 k1 t2 g2 t3 g3 t4 g4 br w0 w1 bw bt bb bx).m=cat16:=rfl
theorem Ej (bi g0 t1 g1 k1 t2 g2 t3 g3 t4 g4 br w0 w1 bw bt bb bx:Nat):(eW bi g0 t1 g1 k1 t2 g2 t3 g3 t4 g4 br w0 w1 bw bt bb bx).B:=by
 refine ⟨Nat.le_of_ble_eq_true rfl,Nat.le_of_ble_eq_true rfl,Nat.le_of_ble_eq_true rfl,Nat.le_of_ble_eq_true rfl,?_,?_,?_⟩
 ·intro r hr
  simp only [eW,List.mem_cons,List.not_mem_nil,or_false] at hr
  rcases hr with rfl|rfl|rfl|rfl|rfl<;>exact ⟨Nat.le_of_ble_eq_true rfl,Nat.le_of_ble_eq_true rfl,Nat.le_of_ble_eq_true rfl⟩
 ·intro r hr
  simp only [eW,List.mem_cons,List.not_mem_nil,or_false] at hr
  subst hr
  refine ⟨Nat.le_of_ble_eq_true rfl,?_⟩
  intro w hw
  simp only [tb16,List.mem_cons,List.not_mem_nil,or_false] at hw
  rcases hw with rfl|rfl<;>exact Nat.le_of_ble_eq_true rfl
 ·intro r hr
  simp only [eW,List.mem_cons,List.not_mem_nil,or_false] at hr
  subst hr
  exact Nat.le_of_ble_eq_true rfl
theorem fh {L:List HP}:Tri Tryz.prog 11 #[] L (fun v L'=>∃ c:CatV,v=.agg c.cells.toArray∧(c.m=cat16∧c.B)∧L' = catP c::L):=by
 refine Tri.body (args:=[]) 50 en11 Tryz.func11 rfl rfl rfl (by simp) ?_
 repeat first|refine aa ?_|intro _
 rename_i b0 bi g0 t1 g1 k1 t2 g2 t3 g3 t4 g4 br w0 w1 bw bt bb bx
 refine KX.a6 (vs:=[.agg (eW bi g0 t1 g1 k1 t2 g2 t3 g3 t4 g4 br w0 w1 bw bt bb bx).cells.toArray]) (ResOk.cell rfl (by rfl) ResOk.nil) ?_ ⟨eW bi g0 t1 g1 k1 t2 g2 t3 g3 t4 g4 br w0 w1 bw bt bb bx,rfl,⟨Ei ..,Ej ..⟩,rfl⟩
 refine (Ent.d7 (b:=g0) (enc:=aB) (sz:=2) [(1,4),(2,3)] rfl (fun _ _=>rfl) (Nat.le_of_ble_eq_true rfl)).trans ?_
 refine (Ent.d7 (b:=t1) (enc:=aB) (sz:=2) [(1,2),(2,1)] rfl (fun _ _=>rfl) (Nat.le_of_ble_eq_true rfl)).trans ?_
 refine (Ent.d7 (b:=g1) (enc:=aB) (sz:=2) [(3,1)] rfl (fun _ _=>rfl) (Nat.le_of_ble_eq_true rfl)).trans ?_
 refine (Ent.d7 (b:=k1) (enc:=aB) (sz:=2) [(1,1)] rfl (fun _ _=>rfl) (Nat.le_of_ble_eq_true rfl)).trans ?_
 refine (Ent.d7 (b:=t2) (enc:=aB) (sz:=2) [(3,3)] rfl (fun _ _=>rfl) (Nat.le_of_ble_eq_true rfl)).trans ?_
 refine (Ent.d7 (b:=g2) (enc:=aB) (sz:=2) [(4,1)] rfl (fun _ _=>rfl) (Nat.le_of_ble_eq_true rfl)).trans ?_
 refine (Ent.d7 (b:=t3) (enc:=aB) (sz:=2) [(4,1)] rfl (fun _ _=>rfl) (Nat.le_of_ble_eq_true rfl)).trans ?_
 refine (Ent.d7 (b:=g3) (enc:=aB) (sz:=2) [(3,3)] rfl (fun _ _=>rfl) (Nat.le_of_ble_eq_true rfl)).trans ?_
 refine (Ent.d7 (b:=t4) (enc:=aB) (sz:=2) [(3,1)] rfl (fun _ _=>rfl) (Nat.le_of_ble_eq_true rfl)).trans ?_
 refine (Ent.d7 (b:=g4) (enc:=aB) (sz:=2) [(0,7)] rfl (fun _ _=>rfl) (Nat.le_of_ble_eq_true rfl)).trans ?_
 refine (Ent.d7 (b:=w0) (enc:=aB) (sz:=2) [(0,10)] rfl (fun _ _=>rfl) (Nat.le_of_ble_eq_true rfl)).trans ?_
 refine (Ent.d7 (b:=w1) (enc:=aB) (sz:=2) [(3,2)] rfl (fun _ _=>rfl) (Nat.le_of_ble_eq_true rfl)).trans ?_
 refine (Ent.d7 (b:=bb) (enc:=aB) (sz:=2) [(0,500),(100,1000)] rfl (fun _ _=>rfl) (Nat.le_of_ble_eq_true rfl)).trans ?_
 refine (Ent.d7 (b:=bi) (enc:=aN) (sz:=7) it16 rfl (fun _ _=>rfl) (Nat.le_of_ble_eq_true rfl)).trans ?_
 refine (Ent.d7 (b:=br) (enc:=aA) (sz:=9) [qu bi g0 t1 g1 k1 t2 g2 t3 g3 t4 g4 br w0 w1 bw bt bb bx,qt bi g0 t1 g1 k1 t2 g2 t3 g3 t4 g4 br w0 w1 bw bt bb bx,qs bi g0 t1 g1 k1 t2 g2 t3 g3 t4 g4 br w0 w1 bw bt bb bx,qr bi g0 t1 g1 k1 t2 g2 t3 g3 t4 g4 br w0 w1 bw bt bb bx,qq bi g0 t1 g1 k1 t2 g2 t3 g3 t4 g4 br w0 w1 bw bt bb bx] rfl (fun _ _=>rfl) (Nat.le_of_ble_eq_true rfl)).trans ?_
 refine (Ent.d7 (b:=bw) (enc:=cI) (sz:=2) [qo bi g0 t1 g1 k1 t2 g2 t3 g3 t4 g4 br w0 w1 bw bt bb bx,qn bi g0 t1 g1 k1 t2 g2 t3 g3 t4 g4 br w0 w1 bw bt bb bx] rfl (fun _ _=>rfl) (Nat.le_of_ble_eq_true rfl)).trans ?_
 refine (Ent.d7 (b:=bt) (enc:=aS) (sz:=2) [tb16 bi g0 t1 g1 k1 t2 g2 t3 g3 t4 g4 br w0 w1 bw bt bb bx] rfl (fun _ _=>rfl) (Nat.le_of_ble_eq_true rfl)).trans ?_
 refine (Ent.d7 (b:=bx) (enc:=aU) (sz:=2) [tx16 bi g0 t1 g1 k1 t2 g2 t3 g3 t4 g4 br w0 w1 bw bt bb bx] rfl (fun _ _=>rfl) (Nat.le_of_ble_eq_true rfl)).trans ?_
 refine (Ent.c8 aB 2 none).trans ?_
 refine (Ent.at (A:=isl aB 2 (some ⟨g4,0,none⟩) [(0,7)]) (Ent.refl _)).trans ?_
 refine (Ent.at (A:=isl aB 2 (some ⟨t4,0,none⟩) [(3,1)]) (Ent.refl _)).trans ?_
 refine (kq (r:=qq bi g0 t1 g1 k1 t2 g2 t3 g3 t4 g4 br w0 w1 bw bt bb bx)).trans ?_
 refine (Ent.d9 (f:=ruP) gA).trans ?_
 refine (Ent.c8 aB 2 none).trans ?_
 refine (Ent.at (A:=isl aB 2 (some ⟨g3,0,none⟩) [(3,3)]) (Ent.refl _)).trans ?_
 refine (Ent.at (A:=isl aB 2 (some ⟨t3,0,none⟩) [(4,1)]) (Ent.refl _)).trans ?_
 refine (kq (r:=qr bi g0 t1 g1 k1 t2 g2 t3 g3 t4 g4 br w0 w1 bw bt bb bx)).trans ?_
 refine (Ent.c9 (f:=ruP) gA).trans ?_
 refine (Ent.c8 aB 2 none).trans ?_
 refine (Ent.at (A:=isl aB 2 (some ⟨g2,0,none⟩) [(4,1)]) (Ent.refl _)).trans ?_
 refine (Ent.at (A:=isl aB 2 (some ⟨t2,0,none⟩) [(3,3)]) (Ent.refl _)).trans ?_
 refine (kq (r:=qs bi g0 t1 g1 k1 t2 g2 t3 g3 t4 g4 br w0 w1 bw bt bb bx)).trans ?_
 refine (Ent.c9 (f:=ruP) gA).trans ?_
 refine (Ent.at (A:=isl aB 2 (some ⟨k1,0,none⟩) [(1,1)]) (Ent.refl _)).trans ?_
 refine (Ent.at (A:=isl aB 2 (some ⟨g1,0,none⟩) [(3,1)]) (Ent.refl _)).trans ?_
 refine (Ent.at (A:=isl aB 2 (some ⟨t1,0,none⟩) [(1,2),(2,1)]) (Ent.refl _)).trans ?_
 refine (kq (r:=qt bi g0 t1 g1 k1 t2 g2 t3 g3 t4 g4 br w0 w1 bw bt bb bx)).trans ?_
 refine (Ent.c9 (f:=ruP) gA).trans ?_
 refine (Ent.c8 aB 2 none).trans ?_
 refine (Ent.at (A:=isl aB 2 (some ⟨g0,0,none⟩) [(1,4),(2,3)]) (Ent.refl _)).trans ?_
 refine (Ent.c8 aB 2 none).trans ?_
 refine (kq (r:=qu bi g0 t1 g1 k1 t2 g2 t3 g3 t4 g4 br w0 w1 bw bt bb bx)).trans ?_
 refine (Ent.c9 (f:=ruP) gA).trans ?_
 refine (Ent.at (A:=isl aA 9 (some ⟨br,0,none⟩) [qu bi g0 t1 g1 k1 t2 g2 t3 g3 t4 g4 br w0 w1 bw bt bb bx,qt bi g0 t1 g1 k1 t2 g2 t3 g3 t4 g4 br w0 w1 bw bt bb bx,qs bi g0 t1 g1 k1 t2 g2 t3 g3 t4 g4 br w0 w1 bw bt bb bx,qr bi g0 t1 g1 k1 t2 g2 t3 g3 t4 g4 br w0 w1 bw bt bb bx,qq bi g0 t1 g1 k1 t2 g2 t3 g3 t4 g4 br w0 w1 bw bt bb bx]) (Ent.d8 (bB _ _ _ _) (cj gA))).trans ?_
 refine (Ent.at (A:=isl aB 2 (some ⟨w1,0,none⟩) [(3,2)]) (Ent.refl _)).trans ?_
 refine (Ent.d9 (f:=rwP) (x:=qn bi g0 t1 g1 k1 t2 g2 t3 g3 t4 g4 br w0 w1 bw bt bb bx) lY).trans ?_
 refine (Ent.at (A:=isl aB 2 (some ⟨w0,0,none⟩) [(0,10)]) (Ent.refl _)).trans ?_
 refine (Ent.c9 (f:=rwP) (x:=qo bi g0 t1 g1 k1 t2 g2 t3 g3 t4 g4 br w0 w1 bw bt bb bx) lY).trans ?_
 refine (Ent.at (A:=isl cI 2 (some ⟨bw,0,none⟩) [qo bi g0 t1 g1 k1 t2 g2 t3 g3 t4 g4 br w0 w1 bw bt bb bx,qn bi g0 t1 g1 k1 t2 g2 t3 g3 t4 g4 br w0 w1 bw bt bb bx]) (Ent.d8 (bB _ _ _ _) (cj lY))).trans ?_
 refine (Ent.d9 (f:=tbP) (x:=tb16 bi g0 t1 g1 k1 t2 g2 t3 g3 t4 g4 br w0 w1 bw bt bb bx) iO).trans ?_
 refine (Ent.at (A:=isl aS 2 (some ⟨bt,0,none⟩) [tb16 bi g0 t1 g1 k1 t2 g2 t3 g3 t4 g4 br w0 w1 bw bt bb bx]) (Ent.d8 (bB _ _ _ _) (cj iO))).trans ?_
 refine (Ent.at (A:=isl aB 2 (some ⟨bb,0,none⟩) [(0,500),(100,1000)]) (Ent.refl _)).trans ?_
 refine (Ent.d9 (f:=txP) (x:=tx16 bi g0 t1 g1 k1 t2 g2 t3 g3 t4 g4 br w0 w1 bw bt bb bx) jY).trans ?_
 refine (Ent.at (A:=isl aU 2 (some ⟨bx,0,none⟩) [tx16 bi g0 t1 g1 k1 t2 g2 t3 g3 t4 g4 br w0 w1 bw bt bb bx]) (Ent.d8 (bB _ _ _ _) (cj jY))).trans ?_
 refine (Ent.swap.trans (Ent.d8 (ro (eW bi g0 t1 g1 k1 t2 g2 t3 g3 t4 g4 br w0 w1 bw bt bb bx)) (rn (eW bi g0 t1 g1 k1 t2 g2 t3 g3 t4 g4 br w0 w1 bw bt bb bx)))).trans ?_
 refine (Ent.swap.trans (Ent.d8 (vN (eW bi g0 t1 g1 k1 t2 g2 t3 g3 t4 g4 br w0 w1 bw bt bb bx)) ((ro (eW bi g0 t1 g1 k1 t2 g2 t3 g3 t4 g4 br w0 w1 bw bt bb bx)).and (rn (eW bi g0 t1 g1 k1 t2 g2 t3 g3 t4 g4 br w0 w1 bw bt bb bx))))).trans ?_
 refine (Ent.swap.trans (Ent.d8 (CX (eW bi g0 t1 g1 k1 t2 g2 t3 g3 t4 g4 br w0 w1 bw bt bb bx)) ((vN (eW bi g0 t1 g1 k1 t2 g2 t3 g3 t4 g4 br w0 w1 bw bt bb bx)).and ((ro (eW bi g0 t1 g1 k1 t2 g2 t3 g3 t4 g4 br w0 w1 bw bt bb bx)).and (rn (eW bi g0 t1 g1 k1 t2 g2 t3 g3 t4 g4 br w0 w1 bw bt bb bx)))))).trans ?_
 exact Ent.a6 Ent.drop
theorem kT {s:ByteArray} (h:(1≤s.size∧s.size≤16)∧dM s 0=3∧∀ i:Nat,i<s.size→dM s i=3∨dM s i=4∨dM s i=5):IsWord s:=⟨h.1,h.2.1,h.2.2⟩
theorem mS {n:Nat} {l:List (Int×Int)} (h:(∀ a∈l,0≤a.1∧a.1<n∧1≤a.2∧a.2≤1099511627776)∧l.Pairwise (fun a b=>a.1<b.1)):gi n l:=h
theorem cat16_good:CatGood cat16:=by
 refine ⟨by decide,by decide,by decide,by decide,?_,?_,?_,?_,by decide,by decide,by decide,by decide⟩
 ·intro x hx
  simp only [cat16,it16,List.mem_cons,List.not_mem_nil,or_false] at hx
  rcases hx with rfl|rfl|rfl|rfl|rfl<;>exact ⟨kT (by decide +kernel),by decide,by decide⟩
 ·intro r hr
  simp only [cat16,List.mem_cons,List.not_mem_nil,or_false] at hr
  rcases hr with rfl|rfl|rfl|rfl|rfl<;>exact ⟨kT (by decide +kernel),by decide,mS ac,mS ac,mS ac,by decide,by decide,by decide⟩
 ·intro t ht
  simp only [cat16,List.mem_cons,List.not_mem_nil,or_false] at ht
  subst ht
  refine ⟨kT (by decide +kernel),by decide,?_⟩
  intro r hr
  simp only [List.mem_cons,List.not_mem_nil,or_false] at hr
  rcases hr with rfl|rfl<;>exact ⟨by decide,mS ac⟩
 ·intro t ht
  simp only [cat16,List.mem_cons,List.not_mem_nil,or_false] at ht
  subst ht
  refine ⟨kT (by decide +kernel),by decide,by decide,?_,by decide⟩
  intro i hi
  have hi0:i=0:=by simp only [List.length_cons,List.length_nil] at hi;omega
  subst hi0
  decide
theorem mQ:cat16.Ok:=⟨fun r hr a ha=>⟨by have:=(cat16_good.ru r hr).take.1 a ha;omega,((cat16_good.ru r hr).take.1 a ha).2.2.2⟩,fun r hr a ha=>⟨by have:=(cat16_good.ru r hr).give.1 a ha;omega,((cat16_good.ru r hr).give.1 a ha).2.2.2⟩,fun r hr a ha=>⟨by have:=(cat16_good.ru r hr).back.1 a ha;omega,((cat16_good.ru r hr).back.1 a ha).2.2.2⟩⟩
end
end Go.Proofs.YtfmgkkofledkbaaGreatDoor
