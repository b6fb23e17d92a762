/- Lemmas and contracts of functions, in the order: K2, K3, K4, K5, K6, K7. -/
import Derived.Test.YtfmgkkofledkbaaGreatDoorGCraftLootsd
import Derived.Test.YtfmgkkofledkbaaGreatDoorGCraftLootse
namespace Go.Proofs.YtfmgkkofledkbaaGreatDoor
open Go.V
def noP {α : Type} (_ : α) : HP := hpure True
theorem noP_ent {α : Type} (l : List α) {L : List HP} : Ent L (allP noP l :: L) := fun θ R w s => by
  obtain ⟨ok, ι, h, a, b1, c, d⟩ := s
  exact ⟨ok, ι, h, a, b1, c, Hp.emp, Hp.emp, h, Hp.emp_sub _, Hp.emp_disj _, Hp.emp_sub _, Hp.sub.refl _, fun _ _ => trivial, d⟩
attribute [local irreducible] G GO GP GPW GPK Ev Ef EfR Ent CB GB V.Enters
/-- A test that an element passes. -/
def Passes {α : Type} (f : FuncId) (cap : List Value) (enc : α → List Value) (p : α → HP) (C : HP) (x : α) : Prop := ∀ L : List HP, Tri Tryz.prog f (([] ++ [Value.agg (enc x).toArray] ++ cap : List Value)).toArray (C :: p x :: L) (fun v L' => v = .bool true ∧ L' = C :: p x :: L)

theorem everyI_ok {L : List HP} (f : FuncId) (cap : List Value) (C : HP) (ad : Option Addr) (c : Nat) (xs : List ItG) (hl : xs.length ≤ 64) (hf : ∀ x ∈ xs, Passes f cap encItG noP C x) :
    Tri Tryz.prog 206 #[.slice ad xs.length c, .func (.func f) #[] cap.toArray] (C :: allP noP xs :: isl encItG 7 ad xs :: L) (fun v L' => v = .bool true ∧ L' = C :: allP noP xs :: isl encItG 7 ad xs :: L) := by
  refine Tri.body (args := [.slice ad xs.length c, .func (.func f) #[] cap.toArray]) 18 en206 Tryz.func206 rfl rfl rfl (by simp) ?_
  repeat (first | refine runB ?_ | intro _)
  refine G.loop (α := Nat) (fun i => i ≤ xs.length) (fun i => [(0, .slice ad xs.length c), (1, .func (.func f) #[] cap.toArray), (7, .slice ad xs.length c), (8, .int .i64 xs.length), (9, .int .i64 (i : Int))]) (fun _ => C :: allP noP xs :: isl encItG 7 ad xs :: L) (fun i => xs.length - i) 0 (Nat.zero_le _) (by repeat (first | exact EnvSub.nil _ | refine EnvSub.cons rfl ?_)) (Ent.refl _) ?_
  intro i hi
  by_cases hlt : i < xs.length
  case neg =>
    repeat (first | refine runB ?_ | intro _)
    exact KX.ends (by exact ResOk.tmps rfl) (Ent.refl _) ⟨rfl, rfl⟩
  have hii : (i : Int).toNat = i := by omega
  have hmem := mem_get! hlt
  repeat (first | refine runB ?_ | intro _)
  rw [hii]
  refine GO.ent (Ent.drop.trans ((Ent.consR (Ent.allP_get (f := noP) hmem)).trans (Ent.refl _))) ?_
  refine GO.ef (Ef.callFnW rfl rfl (hf _ hmem _)) (by decide) ?_
  rintro _ _ ⟨rfl, rfl⟩
  repeat (first | refine runB ?_ | intro _)
  refine ⟨i + 1, by omega, by omega, ?_, by repeat (first | exact Ent.refl _ | exact Ent.nil _ | refine Ent.take' ?_ | refine Ent.trans Ent.drop ?_)⟩
  rw [show ((i + 1 : Nat) : Int) = (i : Int) + 1 by omega]
  exact (by repeat (first | exact EnvSub.nil _ | refine EnvSub.cons rfl ?_))

theorem everyR_ok {L : List HP} (f : FuncId) (cap : List Value) (C : HP) (ad : Option Addr) (c : Nat) (xs : List RuV) (hl : xs.length ≤ 64) (hf : ∀ x ∈ xs, Passes f cap encRu ruP C x) :
    Tri Tryz.prog 200 #[.slice ad xs.length c, .func (.func f) #[] cap.toArray] (C :: allP ruP xs :: isl encRu 9 ad xs :: L) (fun v L' => v = .bool true ∧ L' = C :: allP ruP xs :: isl encRu 9 ad xs :: L) := by
  refine Tri.body (args := [.slice ad xs.length c, .func (.func f) #[] cap.toArray]) 18 en200 Tryz.func200 rfl rfl rfl (by simp) ?_
  repeat (first | refine runB ?_ | intro _)
  refine G.loop (α := Nat) (fun i => i ≤ xs.length) (fun i => [(0, .slice ad xs.length c), (1, .func (.func f) #[] cap.toArray), (7, .slice ad xs.length c), (8, .int .i64 xs.length), (9, .int .i64 (i : Int))]) (fun _ => C :: allP ruP xs :: isl encRu 9 ad xs :: L) (fun i => xs.length - i) 0 (Nat.zero_le _) (by repeat (first | exact EnvSub.nil _ | refine EnvSub.cons rfl ?_)) (Ent.refl _) ?_
  intro i hi
  by_cases hlt : i < xs.length
  case neg =>
    repeat (first | refine runB ?_ | intro _)
    exact KX.ends (by exact ResOk.tmps rfl) (Ent.refl _) ⟨rfl, rfl⟩
  have hii : (i : Int).toNat = i := by omega
  have hmem := mem_get! hlt
  repeat (first | refine runB ?_ | intro _)
  rw [hii]
  refine GO.ent (Ent.drop.trans ((Ent.consR (Ent.allP_get (f := ruP) hmem)).trans (Ent.refl _))) ?_
  refine GO.ef (Ef.callFnW rfl rfl (hf _ hmem _)) (by decide) ?_
  rintro _ _ ⟨rfl, rfl⟩
  repeat (first | refine runB ?_ | intro _)
  refine ⟨i + 1, by omega, by omega, ?_, by repeat (first | exact Ent.refl _ | exact Ent.nil _ | refine Ent.take' ?_ | refine Ent.trans Ent.drop ?_)⟩
  rw [show ((i + 1 : Nat) : Int) = (i : Int) + 1 by omega]
  exact (by repeat (first | exact EnvSub.nil _ | refine EnvSub.cons rfl ?_))

theorem everyT_ok {L : List HP} (f : FuncId) (cap : List Value) (C : HP) (ad : Option Addr) (c : Nat) (xs : List TbV) (hl : xs.length ≤ 64) (hf : ∀ x ∈ xs, Passes f cap encTb tbP C x) :
    Tri Tryz.prog 202 #[.slice ad xs.length c, .func (.func f) #[] cap.toArray] (C :: allP tbP xs :: isl encTb 2 ad xs :: L) (fun v L' => v = .bool true ∧ L' = C :: allP tbP xs :: isl encTb 2 ad xs :: L) := by
  refine Tri.body (args := [.slice ad xs.length c, .func (.func f) #[] cap.toArray]) 18 en202 Tryz.func202 rfl rfl rfl (by simp) ?_
  repeat (first | refine runB ?_ | intro _)
  refine G.loop (α := Nat) (fun i => i ≤ xs.length) (fun i => [(0, .slice ad xs.length c), (1, .func (.func f) #[] cap.toArray), (7, .slice ad xs.length c), (8, .int .i64 xs.length), (9, .int .i64 (i : Int))]) (fun _ => C :: allP tbP xs :: isl encTb 2 ad xs :: L) (fun i => xs.length - i) 0 (Nat.zero_le _) (by repeat (first | exact EnvSub.nil _ | refine EnvSub.cons rfl ?_)) (Ent.refl _) ?_
  intro i hi
  by_cases hlt : i < xs.length
  case neg =>
    repeat (first | refine runB ?_ | intro _)
    exact KX.ends (by exact ResOk.tmps rfl) (Ent.refl _) ⟨rfl, rfl⟩
  have hii : (i : Int).toNat = i := by omega
  have hmem := mem_get! hlt
  repeat (first | refine runB ?_ | intro _)
  rw [hii]
  refine GO.ent (Ent.drop.trans ((Ent.consR (Ent.allP_get (f := tbP) hmem)).trans (Ent.refl _))) ?_
  refine GO.ef (Ef.callFnW rfl rfl (hf _ hmem _)) (by decide) ?_
  rintro _ _ ⟨rfl, rfl⟩
  repeat (first | refine runB ?_ | intro _)
  refine ⟨i + 1, by omega, by omega, ?_, by repeat (first | exact Ent.refl _ | exact Ent.nil _ | refine Ent.take' ?_ | refine Ent.trans Ent.drop ?_)⟩
  rw [show ((i + 1 : Nat) : Int) = (i : Int) + 1 by omega]
  exact (by repeat (first | exact EnvSub.nil _ | refine EnvSub.cons rfl ?_))

theorem everyX_ok {L : List HP} (f : FuncId) (cap : List Value) (C : HP) (ad : Option Addr) (c : Nat) (xs : List TxV) (hl : xs.length ≤ 64) (hf : ∀ x ∈ xs, Passes f cap encTx txP C x) :
    Tri Tryz.prog 204 #[.slice ad xs.length c, .func (.func f) #[] cap.toArray] (C :: allP txP xs :: isl encTx 2 ad xs :: L) (fun v L' => v = .bool true ∧ L' = C :: allP txP xs :: isl encTx 2 ad xs :: L) := by
  refine Tri.body (args := [.slice ad xs.length c, .func (.func f) #[] cap.toArray]) 18 en204 Tryz.func204 rfl rfl rfl (by simp) ?_
  repeat (first | refine runB ?_ | intro _)
  refine G.loop (α := Nat) (fun i => i ≤ xs.length) (fun i => [(0, .slice ad xs.length c), (1, .func (.func f) #[] cap.toArray), (7, .slice ad xs.length c), (8, .int .i64 xs.length), (9, .int .i64 (i : Int))]) (fun _ => C :: allP txP xs :: isl encTx 2 ad xs :: L) (fun i => xs.length - i) 0 (Nat.zero_le _) (by repeat (first | exact EnvSub.nil _ | refine EnvSub.cons rfl ?_)) (Ent.refl _) ?_
  intro i hi
  by_cases hlt : i < xs.length
  case neg =>
    repeat (first | refine runB ?_ | intro _)
    exact KX.ends (by exact ResOk.tmps rfl) (Ent.refl _) ⟨rfl, rfl⟩
  have hii : (i : Int).toNat = i := by omega
  have hmem := mem_get! hlt
  repeat (first | refine runB ?_ | intro _)
  rw [hii]
  refine GO.ent (Ent.drop.trans ((Ent.consR (Ent.allP_get (f := txP) hmem)).trans (Ent.refl _))) ?_
  refine GO.ef (Ef.callFnW rfl rfl (hf _ hmem _)) (by decide) ?_
  rintro _ _ ⟨rfl, rfl⟩
  repeat (first | refine runB ?_ | intro _)
  refine ⟨i + 1, by omega, by omega, ?_, by repeat (first | exact Ent.refl _ | exact Ent.nil _ | refine Ent.take' ?_ | refine Ent.trans Ent.drop ?_)⟩
  rw [show ((i + 1 : Nat) : Int) = (i : Int) + 1 by omega]
  exact (by repeat (first | exact EnvSub.nil _ | refine EnvSub.cons rfl ?_))

theorem everyW_ok {L : List HP} (f : FuncId) (cap : List Value) (C : HP) (ad : Option Addr) (c : Nat) (xs : List RwV) (hl : xs.length ≤ 64) (hf : ∀ x ∈ xs, Passes f cap encRw rwP C x) :
    Tri Tryz.prog 226 #[.slice ad xs.length c, .func (.func f) #[] cap.toArray] (C :: allP rwP xs :: isl encRw 2 ad xs :: L) (fun v L' => v = .bool true ∧ L' = C :: allP rwP xs :: isl encRw 2 ad xs :: L) := by
  refine Tri.body (args := [.slice ad xs.length c, .func (.func f) #[] cap.toArray]) 18 en226 Tryz.func226 rfl rfl rfl (by simp) ?_
  repeat (first | refine runB ?_ | intro _)
  refine G.loop (α := Nat) (fun i => i ≤ xs.length) (fun i => [(0, .slice ad xs.length c), (1, .func (.func f) #[] cap.toArray), (7, .slice ad xs.length c), (8, .int .i64 xs.length), (9, .int .i64 (i : Int))]) (fun _ => C :: allP rwP xs :: isl encRw 2 ad xs :: L) (fun i => xs.length - i) 0 (Nat.zero_le _) (by repeat (first | exact EnvSub.nil _ | refine EnvSub.cons rfl ?_)) (Ent.refl _) ?_
  intro i hi
  by_cases hlt : i < xs.length
  case neg =>
    repeat (first | refine runB ?_ | intro _)
    exact KX.ends (by exact ResOk.tmps rfl) (Ent.refl _) ⟨rfl, rfl⟩
  have hii : (i : Int).toNat = i := by omega
  have hmem := mem_get! hlt
  repeat (first | refine runB ?_ | intro _)
  rw [hii]
  refine GO.ent (Ent.drop.trans ((Ent.consR (Ent.allP_get (f := rwP) hmem)).trans (Ent.refl _))) ?_
  refine GO.ef (Ef.callFnW rfl rfl (hf _ hmem _)) (by decide) ?_
  rintro _ _ ⟨rfl, rfl⟩
  repeat (first | refine runB ?_ | intro _)
  refine ⟨i + 1, by omega, by omega, ?_, by repeat (first | exact Ent.refl _ | exact Ent.nil _ | refine Ent.take' ?_ | refine Ent.trans Ent.drop ?_)⟩
  rw [show ((i + 1 : Nat) : Int) = (i : Int) + 1 by omega]
  exact (by repeat (first | exact EnvSub.nil _ | refine EnvSub.cons rfl ?_))

theorem everyA_ok {L : List HP} (f : FuncId) (cap : List Value) (C : HP) (ad : Option Addr) (c : Nat) (xs : List (Int × Int)) (hl : xs.length ≤ 64) (hf : ∀ x ∈ xs, Passes f cap encAm noP C x) :
    Tri Tryz.prog 230 #[.slice ad xs.length c, .func (.func f) #[] cap.toArray] (C :: allP noP xs :: isl encAm 2 ad xs :: L) (fun v L' => v = .bool true ∧ L' = C :: allP noP xs :: isl encAm 2 ad xs :: L) := by
  refine Tri.body (args := [.slice ad xs.length c, .func (.func f) #[] cap.toArray]) 18 en230 Tryz.func230 rfl rfl rfl (by simp) ?_
  repeat (first | refine runB ?_ | intro _)
  refine G.loop (α := Nat) (fun i => i ≤ xs.length) (fun i => [(0, .slice ad xs.length c), (1, .func (.func f) #[] cap.toArray), (7, .slice ad xs.length c), (8, .int .i64 xs.length), (9, .int .i64 (i : Int))]) (fun _ => C :: allP noP xs :: isl encAm 2 ad xs :: L) (fun i => xs.length - i) 0 (Nat.zero_le _) (by repeat (first | exact EnvSub.nil _ | refine EnvSub.cons rfl ?_)) (Ent.refl _) ?_
  intro i hi
  by_cases hlt : i < xs.length
  case neg =>
    repeat (first | refine runB ?_ | intro _)
    exact KX.ends (by exact ResOk.tmps rfl) (Ent.refl _) ⟨rfl, rfl⟩
  have hii : (i : Int).toNat = i := by omega
  have hmem := mem_get! hlt
  repeat (first | refine runB ?_ | intro _)
  rw [hii]
  refine GO.ent (Ent.drop.trans ((Ent.consR (Ent.allP_get (f := noP) hmem)).trans (Ent.refl _))) ?_
  refine GO.ef (Ef.callFnW rfl rfl (hf _ hmem _)) (by decide) ?_
  rintro _ _ ⟨rfl, rfl⟩
  repeat (first | refine runB ?_ | intro _)
  refine ⟨i + 1, by omega, by omega, ?_, by repeat (first | exact Ent.refl _ | exact Ent.nil _ | refine Ent.take' ?_ | refine Ent.trans Ent.drop ?_)⟩
  rw [show ((i + 1 : Nat) : Int) = (i : Int) + 1 by omega]
  exact (by repeat (first | exact EnvSub.nil _ | refine EnvSub.cons rfl ?_))

theorem everyB_ok {L : List HP} (f : FuncId) (cap : List Value) (C : HP) (ad : Option Addr) (c : Nat) (xs : List (Int × Int)) (hl : xs.length ≤ 64) (hf : ∀ x ∈ xs, Passes f cap encAm noP C x) :
    Tri Tryz.prog 277 #[.slice ad xs.length c, .func (.func f) #[] cap.toArray] (C :: allP noP xs :: isl encAm 2 ad xs :: L) (fun v L' => v = .bool true ∧ L' = C :: allP noP xs :: isl encAm 2 ad xs :: L) := by
  refine Tri.body (args := [.slice ad xs.length c, .func (.func f) #[] cap.toArray]) 18 en277 Tryz.func277 rfl rfl rfl (by simp) ?_
  repeat (first | refine runB ?_ | intro _)
  refine G.loop (α := Nat) (fun i => i ≤ xs.length) (fun i => [(0, .slice ad xs.length c), (1, .func (.func f) #[] cap.toArray), (7, .slice ad xs.length c), (8, .int .i64 xs.length), (9, .int .i64 (i : Int))]) (fun _ => C :: allP noP xs :: isl encAm 2 ad xs :: L) (fun i => xs.length - i) 0 (Nat.zero_le _) (by repeat (first | exact EnvSub.nil _ | refine EnvSub.cons rfl ?_)) (Ent.refl _) ?_
  intro i hi
  by_cases hlt : i < xs.length
  case neg =>
    repeat (first | refine runB ?_ | intro _)
    exact KX.ends (by exact ResOk.tmps rfl) (Ent.refl _) ⟨rfl, rfl⟩
  have hii : (i : Int).toNat = i := by omega
  have hmem := mem_get! hlt
  repeat (first | refine runB ?_ | intro _)
  rw [hii]
  refine GO.ent (Ent.drop.trans ((Ent.consR (Ent.allP_get (f := noP) hmem)).trans (Ent.refl _))) ?_
  refine GO.ef (Ef.callFnW rfl rfl (hf _ hmem _)) (by decide) ?_
  rintro _ _ ⟨rfl, rfl⟩
  repeat (first | refine runB ?_ | intro _)
  refine ⟨i + 1, by omega, by omega, ?_, by repeat (first | exact Ent.refl _ | exact Ent.nil _ | refine Ent.take' ?_ | refine Ent.trans Ent.drop ?_)⟩
  rw [show ((i + 1 : Nat) : Int) = (i : Int) + 1 by omega]
  exact (by repeat (first | exact EnvSub.nil _ | refine EnvSub.cons rfl ?_))

def encB (b : Bool) : Value := .bool b

theorem itemName_ok {L : List HP} (x : ItG) : Tri Tryz.prog 213 #[.agg (encItG x).toArray] L (fun u L' => u = .string x.name ∧ L' = L) := by
  refine Tri.body (args := [.agg (encItG x).toArray]) 5 en213 Tryz.func213 rfl rfl rfl (by simp) ?_
  repeat (first | refine runB ?_ | intro _)
  exact KX.ends (by exact ResOk.tmps rfl) Ent.drop ⟨rfl, rfl⟩
theorem differI_ok {L : List HP} (ad : Option Addr) (c : Nat) (xs : List ItG) (hl : xs.length ≤ 64) (hd : (xs.map (·.name)).Nodup) :
    Tri Tryz.prog 212 #[.slice ad xs.length c, .func (.func 213) #[] #[]] (isl encItG 7 ad xs :: L) (fun v L' => v = .bool true ∧ L' = isl encItG 7 ad xs :: L) := by
  refine Tri.body (args := [.slice ad xs.length c, .func (.func 213) #[] #[]]) 27 en212 Tryz.func212 rfl rfl rfl (by simp) ?_
  repeat (first | refine runB ?_ | intro _)
  refine GO.ef (Ef.makeG kvS encB (.inr ⟨_, _, _, rfl, rfl, by omega⟩)) (by decide) ?_
  rintro _ _ ⟨bm, rfl, rfl⟩
  repeat (first | refine runB ?_ | intro _)
  refine G.loop (α := Nat × List (ByteArray × Bool)) (fun x => x.1 ≤ xs.length ∧ ∀ j, x.1 ≤ j → j < xs.length → @List.lookup ByteArray Bool instBEqOfDecidableEq xs[j]!.name x.2 = none) (fun x => [(0, .slice ad xs.length c), (1, .func (.func 213) #[] #[]), (5, .map (some bm)), (11, .slice ad xs.length c), (12, .int .i64 xs.length), (13, .int .i64 (x.1 : Int))]) (fun x => gmap kvS encB bm x.2 :: isl encItG 7 ad xs :: L) (fun x => xs.length - x.1) (0, []) ⟨Nat.zero_le _, fun _ _ _ => rfl⟩ (by repeat (first | exact EnvSub.nil _ | refine EnvSub.cons rfl ?_)) (Ent.refl _) ?_
  rintro ⟨i, m⟩ ⟨hi, hm⟩
  dsimp only at hi hm ⊢
  by_cases hlt : i < xs.length
  case neg =>
    repeat (first | refine runB ?_ | intro _)
    exact KX.ends (by exact ResOk.tmps rfl) Ent.drop ⟨rfl, rfl⟩
  have hii : (i : Int).toNat = i := by omega
  repeat (first | refine runB ?_ | intro _)
  rw [hii]
  refine GO.ef (Ef.callFnA (first := []) (cap := []) (vs := [.agg (encItG xs[i]!).toArray]) (itemName_ok xs[i]!) rfl rfl) (by decide) ?_
  rintro _ _ ⟨rfl, rfl⟩
  refine GO.ev (Ev.lookG1 (k := xs[i]!.name) rfl rfl) (by decide) ?_
  rw [hm i (Nat.le_refl _) hlt]
  simp only [Option.map_none, Option.getD_none]
  repeat (first | refine runB ?_ | intro _)
  refine GO.ef (Ef.callFnA (first := []) (cap := []) (vs := [.agg (encItG xs[i]!).toArray]) (itemName_ok xs[i]!) rfl rfl) (by decide) ?_
  rintro _ _ ⟨rfl, rfl⟩
  refine GO.efu (Ef.updG (k := xs[i]!.name) (e := true) rfl rfl rfl rfl) ?_
  rintro _ _ rfl
  repeat (first | refine runB ?_ | intro _)
  refine ⟨(i + 1, gins m xs[i]!.name true), ⟨by dsimp only; omega, ?_⟩, by dsimp only; omega, ?_, Ent.consR Ent.drop⟩
  · intro j hj hjl
    dsimp only at hj ⊢
    rw [lookup_gins, if_neg, hm j (by omega) hjl]
    intro e
    have h1 : (xs.map (·.name))[j]'(by simpa using hjl) = (xs.map (·.name))[i]'(by simp; omega) := by
      rw [getElem!_of hjl, getElem!_of (by omega)] at e
      simpa using e
    have := (List.getElem_inj hd).1 h1
    omega
  · dsimp only
    rw [show ((i + 1 : Nat) : Int) = (i : Int) + 1 by omega]
    exact (by repeat (first | exact EnvSub.nil _ | refine EnvSub.cons rfl ?_))

theorem ruleName_ok {L : List HP} (x : RuV) : Tri Tryz.prog 215 #[.agg (encRu x).toArray] L (fun u L' => u = .string x.name ∧ L' = L) := by
  refine Tri.body (args := [.agg (encRu x).toArray]) 5 en215 Tryz.func215 rfl rfl rfl (by simp) ?_
  repeat (first | refine runB ?_ | intro _)
  exact KX.ends (by exact ResOk.tmps rfl) Ent.drop ⟨rfl, rfl⟩
theorem differR_ok {L : List HP} (ad : Option Addr) (c : Nat) (xs : List RuV) (hl : xs.length ≤ 64) (hd : (xs.map (·.name)).Nodup) :
    Tri Tryz.prog 214 #[.slice ad xs.length c, .func (.func 215) #[] #[]] (isl encRu 9 ad xs :: L) (fun v L' => v = .bool true ∧ L' = isl encRu 9 ad xs :: L) := by
  refine Tri.body (args := [.slice ad xs.length c, .func (.func 215) #[] #[]]) 27 en214 Tryz.func214 rfl rfl rfl (by simp) ?_
  repeat (first | refine runB ?_ | intro _)
  refine GO.ef (Ef.makeG kvS encB (.inr ⟨_, _, _, rfl, rfl, by omega⟩)) (by decide) ?_
  rintro _ _ ⟨bm, rfl, rfl⟩
  repeat (first | refine runB ?_ | intro _)
  refine G.loop (α := Nat × List (ByteArray × Bool)) (fun x => x.1 ≤ xs.length ∧ ∀ j, x.1 ≤ j → j < xs.length → @List.lookup ByteArray Bool instBEqOfDecidableEq xs[j]!.name x.2 = none) (fun x => [(0, .slice ad xs.length c), (1, .func (.func 215) #[] #[]), (5, .map (some bm)), (11, .slice ad xs.length c), (12, .int .i64 xs.length), (13, .int .i64 (x.1 : Int))]) (fun x => gmap kvS encB bm x.2 :: isl encRu 9 ad xs :: L) (fun x => xs.length - x.1) (0, []) ⟨Nat.zero_le _, fun _ _ _ => rfl⟩ (by repeat (first | exact EnvSub.nil _ | refine EnvSub.cons rfl ?_)) (Ent.refl _) ?_
  rintro ⟨i, m⟩ ⟨hi, hm⟩
  dsimp only at hi hm ⊢
  by_cases hlt : i < xs.length
  case neg =>
    repeat (first | refine runB ?_ | intro _)
    exact KX.ends (by exact ResOk.tmps rfl) Ent.drop ⟨rfl, rfl⟩
  have hii : (i : Int).toNat = i := by omega
  repeat (first | refine runB ?_ | intro _)
  rw [hii]
  refine GO.ef (Ef.callFnA (first := []) (cap := []) (vs := [.agg (encRu xs[i]!).toArray]) (ruleName_ok xs[i]!) rfl rfl) (by decide) ?_
  rintro _ _ ⟨rfl, rfl⟩
  refine GO.ev (Ev.lookG1 (k := xs[i]!.name) rfl rfl) (by decide) ?_
  rw [hm i (Nat.le_refl _) hlt]
  simp only [Option.map_none, Option.getD_none]
  repeat (first | refine runB ?_ | intro _)
  refine GO.ef (Ef.callFnA (first := []) (cap := []) (vs := [.agg (encRu xs[i]!).toArray]) (ruleName_ok xs[i]!) rfl rfl) (by decide) ?_
  rintro _ _ ⟨rfl, rfl⟩
  refine GO.efu (Ef.updG (k := xs[i]!.name) (e := true) rfl rfl rfl rfl) ?_
  rintro _ _ rfl
  repeat (first | refine runB ?_ | intro _)
  refine ⟨(i + 1, gins m xs[i]!.name true), ⟨by dsimp only; omega, ?_⟩, by dsimp only; omega, ?_, Ent.consR Ent.drop⟩
  · intro j hj hjl
    dsimp only at hj ⊢
    rw [lookup_gins, if_neg, hm j (by omega) hjl]
    intro e
    have h1 : (xs.map (·.name))[j]'(by simpa using hjl) = (xs.map (·.name))[i]'(by simp; omega) := by
      rw [getElem!_of hjl, getElem!_of (by omega)] at e
      simpa using e
    have := (List.getElem_inj hd).1 h1
    omega
  · dsimp only
    rw [show ((i + 1 : Nat) : Int) = (i : Int) + 1 by omega]
    exact (by repeat (first | exact EnvSub.nil _ | refine EnvSub.cons rfl ?_))

theorem tableName_ok {L : List HP} (x : TbV) : Tri Tryz.prog 217 #[.agg (encTb x).toArray] L (fun u L' => u = .string x.name ∧ L' = L) := by
  refine Tri.body (args := [.agg (encTb x).toArray]) 5 en217 Tryz.func217 rfl rfl rfl (by simp) ?_
  repeat (first | refine runB ?_ | intro _)
  exact KX.ends (by exact ResOk.tmps rfl) Ent.drop ⟨rfl, rfl⟩
theorem differT_ok {L : List HP} (ad : Option Addr) (c : Nat) (xs : List TbV) (hl : xs.length ≤ 64) (hd : (xs.map (·.name)).Nodup) :
    Tri Tryz.prog 216 #[.slice ad xs.length c, .func (.func 217) #[] #[]] (isl encTb 2 ad xs :: L) (fun v L' => v = .bool true ∧ L' = isl encTb 2 ad xs :: L) := by
  refine Tri.body (args := [.slice ad xs.length c, .func (.func 217) #[] #[]]) 27 en216 Tryz.func216 rfl rfl rfl (by simp) ?_
  repeat (first | refine runB ?_ | intro _)
  refine GO.ef (Ef.makeG kvS encB (.inr ⟨_, _, _, rfl, rfl, by omega⟩)) (by decide) ?_
  rintro _ _ ⟨bm, rfl, rfl⟩
  repeat (first | refine runB ?_ | intro _)
  refine G.loop (α := Nat × List (ByteArray × Bool)) (fun x => x.1 ≤ xs.length ∧ ∀ j, x.1 ≤ j → j < xs.length → @List.lookup ByteArray Bool instBEqOfDecidableEq xs[j]!.name x.2 = none) (fun x => [(0, .slice ad xs.length c), (1, .func (.func 217) #[] #[]), (5, .map (some bm)), (11, .slice ad xs.length c), (12, .int .i64 xs.length), (13, .int .i64 (x.1 : Int))]) (fun x => gmap kvS encB bm x.2 :: isl encTb 2 ad xs :: L) (fun x => xs.length - x.1) (0, []) ⟨Nat.zero_le _, fun _ _ _ => rfl⟩ (by repeat (first | exact EnvSub.nil _ | refine EnvSub.cons rfl ?_)) (Ent.refl _) ?_
  rintro ⟨i, m⟩ ⟨hi, hm⟩
  dsimp only at hi hm ⊢
  by_cases hlt : i < xs.length
  case neg =>
    repeat (first | refine runB ?_ | intro _)
    exact KX.ends (by exact ResOk.tmps rfl) Ent.drop ⟨rfl, rfl⟩
  have hii : (i : Int).toNat = i := by omega
  repeat (first | refine runB ?_ | intro _)
  rw [hii]
  refine GO.ef (Ef.callFnA (first := []) (cap := []) (vs := [.agg (encTb xs[i]!).toArray]) (tableName_ok xs[i]!) rfl rfl) (by decide) ?_
  rintro _ _ ⟨rfl, rfl⟩
  refine GO.ev (Ev.lookG1 (k := xs[i]!.name) rfl rfl) (by decide) ?_
  rw [hm i (Nat.le_refl _) hlt]
  simp only [Option.map_none, Option.getD_none]
  repeat (first | refine runB ?_ | intro _)
  refine GO.ef (Ef.callFnA (first := []) (cap := []) (vs := [.agg (encTb xs[i]!).toArray]) (tableName_ok xs[i]!) rfl rfl) (by decide) ?_
  rintro _ _ ⟨rfl, rfl⟩
  refine GO.efu (Ef.updG (k := xs[i]!.name) (e := true) rfl rfl rfl rfl) ?_
  rintro _ _ rfl
  repeat (first | refine runB ?_ | intro _)
  refine ⟨(i + 1, gins m xs[i]!.name true), ⟨by dsimp only; omega, ?_⟩, by dsimp only; omega, ?_, Ent.consR Ent.drop⟩
  · intro j hj hjl
    dsimp only at hj ⊢
    rw [lookup_gins, if_neg, hm j (by omega) hjl]
    intro e
    have h1 : (xs.map (·.name))[j]'(by simpa using hjl) = (xs.map (·.name))[i]'(by simp; omega) := by
      rw [getElem!_of hjl, getElem!_of (by omega)] at e
      simpa using e
    have := (List.getElem_inj hd).1 h1
    omega
  · dsimp only
    rw [show ((i + 1 : Nat) : Int) = (i : Int) + 1 by omega]
    exact (by repeat (first | exact EnvSub.nil _ | refine EnvSub.cons rfl ?_))

theorem taxName_ok {L : List HP} (x : TxV) : Tri Tryz.prog 219 #[.agg (encTx x).toArray] L (fun u L' => u = .string x.name ∧ L' = L) := by
  refine Tri.body (args := [.agg (encTx x).toArray]) 5 en219 Tryz.func219 rfl rfl rfl (by simp) ?_
  repeat (first | refine runB ?_ | intro _)
  exact KX.ends (by exact ResOk.tmps rfl) Ent.drop ⟨rfl, rfl⟩
theorem differX_ok {L : List HP} (ad : Option Addr) (c : Nat) (xs : List TxV) (hl : xs.length ≤ 64) (hd : (xs.map (·.name)).Nodup) :
    Tri Tryz.prog 218 #[.slice ad xs.length c, .func (.func 219) #[] #[]] (isl encTx 2 ad xs :: L) (fun v L' => v = .bool true ∧ L' = isl encTx 2 ad xs :: L) := by
  refine Tri.body (args := [.slice ad xs.length c, .func (.func 219) #[] #[]]) 27 en218 Tryz.func218 rfl rfl rfl (by simp) ?_
  repeat (first | refine runB ?_ | intro _)
  refine GO.ef (Ef.makeG kvS encB (.inr ⟨_, _, _, rfl, rfl, by omega⟩)) (by decide) ?_
  rintro _ _ ⟨bm, rfl, rfl⟩
  repeat (first | refine runB ?_ | intro _)
  refine G.loop (α := Nat × List (ByteArray × Bool)) (fun x => x.1 ≤ xs.length ∧ ∀ j, x.1 ≤ j → j < xs.length → @List.lookup ByteArray Bool instBEqOfDecidableEq xs[j]!.name x.2 = none) (fun x => [(0, .slice ad xs.length c), (1, .func (.func 219) #[] #[]), (5, .map (some bm)), (11, .slice ad xs.length c), (12, .int .i64 xs.length), (13, .int .i64 (x.1 : Int))]) (fun x => gmap kvS encB bm x.2 :: isl encTx 2 ad xs :: L) (fun x => xs.length - x.1) (0, []) ⟨Nat.zero_le _, fun _ _ _ => rfl⟩ (by repeat (first | exact EnvSub.nil _ | refine EnvSub.cons rfl ?_)) (Ent.refl _) ?_
  rintro ⟨i, m⟩ ⟨hi, hm⟩
  dsimp only at hi hm ⊢
  by_cases hlt : i < xs.length
  case neg =>
    repeat (first | refine runB ?_ | intro _)
    exact KX.ends (by exact ResOk.tmps rfl) Ent.drop ⟨rfl, rfl⟩
  have hii : (i : Int).toNat = i := by omega
  repeat (first | refine runB ?_ | intro _)
  rw [hii]
  refine GO.ef (Ef.callFnA (first := []) (cap := []) (vs := [.agg (encTx xs[i]!).toArray]) (taxName_ok xs[i]!) rfl rfl) (by decide) ?_
  rintro _ _ ⟨rfl, rfl⟩
  refine GO.ev (Ev.lookG1 (k := xs[i]!.name) rfl rfl) (by decide) ?_
  rw [hm i (Nat.le_refl _) hlt]
  simp only [Option.map_none, Option.getD_none]
  repeat (first | refine runB ?_ | intro _)
  refine GO.ef (Ef.callFnA (first := []) (cap := []) (vs := [.agg (encTx xs[i]!).toArray]) (taxName_ok xs[i]!) rfl rfl) (by decide) ?_
  rintro _ _ ⟨rfl, rfl⟩
  refine GO.efu (Ef.updG (k := xs[i]!.name) (e := true) rfl rfl rfl rfl) ?_
  rintro _ _ rfl
  repeat (first | refine runB ?_ | intro _)
  refine ⟨(i + 1, gins m xs[i]!.name true), ⟨by dsimp only; omega, ?_⟩, by dsimp only; omega, ?_, Ent.consR Ent.drop⟩
  · intro j hj hjl
    dsimp only at hj ⊢
    rw [lookup_gins, if_neg, hm j (by omega) hjl]
    intro e
    have h1 : (xs.map (·.name))[j]'(by simpa using hjl) = (xs.map (·.name))[i]'(by simp; omega) := by
      rw [getElem!_of hjl, getElem!_of (by omega)] at e
      simpa using e
    have := (List.getElem_inj hd).1 h1
    omega
  · dsimp only
    rw [show ((i + 1 : Nat) : Int) = (i : Int) + 1 by omega]
    exact (by repeat (first | exact EnvSub.nil _ | refine EnvSub.cons rfl ?_))

end Go.Proofs.YtfmgkkofledkbaaGreatDoor

namespace Go.Proofs.YtfmgkkofledkbaaGreatDoor
open Go.V
attribute [local irreducible] G GO GP GPW GPK Ev Ef EfR Ent CB GB V.Enters
/-- Amounts are sorted. -/
def AmSrt (n : Nat) (l : List (Int × Int)) : Prop := (∀ a ∈ l, 0 ≤ a.1 ∧ a.1 < n ∧ 1 ≤ a.2 ∧ a.2 ≤ 1099511627776) ∧ l.Pairwise (fun a b => a.1 < b.1)
/-- Whatever is given back was taken. -/
def amCnt (l : List (Int × Int)) (i : Int) : Int := l.foldl (fun s a => if a.1 = i then s + a.2 else s) 0
structure ItGood (x : ItG) : Prop where
  word : IsWord x.name
  form : if x.obj = true then x.mixed = false ∧ x.coin = false ∧ 0 ≤ x.bind ∧ x.bind ≤ 2 else x.wear = 0 ∧ x.bind = 0 ∧ x.level = 0
  num : (x.obj = true → 1 ≤ x.wear ∧ x.wear ≤ 1048576) ∧ 0 ≤ x.level ∧ x.level ≤ 100
structure RuGood (n : Nat) (r : RuM) : Prop where
  word : IsWord r.name
  lim : r.take.length + r.give.length ≤ 64 ∧ r.take.length + r.back.length ≤ 64
  take : AmSrt n r.take
  give : AmSrt n r.give
  back : AmSrt n r.back
  form : (r.back.length = 0 ∨ r.chance ≠ r.of_) ∧ (if r.spawn = true then r.take.length = 0 ∧ r.back.length = 0 ∧ r.level = 0 ∧ r.time = 0 ∧ r.chance = r.of_ else 0 < r.take.length ∨ r.time ≠ 0)
  cont : ∀ a ∈ r.back, amCnt r.back a.1 ≤ amCnt r.take a.1
  num : (0 ≤ r.level ∧ r.level ≤ 100) ∧ (0 ≤ r.time ∧ r.time ≤ 1000000) ∧ (1 ≤ r.of_ ∧ r.of_ ≤ 1000000) ∧ 1 ≤ r.chance ∧ r.chance ≤ r.of_
structure RwGood (n : Nat) (r : RwM) : Prop where
  num : 1 ≤ r.weight ∧ r.weight ≤ 1099511627776
  give : AmSrt n r.give
structure TbGood (n : Nat) (t : TbM) : Prop where
  word : IsWord t.name
  rows : 0 < t.rows.length ∧ t.rows.length ≤ 64
  good : ∀ r ∈ t.rows, RwGood n r
structure TxGood (t : TxM) : Prop where
  word : IsWord t.name
  brs : 0 < t.brs.length ∧ t.brs.length ≤ 16
  first : t.brs[0]!.1 = 0
  srt : ∀ i, i + 1 < t.brs.length → t.brs[i]!.1 < t.brs[i + 1]!.1
  num : ∀ b ∈ t.brs, (0 ≤ b.1 ∧ b.1 ≤ 1099511627776) ∧ 0 ≤ b.2 ∧ b.2 ≤ 10000
structure CatGood (c : CatM) : Prop where
  items : c.items.length ≤ 64
  rules : c.rules.length ≤ 64
  tables : c.tables.length ≤ 32
  taxes : c.taxes.length ≤ 32
  it : ∀ x ∈ c.items, ItGood x
  ru : ∀ r ∈ c.rules, RuGood c.items.length r
  tb : ∀ t ∈ c.tables, TbGood c.items.length t
  tx : ∀ t ∈ c.taxes, TxGood t
  di : (c.items.map (·.name)).Nodup
  dr : (c.rules.map (·.name)).Nodup
  dt : (c.tables.map (·.name)).Nodup
  dx : (c.taxes.map (·.name)).Nodup
/-! ### Limits -/
theorem wl1_ok (n : Nat) (r : RuV) (h : RuGood n r.m) : Passes 201 [] encRu ruP (hpure True) r := by
  intro L
  obtain ⟨h1, h2⟩ := h.lim
  change r.take.l.length + r.give.l.length ≤ 64 at h1
  change r.take.l.length + r.back.l.length ≤ 64 at h2
  refine Tri.body (args := [.agg (encRu r).toArray]) 21 en201 Tryz.func201 rfl rfl rfl (by simp) ?_
  repeat (first | refine runB ?_ | intro _)
  exact KX.ends (by exact ResOk.tmps rfl) Ent.drop ⟨by rw [dB_pos (by omega)]; rfl, rfl⟩
theorem wl2_ok (n : Nat) (t : TbV) (h : TbGood n t.m) : Passes 203 [] encTb tbP (hpure True) t := by
  intro L
  have h1 : t.rows.length ≤ 64 := by have := h.rows.2; simpa [TbV.m] using this
  refine Tri.body (args := [.agg (encTb t).toArray]) 7 en203 Tryz.func203 rfl rfl rfl (by simp) ?_
  repeat (first | refine runB ?_ | intro _)
  exact KX.ends (by exact ResOk.tmps rfl) Ent.drop ⟨by rw [dB_pos (by omega)]; rfl, rfl⟩
theorem wl3_ok (t : TxV) (h : TxGood t.m) : Passes 205 [] encTx txP (hpure True) t := by
  intro L
  have h1 : t.brs.length ≤ 16 := h.brs.2
  refine Tri.body (args := [.agg (encTx t).toArray]) 7 en205 Tryz.func205 rfl rfl rfl (by simp) ?_
  repeat (first | refine runB ?_ | intro _)
  exact KX.ends (by exact ResOk.tmps rfl) Ent.drop ⟨by rw [dB_pos (by omega)]; rfl, rfl⟩
/-- All parts of a catalog. -/
abbrev catS (c : CatV) (L : List HP) : List HP := isl encItG 7 c.iad c.items :: isl encRu 9 c.rad c.rules :: allP ruP c.rules :: isl encTb 2 c.tad c.tables :: allP tbP c.tables :: isl encTx 2 c.xad c.taxes :: allP txP c.taxes :: L
theorem catS_open {c : CatV} {L : List HP} : Ent (catP c :: L) (catS c (catP c :: L)) :=
  (Ent.dup (catP_m c).pers).trans (Ent.andE.trans (Ent.consR (Ent.andE.trans (Ent.andE.trans (Ent.consR (Ent.consR (Ent.andE.trans (Ent.andE.trans (Ent.consR (Ent.consR Ent.andE))))))))))
theorem RuV_good {c : CatV} (h : CatGood c.m) : ∀ r ∈ c.rules, RuGood c.items.length r.m := fun _ hr => h.ru _ (List.mem_map_of_mem hr)
theorem TbV_good {c : CatV} (h : CatGood c.m) : ∀ t ∈ c.tables, TbGood c.items.length t.m := fun _ ht => h.tb _ (List.mem_map_of_mem ht)
theorem TxV_good {c : CatV} (h : CatGood c.m) : ∀ t ∈ c.taxes, TxGood t.m := fun _ ht => h.tx _ (List.mem_map_of_mem ht)
theorem lens {c : CatV} (h : CatGood c.m) : c.items.length ≤ 64 ∧ c.rules.length ≤ 64 ∧ c.tables.length ≤ 32 ∧ c.taxes.length ≤ 32 := by
  have h1 := h.items
  have h2 := h.rules
  have h3 := h.tables
  have h4 := h.taxes
  simp only [CatV.m, List.length_map] at h1 h2 h3 h4
  exact ⟨h1, h2, h3, h4⟩
theorem withinLimits_ok {L : List HP} (c : CatV) (h : CatGood c.m) : Tri Tryz.prog 137 #[.agg c.cells.toArray] (catS c (kindsP :: L)) (fun v L' => v = .bool true ∧ L' = catS c (kindsP :: L)) := by
  obtain ⟨l1, l2, l3, l4⟩ := lens h
  refine Tri.body (args := [.agg c.cells.toArray]) 40 en137 Tryz.func137 rfl rfl rfl (by simp) ?_
  simp only [catS, CatV.cells]
  repeat (first | refine runB ?_ | intro _)
  refine GO.ent (Ent.pure trivial (Ent.refl _)) ?_
  (first | refine GO.ef (Ef.call (everyR_ok (L := []) _ [] (hpure True) c.rad c.rcap c.rules l2 (fun r hr => wl1_ok _ r (RuV_good h r hr))) rfl (by repeat (first | exact Ent.refl _ | apply Ent.take))) (by decide) ?_)
  rintro _ _ ⟨_, ⟨rfl, rfl⟩, hL⟩
  simp only [List.cons_append, List.nil_append] at hL; subst hL
  repeat (first | refine runB ?_ | intro _)
  (first | refine GO.ef (Ef.call (everyT_ok (L := []) _ [] (hpure True) c.tad c.tcap c.tables (by omega) (fun r hr => wl2_ok _ r (TbV_good h r hr))) rfl (by repeat (first | exact Ent.refl _ | apply Ent.take))) (by decide) ?_)
  rintro _ _ ⟨_, ⟨rfl, rfl⟩, hL⟩
  simp only [List.cons_append, List.nil_append] at hL; subst hL
  repeat (first | refine runB ?_ | intro _)
  (first | refine GO.ef (Ef.call (everyX_ok (L := []) _ [] (hpure True) c.xad c.xcap c.taxes (by omega) (fun r hr => wl3_ok r (TxV_good h r hr))) rfl (by repeat (first | exact Ent.refl _ | apply Ent.take))) (by decide) ?_)
  rintro _ _ ⟨_, ⟨rfl, rfl⟩, hL⟩
  simp only [List.cons_append, List.nil_append] at hL; subst hL
  repeat (first | refine runB ?_ | intro _)
  exact KX.ends (by exact ResOk.tmps rfl) (by repeat (first | exact Ent.refl _ | exact Ent.nil _ | refine Ent.take' ?_ | refine Ent.trans Ent.drop ?_)) ⟨rfl, rfl⟩
/-! ### Names -/
theorem nf1_ok (x : ItG) (h : IsWord x.name) : Passes 207 [] encItG noP kindsP x := by
  intro L
  refine Tri.body (args := [.agg (encItG x).toArray]) 6 en207 Tryz.func207 rfl rfl rfl (by simp) ?_
  repeat (first | refine runB ?_ | intro _)
  refine GO.ef (Ef.callAll (cfits_spec x.name h) rfl) (by decide) ?_
  rintro _ _ ⟨rfl, rfl⟩
  repeat (first | refine runB ?_ | intro _)
  exact KX.ends (by exact ResOk.tmps rfl) Ent.drop ⟨rfl, rfl⟩
theorem nf2_ok (x : RuV) (h : IsWord x.name) : Passes 209 [] encRu ruP kindsP x := by
  intro L
  refine Tri.body (args := [.agg (encRu x).toArray]) 6 en209 Tryz.func209 rfl rfl rfl (by simp) ?_
  repeat (first | refine runB ?_ | intro _)
  refine GO.ef (Ef.callAll (cfits_spec x.name h) rfl) (by decide) ?_
  rintro _ _ ⟨rfl, rfl⟩
  repeat (first | refine runB ?_ | intro _)
  exact KX.ends (by exact ResOk.tmps rfl) Ent.drop ⟨rfl, rfl⟩
theorem nf3_ok (x : TbV) (h : IsWord x.name) : Passes 210 [] encTb tbP kindsP x := by
  intro L
  refine Tri.body (args := [.agg (encTb x).toArray]) 6 en210 Tryz.func210 rfl rfl rfl (by simp) ?_
  repeat (first | refine runB ?_ | intro _)
  refine GO.ef (Ef.callAll (cfits_spec x.name h) rfl) (by decide) ?_
  rintro _ _ ⟨rfl, rfl⟩
  repeat (first | refine runB ?_ | intro _)
  exact KX.ends (by exact ResOk.tmps rfl) Ent.drop ⟨rfl, rfl⟩
theorem nf4_ok (x : TxV) (h : IsWord x.name) : Passes 211 [] encTx txP kindsP x := by
  intro L
  refine Tri.body (args := [.agg (encTx x).toArray]) 6 en211 Tryz.func211 rfl rfl rfl (by simp) ?_
  repeat (first | refine runB ?_ | intro _)
  refine GO.ef (Ef.callAll (cfits_spec x.name h) rfl) (by decide) ?_
  rintro _ _ ⟨rfl, rfl⟩
  repeat (first | refine runB ?_ | intro _)
  exact KX.ends (by exact ResOk.tmps rfl) Ent.drop ⟨rfl, rfl⟩
theorem namesFit_ok {L : List HP} (c : CatV) (h : CatGood c.m) : Tri Tryz.prog 138 #[.agg c.cells.toArray] (catS c (kindsP :: L)) (fun v L' => v = .bool true ∧ L' = catS c (kindsP :: L)) := by
  obtain ⟨l1, l2, l3, l4⟩ := lens h
  refine Tri.body (args := [.agg c.cells.toArray]) 21 en138 Tryz.func138 rfl rfl rfl (by simp) ?_
  simp only [catS, CatV.cells]
  repeat (first | refine runB ?_ | intro _)
  refine GO.ent (noP_ent c.items) ?_
  (first | refine GO.ef (Ef.call (everyI_ok (L := []) _ [] kindsP c.iad c.icap c.items l1 (fun x hx => nf1_ok x (h.it x hx).word)) rfl (by repeat (first | exact Ent.refl _ | apply Ent.take))) (by decide) ?_)
  rintro _ _ ⟨_, ⟨rfl, rfl⟩, hL⟩
  simp only [List.cons_append, List.nil_append] at hL; subst hL
  repeat (first | refine runB ?_ | intro _)
  (first | refine GO.ef (Ef.call (everyR_ok (L := []) _ [] kindsP c.rad c.rcap c.rules l2 (fun r hr => nf2_ok r (RuV_good h r hr).word)) rfl (by repeat (first | exact Ent.refl _ | apply Ent.take))) (by decide) ?_)
  rintro _ _ ⟨_, ⟨rfl, rfl⟩, hL⟩
  simp only [List.cons_append, List.nil_append] at hL; subst hL
  repeat (first | refine runB ?_ | intro _)
  (first | refine GO.ef (Ef.call (everyT_ok (L := []) _ [] kindsP c.tad c.tcap c.tables (by omega) (fun r hr => nf3_ok r (TbV_good h r hr).word)) rfl (by repeat (first | exact Ent.refl _ | apply Ent.take))) (by decide) ?_)
  rintro _ _ ⟨_, ⟨rfl, rfl⟩, hL⟩
  simp only [List.cons_append, List.nil_append] at hL; subst hL
  repeat (first | refine runB ?_ | intro _)
  (first | refine GO.ef (Ef.call (everyX_ok (L := []) _ [] kindsP c.xad c.xcap c.taxes (by omega) (fun r hr => nf4_ok r (TxV_good h r hr).word)) rfl (by repeat (first | exact Ent.refl _ | apply Ent.take))) (by decide) ?_)
  rintro _ _ ⟨_, ⟨rfl, rfl⟩, hL⟩
  simp only [List.cons_append, List.nil_append] at hL; subst hL
  repeat (first | refine runB ?_ | intro _)
  exact KX.ends (by exact ResOk.tmps rfl) (by repeat (first | exact Ent.refl _ | exact Ent.nil _ | refine Ent.take' ?_ | refine Ent.trans Ent.drop ?_)) ⟨rfl, rfl⟩
theorem namesDiffer_ok {L : List HP} (c : CatV) (h : CatGood c.m) : Tri Tryz.prog 139 #[.agg c.cells.toArray] (catS c (kindsP :: L)) (fun v L' => v = .bool true ∧ L' = catS c (kindsP :: L)) := by
  obtain ⟨l1, l2, l3, l4⟩ := lens h
  have d1 : (c.items.map (·.name)).Nodup := h.di
  have d2 : (c.rules.map (·.name)).Nodup := by have := h.dr; simpa [CatV.m, RuV.m, TbV.m, TxV.m, Function.comp_def] using this
  have d3 : (c.tables.map (·.name)).Nodup := by have := h.dt; simpa [CatV.m, RuV.m, TbV.m, TxV.m, Function.comp_def] using this
  have d4 : (c.taxes.map (·.name)).Nodup := by have := h.dx; simpa [CatV.m, RuV.m, TbV.m, TxV.m, Function.comp_def] using this
  refine Tri.body (args := [.agg c.cells.toArray]) 21 en139 Tryz.func139 rfl rfl rfl (by simp) ?_
  simp only [catS, CatV.cells]
  repeat (first | refine runB ?_ | intro _)
  (first | refine GO.ef (Ef.call (differI_ok (L := []) c.iad c.icap c.items l1 d1) rfl (by repeat (first | exact Ent.refl _ | apply Ent.take))) (by decide) ?_)
  rintro _ _ ⟨_, ⟨rfl, rfl⟩, hL⟩
  simp only [List.cons_append, List.nil_append] at hL; subst hL
  repeat (first | refine runB ?_ | intro _)
  (first | refine GO.ef (Ef.call (differR_ok (L := []) c.rad c.rcap c.rules l2 d2) rfl (by repeat (first | exact Ent.refl _ | apply Ent.take))) (by decide) ?_)
  rintro _ _ ⟨_, ⟨rfl, rfl⟩, hL⟩
  simp only [List.cons_append, List.nil_append] at hL; subst hL
  repeat (first | refine runB ?_ | intro _)
  (first | refine GO.ef (Ef.call (differT_ok (L := []) c.tad c.tcap c.tables (by omega) d3) rfl (by repeat (first | exact Ent.refl _ | apply Ent.take))) (by decide) ?_)
  rintro _ _ ⟨_, ⟨rfl, rfl⟩, hL⟩
  simp only [List.cons_append, List.nil_append] at hL; subst hL
  repeat (first | refine runB ?_ | intro _)
  (first | refine GO.ef (Ef.call (differX_ok (L := []) c.xad c.xcap c.taxes (by omega) d4) rfl (by repeat (first | exact Ent.refl _ | apply Ent.take))) (by decide) ?_)
  rintro _ _ ⟨_, ⟨rfl, rfl⟩, hL⟩
  simp only [List.cons_append, List.nil_append] at hL; subst hL
  repeat (first | refine runB ?_ | intro _)
  exact KX.ends (by exact ResOk.tmps rfl) (by repeat (first | exact Ent.refl _ | exact Ent.nil _ | refine Ent.take' ?_ | refine Ent.trans Ent.drop ?_)) ⟨rfl, rfl⟩
end Go.Proofs.YtfmgkkofledkbaaGreatDoor

namespace Go.Proofs.YtfmgkkofledkbaaGreatDoor
open Go.V
attribute [local irreducible] G GO GP GPW GPK Ev Ef EfR Ent CB GB V.Enters
abbrev tCat : Nat := 32
theorem wf1_ok {L : List HP} (b1 : Nat) (c : CatV) (ad : Option Addr) (cap : Nat) (l : List (Int × Int)) (hl : l.length ≤ 64) (hc : c.items.length ≤ 64) (h : AmSrt c.items.length l) :
    Tri Tryz.prog 220 #[.slice ad l.length cap, .pointer (some ⟨b1, 0, none⟩)] (obj b1 tCat c.cells :: isl encAm 2 ad l :: L) (fun v L' => v = .bool true ∧ L' = obj b1 tCat c.cells :: isl encAm 2 ad l :: L) := by
  obtain ⟨h1, h2⟩ := h
  refine Tri.body (args := [.slice ad l.length cap, .pointer (some ⟨b1, 0, none⟩)]) 28 en220 Tryz.func220 rfl rfl rfl (by simp) ?_
  simp only [CatV.cells]
  repeat (first | refine runB ?_ | intro _)
  refine G.loop (α := Nat × Int) (fun x => x.1 ≤ l.length ∧ ∀ j, x.1 ≤ j → j < l.length → x.2 < l[j]!.1) (fun x => [(1, .pointer (some ⟨b1, 0, none⟩)), (4, .int .i64 x.2), (7, .slice ad l.length cap), (8, .int .i64 l.length), (9, .int .i64 (x.1 : Int))]) (fun _ => obj b1 tCat [.slice c.iad c.items.length c.icap, .slice c.rad c.rules.length c.rcap, .slice c.tad c.tables.length c.tcap, .slice c.xad c.taxes.length c.xcap] :: isl encAm 2 ad l :: L) (fun x => l.length - x.1) (0, -1) ⟨Nat.zero_le _, fun j _ hj => by have := h1 _ (mem_get! hj); dsimp only; omega⟩ (by repeat (first | exact EnvSub.nil _ | refine EnvSub.cons rfl ?_)) (Ent.refl _) ?_
  rintro ⟨i, last⟩ ⟨hi, hlast⟩
  dsimp only at hi hlast ⊢
  by_cases hlt : i < l.length
  case neg =>
    repeat (first | refine runB ?_ | intro _)
    exact KX.ends (by exact ResOk.tmps rfl) (Ent.refl _) ⟨rfl, rfl⟩
  have hii : (i : Int).toNat = i := by omega
  have ha := h1 _ (mem_get! hlt)
  have hb := hlast i (Nat.le_refl _) hlt
  repeat (first | refine runB ?_ | intro _)
  rw [hii]
  repeat (first | refine runB ?_ | intro _)
  refine ⟨(i + 1, l[i]!.1), ⟨by dsimp only; omega, ?_⟩, by dsimp only; omega, ?_, Ent.drop⟩
  · intro j hj hjl
    dsimp only at hj ⊢
    rw [getElem!_of hlt, getElem!_of hjl]
    exact List.pairwise_iff_getElem.1 h2 i j hlt hjl (by omega)
  · dsimp only
    rw [show ((i + 1 : Nat) : Int) = (i : Int) + 1 by omega]
    exact (by repeat (first | exact EnvSub.nil _ | refine EnvSub.cons rfl ?_))
theorem itemFormed_ok (x : ItG) (h : ItGood x) : Passes 221 [] encItG noP (hpure True) x := by
  intro L
  have hf := h.form
  refine Tri.body (args := [.agg (encItG x).toArray]) 36 en221 Tryz.func221 rfl rfl rfl (by simp) ?_
  cases hx : x.obj with
  | true =>
    rw [if_pos hx] at hf
    obtain ⟨f1, f2, f3, f4⟩ := hf
    have e : encItG x = [.string x.name, .bool true, .bool false, .bool false, .int .i64 x.wear, .int .i64 x.bind, .int .i64 x.level] := by unfold encItG; rw [hx, f1, f2]
    rw [e]
    repeat (first | refine runB ?_ | intro _)
    exact KX.ends (by exact ResOk.tmps rfl) Ent.drop ⟨by rw [dB_pos f4]; rfl, rfl⟩
  | false =>
    rw [if_neg (by rw [hx]; decide)] at hf
    obtain ⟨f1, f2, f3⟩ := hf
    have e : encItG x = [.string x.name, .bool false, .bool x.mixed, .bool x.coin, .int .i64 0, .int .i64 0, .int .i64 0] := by unfold encItG; rw [hx, f1, f2, f3]
    rw [e]
    repeat (first | refine runB ?_ | intro _)
    exact KX.ends (by exact ResOk.tmps rfl) Ent.drop ⟨by rw [dB_pos rfl]; rfl, rfl⟩
theorem ruleFormed_ok {L : List HP} (n : Nat) (r : RuV) (h : RuGood n r.m) : Tri Tryz.prog 223 #[.agg (encRu r).toArray] L (fun v L' => v = .bool true ∧ L' = L) := by
  obtain ⟨hf1, hf2⟩ := h.form
  change (r.back.l.length = 0 ∨ r.chance ≠ r.of_) at hf1
  have hg : ∀ {q : Prop}, (r.back.l.length = 0 → q) → (¬ r.back.l.length = 0 → r.chance ≠ r.of_ → q) → q := by
    intro q a b
    by_cases h0 : r.back.l.length = 0
    · exact a h0
    · exact b h0 (hf1.resolve_left h0)
  change (if r.spawn = true then r.take.l.length = 0 ∧ r.back.l.length = 0 ∧ r.level = 0 ∧ r.time = 0 ∧ r.chance = r.of_ else 0 < r.take.l.length ∨ r.time ≠ 0) at hf2
  refine Tri.body (args := [.agg (encRu r).toArray]) 52 en223 Tryz.func223 rfl rfl rfl (by simp) ?_
  cases hx : r.spawn with
  | true =>
    rw [if_pos hx] at hf2
    obtain ⟨f1, f2, f3, f4, f5⟩ := hf2
    have e : encRu r = [.string r.name, .bool true, .int .i64 r.level, .int .i64 r.time, .int .i64 r.chance, .int .i64 r.of_, .slice r.take.ad r.take.l.length r.take.cap, .slice r.give.ad r.give.l.length r.give.cap, .slice r.back.ad r.back.l.length r.back.cap] := by unfold encRu; rw [hx]
    rw [e]
    repeat (first | refine runB ?_ | intro _)
    exact KX.ends (by exact ResOk.tmps rfl) Ent.drop ⟨by rw [dB_pos f5]; rfl, rfl⟩
  | false =>
    rw [if_neg (by rw [hx]; decide)] at hf2
    have e : encRu r = [.string r.name, .bool false, .int .i64 r.level, .int .i64 r.time, .int .i64 r.chance, .int .i64 r.of_, .slice r.take.ad r.take.l.length r.take.cap, .slice r.give.ad r.give.l.length r.give.cap, .slice r.back.ad r.back.l.length r.back.cap] := by unfold encRu; rw [hx]
    rw [e]
    refine hg ?_ ?_
    · intro h0
      by_cases h5 : 0 < r.take.l.length
      · repeat (first | refine runB ?_ | intro _)
        exact KX.ends (by exact ResOk.tmps rfl) Ent.drop ⟨rfl, rfl⟩
      · have h6 : r.time ≠ 0 := hf2.resolve_left h5
        repeat (first | refine runB ?_ | intro _)
        exact KX.ends (by exact ResOk.tmps rfl) Ent.drop ⟨by rw [dB_pos h6]; rfl, rfl⟩
    · intro h0 hne
      by_cases h5 : 0 < r.take.l.length
      · repeat (first | refine runB ?_ | intro _)
        exact KX.ends (by exact ResOk.tmps rfl) Ent.drop ⟨rfl, rfl⟩
      · have h6 : r.time ≠ 0 := hf2.resolve_left h5
        repeat (first | refine runB ?_ | intro _)
        exact KX.ends (by exact ResOk.tmps rfl) Ent.drop ⟨by rw [dB_pos h6]; rfl, rfl⟩
/-! ### What is given back -/
def amU (l : List (Int × Int)) (m : List (Int × Int)) : Prop := ∀ i, (glk m i).getD 0 = amCnt l i
theorem amCnt_snoc (l : List (Int × Int)) (a : Int × Int) (i : Int) : amCnt (l ++ [a]) i = if a.1 = i then amCnt l i + a.2 else amCnt l i := by
  unfold amCnt
  rw [List.foldl_append]
  rfl
theorem amCnt_bd {n : Nat} {l : List (Int × Int)} (h : ∀ a ∈ l, 0 ≤ a.1 ∧ a.1 < n ∧ 1 ≤ a.2 ∧ a.2 ≤ 1099511627776) (i : Int) : ∀ k, k ≤ l.length → 0 ≤ amCnt (l.take k) i ∧ amCnt (l.take k) i ≤ k * 1099511627776 := by
  intro k
  induction k with
  | zero => intro _; simp [amCnt]
  | succ k ih =>
    intro hk
    have h1 := ih (by omega)
    have h2 := h _ (List.getElem_mem (show k < l.length by omega))
    rw [List.take_succ_eq_append_getElem (by omega), amCnt_snoc]
    split <;> omega
end Go.Proofs.YtfmgkkofledkbaaGreatDoor

namespace Go.Proofs.YtfmgkkofledkbaaGreatDoor
open Go.V
attribute [local irreducible] G GO GP GPW GPK Ev Ef EfR Ent CB GB V.Enters
theorem glk_gins' (m : List (Int × Int)) (k q a : Int) : glk (gins m k a) q = if q = k then some a else glk m q := lookup_gins
theorem tot_v' (m : List (Int × Int)) (k d : Int) : ((@List.lookup _ _ instBEqOfDecidableEq k m).map encN).getD (.int .i64 d) = .int .i64 ((glk m k).getD d) := by
  unfold glk
  cases @List.lookup _ _ instBEqOfDecidableEq k m <;> rfl
theorem amU_nil : amU [] [] := fun _ => rfl
theorem amU_ins {l : List (Int × Int)} {m : List (Int × Int)} (h : amU l m) (a : Int × Int) : amU (l ++ [a]) (gins m a.1 (amCnt l a.1 + a.2)) := by
  intro i
  rw [amCnt_snoc, glk_gins']
  by_cases hi : a.1 = i
  · subst hi
    rw [if_pos rfl, if_pos rfl]
    rfl
  · rw [if_neg (fun e => hi e.symm), if_neg hi]
    exact h i
set_option maxHeartbeats 1000000 in
theorem contains_ok {L : List HP} (n : Nat) (ad1 ad2 : Option Addr) (c1 c2 : Nat) (tk bk : List (Int × Int)) (h1 : tk.length ≤ 64) (h2 : bk.length ≤ 64) (ht : AmSrt n tk) (hb : AmSrt n bk) (hc : ∀ a ∈ bk, amCnt bk a.1 ≤ amCnt tk a.1) :
    Tri Tryz.prog 224 #[.slice ad1 tk.length c1, .slice ad2 bk.length c2] (isl encAm 2 ad1 tk :: isl encAm 2 ad2 bk :: L) (fun v L' => v = .bool true ∧ L' = isl encAm 2 ad1 tk :: isl encAm 2 ad2 bk :: L) := by
  refine Tri.body (args := [.slice ad1 tk.length c1, .slice ad2 bk.length c2]) 59 en224 Tryz.func224 rfl rfl rfl (by simp) ?_
  repeat (first | refine runB ?_ | intro _)
  refine GO.ef (Ef.makeG kvI encN (.inl rfl)) (by decide) ?_
  rintro _ _ ⟨b1, rfl, rfl⟩
  repeat (first | refine runB ?_ | intro _)
  refine GO.ef (Ef.makeG kvI encN (.inl rfl)) (by decide) ?_
  rintro _ _ ⟨b2, rfl, rfl⟩
  repeat (first | ((fail_if_success (with_reducible refine G.atSS 2 ?_)); (with_reducible apply G.seq)) | refine runBS ?_ | intro _)
  refine G.join (α := List (Int × Int)) (fun m => amU tk m) (fun _ => [(1, .slice ad2 bk.length c2), (5, .map (some b1)), (6, .map (some b2))]) (fun m => gmap kvI encN b2 [] :: gmap kvI encN b1 m :: isl encAm 2 ad1 tk :: isl encAm 2 ad2 bk :: L) ?_ ?_
  · repeat (first | refine runB ?_ | intro _)
    refine G.loop (α := Nat × List (Int × Int)) (fun x => x.1 ≤ tk.length ∧ amU (tk.take x.1) x.2) (fun x => [(1, .slice ad2 bk.length c2), (5, .map (some b1)), (6, .map (some b2)), (15, .slice ad1 tk.length c1), (16, .int .i64 tk.length), (17, .int .i64 (x.1 : Int))]) (fun x => gmap kvI encN b2 [] :: gmap kvI encN b1 x.2 :: isl encAm 2 ad1 tk :: isl encAm 2 ad2 bk :: L) (fun x => tk.length - x.1) (0, []) ⟨Nat.zero_le _, amU_nil⟩ (by repeat (first | exact EnvSub.nil _ | refine EnvSub.cons rfl ?_)) (Ent.refl _) ?_
    rintro ⟨i, m⟩ ⟨hi, hm⟩
    dsimp only at hi hm ⊢
    by_cases hlt : i < tk.length
    case neg =>
      rw [List.take_of_length_le (by omega)] at hm
      repeat (first | refine runB ?_ | intro _)
      exact ⟨m, hm, (by repeat (first | exact EnvSub.nil _ | refine EnvSub.cons rfl ?_)), Ent.refl _⟩
    have hii : (i : Int).toNat = i := by omega
    have ha := ht.1 _ (mem_get! hlt)
    have hcb := amCnt_bd ht.1 tk[i]!.1 i (by omega)
    have hmi := hm tk[i]!.1
    repeat (first | refine runB ?_ | intro _)
    rw [hii]
    refine GO.ev (Ev.lookG1 rfl rfl) (by decide) ?_
    rw [tot_v', hmi]
    repeat (first | refine runB ?_ | intro _)
    refine GO.efu (Ef.updG (enc := encN) (e := amCnt (tk.take i) tk[i]!.1 + tk[i]!.2) rfl rfl rfl rfl) ?_
    rintro _ _ rfl
    repeat (first | refine runB ?_ | intro _)
    refine ⟨(i + 1, gins m tk[i]!.1 (amCnt (tk.take i) tk[i]!.1 + tk[i]!.2)), ⟨by dsimp only; omega, ?_⟩, by dsimp only; omega, ?_, by repeat (first | exact Ent.refl _ | exact Ent.nil _ | refine Ent.take' ?_ | refine Ent.trans Ent.drop ?_)⟩
    · dsimp only
      rw [List.take_succ_eq_append_getElem hlt, ← getElem!_of hlt]
      exact amU_ins hm _
    · dsimp only
      rw [show ((i + 1 : Nat) : Int) = (i : Int) + 1 by omega]
      exact (by repeat (first | exact EnvSub.nil _ | refine EnvSub.cons rfl ?_))
  intro m1 hm1
  refine G.join (α := List (Int × Int)) (fun m => amU bk m) (fun _ => [(1, .slice ad2 bk.length c2), (5, .map (some b1)), (6, .map (some b2))]) (fun m => gmap kvI encN b2 m :: gmap kvI encN b1 m1 :: isl encAm 2 ad1 tk :: isl encAm 2 ad2 bk :: L) ?_ ?_
  · repeat (first | refine runB ?_ | intro _)
    refine G.loop (α := Nat × List (Int × Int)) (fun x => x.1 ≤ bk.length ∧ amU (bk.take x.1) x.2) (fun x => [(1, .slice ad2 bk.length c2), (5, .map (some b1)), (6, .map (some b2)), (29, .slice ad2 bk.length c2), (30, .int .i64 bk.length), (31, .int .i64 (x.1 : Int))]) (fun x => gmap kvI encN b2 x.2 :: gmap kvI encN b1 m1 :: isl encAm 2 ad1 tk :: isl encAm 2 ad2 bk :: L) (fun x => bk.length - x.1) (0, []) ⟨Nat.zero_le _, amU_nil⟩ (by repeat (first | exact EnvSub.nil _ | refine EnvSub.cons rfl ?_)) (Ent.refl _) ?_
    rintro ⟨i, m⟩ ⟨hi, hm⟩
    dsimp only at hi hm ⊢
    by_cases hlt : i < bk.length
    case neg =>
      rw [List.take_of_length_le (by omega)] at hm
      repeat (first | refine runB ?_ | intro _)
      exact ⟨m, hm, (by repeat (first | exact EnvSub.nil _ | refine EnvSub.cons rfl ?_)), Ent.refl _⟩
    have hii : (i : Int).toNat = i := by omega
    have ha := hb.1 _ (mem_get! hlt)
    have hcb := amCnt_bd hb.1 bk[i]!.1 i (by omega)
    have hmi := hm bk[i]!.1
    repeat (first | refine runB ?_ | intro _)
    rw [hii]
    refine GO.ev (Ev.lookG1 rfl rfl) (by decide) ?_
    rw [tot_v', hmi]
    repeat (first | refine runB ?_ | intro _)
    refine GO.efu (Ef.updG (enc := encN) (e := amCnt (bk.take i) bk[i]!.1 + bk[i]!.2) rfl rfl rfl rfl) ?_
    rintro _ _ rfl
    repeat (first | refine runB ?_ | intro _)
    refine ⟨(i + 1, gins m bk[i]!.1 (amCnt (bk.take i) bk[i]!.1 + bk[i]!.2)), ⟨by dsimp only; omega, ?_⟩, by dsimp only; omega, ?_, by repeat (first | exact Ent.refl _ | exact Ent.nil _ | refine Ent.take' ?_ | refine Ent.trans Ent.drop ?_)⟩
    · dsimp only
      rw [List.take_succ_eq_append_getElem hlt, ← getElem!_of hlt]
      exact amU_ins hm _
    · dsimp only
      rw [show ((i + 1 : Nat) : Int) = (i : Int) + 1 by omega]
      exact (by repeat (first | exact EnvSub.nil _ | refine EnvSub.cons rfl ?_))
  intro m2 hm2
  repeat (first | refine runB ?_ | intro _)
  refine G.loop (α := Nat) (fun i => i ≤ bk.length) (fun i => [(5, .map (some b1)), (6, .map (some b2)), (43, .slice ad2 bk.length c2), (44, .int .i64 bk.length), (45, .int .i64 (i : Int))]) (fun _ => gmap kvI encN b2 m2 :: gmap kvI encN b1 m1 :: isl encAm 2 ad1 tk :: isl encAm 2 ad2 bk :: L) (fun i => bk.length - i) 0 (Nat.zero_le _) (by repeat (first | exact EnvSub.nil _ | refine EnvSub.cons rfl ?_)) (Ent.refl _) ?_
  intro i hi
  by_cases hlt : i < bk.length
  case neg =>
    repeat (first | refine runB ?_ | intro _)
    exact KX.ends (by exact ResOk.tmps rfl) (by repeat (first | exact Ent.refl _ | exact Ent.nil _ | refine Ent.take' ?_ | refine Ent.trans Ent.drop ?_)) ⟨rfl, rfl⟩
  have hii : (i : Int).toNat = i := by omega
  have e1 := hm1 bk[i]!.1
  have e2 := hm2 bk[i]!.1
  have hle := hc _ (mem_get! hlt)
  repeat (first | refine runB ?_ | intro _)
  rw [hii]
  refine GO.ev (Ev.lookG1 rfl rfl) (by decide) ?_
  rw [tot_v', e1]
  repeat (first | refine runB ?_ | intro _)
  refine GO.ev (Ev.lookG1 rfl rfl) (by decide) ?_
  rw [tot_v', e2]
  repeat (first | refine runB ?_ | intro _)
  refine ⟨i + 1, by omega, by omega, ?_, by repeat (first | exact Ent.refl _ | exact Ent.nil _ | refine Ent.take' ?_ | refine Ent.trans Ent.drop ?_)⟩
  rw [show ((i + 1 : Nat) : Int) = (i : Int) + 1 by omega]
  exact (by repeat (first | exact EnvSub.nil _ | refine EnvSub.cons rfl ?_))
end Go.Proofs.YtfmgkkofledkbaaGreatDoor

namespace Go.Proofs.YtfmgkkofledkbaaGreatDoor
open Go.V
attribute [local irreducible] G GO GP GPW GPK Ev Ef EfR Ent CB GB V.Enters
abbrev tSrt : Nat := 297
/-- The function that tests amounts, with what it knows. -/
abbrev srtC (b3 b1 : Nat) (c : CatV) : List HP := [obj b3 tSrt [.func (.func 220) #[] #[.pointer (some ⟨b1, 0, none⟩)]], obj b1 tCat c.cells]
theorem ruP_open {r : RuV} {L : List HP} : Ent (ruP r :: L) (amS r.take :: amS r.give :: amS r.back :: ruP r :: L) := (Ent.dup (ruP_m r).pers).trans ruOpen
set_option maxHeartbeats 1000000 in
theorem wf2_ok (b3 b1 : Nat) (c : CatV) (hc : c.items.length ≤ 64) (r : RuV) (h : RuGood c.items.length r.m) : Passes 222 [.pointer (some ⟨b3, 0, none⟩)] encRu ruP (hstars (srtC b3 b1 c)) r := by
  intro L
  have hl := h.lim
  change r.take.l.length + r.give.l.length ≤ 64 ∧ r.take.l.length + r.back.l.length ≤ 64 at hl
  refine Tri.body (args := [.agg (encRu r).toArray, .pointer (some ⟨b3, 0, none⟩)]) 31 en222 Tryz.func222 rfl rfl rfl (by simp) ?_
  refine G.ent (Ent.openS.trans (Ent.consR (Ent.consR ruP_open))) ?_
  repeat (first | refine runB ?_ | intro _)
  refine GO.ent (Ent.at (A := amS r.take) (Ent.at (A := obj b1 tCat c.cells) (Ent.refl _))) ?_
  refine GO.ef (Ef.callFnW rfl rfl (wf1_ok b1 c r.take.ad r.take.cap r.take.l (by omega) hc h.take)) (by decide) ?_
  rintro _ _ ⟨rfl, rfl⟩
  repeat (first | refine runB ?_ | intro _)
  refine GO.ent (Ent.at (A := amS r.give) (Ent.at (A := obj b1 tCat c.cells) (Ent.refl _))) ?_
  refine GO.ef (Ef.callFnW rfl rfl (wf1_ok b1 c r.give.ad r.give.cap r.give.l (by omega) hc h.give)) (by decide) ?_
  rintro _ _ ⟨rfl, rfl⟩
  repeat (first | refine runB ?_ | intro _)
  refine GO.ent (Ent.at (A := amS r.back) (Ent.at (A := obj b1 tCat c.cells) (Ent.refl _))) ?_
  refine GO.ef (Ef.callFnW rfl rfl (wf1_ok b1 c r.back.ad r.back.cap r.back.l (by omega) hc h.back)) (by decide) ?_
  rintro _ _ ⟨rfl, rfl⟩
  repeat (first | refine runB ?_ | intro _)
  refine GO.ef (Ef.callAll (ruleFormed_ok _ r h) rfl) (by decide) ?_
  rintro _ _ ⟨rfl, rfl⟩
  repeat (first | refine runB ?_ | intro _)
  (first | refine GO.ef (Ef.call (contains_ok (L := []) c.items.length r.take.ad r.back.ad r.take.cap r.back.cap r.take.l r.back.l (by omega) (by omega) h.take h.back h.cont) rfl (by repeat (first | exact Ent.refl _ | apply Ent.take))) (by decide) ?_)
  rintro _ _ ⟨_, ⟨rfl, rfl⟩, hL⟩
  simp only [List.cons_append, List.nil_append] at hL; subst hL
  repeat (first | refine runB ?_ | intro _)
  refine KX.ends (by exact ResOk.tmps rfl) ?_ ⟨rfl, rfl⟩
  refine Ent.trans ?_ Ent.closeS
  simp only [List.cons_append, List.nil_append]
  repeat (first | exact Ent.refl _ | exact Ent.nil _ | refine Ent.take' ?_ | refine Ent.trans Ent.drop ?_)
theorem wf31_ok (b3 b1 : Nat) (c : CatV) (hc : c.items.length ≤ 64) (r : RwV) (hl : r.give.l.length ≤ 64) (h : AmSrt c.items.length r.give.l) : Passes 227 [.pointer (some ⟨b3, 0, none⟩)] encRw rwP (hstars (srtC b3 b1 c)) r := by
  intro L
  refine Tri.body (args := [.agg (encRw r).toArray, .pointer (some ⟨b3, 0, none⟩)]) 8 en227 Tryz.func227 rfl rfl rfl (by simp) ?_
  refine G.ent Ent.openS ?_
  simp only [List.cons_append, List.nil_append]
  repeat (first | refine runB ?_ | intro _)
  refine GO.ent (Ent.at (A := amS r.give) (Ent.at (A := obj b1 tCat c.cells) (Ent.refl _))) ?_
  refine GO.ef (Ef.callFnW rfl rfl (wf1_ok b1 c r.give.ad r.give.cap r.give.l hl hc h)) (by decide) ?_
  rintro _ _ ⟨rfl, rfl⟩
  repeat (first | refine runB ?_ | intro _)
  refine KX.ends (by exact ResOk.tmps rfl) ?_ ⟨rfl, rfl⟩
  refine Ent.trans ?_ Ent.closeS
  simp only [List.cons_append, List.nil_append]
  repeat (first | exact Ent.refl _ | exact Ent.nil _ | refine Ent.take' ?_ | refine Ent.trans Ent.drop ?_)
theorem tbP_open {t : TbV} {L : List HP} : Ent (tbP t :: L) (isl encRw 2 t.ad t.rows :: allP rwP t.rows :: tbP t :: L) := (Ent.dup (tbP_m t).pers).trans Ent.andE
theorem rows_good {n : Nat} {t : TbV} (h : TbGood n t.m) : (0 < t.rows.length ∧ t.rows.length ≤ 64) ∧ ∀ r ∈ t.rows, RwGood n r.m := by
  have h1 := h.rows
  have h2 := h.good
  simp only [TbV.m, List.length_map] at h1 h2
  exact ⟨h1, fun r hr => h2 _ (List.mem_map_of_mem hr)⟩
theorem wf3_ok (b3 b1 : Nat) (c : CatV) (hc : c.items.length ≤ 64) (t : TbV) (hB : t.B) (h : TbGood c.items.length t.m) : Passes 225 [.pointer (some ⟨b3, 0, none⟩)] encTb tbP (hstars (srtC b3 b1 c)) t := by
  intro L
  obtain ⟨⟨r1, r2⟩, r3⟩ := rows_good h
  refine Tri.body (args := [.agg (encTb t).toArray, .pointer (some ⟨b3, 0, none⟩)]) 14 en225 Tryz.func225 rfl rfl rfl (by simp) ?_
  refine G.ent (Ent.consR tbP_open) ?_
  repeat (first | refine runB ?_ | intro _)
  (first | refine GO.ef (Ef.call (everyW_ok (L := []) _ [.pointer (some ⟨b3, 0, none⟩)] (hstars (srtC b3 b1 c)) t.ad t.cap t.rows r2 (fun r hr => wf31_ok b3 b1 c hc r (hB.2 r hr) (r3 r hr).give)) rfl (by repeat (first | exact Ent.refl _ | apply Ent.take))) (by decide) ?_)
  rintro _ _ ⟨_, ⟨rfl, rfl⟩, hL⟩
  simp only [List.cons_append, List.nil_append] at hL; subst hL
  repeat (first | refine runB ?_ | intro _)
  exact KX.ends (by exact ResOk.tmps rfl) (by repeat (first | exact Ent.refl _ | exact Ent.nil _ | refine Ent.take' ?_ | refine Ent.trans Ent.drop ?_)) ⟨rfl, rfl⟩
abbrev plK6_228_6 : List Stp := [.ev 0, .ev 1, .ev 2, .ev 3, .ev 4, .ev 5, .ev 6, .ev 7, .ev 8, .ev 9, .ev 10, .ev 11, .ev 12, .ev 13]
theorem taxFormed_ok (t : TxV) (h : TxGood t.m) : Passes 228 [] encTx txP (hpure True) t := by
  intro L
  obtain ⟨h1, h2⟩ := h.brs
  change 0 < t.brs.length at h1
  change t.brs.length ≤ 16 at h2
  have h3 : t.brs[(0 : Int).toNat]!.1 = 0 := h.first
  have h4 : ∀ i, i + 1 < t.brs.length → t.brs[i]!.1 < t.brs[i + 1]!.1 := h.srt
  refine Tri.body (args := [.agg (encTx t).toArray]) 37 en228 Tryz.func228 rfl rfl rfl (by simp) ?_
  refine G.ent (L' := isl encAm 2 t.ad t.brs :: hpure True :: L) (by unfold txP; repeat (first | exact Ent.refl _ | exact Ent.nil _ | refine Ent.take' ?_ | refine Ent.trans Ent.drop ?_)) ?_
  repeat (first | refine runB ?_ | intro _ | ((with_reducible apply G.atDraw); first | refine G.draw (N := 37) (id := 6) plK6_228_6 mixed (by kernel_rfl) ?_))
  rename_i b1
  refine G.loop (α := Nat) (fun i => 1 ≤ i ∧ i ≤ t.brs.length) (fun i => [(1, .pointer (some ⟨b1, 0, none⟩)), (3, .int .i64 (i : Int))]) (fun _ => obj b1 115 (encTx t) :: isl encAm 2 t.ad t.brs :: hpure True :: L) (fun i => t.brs.length - i) 1 ⟨by omega, by omega⟩ (by repeat (first | exact EnvSub.nil _ | refine EnvSub.cons rfl ?_)) (by repeat (first | exact Ent.refl _ | exact Ent.nil _ | refine Ent.take' ?_ | refine Ent.trans Ent.drop ?_)) ?_
  rintro i ⟨hi1, hi2⟩
  by_cases hlt : i < t.brs.length
  case neg =>
    repeat (first | refine runB ?_ | intro _ | ((with_reducible apply G.atDraw); first | refine G.draw (N := 37) (id := 6) plK6_228_6 mixed (by kernel_rfl) ?_))
    refine KX.ends (by exact ResOk.tmps rfl) ?_ ⟨rfl, rfl⟩
    unfold txP
    repeat (first | exact Ent.refl _ | exact Ent.nil _ | refine Ent.take' ?_ | refine Ent.trans Ent.drop ?_)
  have h5 := h4 (i - 1) (by omega)
  rw [show i - 1 + 1 = i by omega] at h5
  have h6 : t.brs[((i : Int) - 1).toNat]!.1 < t.brs[(i : Int).toNat]!.1 := by
    rw [show ((i : Int) - 1).toNat = i - 1 by omega, show (i : Int).toNat = i by omega]
    exact h5
  repeat (first | refine runB ?_ | intro _ | ((with_reducible apply G.atDraw); first | refine G.draw (N := 37) (id := 6) plK6_228_6 mixed (by kernel_rfl) ?_))
  refine ⟨i + 1, ⟨by omega, by omega⟩, by omega, ?_, by repeat (first | exact Ent.refl _ | exact Ent.nil _ | refine Ent.take' ?_ | refine Ent.trans Ent.drop ?_)⟩
  rw [show ((i + 1 : Nat) : Int) = (i : Int) + 1 by omega]
  exact (by repeat (first | exact EnvSub.nil _ | refine EnvSub.cons rfl ?_))
set_option maxHeartbeats 1000000 in
theorem wellFormed_ok {L : List HP} (c : CatV) (hB : c.B) (h : CatGood c.m) : Tri Tryz.prog 140 #[.agg c.cells.toArray] (catS c (kindsP :: L)) (fun v L' => v = .bool true ∧ L' = catS c (kindsP :: L)) := by
  obtain ⟨l1, l2, l3, l4⟩ := lens h
  refine Tri.body (args := [.agg c.cells.toArray]) 25 en140 Tryz.func140 rfl rfl rfl (by simp) ?_
  simp only [catS]
  repeat (first | refine runB ?_ | intro _)
  rename_i b1 b3
  refine GO.ent (Ent.pure trivial (noP_ent c.items)) ?_
  simp only [CatV.cells]
  repeat (first | refine runB ?_ | intro _)
  (first | refine GO.ef (Ef.call (everyI_ok (L := []) _ [] (hpure True) c.iad c.icap c.items l1 (fun x hx => itemFormed_ok x (h.it x hx))) rfl (by repeat (first | exact Ent.refl _ | apply Ent.take))) (by decide) ?_)
  rintro _ _ ⟨_, ⟨rfl, rfl⟩, hL⟩
  simp only [List.cons_append, List.nil_append] at hL; subst hL
  repeat (first | refine runB ?_ | intro _)
  refine GO.ent (L' := hstars (srtC b3 b1 c) :: hpure True :: isl encItG 7 c.iad c.items :: isl encRu 9 c.rad c.rules :: allP ruP c.rules :: isl encTb 2 c.tad c.tables :: allP tbP c.tables :: isl encTx 2 c.xad c.taxes :: allP txP c.taxes :: kindsP :: L) ?_ ?_
  · refine Ent.trans ?_ Ent.closeS
    simp only [srtC, CatV.cells, List.cons_append, List.nil_append]
    repeat (first | exact Ent.refl _ | exact Ent.nil _ | refine Ent.take' ?_ | refine Ent.trans Ent.drop ?_)
  (first | refine GO.ef (Ef.call (everyR_ok (L := []) _ [.pointer (some ⟨b3, 0, none⟩)] (hstars (srtC b3 b1 c)) c.rad c.rcap c.rules l2 (fun r hr => wf2_ok b3 b1 c l1 r (RuV_good h r hr))) rfl (by repeat (first | exact Ent.refl _ | apply Ent.take))) (by decide) ?_)
  rintro _ _ ⟨_, ⟨rfl, rfl⟩, hL⟩
  simp only [List.cons_append, List.nil_append] at hL; subst hL
  refine GO.ent (Ent.openS (A := srtC b3 b1 c)) ?_
  simp only [srtC, CatV.cells, List.cons_append, List.nil_append]
  repeat (first | refine runB ?_ | intro _)
  refine GO.ent (L' := hstars (srtC b3 b1 c) :: hpure True :: isl encItG 7 c.iad c.items :: isl encRu 9 c.rad c.rules :: allP ruP c.rules :: isl encTb 2 c.tad c.tables :: allP tbP c.tables :: isl encTx 2 c.xad c.taxes :: allP txP c.taxes :: kindsP :: L) ?_ ?_
  · refine Ent.trans ?_ Ent.closeS
    simp only [srtC, CatV.cells, List.cons_append, List.nil_append]
    repeat (first | exact Ent.refl _ | exact Ent.nil _ | refine Ent.take' ?_ | refine Ent.trans Ent.drop ?_)
  (first | refine GO.ef (Ef.call (everyT_ok (L := []) _ [.pointer (some ⟨b3, 0, none⟩)] (hstars (srtC b3 b1 c)) c.tad c.tcap c.tables (by omega) (fun r hr => wf3_ok b3 b1 c l1 r (hB.tb r hr) (TbV_good h r hr))) rfl (by repeat (first | exact Ent.refl _ | apply Ent.take))) (by decide) ?_)
  rintro _ _ ⟨_, ⟨rfl, rfl⟩, hL⟩
  simp only [List.cons_append, List.nil_append] at hL; subst hL
  refine GO.ent (Ent.openS (A := srtC b3 b1 c)) ?_
  simp only [srtC, CatV.cells, List.cons_append, List.nil_append]
  repeat (first | refine runB ?_ | intro _)
  (first | refine GO.ef (Ef.call (everyX_ok (L := []) _ [] (hpure True) c.xad c.xcap c.taxes (by omega) (fun r hr => taxFormed_ok r (TxV_good h r hr))) rfl (by repeat (first | exact Ent.refl _ | apply Ent.take))) (by decide) ?_)
  rintro _ _ ⟨_, ⟨rfl, rfl⟩, hL⟩
  simp only [List.cons_append, List.nil_append] at hL; subst hL
  repeat (first | refine runB ?_ | intro _)
  exact KX.ends (by exact ResOk.tmps rfl) (by repeat (first | exact Ent.refl _ | exact Ent.nil _ | refine Ent.take' ?_ | refine Ent.trans Ent.drop ?_)) ⟨rfl, rfl⟩
/-! ### Ranges -/
theorem ir11_ok (a : Int × Int) (h : 1 ≤ a.2 ∧ a.2 ≤ 1099511627776) : Passes 231 [] encAm noP (hpure True) a := by
  intro L
  obtain ⟨h1, h2⟩ := h
  refine Tri.body (args := [.agg (encAm a).toArray]) 11 en231 Tryz.func231 rfl rfl rfl (by simp) ?_
  repeat (first | refine runB ?_ | intro _)
  exact KX.ends (by exact ResOk.tmps rfl) Ent.drop ⟨by rw [dB_pos h2]; rfl, rfl⟩
theorem ir1_ok {L : List HP} (n : Nat) (ad : Option Addr) (cap : Nat) (l : List (Int × Int)) (hl : l.length ≤ 64) (h : AmSrt n l) : Tri Tryz.prog 229 #[.slice ad l.length cap] (isl encAm 2 ad l :: L) (fun v L' => v = .bool true ∧ L' = isl encAm 2 ad l :: L) := by
  refine Tri.body (args := [.slice ad l.length cap]) 5 en229 Tryz.func229 rfl rfl rfl (by simp) ?_
  repeat (first | refine runB ?_ | intro _)
  refine GO.ent (Ent.pure trivial (noP_ent l)) ?_
  (first | refine GO.ef (Ef.call (everyA_ok (L := []) _ [] (hpure True) ad cap l hl (fun a ha => ir11_ok a (h.1 a ha).2.2)) rfl (by repeat (first | exact Ent.refl _ | apply Ent.take))) (by decide) ?_)
  rintro _ _ ⟨_, ⟨rfl, rfl⟩, hL⟩
  simp only [List.cons_append, List.nil_append] at hL; subst hL
  repeat (first | refine runB ?_ | intro _)
  exact KX.ends (by exact ResOk.tmps rfl) (by repeat (first | exact Ent.refl _ | exact Ent.nil _ | refine Ent.take' ?_ | refine Ent.trans Ent.drop ?_)) ⟨rfl, rfl⟩
theorem itemInRange_ok (x : ItG) (h : ItGood x) : Passes 232 [] encItG noP (hpure True) x := by
  intro L
  obtain ⟨h1, h2, h3⟩ := h.num
  refine Tri.body (args := [.agg (encItG x).toArray]) 26 en232 Tryz.func232 rfl rfl rfl (by simp) ?_
  cases hx : x.obj with
  | true =>
    obtain ⟨f1, f2⟩ := h1 hx
    have e : encItG x = [.string x.name, .bool true, .bool x.mixed, .bool x.coin, .int .i64 x.wear, .int .i64 x.bind, .int .i64 x.level] := by unfold encItG; rw [hx]
    rw [e]
    repeat (first | refine runB ?_ | intro _)
    exact KX.ends (by exact ResOk.tmps rfl) Ent.drop ⟨by rw [dB_pos h3]; rfl, rfl⟩
  | false =>
    have e : encItG x = [.string x.name, .bool false, .bool x.mixed, .bool x.coin, .int .i64 x.wear, .int .i64 x.bind, .int .i64 x.level] := by unfold encItG; rw [hx]
    rw [e]
    repeat (first | refine runB ?_ | intro _)
    exact KX.ends (by exact ResOk.tmps rfl) Ent.drop ⟨by rw [dB_pos h3]; rfl, rfl⟩
theorem ruleInRange_ok {L : List HP} (n : Nat) (r : RuV) (h : RuGood n r.m) : Tri Tryz.prog 234 #[.agg (encRu r).toArray] L (fun v L' => v = .bool true ∧ L' = L) := by
  obtain ⟨⟨h1, h2⟩, ⟨h3, h4⟩, ⟨h5, h6⟩, h7, h8⟩ := h.num
  change 0 ≤ r.level at h1
  change r.level ≤ 100 at h2
  change 0 ≤ r.time at h3
  change r.time ≤ 1000000 at h4
  change 1 ≤ r.of_ at h5
  change r.of_ ≤ 1000000 at h6
  change 1 ≤ r.chance at h7
  change r.chance ≤ r.of_ at h8
  refine Tri.body (args := [.agg (encRu r).toArray]) 43 en234 Tryz.func234 rfl rfl rfl (by simp) ?_
  repeat (first | refine runB ?_ | intro _)
  exact KX.ends (by exact ResOk.tmps rfl) Ent.drop ⟨by rw [dB_pos h8]; rfl, rfl⟩
abbrev untC (b3 : Nat) : HP := obj b3 tSrt [.func (.func 229) #[] #[]]
set_option maxHeartbeats 1000000 in
theorem ir2_ok (b3 n : Nat) (r : RuV) (h : RuGood n r.m) : Passes 233 [.pointer (some ⟨b3, 0, none⟩)] encRu ruP (untC b3) r := by
  intro L
  have hl := h.lim
  change r.take.l.length + r.give.l.length ≤ 64 ∧ r.take.l.length + r.back.l.length ≤ 64 at hl
  refine Tri.body (args := [.agg (encRu r).toArray, .pointer (some ⟨b3, 0, none⟩)]) 24 en233 Tryz.func233 rfl rfl rfl (by simp) ?_
  refine G.ent (Ent.consR ruP_open) ?_
  repeat (first | refine runB ?_ | intro _)
  refine GO.ent (Ent.at (A := amS r.take) (Ent.refl _)) ?_
  refine GO.ef (Ef.callFnW rfl rfl (ir1_ok n r.take.ad r.take.cap r.take.l (by omega) h.take)) (by decide) ?_
  rintro _ _ ⟨rfl, rfl⟩
  repeat (first | refine runB ?_ | intro _)
  refine GO.ent (Ent.at (A := amS r.give) (Ent.refl _)) ?_
  refine GO.ef (Ef.callFnW rfl rfl (ir1_ok n r.give.ad r.give.cap r.give.l (by omega) h.give)) (by decide) ?_
  rintro _ _ ⟨rfl, rfl⟩
  repeat (first | refine runB ?_ | intro _)
  refine GO.ent (Ent.at (A := amS r.back) (Ent.refl _)) ?_
  refine GO.ef (Ef.callFnW rfl rfl (ir1_ok n r.back.ad r.back.cap r.back.l (by omega) h.back)) (by decide) ?_
  rintro _ _ ⟨rfl, rfl⟩
  repeat (first | refine runB ?_ | intro _)
  refine GO.ef (Ef.callAll (ruleInRange_ok n r h) rfl) (by decide) ?_
  rintro _ _ ⟨rfl, rfl⟩
  repeat (first | refine runB ?_ | intro _)
  exact KX.ends (by exact ResOk.tmps rfl) (by repeat (first | exact Ent.refl _ | exact Ent.nil _ | refine Ent.take' ?_ | refine Ent.trans Ent.drop ?_)) ⟨rfl, rfl⟩
theorem wir1_ok (n : Nat) (r : RwV) (h : RwGood n r.m) : Passes 276 [] encRw rwP (hpure True) r := by
  intro L
  obtain ⟨h1, h2⟩ := h.num
  change 1 ≤ r.weight at h1
  change r.weight ≤ 1099511627776 at h2
  refine Tri.body (args := [.agg (encRw r).toArray]) 11 en276 Tryz.func276 rfl rfl rfl (by simp) ?_
  repeat (first | refine runB ?_ | intro _)
  exact KX.ends (by exact ResOk.tmps rfl) Ent.drop ⟨by rw [dB_pos h2]; rfl, rfl⟩
theorem weightsInRange_ok {L : List HP} (n : Nat) (t : TbV) (h : TbGood n t.m) : Tri Tryz.prog 236 #[.agg (encTb t).toArray] (tbP t :: L) (fun v L' => v = .bool true ∧ L' = tbP t :: L) := by
  obtain ⟨⟨r1, r2⟩, r3⟩ := rows_good h
  refine Tri.body (args := [.agg (encTb t).toArray]) 6 en236 Tryz.func236 rfl rfl rfl (by simp) ?_
  refine G.ent tbP_open ?_
  repeat (first | refine runB ?_ | intro _)
  refine GO.ent (Ent.pure trivial (Ent.refl _)) ?_
  (first | refine GO.ef (Ef.call (everyW_ok (L := []) _ [] (hpure True) t.ad t.cap t.rows r2 (fun r hr => wir1_ok n r (r3 r hr))) rfl (by repeat (first | exact Ent.refl _ | apply Ent.take))) (by decide) ?_)
  rintro _ _ ⟨_, ⟨rfl, rfl⟩, hL⟩
  simp only [List.cons_append, List.nil_append] at hL; subst hL
  repeat (first | refine runB ?_ | intro _)
  exact KX.ends (by exact ResOk.tmps rfl) (by repeat (first | exact Ent.refl _ | exact Ent.nil _ | refine Ent.take' ?_ | refine Ent.trans Ent.drop ?_)) ⟨rfl, rfl⟩
theorem ir31_ok (b3 n : Nat) (r : RwV) (hl : r.give.l.length ≤ 64) (h : AmSrt n r.give.l) : Passes 237 [.pointer (some ⟨b3, 0, none⟩)] encRw rwP (untC b3) r := by
  intro L
  refine Tri.body (args := [.agg (encRw r).toArray, .pointer (some ⟨b3, 0, none⟩)]) 8 en237 Tryz.func237 rfl rfl rfl (by simp) ?_
  repeat (first | refine runB ?_ | intro _)
  refine GO.ent (Ent.at (A := amS r.give) (Ent.refl _)) ?_
  refine GO.ef (Ef.callFnW rfl rfl (ir1_ok n r.give.ad r.give.cap r.give.l hl h)) (by decide) ?_
  rintro _ _ ⟨rfl, rfl⟩
  repeat (first | refine runB ?_ | intro _)
  exact KX.ends (by exact ResOk.tmps rfl) (by repeat (first | exact Ent.refl _ | exact Ent.nil _ | refine Ent.take' ?_ | refine Ent.trans Ent.drop ?_)) ⟨rfl, rfl⟩
theorem ir3_ok (b3 n : Nat) (t : TbV) (hB : t.B) (h : TbGood n t.m) : Passes 235 [.pointer (some ⟨b3, 0, none⟩)] encTb tbP (untC b3) t := by
  intro L
  obtain ⟨⟨r1, r2⟩, r3⟩ := rows_good h
  refine Tri.body (args := [.agg (encTb t).toArray, .pointer (some ⟨b3, 0, none⟩)]) 12 en235 Tryz.func235 rfl rfl rfl (by simp) ?_
  repeat (first | refine runB ?_ | intro _)
  (first | refine GO.ef (Ef.call (weightsInRange_ok (L := []) n t h) rfl (by repeat (first | exact Ent.refl _ | apply Ent.take))) (by decide) ?_)
  rintro _ _ ⟨_, ⟨rfl, rfl⟩, hL⟩
  simp only [List.cons_append, List.nil_append] at hL; subst hL
  refine GO.ent tbP_open ?_
  repeat (first | refine runB ?_ | intro _)
  (first | refine GO.ef (Ef.call (everyW_ok (L := []) _ [.pointer (some ⟨b3, 0, none⟩)] (untC b3) t.ad t.cap t.rows r2 (fun r hr => ir31_ok b3 n r (hB.2 r hr) (r3 r hr).give)) rfl (by repeat (first | exact Ent.refl _ | apply Ent.take))) (by decide) ?_)
  rintro _ _ ⟨_, ⟨rfl, rfl⟩, hL⟩
  simp only [List.cons_append, List.nil_append] at hL; subst hL
  repeat (first | refine runB ?_ | intro _)
  exact KX.ends (by exact ResOk.tmps rfl) (by repeat (first | exact Ent.refl _ | exact Ent.nil _ | refine Ent.take' ?_ | refine Ent.trans Ent.drop ?_)) ⟨rfl, rfl⟩
theorem tir1_ok (b : Int × Int) (h : (0 ≤ b.1 ∧ b.1 ≤ 1099511627776) ∧ 0 ≤ b.2 ∧ b.2 ≤ 10000) : Passes 278 [] encAm noP (hpure True) b := by
  intro L
  obtain ⟨⟨h1, h2⟩, h3, h4⟩ := h
  refine Tri.body (args := [.agg (encAm b).toArray]) 21 en278 Tryz.func278 rfl rfl rfl (by simp) ?_
  repeat (first | refine runB ?_ | intro _)
  exact KX.ends (by exact ResOk.tmps rfl) Ent.drop ⟨by rw [dB_pos h4]; rfl, rfl⟩
theorem taxInRange_ok (t : TxV) (h : TxGood t.m) : Passes 238 [] encTx txP (hpure True) t := by
  intro L
  obtain ⟨h1, h2⟩ := h.brs
  change 0 < t.brs.length at h1
  change t.brs.length ≤ 16 at h2
  refine Tri.body (args := [.agg (encTx t).toArray]) 6 en238 Tryz.func238 rfl rfl rfl (by simp) ?_
  refine G.ent (L' := isl encAm 2 t.ad t.brs :: hpure True :: L) (by unfold txP; repeat (first | exact Ent.refl _ | exact Ent.nil _ | refine Ent.take' ?_ | refine Ent.trans Ent.drop ?_)) ?_
  repeat (first | refine runB ?_ | intro _)
  refine GO.ent (noP_ent t.brs) ?_
  (first | refine GO.ef (Ef.call (everyB_ok (L := []) _ [] (hpure True) t.ad t.cap t.brs (by omega) (fun b hb => tir1_ok b (h.num b hb))) rfl (by repeat (first | exact Ent.refl _ | apply Ent.take))) (by decide) ?_)
  rintro _ _ ⟨_, ⟨rfl, rfl⟩, hL⟩
  simp only [List.cons_append, List.nil_append] at hL; subst hL
  repeat (first | refine runB ?_ | intro _)
  refine KX.ends (by exact ResOk.tmps rfl) ?_ ⟨rfl, rfl⟩
  unfold txP
  repeat (first | exact Ent.refl _ | exact Ent.nil _ | refine Ent.take' ?_ | refine Ent.trans Ent.drop ?_)
set_option maxHeartbeats 1000000 in
theorem inRange_ok {L : List HP} (c : CatV) (hB : c.B) (h : CatGood c.m) : Tri Tryz.prog 141 #[.agg c.cells.toArray] (catS c (kindsP :: L)) (fun v L' => v = .bool true ∧ L' = catS c (kindsP :: L)) := by
  obtain ⟨l1, l2, l3, l4⟩ := lens h
  refine Tri.body (args := [.agg c.cells.toArray]) 24 en141 Tryz.func141 rfl rfl rfl (by simp) ?_
  simp only [catS, CatV.cells]
  repeat (first | refine runB ?_ | intro _)
  rename_i b1 b3
  refine GO.ent (Ent.pure trivial (noP_ent c.items)) ?_
  (first | refine GO.ef (Ef.call (everyI_ok (L := []) _ [] (hpure True) c.iad c.icap c.items l1 (fun x hx => itemInRange_ok x (h.it x hx))) rfl (by repeat (first | exact Ent.refl _ | apply Ent.take))) (by decide) ?_)
  rintro _ _ ⟨_, ⟨rfl, rfl⟩, hL⟩
  simp only [List.cons_append, List.nil_append] at hL; subst hL
  repeat (first | refine runB ?_ | intro _)
  (first | refine GO.ef (Ef.call (everyR_ok (L := []) _ [.pointer (some ⟨b3, 0, none⟩)] (untC b3) c.rad c.rcap c.rules l2 (fun r hr => ir2_ok b3 _ r (RuV_good h r hr))) rfl (by repeat (first | exact Ent.refl _ | apply Ent.take))) (by decide) ?_)
  rintro _ _ ⟨_, ⟨rfl, rfl⟩, hL⟩
  simp only [List.cons_append, List.nil_append] at hL; subst hL
  repeat (first | refine runB ?_ | intro _)
  (first | refine GO.ef (Ef.call (everyT_ok (L := []) _ [.pointer (some ⟨b3, 0, none⟩)] (untC b3) c.tad c.tcap c.tables (by omega) (fun r hr => ir3_ok b3 _ r (hB.tb r hr) (TbV_good h r hr))) rfl (by repeat (first | exact Ent.refl _ | apply Ent.take))) (by decide) ?_)
  rintro _ _ ⟨_, ⟨rfl, rfl⟩, hL⟩
  simp only [List.cons_append, List.nil_append] at hL; subst hL
  repeat (first | refine runB ?_ | intro _)
  (first | refine GO.ef (Ef.call (everyX_ok (L := []) _ [] (hpure True) c.xad c.xcap c.taxes (by omega) (fun r hr => taxInRange_ok r (TxV_good h r hr))) rfl (by repeat (first | exact Ent.refl _ | apply Ent.take))) (by decide) ?_)
  rintro _ _ ⟨_, ⟨rfl, rfl⟩, hL⟩
  simp only [List.cons_append, List.nil_append] at hL; subst hL
  repeat (first | refine runB ?_ | intro _)
  exact KX.ends (by exact ResOk.tmps rfl) (by repeat (first | exact Ent.refl _ | exact Ent.nil _ | refine Ent.take' ?_ | refine Ent.trans Ent.drop ?_)) ⟨rfl, rfl⟩
theorem cvalid_ok {L : List HP} (c : CatV) (hB : c.B) (h : CatGood c.m) : Tri Tryz.prog 93 #[.agg c.cells.toArray] (catP c :: kindsP :: L) (fun v L' => v = .int .i64 0 ∧ L' = catP c :: kindsP :: L) := by
  refine Tri.body (args := [.agg c.cells.toArray]) 23 en93 Tryz.func93 rfl rfl rfl (by simp) ?_
  refine G.ent (L' := catS c (kindsP :: catP c :: L)) (catS_open.trans (by simp only [catS]; repeat (first | exact Ent.refl _ | exact Ent.nil _ | refine Ent.take' ?_ | refine Ent.trans Ent.drop ?_))) ?_
  simp only [CatV.cells]
  repeat (first | refine runB ?_ | intro _)
  rename_i b1
  refine GO.ent (L' := catS c (kindsP :: obj b1 tCat c.cells :: catP c :: L)) (by simp only [catS, CatV.cells]; repeat (first | exact Ent.refl _ | exact Ent.nil _ | refine Ent.take' ?_ | refine Ent.trans Ent.drop ?_)) ?_
  refine GO.ef (Ef.callAll (withinLimits_ok c h) rfl) (by decide) ?_
  rintro _ _ ⟨rfl, rfl⟩
  simp only [catS, CatV.cells]
  repeat (first | refine runB ?_ | intro _)
  refine GO.ent (L' := catS c (kindsP :: obj b1 tCat c.cells :: catP c :: L)) (by simp only [catS, CatV.cells]; repeat (first | exact Ent.refl _ | exact Ent.nil _ | refine Ent.take' ?_ | refine Ent.trans Ent.drop ?_)) ?_
  refine GO.ef (Ef.callAll (namesFit_ok c h) rfl) (by decide) ?_
  rintro _ _ ⟨rfl, rfl⟩
  simp only [catS, CatV.cells]
  repeat (first | refine runB ?_ | intro _)
  refine GO.ent (L' := catS c (kindsP :: obj b1 tCat c.cells :: catP c :: L)) (by simp only [catS, CatV.cells]; repeat (first | exact Ent.refl _ | exact Ent.nil _ | refine Ent.take' ?_ | refine Ent.trans Ent.drop ?_)) ?_
  refine GO.ef (Ef.callAll (namesDiffer_ok c h) rfl) (by decide) ?_
  rintro _ _ ⟨rfl, rfl⟩
  simp only [catS, CatV.cells]
  repeat (first | refine runB ?_ | intro _)
  refine GO.ent (L' := catS c (kindsP :: obj b1 tCat c.cells :: catP c :: L)) (by simp only [catS, CatV.cells]; repeat (first | exact Ent.refl _ | exact Ent.nil _ | refine Ent.take' ?_ | refine Ent.trans Ent.drop ?_)) ?_
  refine GO.ef (Ef.callAll (wellFormed_ok c hB h) rfl) (by decide) ?_
  rintro _ _ ⟨rfl, rfl⟩
  simp only [catS, CatV.cells]
  repeat (first | refine runB ?_ | intro _)
  refine GO.ent (L' := catS c (kindsP :: obj b1 tCat c.cells :: catP c :: L)) (by simp only [catS, CatV.cells]; repeat (first | exact Ent.refl _ | exact Ent.nil _ | refine Ent.take' ?_ | refine Ent.trans Ent.drop ?_)) ?_
  refine GO.ef (Ef.callAll (inRange_ok c hB h) rfl) (by decide) ?_
  rintro _ _ ⟨rfl, rfl⟩
  simp only [catS, CatV.cells]
  repeat (first | refine runB ?_ | intro _)
  refine KX.ends (by exact ResOk.tmps rfl) ?_ ⟨rfl, rfl⟩
  repeat (first | exact Ent.refl _ | exact Ent.nil _ | refine Ent.take' ?_ | refine Ent.trans Ent.drop ?_)
end Go.Proofs.YtfmgkkofledkbaaGreatDoor

namespace Go.V
theorem Ent.objIsl {L R : List HP} {α : Type} {enc : α → List Value} {sz b T : Nat} {cs : List Value} [h : PickObj L b T cs R] (xs : List α) (hc : cs = xs.flatMap enc) (hs : ∀ x ∈ xs, (enc x).length = sz) (hm : xs.length ≤ 9223372036854775807) : Ent L (isl enc sz (some ⟨b, 0, none⟩) xs :: R) :=
  (Ent.perm h.perm).trans ((Ent.objSl hc rfl hs hm).trans Ent.freezeSl)
end Go.V
namespace Go.Proofs.YtfmgkkofledkbaaGreatDoor
open Go.V
attribute [local irreducible] G GO GP GPW GPK Ev Ef EfR Ent CB GB V.Enters
theorem ru_intro {r : RuV} {L : List HP} : Ent (amS r.take :: amS r.give :: amS r.back :: L) (ruP r :: L) := (Ent.consR (Ent.andI (amS_m _) (amS_m _))).trans (Ent.andI (amS_m _) ((amS_m _).and (amS_m _)))

def it16 : List ItG := [⟨⟨#[103, 111, 108, 100]⟩, false, true, true, 0, 0, 0⟩, ⟨⟨#[111, 114, 101]⟩, false, false, false, 0, 0, 0⟩, ⟨⟨#[99, 111, 97, 108]⟩, false, true, false, 0, 0, 0⟩, ⟨⟨#[98, 97, 114]⟩, false, false, false, 0, 0, 0⟩, ⟨⟨#[115, 119, 111, 114, 100]⟩, true, false, false, 20, 2, 3⟩]
def cat16 : CatM := ⟨it16, [⟨⟨#[100, 105, 103]⟩, true, 0, 0, 1, 1, [], [(1, 4), (2, 3)], []⟩, ⟨⟨#[115, 109, 101, 108, 116]⟩, false, 2, 5, 2, 3, [(1, 2), (2, 1)], [(3, 1)], [(1, 1)]⟩, ⟨⟨#[102, 111, 114, 103, 101]⟩, false, 3, 10, 1, 1, [(3, 3)], [(4, 1)], []⟩, ⟨⟨#[115, 99, 114, 97, 112]⟩, false, 0, 1, 1, 1, [(4, 1)], [(3, 3)], []⟩, ⟨⟨#[115, 101, 108, 108]⟩, false, 0, 1, 1, 1, [(3, 1)], [(0, 7)], []⟩], [⟨⟨#[99, 104, 101, 115, 116]⟩, [⟨5, [(0, 10)]⟩, ⟨1, [(3, 2)]⟩]⟩], [⟨⟨#[115, 97, 108, 101]⟩, [(0, 500), (100, 1000)]⟩]⟩
abbrev ru16_0 (bi g0 t1 g1 k1 t2 g2 t3 g3 t4 g4 br w0 w1 bw bt bb bx : Nat) : RuV := ⟨⟨#[100, 105, 103]⟩, true, 0, 0, 1, 1, ⟨[], none, 0⟩, ⟨[(1, 4), (2, 3)], some ⟨g0, 0, none⟩, 2⟩, ⟨[], none, 0⟩⟩
abbrev ru16_1 (bi g0 t1 g1 k1 t2 g2 t3 g3 t4 g4 br w0 w1 bw bt bb bx : Nat) : RuV := ⟨⟨#[115, 109, 101, 108, 116]⟩, false, 2, 5, 2, 3, ⟨[(1, 2), (2, 1)], some ⟨t1, 0, none⟩, 2⟩, ⟨[(3, 1)], some ⟨g1, 0, none⟩, 1⟩, ⟨[(1, 1)], some ⟨k1, 0, none⟩, 1⟩⟩
abbrev ru16_2 (bi g0 t1 g1 k1 t2 g2 t3 g3 t4 g4 br w0 w1 bw bt bb bx : Nat) : RuV := ⟨⟨#[102, 111, 114, 103, 101]⟩, false, 3, 10, 1, 1, ⟨[(3, 3)], some ⟨t2, 0, none⟩, 1⟩, ⟨[(4, 1)], some ⟨g2, 0, none⟩, 1⟩, ⟨[], none, 0⟩⟩
abbrev ru16_3 (bi g0 t1 g1 k1 t2 g2 t3 g3 t4 g4 br w0 w1 bw bt bb bx : Nat) : RuV := ⟨⟨#[115, 99, 114, 97, 112]⟩, false, 0, 1, 1, 1, ⟨[(4, 1)], some ⟨t3, 0, none⟩, 1⟩, ⟨[(3, 3)], some ⟨g3, 0, none⟩, 1⟩, ⟨[], none, 0⟩⟩
abbrev ru16_4 (bi g0 t1 g1 k1 t2 g2 t3 g3 t4 g4 br w0 w1 bw bt bb bx : Nat) : RuV := ⟨⟨#[115, 101, 108, 108]⟩, false, 0, 1, 1, 1, ⟨[(3, 1)], some ⟨t4, 0, none⟩, 1⟩, ⟨[(0, 7)], some ⟨g4, 0, none⟩, 1⟩, ⟨[], none, 0⟩⟩
abbrev rw16_0 (bi g0 t1 g1 k1 t2 g2 t3 g3 t4 g4 br w0 w1 bw bt bb bx : Nat) : RwV := ⟨5, ⟨[(0, 10)], some ⟨w0, 0, none⟩, 1⟩⟩
abbrev rw16_1 (bi g0 t1 g1 k1 t2 g2 t3 g3 t4 g4 br w0 w1 bw bt bb bx : Nat) : RwV := ⟨1, ⟨[(3, 2)], some ⟨w1, 0, none⟩, 1⟩⟩
abbrev tb16 (bi g0 t1 g1 k1 t2 g2 t3 g3 t4 g4 br w0 w1 bw bt bb bx : Nat) : TbV := ⟨⟨#[99, 104, 101, 115, 116]⟩, [rw16_0 bi g0 t1 g1 k1 t2 g2 t3 g3 t4 g4 br w0 w1 bw bt bb bx, rw16_1 bi g0 t1 g1 k1 t2 g2 t3 g3 t4 g4 br w0 w1 bw bt bb bx], some ⟨bw, 0, none⟩, 2⟩
abbrev tx16 (bi g0 t1 g1 k1 t2 g2 t3 g3 t4 g4 br w0 w1 bw bt bb bx : Nat) : TxV := ⟨⟨#[115, 97, 108, 101]⟩, [(0, 500), (100, 1000)], some ⟨bb, 0, none⟩, 2⟩
def cat16V (bi g0 t1 g1 k1 t2 g2 t3 g3 t4 g4 br w0 w1 bw bt bb bx : Nat) : CatV := ⟨it16, some ⟨bi, 0, none⟩, 5, [ru16_0 bi g0 t1 g1 k1 t2 g2 t3 g3 t4 g4 br w0 w1 bw bt bb bx, ru16_1 bi g0 t1 g1 k1 t2 g2 t3 g3 t4 g4 br w0 w1 bw bt bb bx, ru16_2 bi g0 t1 g1 k1 t2 g2 t3 g3 t4 g4 br w0 w1 bw bt bb bx, ru16_3 bi g0 t1 g1 k1 t2 g2 t3 g3 t4 g4 br w0 w1 bw bt bb bx, ru16_4 bi g0 t1 g1 k1 t2 g2 t3 g3 t4 g4 br w0 w1 bw bt bb bx], some ⟨br, 0, none⟩, 5, [tb16 bi g0 t1 g1 k1 t2 g2 t3 g3 t4 g4 br w0 w1 bw bt bb bx], some ⟨bt, 0, none⟩, 1, [tx16 bi g0 t1 g1 k1 t2 g2 t3 g3 t4 g4 br w0 w1 bw bt bb bx], some ⟨bx, 0, none⟩, 1⟩
theorem cat16V_m (bi g0 t1 g1 k1 t2 g2 t3 g3 t4 g4 br w0 w1 bw bt bb bx : Nat) : (cat16V bi g0 t1 g1 k1 t2 g2 t3 g3 t4 g4 br w0 w1 bw bt bb bx).m = cat16 := rfl
theorem cat16V_B (bi g0 t1 g1 k1 t2 g2 t3 g3 t4 g4 br w0 w1 bw bt bb bx : Nat) : (cat16V bi g0 t1 g1 k1 t2 g2 t3 g3 t4 g4 br w0 w1 bw bt bb bx).B := by
  refine ⟨Nat.le_of_ble_eq_true rfl, Nat.le_of_ble_eq_true rfl, Nat.le_of_ble_eq_true rfl, Nat.le_of_ble_eq_true rfl, ?_, ?_, ?_⟩
  · intro r hr
    simp only [cat16V, List.mem_cons, List.not_mem_nil, or_false] at hr
    rcases hr with rfl | rfl | rfl | rfl | rfl <;> exact ⟨Nat.le_of_ble_eq_true rfl, Nat.le_of_ble_eq_true rfl, Nat.le_of_ble_eq_true rfl⟩
  · intro r hr
    simp only [cat16V, List.mem_cons, List.not_mem_nil, or_false] at hr
    subst hr
    refine ⟨Nat.le_of_ble_eq_true rfl, ?_⟩
    intro w hw
    simp only [tb16, List.mem_cons, List.not_mem_nil, or_false] at hw
    rcases hw with rfl | rfl <;> exact Nat.le_of_ble_eq_true rfl
  · intro r hr
    simp only [cat16V, List.mem_cons, List.not_mem_nil, or_false] at hr
    subst hr
    exact Nat.le_of_ble_eq_true rfl
set_option maxHeartbeats 4000000 in
theorem catalog16_spec {L : List HP} : Tri Tryz.prog 11 #[] L (fun v L' => ∃ c : CatV, v = .agg c.cells.toArray ∧ (c.m = cat16 ∧ c.B) ∧ L' = catP c :: L) := by
  refine Tri.body (args := []) 50 en11 Tryz.func11 rfl rfl rfl (by simp) ?_
  repeat (first | refine runB ?_ | intro _)
  rename_i b0 bi g0 t1 g1 k1 t2 g2 t3 g3 t4 g4 br w0 w1 bw bt bb bx
  refine KX.ends (vs := [.agg (cat16V bi g0 t1 g1 k1 t2 g2 t3 g3 t4 g4 br w0 w1 bw bt bb bx).cells.toArray]) (ResOk.cell rfl (by rfl) ResOk.nil) ?_ ⟨cat16V bi g0 t1 g1 k1 t2 g2 t3 g3 t4 g4 br w0 w1 bw bt bb bx, rfl, ⟨cat16V_m .., cat16V_B ..⟩, rfl⟩
  refine (Ent.objIsl (b := g0) (enc := encAm) (sz := 2) [(1, 4), (2, 3)] rfl (fun _ _ => rfl) (Nat.le_of_ble_eq_true rfl)).trans ?_
  refine (Ent.objIsl (b := t1) (enc := encAm) (sz := 2) [(1, 2), (2, 1)] rfl (fun _ _ => rfl) (Nat.le_of_ble_eq_true rfl)).trans ?_
  refine (Ent.objIsl (b := g1) (enc := encAm) (sz := 2) [(3, 1)] rfl (fun _ _ => rfl) (Nat.le_of_ble_eq_true rfl)).trans ?_
  refine (Ent.objIsl (b := k1) (enc := encAm) (sz := 2) [(1, 1)] rfl (fun _ _ => rfl) (Nat.le_of_ble_eq_true rfl)).trans ?_
  refine (Ent.objIsl (b := t2) (enc := encAm) (sz := 2) [(3, 3)] rfl (fun _ _ => rfl) (Nat.le_of_ble_eq_true rfl)).trans ?_
  refine (Ent.objIsl (b := g2) (enc := encAm) (sz := 2) [(4, 1)] rfl (fun _ _ => rfl) (Nat.le_of_ble_eq_true rfl)).trans ?_
  refine (Ent.objIsl (b := t3) (enc := encAm) (sz := 2) [(4, 1)] rfl (fun _ _ => rfl) (Nat.le_of_ble_eq_true rfl)).trans ?_
  refine (Ent.objIsl (b := g3) (enc := encAm) (sz := 2) [(3, 3)] rfl (fun _ _ => rfl) (Nat.le_of_ble_eq_true rfl)).trans ?_
  refine (Ent.objIsl (b := t4) (enc := encAm) (sz := 2) [(3, 1)] rfl (fun _ _ => rfl) (Nat.le_of_ble_eq_true rfl)).trans ?_
  refine (Ent.objIsl (b := g4) (enc := encAm) (sz := 2) [(0, 7)] rfl (fun _ _ => rfl) (Nat.le_of_ble_eq_true rfl)).trans ?_
  refine (Ent.objIsl (b := w0) (enc := encAm) (sz := 2) [(0, 10)] rfl (fun _ _ => rfl) (Nat.le_of_ble_eq_true rfl)).trans ?_
  refine (Ent.objIsl (b := w1) (enc := encAm) (sz := 2) [(3, 2)] rfl (fun _ _ => rfl) (Nat.le_of_ble_eq_true rfl)).trans ?_
  refine (Ent.objIsl (b := bb) (enc := encAm) (sz := 2) [(0, 500), (100, 1000)] rfl (fun _ _ => rfl) (Nat.le_of_ble_eq_true rfl)).trans ?_
  refine (Ent.objIsl (b := bi) (enc := encItG) (sz := 7) it16 rfl (fun _ _ => rfl) (Nat.le_of_ble_eq_true rfl)).trans ?_
  refine (Ent.objIsl (b := br) (enc := encRu) (sz := 9) [ru16_0 bi g0 t1 g1 k1 t2 g2 t3 g3 t4 g4 br w0 w1 bw bt bb bx, ru16_1 bi g0 t1 g1 k1 t2 g2 t3 g3 t4 g4 br w0 w1 bw bt bb bx, ru16_2 bi g0 t1 g1 k1 t2 g2 t3 g3 t4 g4 br w0 w1 bw bt bb bx, ru16_3 bi g0 t1 g1 k1 t2 g2 t3 g3 t4 g4 br w0 w1 bw bt bb bx, ru16_4 bi g0 t1 g1 k1 t2 g2 t3 g3 t4 g4 br w0 w1 bw bt bb bx] rfl (fun _ _ => rfl) (Nat.le_of_ble_eq_true rfl)).trans ?_
  refine (Ent.objIsl (b := bw) (enc := encRw) (sz := 2) [rw16_0 bi g0 t1 g1 k1 t2 g2 t3 g3 t4 g4 br w0 w1 bw bt bb bx, rw16_1 bi g0 t1 g1 k1 t2 g2 t3 g3 t4 g4 br w0 w1 bw bt bb bx] rfl (fun _ _ => rfl) (Nat.le_of_ble_eq_true rfl)).trans ?_
  refine (Ent.objIsl (b := bt) (enc := encTb) (sz := 2) [tb16 bi g0 t1 g1 k1 t2 g2 t3 g3 t4 g4 br w0 w1 bw bt bb bx] rfl (fun _ _ => rfl) (Nat.le_of_ble_eq_true rfl)).trans ?_
  refine (Ent.objIsl (b := bx) (enc := encTx) (sz := 2) [tx16 bi g0 t1 g1 k1 t2 g2 t3 g3 t4 g4 br w0 w1 bw bt bb bx] rfl (fun _ _ => rfl) (Nat.le_of_ble_eq_true rfl)).trans ?_
  refine (Ent.nilIsl encAm 2 none).trans ?_
  refine (Ent.at (A := isl encAm 2 (some ⟨g4, 0, none⟩) [(0, 7)]) (Ent.refl _)).trans ?_
  refine (Ent.at (A := isl encAm 2 (some ⟨t4, 0, none⟩) [(3, 1)]) (Ent.refl _)).trans ?_
  refine (ru_intro (r := ru16_4 bi g0 t1 g1 k1 t2 g2 t3 g3 t4 g4 br w0 w1 bw bt bb bx)).trans ?_
  refine (Ent.allP_one (f := ruP) ruP_m).trans ?_
  refine (Ent.nilIsl encAm 2 none).trans ?_
  refine (Ent.at (A := isl encAm 2 (some ⟨g3, 0, none⟩) [(3, 3)]) (Ent.refl _)).trans ?_
  refine (Ent.at (A := isl encAm 2 (some ⟨t3, 0, none⟩) [(4, 1)]) (Ent.refl _)).trans ?_
  refine (ru_intro (r := ru16_3 bi g0 t1 g1 k1 t2 g2 t3 g3 t4 g4 br w0 w1 bw bt bb bx)).trans ?_
  refine (Ent.allP_cons (f := ruP) ruP_m).trans ?_
  refine (Ent.nilIsl encAm 2 none).trans ?_
  refine (Ent.at (A := isl encAm 2 (some ⟨g2, 0, none⟩) [(4, 1)]) (Ent.refl _)).trans ?_
  refine (Ent.at (A := isl encAm 2 (some ⟨t2, 0, none⟩) [(3, 3)]) (Ent.refl _)).trans ?_
  refine (ru_intro (r := ru16_2 bi g0 t1 g1 k1 t2 g2 t3 g3 t4 g4 br w0 w1 bw bt bb bx)).trans ?_
  refine (Ent.allP_cons (f := ruP) ruP_m).trans ?_
  refine (Ent.at (A := isl encAm 2 (some ⟨k1, 0, none⟩) [(1, 1)]) (Ent.refl _)).trans ?_
  refine (Ent.at (A := isl encAm 2 (some ⟨g1, 0, none⟩) [(3, 1)]) (Ent.refl _)).trans ?_
  refine (Ent.at (A := isl encAm 2 (some ⟨t1, 0, none⟩) [(1, 2), (2, 1)]) (Ent.refl _)).trans ?_
  refine (ru_intro (r := ru16_1 bi g0 t1 g1 k1 t2 g2 t3 g3 t4 g4 br w0 w1 bw bt bb bx)).trans ?_
  refine (Ent.allP_cons (f := ruP) ruP_m).trans ?_
  refine (Ent.nilIsl encAm 2 none).trans ?_
  refine (Ent.at (A := isl encAm 2 (some ⟨g0, 0, none⟩) [(1, 4), (2, 3)]) (Ent.refl _)).trans ?_
  refine (Ent.nilIsl encAm 2 none).trans ?_
  refine (ru_intro (r := ru16_0 bi g0 t1 g1 k1 t2 g2 t3 g3 t4 g4 br w0 w1 bw bt bb bx)).trans ?_
  refine (Ent.allP_cons (f := ruP) ruP_m).trans ?_
  refine (Ent.at (A := isl encRu 9 (some ⟨br, 0, none⟩) [ru16_0 bi g0 t1 g1 k1 t2 g2 t3 g3 t4 g4 br w0 w1 bw bt bb bx, ru16_1 bi g0 t1 g1 k1 t2 g2 t3 g3 t4 g4 br w0 w1 bw bt bb bx, ru16_2 bi g0 t1 g1 k1 t2 g2 t3 g3 t4 g4 br w0 w1 bw bt bb bx, ru16_3 bi g0 t1 g1 k1 t2 g2 t3 g3 t4 g4 br w0 w1 bw bt bb bx, ru16_4 bi g0 t1 g1 k1 t2 g2 t3 g3 t4 g4 br w0 w1 bw bt bb bx]) (Ent.andI (isl_persM _ _ _ _) (allP_persM ruP_m))).trans ?_
  refine (Ent.at (A := isl encAm 2 (some ⟨w1, 0, none⟩) [(3, 2)]) (Ent.refl _)).trans ?_
  refine (Ent.allP_one (f := rwP) (x := rw16_1 bi g0 t1 g1 k1 t2 g2 t3 g3 t4 g4 br w0 w1 bw bt bb bx) rwP_m).trans ?_
  refine (Ent.at (A := isl encAm 2 (some ⟨w0, 0, none⟩) [(0, 10)]) (Ent.refl _)).trans ?_
  refine (Ent.allP_cons (f := rwP) (x := rw16_0 bi g0 t1 g1 k1 t2 g2 t3 g3 t4 g4 br w0 w1 bw bt bb bx) rwP_m).trans ?_
  refine (Ent.at (A := isl encRw 2 (some ⟨bw, 0, none⟩) [rw16_0 bi g0 t1 g1 k1 t2 g2 t3 g3 t4 g4 br w0 w1 bw bt bb bx, rw16_1 bi g0 t1 g1 k1 t2 g2 t3 g3 t4 g4 br w0 w1 bw bt bb bx]) (Ent.andI (isl_persM _ _ _ _) (allP_persM rwP_m))).trans ?_
  refine (Ent.allP_one (f := tbP) (x := tb16 bi g0 t1 g1 k1 t2 g2 t3 g3 t4 g4 br w0 w1 bw bt bb bx) tbP_m).trans ?_
  refine (Ent.at (A := isl encTb 2 (some ⟨bt, 0, none⟩) [tb16 bi g0 t1 g1 k1 t2 g2 t3 g3 t4 g4 br w0 w1 bw bt bb bx]) (Ent.andI (isl_persM _ _ _ _) (allP_persM tbP_m))).trans ?_
  refine (Ent.at (A := isl encAm 2 (some ⟨bb, 0, none⟩) [(0, 500), (100, 1000)]) (Ent.refl _)).trans ?_
  refine (Ent.allP_one (f := txP) (x := tx16 bi g0 t1 g1 k1 t2 g2 t3 g3 t4 g4 br w0 w1 bw bt bb bx) txP_m).trans ?_
  refine (Ent.at (A := isl encTx 2 (some ⟨bx, 0, none⟩) [tx16 bi g0 t1 g1 k1 t2 g2 t3 g3 t4 g4 br w0 w1 bw bt bb bx]) (Ent.andI (isl_persM _ _ _ _) (allP_persM txP_m))).trans ?_
  refine (Ent.swap.trans (Ent.andI (catT_m (cat16V bi g0 t1 g1 k1 t2 g2 t3 g3 t4 g4 br w0 w1 bw bt bb bx)) (catX_m (cat16V bi g0 t1 g1 k1 t2 g2 t3 g3 t4 g4 br w0 w1 bw bt bb bx)))).trans ?_
  refine (Ent.swap.trans (Ent.andI (catR_m (cat16V bi g0 t1 g1 k1 t2 g2 t3 g3 t4 g4 br w0 w1 bw bt bb bx)) ((catT_m (cat16V bi g0 t1 g1 k1 t2 g2 t3 g3 t4 g4 br w0 w1 bw bt bb bx)).and (catX_m (cat16V bi g0 t1 g1 k1 t2 g2 t3 g3 t4 g4 br w0 w1 bw bt bb bx))))).trans ?_
  refine (Ent.swap.trans (Ent.andI (catI_m (cat16V bi g0 t1 g1 k1 t2 g2 t3 g3 t4 g4 br w0 w1 bw bt bb bx)) ((catR_m (cat16V bi g0 t1 g1 k1 t2 g2 t3 g3 t4 g4 br w0 w1 bw bt bb bx)).and ((catT_m (cat16V bi g0 t1 g1 k1 t2 g2 t3 g3 t4 g4 br w0 w1 bw bt bb bx)).and (catX_m (cat16V bi g0 t1 g1 k1 t2 g2 t3 g3 t4 g4 br w0 w1 bw bt bb bx)))))).trans ?_
  exact Ent.consR Ent.drop
theorem isWord_of {s : ByteArray} (h : (1 ≤ s.size ∧ s.size ≤ 16) ∧ kindM s 0 = 3 ∧ ∀ i : Nat, i < s.size → kindM s i = 3 ∨ kindM s i = 4 ∨ kindM s i = 5) : IsWord s := ⟨h.1, h.2.1, h.2.2⟩
theorem amSrt_of {n : Nat} {l : List (Int × Int)} (h : (∀ a ∈ l, 0 ≤ a.1 ∧ a.1 < n ∧ 1 ≤ a.2 ∧ a.2 ≤ 1099511627776) ∧ l.Pairwise (fun a b => a.1 < b.1)) : AmSrt n l := h
theorem cat16_good : CatGood cat16 := by
  refine ⟨by decide, by decide, by decide, by decide, ?_, ?_, ?_, ?_, by decide, by decide, by decide, by decide⟩
  · intro x hx
    simp only [cat16, it16, List.mem_cons, List.not_mem_nil, or_false] at hx
    rcases hx with rfl | rfl | rfl | rfl | rfl <;> exact ⟨isWord_of (by decide +kernel), by decide, by decide⟩
  · intro r hr
    simp only [cat16, List.mem_cons, List.not_mem_nil, or_false] at hr
    rcases hr with rfl | rfl | rfl | rfl | rfl <;> exact ⟨isWord_of (by decide +kernel), by decide, amSrt_of (by decide), amSrt_of (by decide), amSrt_of (by decide), by decide, by decide, by decide⟩
  · intro t ht
    simp only [cat16, List.mem_cons, List.not_mem_nil, or_false] at ht
    subst ht
    refine ⟨isWord_of (by decide +kernel), by decide, ?_⟩
    intro r hr
    simp only [List.mem_cons, List.not_mem_nil, or_false] at hr
    rcases hr with rfl | rfl <;> exact ⟨by decide, amSrt_of (by decide)⟩
  · intro t ht
    simp only [cat16, List.mem_cons, List.not_mem_nil, or_false] at ht
    subst ht
    refine ⟨isWord_of (by decide +kernel), by decide, by decide, ?_, by decide⟩
    intro i hi
    have hi0 : i = 0 := by simp only [List.length_cons, List.length_nil] at hi; omega
    subst hi0
    decide
theorem cat16_ok : cat16.Ok := ⟨fun r hr a ha => ⟨by have := (cat16_good.ru r hr).take.1 a ha; omega, ((cat16_good.ru r hr).take.1 a ha).2.2.2⟩, fun r hr a ha => ⟨by have := (cat16_good.ru r hr).give.1 a ha; omega, ((cat16_good.ru r hr).give.1 a ha).2.2.2⟩, fun r hr a ha => ⟨by have := (cat16_good.ru r hr).back.1 a ha; omega, ((cat16_good.ru r hr).back.1 a ha).2.2.2⟩⟩
end Go.Proofs.YtfmgkkofledkbaaGreatDoor
