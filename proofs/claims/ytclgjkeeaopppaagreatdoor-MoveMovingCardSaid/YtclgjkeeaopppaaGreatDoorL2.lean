/- Contracts of package catalog, for catalogs of plain items alone. -/
import Derived.Test.YtclgjkeeaopppaaGreatDoorL1
namespace Go.Proofs.YtclgjkeeaopppaaGreatDoor
open Go.V
attribute [local irreducible] G GO GP GPW GPK Ev Ef EfR Ent CB GB Enters

abbrev KR (L : List HP) : Prop := Rds L (some ⟨0, 0, none⟩) Int (encI .u8) 1 kindsL
/-- A plain item. -/
structure Itm where
  name : ByteArray
  mixed : Bool
  coin : Bool
  deriving Inhabited
def encIt (x : Itm) : List Value := [.string x.name, .bool false, .bool x.mixed, .bool x.coin, .int .i64 0, .int .i64 0, .int .i64 0]
theorem encIt_one (t : Itm) : ∀ u ∈ encIt t, u.oneCell' = true := by simp [encIt, Value.oneCell']
instance : EncC encIt := ⟨encIt_one⟩
abbrev tIt : Nat := 135

theorem everyI_spec {L : List HP} [hk : KR L] (f : FuncId) (ad : Option Addr) (n c : Nat) (its : List Itm) [Rds L ad Itm encIt 7 its] (hn : n = its.length) (hl : its.length ≤ 64)
    (hf : ∀ x ∈ its, ∀ L' : List HP, KR L' → Tri Tryz.prog f #[.agg (encIt x).toArray] L' (fun v L'' => v = .bool true ∧ L'' = L')) :
    Tri Tryz.prog 115 #[.slice ad n c, .func (.func f) #[] #[]] L (fun v L' => v = .bool true ∧ L' = L) := by
  refine Tri.body (args := [.slice ad n c, .func (.func f) #[] #[]]) 18 en115 Tryz.func115 rfl rfl rfl (by simp) ?_
  repeat (first | refine run ?_ | intro _)
  refine G.loop (α := Nat) (fun i => i ≤ n) (fun i => [(0, .slice ad n c), (1, .func (.func f) #[] #[]), (7, .slice ad n c), (8, .int .i64 n), (9, .int .i64 (i : Int))]) (fun _ => L) (fun i => n - i) 0 (Nat.zero_le _) (by repeat (first | exact EnvSub.nil _ | refine EnvSub.cons rfl ?_)) (Ent.refl _) ?_
  intro i hi
  by_cases hlt : i < n
  case neg =>
    repeat (first | refine run ?_ | intro _)
    exact KX.ends (by first | exact ResOk.tmps rfl | (repeat (first | exact ResOk.nil | apply ResOk.tmp rfl | apply ResOk.cell rfl (by rfl) | apply ResOk.cell1 rfl))) (Ent.refl _) ⟨rfl, rfl⟩
  repeat (first | refine run ?_ | intro _)
  rw [Int.toNat_natCast]
  rename_i b6
  refine GO.ef (Ef.callFnA (first := []) (cap := []) (vs := [.agg (encIt its[i]!).toArray]) (hf its[i]! (mem_get! (by omega)) _ inferInstance) rfl rfl) (by decide) ?_
  rintro _ _ ⟨rfl, rfl⟩
  repeat (first | refine run ?_ | intro _)
  refine ⟨i + 1, by omega, by omega, ?_, Ent.drop⟩
  rw [show ((i + 1 : Nat) : Int) = (i : Int) + 1 by omega]
  exact (by repeat (first | exact EnvSub.nil _ | refine EnvSub.cons rfl ?_))

theorem everyR_spec {L : List HP} (v : Value) : Tri Tryz.prog 109 #[.slice none 0 0, v] L (fun u L' => u = .bool true ∧ L' = L) := by
  refine Tri.body (args := [.slice none 0 0, v]) 18 en109 Tryz.func109 rfl rfl rfl (by simp) ?_
  repeat (first | refine run ?_ | intro _)
  refine G.unroll 1 (GR.step ?_)
  repeat (first | refine run ?_ | intro _)
  exact KX.ends (by first | exact ResOk.tmps rfl | (repeat (first | exact ResOk.nil | apply ResOk.tmp rfl | apply ResOk.cell rfl (by rfl) | apply ResOk.cell1 rfl))) (Ent.refl _) ⟨rfl, rfl⟩
theorem everyT_spec {L : List HP} (v : Value) : Tri Tryz.prog 111 #[.slice none 0 0, v] L (fun u L' => u = .bool true ∧ L' = L) := by
  refine Tri.body (args := [.slice none 0 0, v]) 18 en111 Tryz.func111 rfl rfl rfl (by simp) ?_
  repeat (first | refine run ?_ | intro _)
  refine G.unroll 1 (GR.step ?_)
  repeat (first | refine run ?_ | intro _)
  exact KX.ends (by first | exact ResOk.tmps rfl | (repeat (first | exact ResOk.nil | apply ResOk.tmp rfl | apply ResOk.cell rfl (by rfl) | apply ResOk.cell1 rfl))) (Ent.refl _) ⟨rfl, rfl⟩
theorem everyX_spec {L : List HP} (v : Value) : Tri Tryz.prog 113 #[.slice none 0 0, v] L (fun u L' => u = .bool true ∧ L' = L) := by
  refine Tri.body (args := [.slice none 0 0, v]) 18 en113 Tryz.func113 rfl rfl rfl (by simp) ?_
  repeat (first | refine run ?_ | intro _)
  refine G.unroll 1 (GR.step ?_)
  repeat (first | refine run ?_ | intro _)
  exact KX.ends (by first | exact ResOk.tmps rfl | (repeat (first | exact ResOk.nil | apply ResOk.tmp rfl | apply ResOk.cell rfl (by rfl) | apply ResOk.cell1 rfl))) (Ent.refl _) ⟨rfl, rfl⟩

/-- A catalog of plain items, as a value. -/
abbrev catV (ad : Option Addr) (n c : Nat) : Value := .agg #[.slice ad n c, .slice none 0 0, .slice none 0 0, .slice none 0 0]
theorem withinLimits_spec {L : List HP} (ad : Option Addr) (n c : Nat) (hn : n ≤ 64) : Tri Tryz.prog 68 #[catV ad n c] L (fun u L' => u = .bool true ∧ L' = L) := by
  refine Tri.body (args := [catV ad n c]) 40 en68 Tryz.func68 rfl rfl rfl (by simp) ?_
  repeat (first | refine run ?_ | intro _)
  (first | ((with_reducible apply GO.atPlain); first | refine GO.ef (Ef.callAll (everyR_spec _) rfl) (by decide) ?_ | refine GO.ef (by exact Ef.callAll (everyR_spec _) rfl) (by decide) ?_) | ((with_reducible apply GPW.atEf); first | refine GPW.ef (Ef.callAll (everyR_spec _) rfl) (by decide) ?_ | refine GPW.ef (by exact Ef.callAll (everyR_spec _) rfl) (by decide) ?_))
  rintro _ _ ⟨rfl, rfl⟩
  repeat (first | refine run ?_ | intro _)
  (first | ((with_reducible apply GO.atPlain); first | refine GO.ef (Ef.callAll (everyT_spec _) rfl) (by decide) ?_ | refine GO.ef (by exact Ef.callAll (everyT_spec _) rfl) (by decide) ?_) | ((with_reducible apply GPW.atEf); first | refine GPW.ef (Ef.callAll (everyT_spec _) rfl) (by decide) ?_ | refine GPW.ef (by exact Ef.callAll (everyT_spec _) rfl) (by decide) ?_))
  rintro _ _ ⟨rfl, rfl⟩
  repeat (first | refine run ?_ | intro _)
  (first | ((with_reducible apply GO.atPlain); first | refine GO.ef (Ef.callAll (everyX_spec _) rfl) (by decide) ?_ | refine GO.ef (by exact Ef.callAll (everyX_spec _) rfl) (by decide) ?_) | ((with_reducible apply GPW.atEf); first | refine GPW.ef (Ef.callAll (everyX_spec _) rfl) (by decide) ?_ | refine GPW.ef (by exact Ef.callAll (everyX_spec _) rfl) (by decide) ?_))
  rintro _ _ ⟨rfl, rfl⟩
  repeat (first | refine run ?_ | intro _)
  exact KX.ends (by first | exact ResOk.tmps rfl | (repeat (first | exact ResOk.nil | apply ResOk.tmp rfl | apply ResOk.cell rfl (by rfl) | apply ResOk.cell1 rfl))) Ent.drop ⟨rfl, rfl⟩
theorem namesFit1_spec {L : List HP} (x : Itm) (hk : KR L) (hw : IsWord x.name) : Tri Tryz.prog 116 #[.agg (encIt x).toArray] L (fun u L' => u = .bool true ∧ L' = L) := by
  refine Tri.body (args := [.agg (encIt x).toArray]) 6 en116 Tryz.func116 rfl rfl rfl (by simp) ?_
  repeat (first | refine run ?_ | intro _)
  (first | ((with_reducible apply GO.atPlain); first | refine GO.ef (Ef.callAll (fits_spec x.name hw) rfl) (by decide) ?_ | refine GO.ef (by exact Ef.callAll (fits_spec x.name hw) rfl) (by decide) ?_) | ((with_reducible apply GPW.atEf); first | refine GPW.ef (Ef.callAll (fits_spec x.name hw) rfl) (by decide) ?_ | refine GPW.ef (by exact Ef.callAll (fits_spec x.name hw) rfl) (by decide) ?_))
  rintro _ _ ⟨rfl, rfl⟩
  repeat (first | refine run ?_ | intro _)
  exact KX.ends (by first | exact ResOk.tmps rfl | (repeat (first | exact ResOk.nil | apply ResOk.tmp rfl | apply ResOk.cell rfl (by rfl) | apply ResOk.cell1 rfl))) Ent.drop ⟨rfl, rfl⟩
theorem itemFormed_spec {L : List HP} (x : Itm) : Tri Tryz.prog 130 #[.agg (encIt x).toArray] L (fun u L' => u = .bool true ∧ L' = L) := by
  refine Tri.body (args := [.agg (encIt x).toArray]) 36 en130 Tryz.func130 rfl rfl rfl (by simp) ?_
  repeat (first | refine run ?_ | intro _)
  exact KX.ends (by first | exact ResOk.tmps rfl | (repeat (first | exact ResOk.nil | apply ResOk.tmp rfl | apply ResOk.cell rfl (by rfl) | apply ResOk.cell1 rfl))) Ent.drop ⟨by rw [dB_pos rfl]; rfl, rfl⟩
theorem itemInRange_spec {L : List HP} (x : Itm) : Tri Tryz.prog 141 #[.agg (encIt x).toArray] L (fun u L' => u = .bool true ∧ L' = L) := by
  refine Tri.body (args := [.agg (encIt x).toArray]) 26 en141 Tryz.func141 rfl rfl rfl (by simp) ?_
  repeat (first | refine run ?_ | intro _)
  exact KX.ends (by first | exact ResOk.tmps rfl | (repeat (first | exact ResOk.nil | apply ResOk.tmp rfl | apply ResOk.cell rfl (by rfl) | apply ResOk.cell1 rfl))) Ent.drop ⟨by rw [dB_pos (by decide)]; rfl, rfl⟩
theorem itemName_spec {L : List HP} (x : Itm) : Tri Tryz.prog 122 #[.agg (encIt x).toArray] L (fun u L' => u = .string x.name ∧ L' = L) := by
  refine Tri.body (args := [.agg (encIt x).toArray]) 5 en122 Tryz.func122 rfl rfl rfl (by simp) ?_
  repeat (first | refine run ?_ | intro _)
  exact KX.ends (by first | exact ResOk.tmps rfl | (repeat (first | exact ResOk.nil | apply ResOk.tmp rfl | apply ResOk.cell rfl (by rfl) | apply ResOk.cell1 rfl))) Ent.drop ⟨rfl, rfl⟩
def encB (b : Bool) : Value := .bool b
theorem differI_spec {L : List HP} (ad : Option Addr) (n c : Nat) (its : List Itm) [Rds L ad Itm encIt 7 its] (hn : n = its.length) (hl : its.length ≤ 64) (hd : (its.map (·.name)).Nodup) :
    Tri Tryz.prog 121 #[.slice ad n c, .func (.func 122) #[] #[]] L (fun v L' => v = .bool true ∧ L' = L) := by
  refine Tri.body (args := [.slice ad n c, .func (.func 122) #[] #[]]) 27 en121 Tryz.func121 rfl rfl rfl (by simp) ?_
  repeat (first | refine run ?_ | intro _)
  (first | ((with_reducible apply GO.atPlain); first | refine GO.ef (Ef.makeG kvS encB (.inr ⟨_, _, _, rfl, rfl, by omega⟩)) (by decide) ?_ | refine GO.ef (by exact Ef.makeG kvS encB (.inr ⟨_, _, _, rfl, rfl, by omega⟩)) (by decide) ?_) | ((with_reducible apply GPW.atEf); first | refine GPW.ef (Ef.makeG kvS encB (.inr ⟨_, _, _, rfl, rfl, by omega⟩)) (by decide) ?_ | refine GPW.ef (by exact Ef.makeG kvS encB (.inr ⟨_, _, _, rfl, rfl, by omega⟩)) (by decide) ?_) | ((with_reducible apply GO.atUnit); first | refine GO.efu (Ef.makeG kvS encB (.inr ⟨_, _, _, rfl, rfl, by omega⟩)) ?_ | refine GO.efu (by exact Ef.makeG kvS encB (.inr ⟨_, _, _, rfl, rfl, by omega⟩)) ?_) | ((with_reducible apply GPW.atEfu); first | refine GPW.efu (Ef.makeG kvS encB (.inr ⟨_, _, _, rfl, rfl, by omega⟩)) ?_ | refine GPW.efu (by exact Ef.makeG kvS encB (.inr ⟨_, _, _, rfl, rfl, by omega⟩)) ?_))
  rintro _ _ ⟨bm, rfl, rfl⟩
  repeat (first | refine run ?_ | intro _)
  refine G.loop (α := Nat × List (ByteArray × Bool)) (fun x => x.1 ≤ n ∧ ∀ j, x.1 ≤ j → j < its.length → @List.lookup ByteArray Bool instBEqOfDecidableEq its[j]!.name x.2 = none) (fun x => [(0, .slice ad n c), (1, .func (.func 122) #[] #[]), (5, .map (some bm)), (11, .slice ad n c), (12, .int .i64 n), (13, .int .i64 (x.1 : Int))]) (fun x => gmap kvS encB bm x.2 :: L) (fun x => n - x.1) (0, []) ⟨Nat.zero_le _, by intro j _ _; rfl⟩ (by repeat (first | exact EnvSub.nil _ | refine EnvSub.cons rfl ?_)) (Ent.refl _) ?_
  rintro ⟨i, m⟩ ⟨hi, hm⟩
  dsimp only at hi hm ⊢
  by_cases hlt : i < n
  case neg =>
    repeat (first | refine run ?_ | intro _)
    exact KX.ends (by first | exact ResOk.tmps rfl | (repeat (first | exact ResOk.nil | apply ResOk.tmp rfl | apply ResOk.cell rfl (by rfl) | apply ResOk.cell1 rfl))) Ent.drop ⟨rfl, rfl⟩
  repeat (first | refine run ?_ | intro _)
  rw [Int.toNat_natCast]
  rename_i b6
  refine GO.ef (Ef.callFnA (first := []) (cap := []) (vs := [.agg (encIt its[i]!).toArray]) (itemName_spec its[i]!) rfl rfl) (by decide) ?_
  rintro _ _ ⟨rfl, rfl⟩
  (first | ((with_reducible apply GO.atPlain); first | refine GO.ev (Ev.lookG1 (k := its[i]!.name) rfl rfl) (by decide) ?_ | refine GO.ev (by exact Ev.lookG1 (k := its[i]!.name) rfl rfl) (by decide) ?_) | ((with_reducible apply GPW.atEv); first | refine GPW.evP (Ev.lookG1 (k := its[i]!.name) rfl rfl) (by decide) ?_ | refine GPW.evP (by exact Ev.lookG1 (k := its[i]!.name) rfl rfl) (by decide) ?_) | ((with_reducible apply GPW.atEv); first | refine GPW.evL (Ev.lookG1 (k := its[i]!.name) rfl rfl) (by decide) ?_ | refine GPW.evL (by exact Ev.lookG1 (k := its[i]!.name) rfl rfl) (by decide) ?_))
  rw [hm i (Nat.le_refl _) (by omega)]
  simp only [Option.map_none, Option.getD_none]
  repeat (first | refine run ?_ | intro _)
  refine GO.ef (Ef.callFnA (first := []) (cap := []) (vs := [.agg (encIt its[i]!).toArray]) (itemName_spec its[i]!) rfl rfl) (by decide) ?_
  rintro _ _ ⟨rfl, rfl⟩
  (first | ((with_reducible apply GO.atPlain); first | refine GO.ef (Ef.updG (k := its[i]!.name) (e := true) rfl rfl rfl rfl) (by decide) ?_ | refine GO.ef (by exact Ef.updG (k := its[i]!.name) (e := true) rfl rfl rfl rfl) (by decide) ?_) | ((with_reducible apply GPW.atEf); first | refine GPW.ef (Ef.updG (k := its[i]!.name) (e := true) rfl rfl rfl rfl) (by decide) ?_ | refine GPW.ef (by exact Ef.updG (k := its[i]!.name) (e := true) rfl rfl rfl rfl) (by decide) ?_) | ((with_reducible apply GO.atUnit); first | refine GO.efu (Ef.updG (k := its[i]!.name) (e := true) rfl rfl rfl rfl) ?_ | refine GO.efu (by exact Ef.updG (k := its[i]!.name) (e := true) rfl rfl rfl rfl) ?_) | ((with_reducible apply GPW.atEfu); first | refine GPW.efu (Ef.updG (k := its[i]!.name) (e := true) rfl rfl rfl rfl) ?_ | refine GPW.efu (by exact Ef.updG (k := its[i]!.name) (e := true) rfl rfl rfl rfl) ?_))
  rintro _ _ rfl
  repeat (first | refine run ?_ | intro _)
  refine ⟨(i + 1, gins m its[i]!.name true), ⟨by dsimp only; omega, ?_⟩, by dsimp only; omega, ?_, Ent.consR Ent.drop⟩
  · intro j hj hjl
    dsimp only at hj ⊢
    rw [lookup_gins, if_neg, hm j (by omega) hjl]
    intro e
    have h1 : (its.map (·.name))[j]'(by simpa using hjl) = (its.map (·.name))[i]'(by simp; omega) := by
      rw [getElem!_of hjl, getElem!_of (by omega)] at e
      simpa using e
    have := (List.getElem_inj hd).1 h1
    omega
  · dsimp only
    rw [show ((i + 1 : Nat) : Int) = (i : Int) + 1 by omega]
    exact (by repeat (first | exact EnvSub.nil _ | refine EnvSub.cons rfl ?_))
theorem differR_spec {L : List HP} (v : Value) : Tri Tryz.prog 123 #[.slice none 0 0, v] L (fun u L' => u = .bool true ∧ L' = L) := by
  refine Tri.body (args := [.slice none 0 0, v]) 27 en123 Tryz.func123 rfl rfl rfl (by simp) ?_
  repeat (first | refine run ?_ | intro _)
  (first | ((with_reducible apply GO.atPlain); first | refine GO.ef (Ef.makeG kvS encB (.inr ⟨_, _, _, rfl, rfl, by omega⟩)) (by decide) ?_ | refine GO.ef (by exact Ef.makeG kvS encB (.inr ⟨_, _, _, rfl, rfl, by omega⟩)) (by decide) ?_) | ((with_reducible apply GPW.atEf); first | refine GPW.ef (Ef.makeG kvS encB (.inr ⟨_, _, _, rfl, rfl, by omega⟩)) (by decide) ?_ | refine GPW.ef (by exact Ef.makeG kvS encB (.inr ⟨_, _, _, rfl, rfl, by omega⟩)) (by decide) ?_) | ((with_reducible apply GO.atUnit); first | refine GO.efu (Ef.makeG kvS encB (.inr ⟨_, _, _, rfl, rfl, by omega⟩)) ?_ | refine GO.efu (by exact Ef.makeG kvS encB (.inr ⟨_, _, _, rfl, rfl, by omega⟩)) ?_) | ((with_reducible apply GPW.atEfu); first | refine GPW.efu (Ef.makeG kvS encB (.inr ⟨_, _, _, rfl, rfl, by omega⟩)) ?_ | refine GPW.efu (by exact Ef.makeG kvS encB (.inr ⟨_, _, _, rfl, rfl, by omega⟩)) ?_))
  rintro _ _ ⟨bm, rfl, rfl⟩
  repeat (first | refine run ?_ | intro _)
  refine G.unroll 1 (GR.step ?_)
  repeat (first | refine run ?_ | intro _)
  exact KX.ends (by first | exact ResOk.tmps rfl | (repeat (first | exact ResOk.nil | apply ResOk.tmp rfl | apply ResOk.cell rfl (by rfl) | apply ResOk.cell1 rfl))) Ent.drop ⟨rfl, rfl⟩
theorem differT_spec {L : List HP} (v : Value) : Tri Tryz.prog 125 #[.slice none 0 0, v] L (fun u L' => u = .bool true ∧ L' = L) := by
  refine Tri.body (args := [.slice none 0 0, v]) 27 en125 Tryz.func125 rfl rfl rfl (by simp) ?_
  repeat (first | refine run ?_ | intro _)
  (first | ((with_reducible apply GO.atPlain); first | refine GO.ef (Ef.makeG kvS encB (.inr ⟨_, _, _, rfl, rfl, by omega⟩)) (by decide) ?_ | refine GO.ef (by exact Ef.makeG kvS encB (.inr ⟨_, _, _, rfl, rfl, by omega⟩)) (by decide) ?_) | ((with_reducible apply GPW.atEf); first | refine GPW.ef (Ef.makeG kvS encB (.inr ⟨_, _, _, rfl, rfl, by omega⟩)) (by decide) ?_ | refine GPW.ef (by exact Ef.makeG kvS encB (.inr ⟨_, _, _, rfl, rfl, by omega⟩)) (by decide) ?_) | ((with_reducible apply GO.atUnit); first | refine GO.efu (Ef.makeG kvS encB (.inr ⟨_, _, _, rfl, rfl, by omega⟩)) ?_ | refine GO.efu (by exact Ef.makeG kvS encB (.inr ⟨_, _, _, rfl, rfl, by omega⟩)) ?_) | ((with_reducible apply GPW.atEfu); first | refine GPW.efu (Ef.makeG kvS encB (.inr ⟨_, _, _, rfl, rfl, by omega⟩)) ?_ | refine GPW.efu (by exact Ef.makeG kvS encB (.inr ⟨_, _, _, rfl, rfl, by omega⟩)) ?_))
  rintro _ _ ⟨bm, rfl, rfl⟩
  repeat (first | refine run ?_ | intro _)
  refine G.unroll 1 (GR.step ?_)
  repeat (first | refine run ?_ | intro _)
  exact KX.ends (by first | exact ResOk.tmps rfl | (repeat (first | exact ResOk.nil | apply ResOk.tmp rfl | apply ResOk.cell rfl (by rfl) | apply ResOk.cell1 rfl))) Ent.drop ⟨rfl, rfl⟩
theorem differX_spec {L : List HP} (v : Value) : Tri Tryz.prog 127 #[.slice none 0 0, v] L (fun u L' => u = .bool true ∧ L' = L) := by
  refine Tri.body (args := [.slice none 0 0, v]) 27 en127 Tryz.func127 rfl rfl rfl (by simp) ?_
  repeat (first | refine run ?_ | intro _)
  (first | ((with_reducible apply GO.atPlain); first | refine GO.ef (Ef.makeG kvS encB (.inr ⟨_, _, _, rfl, rfl, by omega⟩)) (by decide) ?_ | refine GO.ef (by exact Ef.makeG kvS encB (.inr ⟨_, _, _, rfl, rfl, by omega⟩)) (by decide) ?_) | ((with_reducible apply GPW.atEf); first | refine GPW.ef (Ef.makeG kvS encB (.inr ⟨_, _, _, rfl, rfl, by omega⟩)) (by decide) ?_ | refine GPW.ef (by exact Ef.makeG kvS encB (.inr ⟨_, _, _, rfl, rfl, by omega⟩)) (by decide) ?_) | ((with_reducible apply GO.atUnit); first | refine GO.efu (Ef.makeG kvS encB (.inr ⟨_, _, _, rfl, rfl, by omega⟩)) ?_ | refine GO.efu (by exact Ef.makeG kvS encB (.inr ⟨_, _, _, rfl, rfl, by omega⟩)) ?_) | ((with_reducible apply GPW.atEfu); first | refine GPW.efu (Ef.makeG kvS encB (.inr ⟨_, _, _, rfl, rfl, by omega⟩)) ?_ | refine GPW.efu (by exact Ef.makeG kvS encB (.inr ⟨_, _, _, rfl, rfl, by omega⟩)) ?_))
  rintro _ _ ⟨bm, rfl, rfl⟩
  repeat (first | refine run ?_ | intro _)
  refine G.unroll 1 (GR.step ?_)
  repeat (first | refine run ?_ | intro _)
  exact KX.ends (by first | exact ResOk.tmps rfl | (repeat (first | exact ResOk.nil | apply ResOk.tmp rfl | apply ResOk.cell rfl (by rfl) | apply ResOk.cell1 rfl))) Ent.drop ⟨rfl, rfl⟩

/-- The items of a catalog are as they should be. -/
structure ItsOk (its : List Itm) : Prop where
  len : its.length ≤ 64
  words : ∀ x ∈ its, IsWord x.name
  differ : (its.map (·.name)).Nodup
theorem namesFit_spec {L : List HP} [hk : KR L] (ad : Option Addr) (c : Nat) (its : List Itm) [Rds L ad Itm encIt 7 its] (h : ItsOk its) :
    Tri Tryz.prog 69 #[catV ad its.length c] L (fun v L' => v = .bool true ∧ L' = L) := by
  refine Tri.body (args := [catV ad its.length c]) 21 en69 Tryz.func69 rfl rfl rfl (by simp) ?_
  repeat (first | refine run ?_ | intro _)
  (first | ((with_reducible apply GO.atPlain); first | refine GO.ef (Ef.callAll (everyI_spec _ ad its.length c its rfl h.len (fun x hx L' hk' => namesFit1_spec x hk' (h.words x hx))) rfl) (by decide) ?_ | refine GO.ef (by exact Ef.callAll (everyI_spec _ ad its.length c its rfl h.len (fun x hx L' hk' => namesFit1_spec x hk' (h.words x hx))) rfl) (by decide) ?_) | ((with_reducible apply GPW.atEf); first | refine GPW.ef (Ef.callAll (everyI_spec _ ad its.length c its rfl h.len (fun x hx L' hk' => namesFit1_spec x hk' (h.words x hx))) rfl) (by decide) ?_ | refine GPW.ef (by exact Ef.callAll (everyI_spec _ ad its.length c its rfl h.len (fun x hx L' hk' => namesFit1_spec x hk' (h.words x hx))) rfl) (by decide) ?_))
  rintro _ _ ⟨rfl, rfl⟩
  repeat (first | refine run ?_ | intro _)
  (first | ((with_reducible apply GO.atPlain); first | refine GO.ef (Ef.callAll (everyR_spec _) rfl) (by decide) ?_ | refine GO.ef (by exact Ef.callAll (everyR_spec _) rfl) (by decide) ?_) | ((with_reducible apply GPW.atEf); first | refine GPW.ef (Ef.callAll (everyR_spec _) rfl) (by decide) ?_ | refine GPW.ef (by exact Ef.callAll (everyR_spec _) rfl) (by decide) ?_))
  rintro _ _ ⟨rfl, rfl⟩
  repeat (first | refine run ?_ | intro _)
  (first | ((with_reducible apply GO.atPlain); first | refine GO.ef (Ef.callAll (everyT_spec _) rfl) (by decide) ?_ | refine GO.ef (by exact Ef.callAll (everyT_spec _) rfl) (by decide) ?_) | ((with_reducible apply GPW.atEf); first | refine GPW.ef (Ef.callAll (everyT_spec _) rfl) (by decide) ?_ | refine GPW.ef (by exact Ef.callAll (everyT_spec _) rfl) (by decide) ?_))
  rintro _ _ ⟨rfl, rfl⟩
  repeat (first | refine run ?_ | intro _)
  (first | ((with_reducible apply GO.atPlain); first | refine GO.ef (Ef.callAll (everyX_spec _) rfl) (by decide) ?_ | refine GO.ef (by exact Ef.callAll (everyX_spec _) rfl) (by decide) ?_) | ((with_reducible apply GPW.atEf); first | refine GPW.ef (Ef.callAll (everyX_spec _) rfl) (by decide) ?_ | refine GPW.ef (by exact Ef.callAll (everyX_spec _) rfl) (by decide) ?_))
  rintro _ _ ⟨rfl, rfl⟩
  repeat (first | refine run ?_ | intro _)
  exact KX.ends (by first | exact ResOk.tmps rfl | (repeat (first | exact ResOk.nil | apply ResOk.tmp rfl | apply ResOk.cell rfl (by rfl) | apply ResOk.cell1 rfl))) Ent.drop ⟨rfl, rfl⟩
theorem namesDiffer_spec {L : List HP} (ad : Option Addr) (c : Nat) (its : List Itm) [Rds L ad Itm encIt 7 its] (h : ItsOk its) :
    Tri Tryz.prog 70 #[catV ad its.length c] L (fun v L' => v = .bool true ∧ L' = L) := by
  refine Tri.body (args := [catV ad its.length c]) 21 en70 Tryz.func70 rfl rfl rfl (by simp) ?_
  repeat (first | refine run ?_ | intro _)
  (first | ((with_reducible apply GO.atPlain); first | refine GO.ef (Ef.callAll (differI_spec ad its.length c its rfl h.len h.differ) rfl) (by decide) ?_ | refine GO.ef (by exact Ef.callAll (differI_spec ad its.length c its rfl h.len h.differ) rfl) (by decide) ?_) | ((with_reducible apply GPW.atEf); first | refine GPW.ef (Ef.callAll (differI_spec ad its.length c its rfl h.len h.differ) rfl) (by decide) ?_ | refine GPW.ef (by exact Ef.callAll (differI_spec ad its.length c its rfl h.len h.differ) rfl) (by decide) ?_))
  rintro _ _ ⟨rfl, rfl⟩
  repeat (first | refine run ?_ | intro _)
  (first | ((with_reducible apply GO.atPlain); first | refine GO.ef (Ef.callAll (differR_spec _) rfl) (by decide) ?_ | refine GO.ef (by exact Ef.callAll (differR_spec _) rfl) (by decide) ?_) | ((with_reducible apply GPW.atEf); first | refine GPW.ef (Ef.callAll (differR_spec _) rfl) (by decide) ?_ | refine GPW.ef (by exact Ef.callAll (differR_spec _) rfl) (by decide) ?_))
  rintro _ _ ⟨rfl, rfl⟩
  repeat (first | refine run ?_ | intro _)
  (first | ((with_reducible apply GO.atPlain); first | refine GO.ef (Ef.callAll (differT_spec _) rfl) (by decide) ?_ | refine GO.ef (by exact Ef.callAll (differT_spec _) rfl) (by decide) ?_) | ((with_reducible apply GPW.atEf); first | refine GPW.ef (Ef.callAll (differT_spec _) rfl) (by decide) ?_ | refine GPW.ef (by exact Ef.callAll (differT_spec _) rfl) (by decide) ?_))
  rintro _ _ ⟨rfl, rfl⟩
  repeat (first | refine run ?_ | intro _)
  (first | ((with_reducible apply GO.atPlain); first | refine GO.ef (Ef.callAll (differX_spec _) rfl) (by decide) ?_ | refine GO.ef (by exact Ef.callAll (differX_spec _) rfl) (by decide) ?_) | ((with_reducible apply GPW.atEf); first | refine GPW.ef (Ef.callAll (differX_spec _) rfl) (by decide) ?_ | refine GPW.ef (by exact Ef.callAll (differX_spec _) rfl) (by decide) ?_))
  rintro _ _ ⟨rfl, rfl⟩
  repeat (first | refine run ?_ | intro _)
  exact KX.ends (by first | exact ResOk.tmps rfl | (repeat (first | exact ResOk.nil | apply ResOk.tmp rfl | apply ResOk.cell rfl (by rfl) | apply ResOk.cell1 rfl))) Ent.drop ⟨rfl, rfl⟩
theorem wellFormed_spec {L : List HP} [hk : KR L] (ad : Option Addr) (c : Nat) (its : List Itm) [Rds L ad Itm encIt 7 its] (h : ItsOk its) :
    Tri Tryz.prog 71 #[catV ad its.length c] L (fun v L' => v = .bool true ∧ L' = L) := by
  refine Tri.body (args := [catV ad its.length c]) 25 en71 Tryz.func71 rfl rfl rfl (by simp) ?_
  repeat (first | refine run ?_ | intro _)
  (first | ((with_reducible apply GO.atPlain); first | refine GO.ef (Ef.callAll (everyI_spec _ ad its.length c its rfl h.len (fun x hx L' hk' => itemFormed_spec x)) rfl) (by decide) ?_ | refine GO.ef (by exact Ef.callAll (everyI_spec _ ad its.length c its rfl h.len (fun x hx L' hk' => itemFormed_spec x)) rfl) (by decide) ?_) | ((with_reducible apply GPW.atEf); first | refine GPW.ef (Ef.callAll (everyI_spec _ ad its.length c its rfl h.len (fun x hx L' hk' => itemFormed_spec x)) rfl) (by decide) ?_ | refine GPW.ef (by exact Ef.callAll (everyI_spec _ ad its.length c its rfl h.len (fun x hx L' hk' => itemFormed_spec x)) rfl) (by decide) ?_))
  rintro _ _ ⟨rfl, rfl⟩
  repeat (first | refine run ?_ | intro _)
  (first | ((with_reducible apply GO.atPlain); first | refine GO.ef (Ef.callAll (everyR_spec _) rfl) (by decide) ?_ | refine GO.ef (by exact Ef.callAll (everyR_spec _) rfl) (by decide) ?_) | ((with_reducible apply GPW.atEf); first | refine GPW.ef (Ef.callAll (everyR_spec _) rfl) (by decide) ?_ | refine GPW.ef (by exact Ef.callAll (everyR_spec _) rfl) (by decide) ?_))
  rintro _ _ ⟨rfl, rfl⟩
  repeat (first | refine run ?_ | intro _)
  (first | ((with_reducible apply GO.atPlain); first | refine GO.ef (Ef.callAll (everyT_spec _) rfl) (by decide) ?_ | refine GO.ef (by exact Ef.callAll (everyT_spec _) rfl) (by decide) ?_) | ((with_reducible apply GPW.atEf); first | refine GPW.ef (Ef.callAll (everyT_spec _) rfl) (by decide) ?_ | refine GPW.ef (by exact Ef.callAll (everyT_spec _) rfl) (by decide) ?_))
  rintro _ _ ⟨rfl, rfl⟩
  repeat (first | refine run ?_ | intro _)
  (first | ((with_reducible apply GO.atPlain); first | refine GO.ef (Ef.callAll (everyX_spec _) rfl) (by decide) ?_ | refine GO.ef (by exact Ef.callAll (everyX_spec _) rfl) (by decide) ?_) | ((with_reducible apply GPW.atEf); first | refine GPW.ef (Ef.callAll (everyX_spec _) rfl) (by decide) ?_ | refine GPW.ef (by exact Ef.callAll (everyX_spec _) rfl) (by decide) ?_))
  rintro _ _ ⟨rfl, rfl⟩
  repeat (first | refine run ?_ | intro _)
  exact KX.ends (by first | exact ResOk.tmps rfl | (repeat (first | exact ResOk.nil | apply ResOk.tmp rfl | apply ResOk.cell rfl (by rfl) | apply ResOk.cell1 rfl))) (Ent.trans Ent.drop Ent.drop) ⟨rfl, rfl⟩
theorem inRange_spec {L : List HP} [hk : KR L] (ad : Option Addr) (c : Nat) (its : List Itm) [Rds L ad Itm encIt 7 its] (h : ItsOk its) :
    Tri Tryz.prog 72 #[catV ad its.length c] L (fun v L' => v = .bool true ∧ L' = L) := by
  refine Tri.body (args := [catV ad its.length c]) 24 en72 Tryz.func72 rfl rfl rfl (by simp) ?_
  repeat (first | refine run ?_ | intro _)
  (first | ((with_reducible apply GO.atPlain); first | refine GO.ef (Ef.callAll (everyI_spec _ ad its.length c its rfl h.len (fun x hx L' hk' => itemInRange_spec x)) rfl) (by decide) ?_ | refine GO.ef (by exact Ef.callAll (everyI_spec _ ad its.length c its rfl h.len (fun x hx L' hk' => itemInRange_spec x)) rfl) (by decide) ?_) | ((with_reducible apply GPW.atEf); first | refine GPW.ef (Ef.callAll (everyI_spec _ ad its.length c its rfl h.len (fun x hx L' hk' => itemInRange_spec x)) rfl) (by decide) ?_ | refine GPW.ef (by exact Ef.callAll (everyI_spec _ ad its.length c its rfl h.len (fun x hx L' hk' => itemInRange_spec x)) rfl) (by decide) ?_))
  rintro _ _ ⟨rfl, rfl⟩
  repeat (first | refine run ?_ | intro _)
  (first | ((with_reducible apply GO.atPlain); first | refine GO.ef (Ef.callAll (everyR_spec _) rfl) (by decide) ?_ | refine GO.ef (by exact Ef.callAll (everyR_spec _) rfl) (by decide) ?_) | ((with_reducible apply GPW.atEf); first | refine GPW.ef (Ef.callAll (everyR_spec _) rfl) (by decide) ?_ | refine GPW.ef (by exact Ef.callAll (everyR_spec _) rfl) (by decide) ?_))
  rintro _ _ ⟨rfl, rfl⟩
  repeat (first | refine run ?_ | intro _)
  (first | ((with_reducible apply GO.atPlain); first | refine GO.ef (Ef.callAll (everyT_spec _) rfl) (by decide) ?_ | refine GO.ef (by exact Ef.callAll (everyT_spec _) rfl) (by decide) ?_) | ((with_reducible apply GPW.atEf); first | refine GPW.ef (Ef.callAll (everyT_spec _) rfl) (by decide) ?_ | refine GPW.ef (by exact Ef.callAll (everyT_spec _) rfl) (by decide) ?_))
  rintro _ _ ⟨rfl, rfl⟩
  repeat (first | refine run ?_ | intro _)
  (first | ((with_reducible apply GO.atPlain); first | refine GO.ef (Ef.callAll (everyX_spec _) rfl) (by decide) ?_ | refine GO.ef (by exact Ef.callAll (everyX_spec _) rfl) (by decide) ?_) | ((with_reducible apply GPW.atEf); first | refine GPW.ef (Ef.callAll (everyX_spec _) rfl) (by decide) ?_ | refine GPW.ef (by exact Ef.callAll (everyX_spec _) rfl) (by decide) ?_))
  rintro _ _ ⟨rfl, rfl⟩
  repeat (first | refine run ?_ | intro _)
  exact KX.ends (by first | exact ResOk.tmps rfl | (repeat (first | exact ResOk.nil | apply ResOk.tmp rfl | apply ResOk.cell rfl (by rfl) | apply ResOk.cell1 rfl))) (Ent.trans Ent.drop Ent.drop) ⟨rfl, rfl⟩
theorem cvalid_spec {L : List HP} [hk : KR L] (ad : Option Addr) (c : Nat) (its : List Itm) [Rds L ad Itm encIt 7 its] (h : ItsOk its) :
    Tri Tryz.prog 57 #[catV ad its.length c] L (fun v L' => v = .int .i64 0 ∧ L' = L) := by
  refine Tri.body (args := [catV ad its.length c]) 23 en57 Tryz.func57 rfl rfl rfl (by simp) ?_
  repeat (first | refine run ?_ | intro _)
  (first | ((with_reducible apply GO.atPlain); first | refine GO.ef (Ef.callAll (withinLimits_spec ad its.length c h.len) rfl) (by decide) ?_ | refine GO.ef (by exact Ef.callAll (withinLimits_spec ad its.length c h.len) rfl) (by decide) ?_) | ((with_reducible apply GPW.atEf); first | refine GPW.ef (Ef.callAll (withinLimits_spec ad its.length c h.len) rfl) (by decide) ?_ | refine GPW.ef (by exact Ef.callAll (withinLimits_spec ad its.length c h.len) rfl) (by decide) ?_))
  rintro _ _ ⟨rfl, rfl⟩
  repeat (first | refine run ?_ | intro _)
  (first | ((with_reducible apply GO.atPlain); first | refine GO.ef (Ef.callAll (namesFit_spec ad c its h) rfl) (by decide) ?_ | refine GO.ef (by exact Ef.callAll (namesFit_spec ad c its h) rfl) (by decide) ?_) | ((with_reducible apply GPW.atEf); first | refine GPW.ef (Ef.callAll (namesFit_spec ad c its h) rfl) (by decide) ?_ | refine GPW.ef (by exact Ef.callAll (namesFit_spec ad c its h) rfl) (by decide) ?_))
  rintro _ _ ⟨rfl, rfl⟩
  repeat (first | refine run ?_ | intro _)
  (first | ((with_reducible apply GO.atPlain); first | refine GO.ef (Ef.callAll (namesDiffer_spec ad c its h) rfl) (by decide) ?_ | refine GO.ef (by exact Ef.callAll (namesDiffer_spec ad c its h) rfl) (by decide) ?_) | ((with_reducible apply GPW.atEf); first | refine GPW.ef (Ef.callAll (namesDiffer_spec ad c its h) rfl) (by decide) ?_ | refine GPW.ef (by exact Ef.callAll (namesDiffer_spec ad c its h) rfl) (by decide) ?_))
  rintro _ _ ⟨rfl, rfl⟩
  repeat (first | refine run ?_ | intro _)
  (first | ((with_reducible apply GO.atPlain); first | refine GO.ef (Ef.callAll (wellFormed_spec ad c its h) rfl) (by decide) ?_ | refine GO.ef (by exact Ef.callAll (wellFormed_spec ad c its h) rfl) (by decide) ?_) | ((with_reducible apply GPW.atEf); first | refine GPW.ef (Ef.callAll (wellFormed_spec ad c its h) rfl) (by decide) ?_ | refine GPW.ef (by exact Ef.callAll (wellFormed_spec ad c its h) rfl) (by decide) ?_))
  rintro _ _ ⟨rfl, rfl⟩
  repeat (first | refine run ?_ | intro _)
  (first | ((with_reducible apply GO.atPlain); first | refine GO.ef (Ef.callAll (inRange_spec ad c its h) rfl) (by decide) ?_ | refine GO.ef (by exact Ef.callAll (inRange_spec ad c its h) rfl) (by decide) ?_) | ((with_reducible apply GPW.atEf); first | refine GPW.ef (Ef.callAll (inRange_spec ad c its h) rfl) (by decide) ?_ | refine GPW.ef (by exact Ef.callAll (inRange_spec ad c its h) rfl) (by decide) ?_))
  rintro _ _ ⟨rfl, rfl⟩
  repeat (first | refine run ?_ | intro _)
  exact KX.ends (by first | exact ResOk.tmps rfl | (repeat (first | exact ResOk.nil | apply ResOk.tmp rfl | apply ResOk.cell rfl (by rfl) | apply ResOk.cell1 rfl))) Ent.drop ⟨rfl, rfl⟩
end Go.Proofs.YtclgjkeeaopppaaGreatDoor
