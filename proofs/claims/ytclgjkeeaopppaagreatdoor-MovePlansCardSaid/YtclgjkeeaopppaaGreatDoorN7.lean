/- Contracts: sorting a few holdings; the holdings of a ledger with a few stacks. -/
import Derived.Test.YtclgjkeeaopppaaGreatDoorN4
namespace Go.Proofs.YtclgjkeeaopppaaGreatDoor
open Go.V
attribute [local irreducible] G GO GP GPW GPK Ev Ef EfR Ent CB GB Enters

abbrev Hd := Int × Int × Int
/-- The order of holdings. -/
def kle (x y : Hd) : Prop := x.1 < y.1 ∨ x.1 = y.1 ∧ x.2.1 ≤ y.2.1
theorem kle_trans {x y z : Hd} (h : kle x y) (h' : kle y z) : kle x z := by unfold kle at *; omega
theorem kle_total (x y : Hd) : kle x y ∨ kle y x := by unfold kle; omega
def cmpI (a b : Int) : Int := if a < b then -1 else if b < a then 1 else 0
theorem isNaN_spec {L : List HP} (a : Int) : Tri Tryz.prog 66 #[.int .i64 a] L (fun v L' => v = .bool false ∧ L' = L) := by
  refine Tri.body (args := [.int .i64 a]) 6 en66 Tryz.func66 rfl rfl rfl (by simp) ?_
  repeat (first | refine runB ?_ | intro _)
  rw [dB_neg (fun e => e rfl)]
  exact KX.ends (by first | exact ResOk.tmps rfl | (repeat (first | exact ResOk.nil | apply ResOk.tmp rfl | apply ResOk.cell rfl (by rfl) | apply ResOk.cell1 rfl))) (Ent.refl _) ⟨rfl, rfl⟩
theorem compare_spec {L : List HP} (a b : Int) : Tri Tryz.prog 52 #[.int .i64 a, .int .i64 b] L (fun v L' => v = .int .i64 (cmpI a b) ∧ L' = L) := by
  refine Tri.body (args := [.int .i64 a, .int .i64 b]) 20 en52 Tryz.func52 rfl rfl rfl (by simp) ?_
  repeat (first | refine runB ?_ | intro _)
  (first | ((with_reducible apply GO.atPlain); first | refine GO.ef (Ef.callAll (isNaN_spec a) rfl) (by decide) ?_ | refine GO.ef (by exact Ef.callAll (isNaN_spec a) rfl) (by decide) ?_) | ((with_reducible apply GPW.atEf); first | refine GPW.ef (Ef.callAll (isNaN_spec a) rfl) (by decide) ?_ | refine GPW.ef (by exact Ef.callAll (isNaN_spec a) rfl) (by decide) ?_))
  rintro _ L ⟨rfl, rfl⟩
  repeat (first | refine runB ?_ | intro _)
  (first | ((with_reducible apply GO.atPlain); first | refine GO.ef (Ef.callAll (isNaN_spec b) rfl) (by decide) ?_ | refine GO.ef (by exact Ef.callAll (isNaN_spec b) rfl) (by decide) ?_) | ((with_reducible apply GPW.atEf); first | refine GPW.ef (Ef.callAll (isNaN_spec b) rfl) (by decide) ?_ | refine GPW.ef (by exact Ef.callAll (isNaN_spec b) rfl) (by decide) ?_))
  rintro _ L ⟨rfl, rfl⟩
  by_cases h1 : a < b
  · repeat (first | refine runB ?_ | intro _)
    exact KX.ends (by first | exact ResOk.tmps rfl | (repeat (first | exact ResOk.nil | apply ResOk.tmp rfl | apply ResOk.cell rfl (by rfl) | apply ResOk.cell1 rfl))) (Ent.refl _) ⟨by rw [cmpI, if_pos h1]; rfl, rfl⟩
  by_cases h2 : b < a
  · repeat (first | refine runB ?_ | intro _)
    exact KX.ends (by first | exact ResOk.tmps rfl | (repeat (first | exact ResOk.nil | apply ResOk.tmp rfl | apply ResOk.cell rfl (by rfl) | apply ResOk.cell1 rfl))) (Ent.refl _) ⟨by rw [cmpI, if_neg h1, if_pos h2]; rfl, rfl⟩
  · repeat (first | refine runB ?_ | intro _)
    exact KX.ends (by first | exact ResOk.tmps rfl | (repeat (first | exact ResOk.nil | apply ResOk.tmp rfl | apply ResOk.cell rfl (by rfl) | apply ResOk.cell1 rfl))) (Ent.refl _) ⟨by rw [cmpI, if_neg h1, if_neg h2]; rfl, rfl⟩
theorem or2_spec {L : List HP} (ad : Option Addr) (cap : Nat) (x y : Int) [Rds L ad Int (encI .i64) 1 [x, y]] : Tri Tryz.prog 51 #[.slice ad 2 cap] L (fun v L' => v = .int .i64 (if x ≠ 0 then x else y) ∧ L' = L) := by
  have hl : ([x, y] : List Int).length = 2 := rfl
  have h0 : ([x, y] : List Int)[(0 : Int).toNat]! = x := rfl
  have h1 : ([x, y] : List Int)[((0 : Int) + 1).toNat]! = y := rfl
  refine Tri.body (args := [.slice ad 2 cap]) 18 en51 Tryz.func51 rfl rfl rfl (by simp) ?_
  repeat (first | refine runB ?_ | intro _)
  refine G.unroll 3 (GR.step ?_)
  repeat (first | refine runB ?_ | intro _)
  rw [h0]
  by_cases hx : x = 0
  · rw [if_neg (fun e => e hx)]
    repeat (first | refine runB ?_ | intro _)
    refine GR.step ?_
    repeat (first | refine runB ?_ | intro _)
    rw [h1]
    by_cases hy : y = 0
    · repeat (first | refine runB ?_ | intro _)
      refine GR.step ?_
      repeat (first | refine runB ?_ | intro _)
      exact KX.ends (by first | exact ResOk.tmps rfl | (repeat (first | exact ResOk.nil | apply ResOk.tmp rfl | apply ResOk.cell rfl (by rfl) | apply ResOk.cell1 rfl))) (Ent.refl _) ⟨by rw [hy]; rfl, rfl⟩
    · repeat (first | refine runB ?_ | intro _)
      exact KX.ends (by first | exact ResOk.tmps rfl | (repeat (first | exact ResOk.nil | apply ResOk.tmp rfl | apply ResOk.cell rfl (by rfl) | apply ResOk.cell1 rfl))) (Ent.refl _) ⟨rfl, rfl⟩
  · rw [if_pos hx]
    repeat (first | refine runB ?_ | intro _)
    exact KX.ends (by first | exact ResOk.tmps rfl | (repeat (first | exact ResOk.nil | apply ResOk.tmp rfl | apply ResOk.cell rfl (by rfl) | apply ResOk.cell1 rfl))) (Ent.refl _) ⟨rfl, rfl⟩
abbrev plN7_50_1 : List Stp := [.ev 0, .ev 1, .ev 2, .ev 3, .ev 5, .ev 6, .ev 7, .ev 8, .ef 4, .ef 9, .ef 10, .ef 11, .ev 12]
theorem cmpH_spec {L : List HP} (x y : Hd) : Tri Tryz.prog 50 #[.agg (encHd x).toArray, .agg (encHd y).toArray] L (fun v L' => ∃ c : Int, v = .int .i64 c ∧ (c < 0 ↔ ¬ kle y x) ∧ L' = L) := by
  refine Tri.body (args := [.agg (encHd x).toArray, .agg (encHd y).toArray]) 17 en50 Tryz.func50 rfl rfl rfl (by simp) ?_
  repeat (first | refine runB ?_ | intro _ | ((with_reducible apply G.atDraw); first | refine G.draw (N := 17) (id := 1) plN7_50_1 mixed (by kernel_rfl) ?_))
  (first | ((with_reducible apply GO.atPlain); first | refine GO.ef (Ef.callAll (compare_spec x.1 y.1) rfl) (by decide) ?_ | refine GO.ef (by exact Ef.callAll (compare_spec x.1 y.1) rfl) (by decide) ?_) | ((with_reducible apply GPW.atEf); first | refine GPW.ef (Ef.callAll (compare_spec x.1 y.1) rfl) (by decide) ?_ | refine GPW.ef (by exact Ef.callAll (compare_spec x.1 y.1) rfl) (by decide) ?_))
  rintro _ _ ⟨rfl, rfl⟩
  repeat (first | refine runB ?_ | intro _ | ((with_reducible apply G.atDraw); first | refine G.draw (N := 17) (id := 1) plN7_50_1 mixed (by kernel_rfl) ?_))
  (first | ((with_reducible apply GO.atPlain); first | refine GO.ef (Ef.callAll (compare_spec x.2.1 y.2.1) rfl) (by decide) ?_ | refine GO.ef (by exact Ef.callAll (compare_spec x.2.1 y.2.1) rfl) (by decide) ?_) | ((with_reducible apply GPW.atEf); first | refine GPW.ef (Ef.callAll (compare_spec x.2.1 y.2.1) rfl) (by decide) ?_ | refine GPW.ef (by exact Ef.callAll (compare_spec x.2.1 y.2.1) rfl) (by decide) ?_))
  rintro _ _ ⟨rfl, rfl⟩
  repeat (first | refine runB ?_ | intro _ | ((with_reducible apply G.atDraw); first | refine G.draw (N := 17) (id := 1) plN7_50_1 mixed (by kernel_rfl) ?_))
  rename_i bc
  refine GPW.ent (Ent.objSl (enc := encI .i64) (sz := 1) (xs := [cmpI x.1 y.1, cmpI x.2.1 y.2.1]) rfl rfl (by intro y _; rfl) (Nat.le_of_ble_eq_true rfl)) ?_
  (first | ((with_reducible apply GO.atPlain); first | refine GO.ef (Ef.callAll (or2_spec (some ⟨bc, 0, none⟩) 2 (cmpI x.1 y.1) (cmpI x.2.1 y.2.1)) rfl) (by decide) ?_ | refine GO.ef (by exact Ef.callAll (or2_spec (some ⟨bc, 0, none⟩) 2 (cmpI x.1 y.1) (cmpI x.2.1 y.2.1)) rfl) (by decide) ?_) | ((with_reducible apply GPW.atEf); first | refine GPW.ef (Ef.callAll (or2_spec (some ⟨bc, 0, none⟩) 2 (cmpI x.1 y.1) (cmpI x.2.1 y.2.1)) rfl) (by decide) ?_ | refine GPW.ef (by exact Ef.callAll (or2_spec (some ⟨bc, 0, none⟩) 2 (cmpI x.1 y.1) (cmpI x.2.1 y.2.1)) rfl) (by decide) ?_))
  rintro _ _ ⟨rfl, rfl⟩
  repeat (first | refine runB ?_ | intro _ | ((with_reducible apply G.atDraw); first | refine G.draw (N := 17) (id := 1) plN7_50_1 mixed (by kernel_rfl) ?_))
  refine KX.ends (by first | exact ResOk.tmps rfl | (repeat (first | exact ResOk.nil | apply ResOk.tmp rfl | apply ResOk.cell rfl (by rfl) | apply ResOk.cell1 rfl))) (by repeat (first | exact Ent.refl _ | exact Ent.nil _ | refine Ent.take' ?_ | refine Ent.trans Ent.drop ?_)) ⟨_, rfl, ?_, rfl⟩
  unfold kle cmpI
  (repeat' split) <;> omega
abbrev fvH : Value := .func (.func 50) #[] #[]
theorem swap_lem (A : List Hd) (a e : Hd) (R : List Hd) : ((A ++ a :: e :: R).set (A.length + 1) a).set A.length e = A ++ e :: a :: R := by
  induction A with
  | nil => rfl
  | cons x A ih => simp
theorem get_mid (A : List Hd) (e : Hd) (R : List Hd) : (A ++ e :: R)[A.length]! = e := by
  rw [getElem!_of (by simp)]
  simp
abbrev plN7_90_4 : List Stp := [.ev 0, .ev 1, .ev 2, .ev 3, .ev 4, .ev 5, .ev 6, .ev 7, .ev 8, .ev 9, .ev 10, .ev 11, .ev 12, .ev 13, .ef 14, .ev 15, .ev 16]
abbrev plN7_90_6 : List Stp := [.ev 0, .ev 1, .ev 2, .ev 3, .ev 4, .ev 5, .ev 6, .ev 7, .ev 8, .ev 9, .ev 10, .ev 11, .ev 12, .ev 13, .ev 14, .ef 15, .ev 16, .ef 17]
set_option maxHeartbeats 1000000 in
theorem isort_spec {L : List HP} (ad : Option Addr) (cap n : Nat) (xs : List Hd) (hn : n = xs.length) (hl : n ≤ 1000) :
    Tri Tryz.prog 90 #[.slice ad n cap, .int .i64 0, .int .i64 (n : Int), fvH] (osl encHd 3 tHd ad cap xs :: L) (fun _ L' => ∃ ys, (ys.Perm xs ∧ ys.Pairwise kle) ∧ L' = osl encHd 3 tHd ad cap ys :: L) := by
  refine Tri.body (args := [.slice ad n cap, .int .i64 0, .int .i64 (n : Int), fvH]) 53 en90 Tryz.func90 rfl rfl rfl (by simp) ?_
  repeat (first | refine runB ?_ | intro _ | ((with_reducible apply G.atDraw); first | refine G.draw (N := 53) (id := 4) plN7_90_4 mixed (by kernel_rfl) ?_ | refine G.draw (N := 53) (id := 6) plN7_90_6 mixed (by kernel_rfl) ?_))
  refine G.loop (α := Nat × List Hd) (fun z => 1 ≤ z.1 ∧ (z.1 ≤ n ∨ z.1 = 1) ∧ z.2.Perm xs ∧ (z.2.take z.1).Pairwise kle) (fun z => [(0, .slice ad n cap), (1, .int .i64 0), (2, .int .i64 (n : Int)), (3, fvH), (8, .int .i64 (z.1 : Int))]) (fun z => osl encHd 3 tHd ad cap z.2 :: L) (fun z => n - z.1) (1, xs) ⟨Nat.le_refl _, .inr rfl, List.Perm.refl _, ?_⟩ (by repeat (first | exact EnvSub.nil _ | refine EnvSub.cons rfl ?_)) (Ent.refl _) ?_
  · cases xs with
    | nil => simp
    | cons x r => simp
  rintro ⟨i, ys⟩ ⟨hi1, hi2, hp, hs⟩
  dsimp only at hi1 hi2 hp hs ⊢
  have hyl := hp.length_eq
  by_cases hlt : i < n
  case neg =>
    repeat (first | refine runB ?_ | intro _ | ((with_reducible apply G.atDraw); first | refine G.draw (N := 53) (id := 4) plN7_90_4 mixed (by kernel_rfl) ?_ | refine G.draw (N := 53) (id := 6) plN7_90_6 mixed (by kernel_rfl) ?_))
    refine KX.endsN (by first | exact ResOk.tmps rfl | (repeat (first | exact ResOk.nil | apply ResOk.tmp rfl | apply ResOk.cell rfl (by rfl) | apply ResOk.cell1 rfl))) (Ent.refl _) ⟨ys, ⟨hp, ?_⟩, rfl⟩
    rwa [List.take_of_length_le (by omega)] at hs
  obtain ⟨e, he⟩ : ∃ e, e = ys[i]! := ⟨_, rfl⟩
  obtain ⟨C, hC⟩ : ∃ C, C = ys.drop (i + 1) := ⟨_, rfl⟩
  have hys : ys = ys.take i ++ e :: ([] ++ C) := by
    rw [he, hC, getElem!_of (by omega), List.nil_append, ← List.drop_eq_getElem_cons (by omega), List.take_append_drop]
  repeat (first | refine runB ?_ | intro _ | ((with_reducible apply G.atDraw); first | refine G.draw (N := 53) (id := 4) plN7_90_4 mixed (by kernel_rfl) ?_ | refine G.draw (N := 53) (id := 6) plN7_90_6 mixed (by kernel_rfl) ?_))
  refine G.loop (α := Nat × List Hd × List Hd) (fun z => z.2.1.length = z.1 ∧ z.1 + z.2.2.length = i ∧ (z.2.1 ++ e :: (z.2.2 ++ C)).Perm xs ∧ (z.2.1 ++ z.2.2).Pairwise kle ∧ ∀ b ∈ z.2.2, kle e b) (fun z => [(0, .slice ad n cap), (1, .int .i64 0), (2, .int .i64 (n : Int)), (3, fvH), (8, .int .i64 (i : Int)), (9, .int .i64 (z.1 : Int))]) (fun z => osl encHd 3 tHd ad cap (z.2.1 ++ e :: (z.2.2 ++ C)) :: L) (fun z => z.1) (i, ys.take i, []) ⟨?_, ?_, ?_, ?_, ?_⟩ (by repeat (first | exact EnvSub.nil _ | refine EnvSub.cons rfl ?_)) ?_ ?_
  · simp; omega
  · simp
  · rw [← hys]; exact hp
  · simpa using hs
  · simp
  · dsimp only
    rw [← hys]
    exact Ent.refl _
  rintro ⟨j, A, B⟩ ⟨hA, hAB, hp2, hs2, hB⟩
  dsimp only at hA hAB hp2 hs2 hB ⊢
  have hcl : (A ++ e :: (B ++ C)).length = n := by rw [hp2.length_eq, hn]
  have fin : (A ++ e :: B).Pairwise kle → ((A ++ e :: (B ++ C)).take (i + 1)).Pairwise kle := by
    intro h
    have : A ++ e :: (B ++ C) = (A ++ e :: B) ++ C := by simp
    rw [this, List.take_left' (by simp; omega)]
    exact h
  by_cases hj0 : j = 0
  · have hAn : A = [] := List.eq_nil_of_length_eq_zero (by omega)
    subst hAn
    repeat (first | refine runB ?_ | intro _ | ((with_reducible apply G.atDraw); first | refine G.draw (N := 53) (id := 4) plN7_90_4 mixed (by kernel_rfl) ?_ | refine G.draw (N := 53) (id := 6) plN7_90_6 mixed (by kernel_rfl) ?_))
    refine ⟨(i + 1, [] ++ e :: (B ++ C)), ⟨by dsimp only; omega, .inl (by dsimp only; omega), hp2, fin ?_⟩, by dsimp only; omega, ?_, Ent.refl _⟩
    · rw [List.nil_append, List.pairwise_cons]
      exact ⟨hB, by simpa using hs2⟩
    · dsimp only
      rw [show ((i + 1 : Nat) : Int) = (i : Int) + 1 by omega]
      exact (by repeat (first | exact EnvSub.nil _ | refine EnvSub.cons rfl ?_))
  obtain ⟨A', a, hA'⟩ : ∃ A' a, A = A' ++ [a] := by
    rcases List.eq_nil_or_concat A with h | ⟨A', a, h⟩
    · rw [h] at hA; exact absurd hA.symm hj0
    · exact ⟨A', a, by simpa using h⟩
  subst hA'
  have hAl : A'.length + 1 = j := by simpa using hA
  have hcur : A' ++ [a] ++ e :: (B ++ C) = A' ++ a :: e :: (B ++ C) := by simp
  rw [hcur] at hcl fin hp2 ⊢
  have hje : (A' ++ a :: e :: (B ++ C))[(j : Int).toNat]! = e := by
    have := get_mid (A' ++ [a]) e (B ++ C)
    rw [hcur] at this
    rw [show (j : Int).toNat = (A' ++ [a]).length by simp; omega]
    exact this
  have hja : (A' ++ a :: e :: (B ++ C))[((j : Int) - 1).toNat]! = a := by
    rw [show ((j : Int) - 1).toNat = A'.length by omega]
    exact get_mid A' a (e :: (B ++ C))
  repeat (first | refine runB ?_ | intro _ | ((with_reducible apply G.atDraw); first | refine G.draw (N := 53) (id := 4) plN7_90_4 mixed (by kernel_rfl) ?_ | refine G.draw (N := 53) (id := 6) plN7_90_6 mixed (by kernel_rfl) ?_))
  rw [hje, hja]
  (first | ((with_reducible apply GO.atPlain); first | refine GO.ef (Ef.callFnW rfl rfl (cmpH_spec e a)) (by decide) ?_ | refine GO.ef (by exact Ef.callFnW rfl rfl (cmpH_spec e a)) (by decide) ?_) | ((with_reducible apply GPW.atEf); first | refine GPW.ef (Ef.callFnW rfl rfl (cmpH_spec e a)) (by decide) ?_ | refine GPW.ef (by exact Ef.callFnW rfl rfl (cmpH_spec e a)) (by decide) ?_))
  rintro _ _ ⟨c, rfl, hc, rfl⟩
  by_cases hk : kle a e
  · have hc0 : ¬ c < 0 := fun h => (hc.1 h) hk
    repeat (first | refine runB ?_ | intro _ | ((with_reducible apply G.atDraw); first | refine G.draw (N := 53) (id := 4) plN7_90_4 mixed (by kernel_rfl) ?_ | refine G.draw (N := 53) (id := 6) plN7_90_6 mixed (by kernel_rfl) ?_))
    refine ⟨(i + 1, A' ++ a :: e :: (B ++ C)), ⟨by dsimp only; omega, .inl (by dsimp only; omega), hp2, fin ?_⟩, by dsimp only; omega, ?_, Ent.refl _⟩
    · rw [List.pairwise_append] at hs2 ⊢
      obtain ⟨s1, s2, s3⟩ := hs2
      refine ⟨s1, List.pairwise_cons.2 ⟨hB, s2⟩, ?_⟩
      have hae : ∀ x ∈ A' ++ [a], kle x e := by
        intro x hx
        rcases List.mem_append.1 hx with hx | hx
        · exact kle_trans ((List.pairwise_append.1 s1).2.2 x hx a (by simp)) hk
        · rw [List.mem_singleton] at hx; subst hx; exact hk
      intro x hx y hy
      rcases List.mem_cons.1 hy with rfl | hy
      · exact hae x hx
      · exact s3 x hx y hy
    · dsimp only
      rw [show ((i + 1 : Nat) : Int) = (i : Int) + 1 by omega]
      exact (by repeat (first | exact EnvSub.nil _ | refine EnvSub.cons rfl ?_))
  · have hc0 : c < 0 := hc.2 hk
    repeat (first | refine runB ?_ | intro _ | ((with_reducible apply G.atDraw); first | refine G.draw (N := 53) (id := 4) plN7_90_4 mixed (by kernel_rfl) ?_ | refine G.draw (N := 53) (id := 6) plN7_90_6 mixed (by kernel_rfl) ?_))
    (first | ((with_reducible apply GO.atPlain); first | refine GO.ef (Ef.storeElAgg (enc := encHd) (e := (A' ++ a :: e :: (B ++ C))[((j : Int) - 1).toNat]!) rfl rfl (by rfl) (by rfl) (encHd_one _) (by omega)) (by decide) ?_ | refine GO.ef (by exact Ef.storeElAgg (enc := encHd) (e := (A' ++ a :: e :: (B ++ C))[((j : Int) - 1).toNat]!) rfl rfl (by rfl) (by rfl) (encHd_one _) (by omega)) (by decide) ?_) | ((with_reducible apply GPW.atEf); first | refine GPW.ef (Ef.storeElAgg (enc := encHd) (e := (A' ++ a :: e :: (B ++ C))[((j : Int) - 1).toNat]!) rfl rfl (by rfl) (by rfl) (encHd_one _) (by omega)) (by decide) ?_ | refine GPW.ef (by exact Ef.storeElAgg (enc := encHd) (e := (A' ++ a :: e :: (B ++ C))[((j : Int) - 1).toNat]!) rfl rfl (by rfl) (by rfl) (encHd_one _) (by omega)) (by decide) ?_) | ((with_reducible apply GO.atUnit); first | refine GO.efu (Ef.storeElAgg (enc := encHd) (e := (A' ++ a :: e :: (B ++ C))[((j : Int) - 1).toNat]!) rfl rfl (by rfl) (by rfl) (encHd_one _) (by omega)) ?_ | refine GO.efu (by exact Ef.storeElAgg (enc := encHd) (e := (A' ++ a :: e :: (B ++ C))[((j : Int) - 1).toNat]!) rfl rfl (by rfl) (by rfl) (encHd_one _) (by omega)) ?_) | ((with_reducible apply GPW.atEfu); first | refine GPW.efu (Ef.storeElAgg (enc := encHd) (e := (A' ++ a :: e :: (B ++ C))[((j : Int) - 1).toNat]!) rfl rfl (by rfl) (by rfl) (encHd_one _) (by omega)) ?_ | refine GPW.efu (by exact Ef.storeElAgg (enc := encHd) (e := (A' ++ a :: e :: (B ++ C))[((j : Int) - 1).toNat]!) rfl rfl (by rfl) (by rfl) (encHd_one _) (by omega)) ?_))
    rintro _ _ rfl
    have hsl : ((A' ++ a :: e :: (B ++ C)).set (j : Int).toNat (A' ++ a :: e :: (B ++ C))[((j : Int) - 1).toNat]!).length = n := by rw [List.length_set]; exact hcl
    repeat (first | refine runB ?_ | intro _ | ((with_reducible apply G.atDraw); first | refine G.draw (N := 53) (id := 4) plN7_90_4 mixed (by kernel_rfl) ?_ | refine G.draw (N := 53) (id := 6) plN7_90_6 mixed (by kernel_rfl) ?_))
    (first | ((with_reducible apply GO.atPlain); first | refine GO.ef (Ef.storeElAgg (enc := encHd) (e := (A' ++ a :: e :: (B ++ C))[(j : Int).toNat]!) rfl rfl (by rfl) (by rfl) (encHd_one _) (by omega)) (by decide) ?_ | refine GO.ef (by exact Ef.storeElAgg (enc := encHd) (e := (A' ++ a :: e :: (B ++ C))[(j : Int).toNat]!) rfl rfl (by rfl) (by rfl) (encHd_one _) (by omega)) (by decide) ?_) | ((with_reducible apply GPW.atEf); first | refine GPW.ef (Ef.storeElAgg (enc := encHd) (e := (A' ++ a :: e :: (B ++ C))[(j : Int).toNat]!) rfl rfl (by rfl) (by rfl) (encHd_one _) (by omega)) (by decide) ?_ | refine GPW.ef (by exact Ef.storeElAgg (enc := encHd) (e := (A' ++ a :: e :: (B ++ C))[(j : Int).toNat]!) rfl rfl (by rfl) (by rfl) (encHd_one _) (by omega)) (by decide) ?_) | ((with_reducible apply GO.atUnit); first | refine GO.efu (Ef.storeElAgg (enc := encHd) (e := (A' ++ a :: e :: (B ++ C))[(j : Int).toNat]!) rfl rfl (by rfl) (by rfl) (encHd_one _) (by omega)) ?_ | refine GO.efu (by exact Ef.storeElAgg (enc := encHd) (e := (A' ++ a :: e :: (B ++ C))[(j : Int).toNat]!) rfl rfl (by rfl) (by rfl) (encHd_one _) (by omega)) ?_) | ((with_reducible apply GPW.atEfu); first | refine GPW.efu (Ef.storeElAgg (enc := encHd) (e := (A' ++ a :: e :: (B ++ C))[(j : Int).toNat]!) rfl rfl (by rfl) (by rfl) (encHd_one _) (by omega)) ?_ | refine GPW.efu (by exact Ef.storeElAgg (enc := encHd) (e := (A' ++ a :: e :: (B ++ C))[(j : Int).toNat]!) rfl rfl (by rfl) (by rfl) (encHd_one _) (by omega)) ?_))
    rintro _ _ rfl
    have hsw : ((A' ++ a :: e :: (B ++ C)).set (j : Int).toNat (A' ++ a :: e :: (B ++ C))[((j : Int) - 1).toNat]!).set ((j : Int) - 1).toNat (A' ++ a :: e :: (B ++ C))[(j : Int).toNat]! = A' ++ e :: ((a :: B) ++ C) := by
      rw [hje, hja, show ((j : Int) - 1).toNat = A'.length by omega, show (j : Int).toNat = A'.length + 1 by omega, swap_lem]
      rfl
    rw [hsw]
    repeat (first | refine runB ?_ | intro _ | ((with_reducible apply G.atDraw); first | refine G.draw (N := 53) (id := 4) plN7_90_4 mixed (by kernel_rfl) ?_ | refine G.draw (N := 53) (id := 6) plN7_90_6 mixed (by kernel_rfl) ?_))
    refine ⟨(j - 1, A', a :: B), ⟨by dsimp only; omega, by dsimp only; simp; omega, ?_, ?_, ?_⟩, by dsimp only; omega, ?_, Ent.refl _⟩
    · dsimp only
      refine List.Perm.trans ?_ hp2
      exact (List.Perm.swap a e (B ++ C)).append_left A'
    · dsimp only
      simpa using hs2
    · intro b hb
      rcases List.mem_cons.1 hb with rfl | hb
      · exact (kle_total e b).elim id (fun h => absurd h hk)
      · exact hB b hb
    · dsimp only
      rw [show ((j - 1 : Nat) : Int) = (j : Int) - 1 by omega]
      exact (by repeat (first | exact EnvSub.nil _ | refine EnvSub.cons rfl ?_))
abbrev plN7_64_17 : List Stp := [.ev 0, .ev 1, .ev 2, .ev 3, .ev 4, .ev 5, .ev 6, .ev 7, .ev 8, .ev 9, .ev 10, .ev 11, .ev 12, .ef 13, .ev 14, .ev 15, .ev 16]
theorem pdq12_spec {L : List HP} (ad : Option Addr) (cap n : Nat) (k : Int) (xs : List Hd) (hn : n = xs.length) (hl : n ≤ 12) :
    Tri Tryz.prog 64 #[.slice ad n cap, .int .i64 0, .int .i64 (n : Int), .int .i64 k, fvH] (osl encHd 3 tHd ad cap xs :: L) (fun _ L' => ∃ ys, (ys.Perm xs ∧ ys.Pairwise kle) ∧ L' = osl encHd 3 tHd ad cap ys :: L) := by
  refine Tri.body (args := [.slice ad n cap, .int .i64 0, .int .i64 (n : Int), .int .i64 k, fvH]) 148 en64 Tryz.func64 rfl rfl rfl (by simp) ?_
  repeat (first | refine runB ?_ | intro _ | ((with_reducible apply G.atDraw); first | refine G.draw (N := 148) (id := 17) plN7_64_17 mixed (by kernel_rfl) ?_))
  refine G.unroll 1 (GR.step ?_)
  repeat (first | refine runB ?_ | intro _ | ((with_reducible apply G.atDraw); first | refine G.draw (N := 148) (id := 17) plN7_64_17 mixed (by kernel_rfl) ?_))
  (first | ((with_reducible apply GO.atPlain); first | refine GO.ef (Ef.callAll (isort_spec ad cap n xs hn (by omega)) rfl) (by decide) ?_ | refine GO.ef (by exact Ef.callAll (isort_spec ad cap n xs hn (by omega)) rfl) (by decide) ?_) | ((with_reducible apply GPW.atEf); first | refine GPW.ef (Ef.callAll (isort_spec ad cap n xs hn (by omega)) rfl) (by decide) ?_ | refine GPW.ef (by exact Ef.callAll (isort_spec ad cap n xs hn (by omega)) rfl) (by decide) ?_))
  rintro _ _ ⟨ys, hys, rfl⟩
  repeat (first | refine runB ?_ | intro _ | ((with_reducible apply G.atDraw); first | refine G.draw (N := 148) (id := 17) plN7_64_17 mixed (by kernel_rfl) ?_))
  exact KX.ends (by first | exact ResOk.tmps rfl | (repeat (first | exact ResOk.nil | apply ResOk.tmp rfl | apply ResOk.cell rfl (by rfl) | apply ResOk.cell1 rfl))) (Ent.refl _) ⟨ys, hys, rfl⟩
theorem sort12_spec {L : List HP} (ad : Option Addr) (cap n : Nat) (xs : List Hd) (hn : n = xs.length) (hl : n ≤ 12) :
    Tri Tryz.prog 49 #[.slice ad n cap, fvH] (osl encHd 3 tHd ad cap xs :: L) (fun _ L' => ∃ ys, (ys.Perm xs ∧ ys.Pairwise kle) ∧ L' = osl encHd 3 tHd ad cap ys :: L) := by
  refine Tri.body (args := [.slice ad n cap, fvH]) 14 en49 Tryz.func49 rfl rfl rfl (by simp) ?_
  repeat (first | refine runB ?_ | intro _ | ((with_reducible apply GO.atPlain); refine GO.callIn en65 Tryz.func65 rfl rfl rfl rfl (by simp) (by decide) ?_) | ((with_reducible apply GPW.atEf); refine GPW.callIn en65 Tryz.func65 rfl rfl rfl rfl (by simp) (by decide) ?_) | ((with_reducible apply GO.atPlain); refine GO.callFnIn rfl en65 Tryz.func65 rfl rfl rfl rfl (by simp) (by decide) ?_) | ((with_reducible apply GPW.atEf); refine GPW.callFnIn rfl en65 Tryz.func65 rfl rfl rfl rfl (by simp) (by decide) ?_) | ((with_reducible apply KX.atIn); first | refine KX.in0 (.inl rfl) ?_ | refine KX.in0 (.inr rfl) ?_ | refine KX.in1 (.inl rfl) rfl ?_ | refine KX.in2 (.inl rfl) rfl rfl ?_ | refine KX.in3 (.inl rfl) rfl rfl rfl ?_ | refine KX.inC (.inl rfl) rfl (by rfl) ?_ | refine KX.inC1 (.inl rfl) rfl (by rfl) rfl ?_))
  (first | ((with_reducible apply GO.atPlain); first | refine GO.ef (Ef.callAll (len64_spec (n : Int) (by omega) (by omega)) rfl) (by decide) ?_ | refine GO.ef (by exact Ef.callAll (len64_spec (n : Int) (by omega) (by omega)) rfl) (by decide) ?_) | ((with_reducible apply GPW.atEf); first | refine GPW.ef (Ef.callAll (len64_spec (n : Int) (by omega) (by omega)) rfl) (by decide) ?_ | refine GPW.ef (by exact Ef.callAll (len64_spec (n : Int) (by omega) (by omega)) rfl) (by decide) ?_))
  rintro _ _ ⟨k, rfl, rfl⟩
  repeat (first | refine runB ?_ | intro _ | ((with_reducible apply GO.atPlain); refine GO.callIn en65 Tryz.func65 rfl rfl rfl rfl (by simp) (by decide) ?_) | ((with_reducible apply GPW.atEf); refine GPW.callIn en65 Tryz.func65 rfl rfl rfl rfl (by simp) (by decide) ?_) | ((with_reducible apply GO.atPlain); refine GO.callFnIn rfl en65 Tryz.func65 rfl rfl rfl rfl (by simp) (by decide) ?_) | ((with_reducible apply GPW.atEf); refine GPW.callFnIn rfl en65 Tryz.func65 rfl rfl rfl rfl (by simp) (by decide) ?_) | ((with_reducible apply KX.atIn); first | refine KX.in0 (.inl rfl) ?_ | refine KX.in0 (.inr rfl) ?_ | refine KX.in1 (.inl rfl) rfl ?_ | refine KX.in2 (.inl rfl) rfl rfl ?_ | refine KX.in3 (.inl rfl) rfl rfl rfl ?_ | refine KX.inC (.inl rfl) rfl (by rfl) ?_ | refine KX.inC1 (.inl rfl) rfl (by rfl) rfl ?_))
  (first | ((with_reducible apply GO.atPlain); first | refine GO.ef (Ef.callAll (pdq12_spec ad cap n k xs hn hl) rfl) (by decide) ?_ | refine GO.ef (by exact Ef.callAll (pdq12_spec ad cap n k xs hn hl) rfl) (by decide) ?_) | ((with_reducible apply GPW.atEf); first | refine GPW.ef (Ef.callAll (pdq12_spec ad cap n k xs hn hl) rfl) (by decide) ?_ | refine GPW.ef (by exact Ef.callAll (pdq12_spec ad cap n k xs hn hl) rfl) (by decide) ?_))
  rintro _ _ ⟨ys, hys, rfl⟩
  repeat (first | refine runB ?_ | intro _ | ((with_reducible apply GO.atPlain); refine GO.callIn en65 Tryz.func65 rfl rfl rfl rfl (by simp) (by decide) ?_) | ((with_reducible apply GPW.atEf); refine GPW.callIn en65 Tryz.func65 rfl rfl rfl rfl (by simp) (by decide) ?_) | ((with_reducible apply GO.atPlain); refine GO.callFnIn rfl en65 Tryz.func65 rfl rfl rfl rfl (by simp) (by decide) ?_) | ((with_reducible apply GPW.atEf); refine GPW.callFnIn rfl en65 Tryz.func65 rfl rfl rfl rfl (by simp) (by decide) ?_) | ((with_reducible apply KX.atIn); first | refine KX.in0 (.inl rfl) ?_ | refine KX.in0 (.inr rfl) ?_ | refine KX.in1 (.inl rfl) rfl ?_ | refine KX.in2 (.inl rfl) rfl rfl ?_ | refine KX.in3 (.inl rfl) rfl rfl rfl ?_ | refine KX.inC (.inl rfl) rfl (by rfl) ?_ | refine KX.inC1 (.inl rfl) rfl (by rfl) rfl ?_))
  exact KX.endsN (by first | exact ResOk.tmps rfl | (repeat (first | exact ResOk.nil | apply ResOk.tmp rfl | apply ResOk.cell rfl (by rfl) | apply ResOk.cell1 rfl))) (Ent.refl _) ⟨ys, hys, rfl⟩
def holdX (p : (Int × Int) × Stk) : Hd := (p.1.1, p.1.2, lsum p.2.lots)
def holdP (p : (Int × Int) × List Lot) : Hd := (p.1.1, p.1.2, lsum p.2)
abbrev plN7_29_5 : List Stp := [.ev 0, .ev 1, .ev 2, .ev 3, .ev 4, .ev 5, .ef 6, .ev 7, .ef 8, .ef 9, .ev 10]
set_option maxHeartbeats 1000000 in
theorem holdings_spec {L : List HP} (b : Nat) (S : LedS) (hS : S.Ok) (hl : S.stk.length ≤ 12) :
    Tri Tryz.prog 29 #[.pointer (some ⟨b, 0, none⟩)] (LedR b S :: L) (fun v L' => ∃ ad cap hs, v = .slice ad hs.length cap ∧ (hs.Perm (S.stk.map holdP) ∧ hs.Pairwise kle) ∧ L' = osl encHd 3 tHd ad cap hs :: LedR b S :: L) := by
  refine Tri.body (args := [.pointer (some ⟨b, 0, none⟩)]) 35 en29 Tryz.func29 rfl rfl rfl (by simp) ?_
  refine G.openX (f := ledA b S) ?_
  intro x
  simp only [ledA, ledL, ledCells, List.cons_append, List.nil_append]
  refine G.pureE ?_
  intro hF
  have hxl : x.stk.length = S.stk.length := by rw [← hF.stk]; simp
  repeat (first | refine runB ?_ | intro _ | ((with_reducible apply G.atDraw); first | refine G.draw (N := 35) (id := 5) plN7_29_5 mixed (by kernel_rfl) ?_))
  (first | ((with_reducible apply GO.atPlain); first | refine GO.ev (Ev.lenG rfl) (by decide) ?_ | refine GO.ev (by exact Ev.lenG rfl) (by decide) ?_) | ((with_reducible apply GPW.atEv); first | refine GPW.evP (Ev.lenG rfl) (by decide) ?_ | refine GPW.evP (by exact Ev.lenG rfl) (by decide) ?_) | ((with_reducible apply GPW.atEv); first | refine GPW.evL (Ev.lenG rfl) (by decide) ?_ | refine GPW.evL (by exact Ev.lenG rfl) (by decide) ?_))
  repeat (first | refine runB ?_ | intro _ | ((with_reducible apply G.atDraw); first | refine G.draw (N := 35) (id := 5) plN7_29_5 mixed (by kernel_rfl) ?_))
  (first | ((with_reducible apply GO.atPlain); first | refine GO.ef (Ef.makeSliceG encHd ((0, 0, 0) : Int × Int × Int) rfl rfl rfl (by decide) (by omega) (by omega) (by omega)) (by decide) ?_ | refine GO.ef (by exact Ef.makeSliceG encHd ((0, 0, 0) : Int × Int × Int) rfl rfl rfl (by decide) (by omega) (by omega) (by omega)) (by decide) ?_) | ((with_reducible apply GPW.atEf); first | refine GPW.ef (Ef.makeSliceG encHd ((0, 0, 0) : Int × Int × Int) rfl rfl rfl (by decide) (by omega) (by omega) (by omega)) (by decide) ?_ | refine GPW.ef (by exact Ef.makeSliceG encHd ((0, 0, 0) : Int × Int × Int) rfl rfl rfl (by decide) (by omega) (by omega) (by omega)) (by decide) ?_) | ((with_reducible apply GO.atUnit); first | refine GO.efu (Ef.makeSliceG encHd ((0, 0, 0) : Int × Int × Int) rfl rfl rfl (by decide) (by omega) (by omega) (by omega)) ?_ | refine GO.efu (by exact Ef.makeSliceG encHd ((0, 0, 0) : Int × Int × Int) rfl rfl rfl (by decide) (by omega) (by omega) (by omega)) ?_) | ((with_reducible apply GPW.atEfu); first | refine GPW.efu (Ef.makeSliceG encHd ((0, 0, 0) : Int × Int × Int) rfl rfl rfl (by decide) (by omega) (by omega) (by omega)) ?_ | refine GPW.efu (by exact Ef.makeSliceG encHd ((0, 0, 0) : Int × Int × Int) rfl rfl rfl (by decide) (by omega) (by omega) (by omega)) ?_))
  rintro _ _ ⟨bs, rfl, rfl⟩
  rw [show List.replicate (0 : Int).toNat ((0, 0, 0) : Int × Int × Int) = [] from rfl]
  repeat (first | refine runB ?_ | intro _ | ((with_reducible apply G.atDraw); first | refine G.draw (N := 35) (id := 5) plN7_29_5 mixed (by kernel_rfl) ?_))
  (first | ((with_reducible apply GO.atPlain); first | refine GO.ef (Ef.rangeG rfl) (by decide) ?_ | refine GO.ef (by exact Ef.rangeG rfl) (by decide) ?_) | ((with_reducible apply GPW.atEf); first | refine GPW.ef (Ef.rangeG rfl) (by decide) ?_ | refine GPW.ef (by exact Ef.rangeG rfl) (by decide) ?_) | ((with_reducible apply GO.atUnit); first | refine GO.efu (Ef.rangeG rfl) ?_ | refine GO.efu (by exact Ef.rangeG rfl) ?_) | ((with_reducible apply GPW.atEfu); first | refine GPW.efu (Ef.rangeG rfl) ?_ | refine GPW.efu (by exact Ef.rangeG rfl) ?_))
  rintro _ _ ⟨r, rfl, rfl⟩
  repeat (first | refine runB ?_ | intro _ | ((with_reducible apply G.atDraw); first | refine G.draw (N := 35) (id := 5) plN7_29_5 mixed (by kernel_rfl) ?_))
  refine G.loop (α := Option Addr × Nat × List ((Int × Int) × Stk)) (fun z => z.2.2.length ≤ x.stk.length) (fun z => [(3, .slice z.1 (z.2.2.map holdX).length z.2.1), (16, .pointer (some ⟨r, 0, none⟩))]) (fun z => gmapIt kvP Stk.v x.ms x.stk r z.2.2 :: osl encHd 3 tHd z.1 z.2.1 (z.2.2.map holdX) :: obj b tLed (ledCells S x) :: gmap kvI encN x.mt S.tot :: osl encSt 7 tStep x.sad x.scap x.steps :: osl encRaw 11 tFlow x.fad x.fcap x.flows :: gmap kvI Stk.v x.mi [] :: gmap kvI Stk.v x.mr [] :: isl encIt 7 x.iad S.its :: allP (fun p : (Int × Int) × Stk => stkP p.2) x.stk :: L) (fun z => x.stk.length - z.2.2.length) (some ⟨bs, 0, none⟩, (x.stk.length : Int).toNat, []) (Nat.zero_le _) (by repeat (first | exact EnvSub.nil _ | refine EnvSub.cons rfl ?_)) (Ent.refl _) ?_
  rintro ⟨ad, cap, done⟩ hdl
  dsimp only at hdl ⊢
  have hml : (done.map holdX).length = done.length := by simp
  repeat (first | refine runB ?_ | intro _ | ((with_reducible apply G.atDraw); first | refine G.draw (N := 35) (id := 5) plN7_29_5 mixed (by kernel_rfl) ?_))
  (first | ((with_reducible apply GO.atPlain); first | refine GO.ef (Ef.nextG rfl) (by decide) ?_ | refine GO.ef (by exact Ef.nextG rfl) (by decide) ?_) | ((with_reducible apply GPW.atEf); first | refine GPW.ef (Ef.nextG rfl) (by decide) ?_ | refine GPW.ef (by exact Ef.nextG rfl) (by decide) ?_) | ((with_reducible apply GO.atUnit); first | refine GO.efu (Ef.nextG rfl) ?_ | refine GO.efu (by exact Ef.nextG rfl) ?_) | ((with_reducible apply GPW.atEfu); first | refine GPW.efu (Ef.nextG rfl) ?_ | refine GPW.efu (by exact Ef.nextG rfl) ?_))
  rintro _ _ (⟨rfl, rfl, hp⟩ | ⟨p, rfl, rfl, hpm, hpn, hl2⟩)
  · have hdl2 := hp.length_eq
    repeat (first | refine runB ?_ | intro _ | ((with_reducible apply G.atDraw); first | refine G.draw (N := 35) (id := 5) plN7_29_5 mixed (by kernel_rfl) ?_))
    refine GO.ent (Ent.at (A := osl encHd 3 tHd ad cap (done.map holdX)) (Ent.refl _)) ?_
    (first | ((with_reducible apply GO.atPlain); first | refine GO.ef (Ef.callAll (sort12_spec ad cap (done.map holdX).length (done.map holdX) rfl (by omega)) rfl) (by decide) ?_ | refine GO.ef (by exact Ef.callAll (sort12_spec ad cap (done.map holdX).length (done.map holdX) rfl (by omega)) rfl) (by decide) ?_) | ((with_reducible apply GPW.atEf); first | refine GPW.ef (Ef.callAll (sort12_spec ad cap (done.map holdX).length (done.map holdX) rfl (by omega)) rfl) (by decide) ?_ | refine GPW.ef (by exact Ef.callAll (sort12_spec ad cap (done.map holdX).length (done.map holdX) rfl (by omega)) rfl) (by decide) ?_))
    rintro _ _ ⟨ys, ⟨hys1, hys2⟩, rfl⟩
    repeat (first | refine runB ?_ | intro _ | ((with_reducible apply G.atDraw); first | refine G.draw (N := 35) (id := 5) plN7_29_5 mixed (by kernel_rfl) ?_))
    refine KX.ends (by first | exact ResOk.tmps rfl | (repeat (first | exact ResOk.nil | apply ResOk.tmp rfl | apply ResOk.cell rfl (by rfl) | apply ResOk.cell1 rfl))) ?_ ⟨ad, cap, ys, by rw [hys1.length_eq]; rfl, ⟨hys1.trans ?_, hys2⟩, rfl⟩
    · refine (Ent.at (A := gmapIt kvP Stk.v x.ms x.stk r done) Ent.itEnd).trans ?_
      refine Ent.trans ?_ (Ent.consR (ledClose x hF))
      simp only [ledL]
      repeat (first | exact Ent.refl _ | exact Ent.nil _ | refine Ent.take' ?_ | refine Ent.trans Ent.drop ?_)
    · have e : x.stk.map holdX = S.stk.map holdP := by rw [← hF.stk, List.map_map]; rfl
      rw [← e]
      exact hp.map holdX
  obtain ⟨hc1, hc2⟩ := hS.stk (p.1, p.2.lots) (by rw [← hF.stk]; exact List.mem_map.2 ⟨p, hpm, rfl⟩)
  dsimp only at hc1 hc2
  refine GO.ent (Ent.at (A := allP (fun p : (Int × Int) × Stk => stkP p.2) x.stk) (Ent.allP_get (x := p) hpm)) ?_
  repeat (first | refine runB ?_ | intro _ | ((with_reducible apply G.atDraw); first | refine G.draw (N := 35) (id := 5) plN7_29_5 mixed (by kernel_rfl) ?_))
  (first | ((with_reducible apply GO.atPlain); first | refine GO.ev (Ev.entryG (done := done) rfl rfl) (by decide) ?_ | refine GO.ev (by exact Ev.entryG (done := done) rfl rfl) (by decide) ?_) | ((with_reducible apply GPW.atEv); first | refine GPW.evP (Ev.entryG (done := done) rfl rfl) (by decide) ?_ | refine GPW.evP (by exact Ev.entryG (done := done) rfl rfl) (by decide) ?_) | ((with_reducible apply GPW.atEv); first | refine GPW.evL (Ev.entryG (done := done) rfl rfl) (by decide) ?_ | refine GPW.evL (by exact Ev.entryG (done := done) rfl rfl) (by decide) ?_))
  simp only [kvP, Stk.v, List.map_cons, List.map_nil]
  repeat (first | refine runB ?_ | intro _ | ((with_reducible apply G.atDraw); first | refine G.draw (N := 35) (id := 5) plN7_29_5 mixed (by kernel_rfl) ?_))
  (first | ((with_reducible apply GO.atPlain); first | refine GO.ef (Ef.callAll (stotal_spec p.2.ad _ p.2.cap p.2.lots rfl (by omega) hc2) rfl) (by decide) ?_ | refine GO.ef (by exact Ef.callAll (stotal_spec p.2.ad _ p.2.cap p.2.lots rfl (by omega) hc2) rfl) (by decide) ?_) | ((with_reducible apply GPW.atEf); first | refine GPW.ef (Ef.callAll (stotal_spec p.2.ad _ p.2.cap p.2.lots rfl (by omega) hc2) rfl) (by decide) ?_ | refine GPW.ef (by exact Ef.callAll (stotal_spec p.2.ad _ p.2.cap p.2.lots rfl (by omega) hc2) rfl) (by decide) ?_))
  rintro _ _ ⟨rfl, rfl⟩
  repeat (first | refine runB ?_ | intro _ | ((with_reducible apply G.atDraw); first | refine G.draw (N := 35) (id := 5) plN7_29_5 mixed (by kernel_rfl) ?_))
  (first | ((with_reducible apply GO.atPlain); first | refine GO.ef (Ef.append1 (enc := encHd) (e := holdX p) rfl rfl rfl rfl rfl (by rfl) (encHd_one _) (by omega) (by omega)) (by decide) ?_ | refine GO.ef (by exact Ef.append1 (enc := encHd) (e := holdX p) rfl rfl rfl rfl rfl (by rfl) (encHd_one _) (by omega) (by omega)) (by decide) ?_) | ((with_reducible apply GPW.atEf); first | refine GPW.ef (Ef.append1 (enc := encHd) (e := holdX p) rfl rfl rfl rfl rfl (by rfl) (encHd_one _) (by omega) (by omega)) (by decide) ?_ | refine GPW.ef (by exact Ef.append1 (enc := encHd) (e := holdX p) rfl rfl rfl rfl rfl (by rfl) (encHd_one _) (by omega) (by omega)) (by decide) ?_) | ((with_reducible apply GO.atUnit); first | refine GO.efu (Ef.append1 (enc := encHd) (e := holdX p) rfl rfl rfl rfl rfl (by rfl) (encHd_one _) (by omega) (by omega)) ?_ | refine GO.efu (by exact Ef.append1 (enc := encHd) (e := holdX p) rfl rfl rfl rfl rfl (by rfl) (encHd_one _) (by omega) (by omega)) ?_) | ((with_reducible apply GPW.atEfu); first | refine GPW.efu (Ef.append1 (enc := encHd) (e := holdX p) rfl rfl rfl rfl rfl (by rfl) (encHd_one _) (by omega) (by omega)) ?_ | refine GPW.efu (by exact Ef.append1 (enc := encHd) (e := holdX p) rfl rfl rfl rfl rfl (by rfl) (encHd_one _) (by omega) (by omega)) ?_))
  rintro _ _ ⟨ad2, cap2, rfl, rfl⟩
  repeat (first | refine runB ?_ | intro _ | ((with_reducible apply G.atDraw); first | refine G.draw (N := 35) (id := 5) plN7_29_5 mixed (by kernel_rfl) ?_))
  refine ⟨(ad2, cap2, done ++ [p]), by dsimp only; simp; omega, by dsimp only; simp; omega, ?_, ?_⟩
  · dsimp only
    rw [List.map_append]
    exact (by repeat (first | exact EnvSub.nil _ | refine EnvSub.cons rfl ?_))
  · dsimp only
    rw [List.map_append, show List.map holdX [p] = [holdX p] from rfl]
    repeat (first | exact Ent.refl _ | exact Ent.nil _ | refine Ent.take' ?_ | refine Ent.trans Ent.drop ?_)
end Go.Proofs.YtclgjkeeaopppaaGreatDoor
