/- Contracts of package move: Valid, Find. -/
import Derived.Test.YtclgjkeeaopppaaGreatDoorM1
import Derived.Test.YtclgjkeeaopppaaGreatDoorU
namespace Go.Proofs.YtclgjkeeaopppaaGreatDoor
open Go.V
attribute [local irreducible] G GO GP GPW GPK Ev Ef EfR Ent CB GB Enters

def encH (h : Hm) : List Value := [.int .i64 h.1, .int .i64 h.2]
theorem encH_len (h : Hm) : (encH h).length = 2 := rfl
theorem encH_one (h : Hm) : ∀ u ∈ encH h, u.oneCell' = true := by simp [encH, Value.oneCell']

instance : EncC encH := ⟨encH_one⟩
instance (h : Hm) : IntsOf (encH h) [h.1, h.2] := ⟨rfl⟩

/-- Place i of homes is as it should be. -/
def VP (n : Int) (l : List Hm) (i : Nat) : Prop := (l[i]!.1 ≤ maxAcc ∧ 0 ≤ l[i]!.2 ∧ l[i]!.2 < n) ∧ (0 < i → l[i - 1]!.1 < l[i]!.1 ∧ l[i]!.2 ≠ l[i - 1]!.2)
def validP (n : Int) (l : List Hm) : Prop := (1 ≤ n ∧ n ≤ 12 ∧ l.length ≠ 0 ∧ l[0]!.1 = 1) ∧ ∀ i, i < l.length → VP n l i
instance (n : Int) (l : List Hm) (i : Nat) : Decidable (VP n l i) := by unfold VP; infer_instance
instance (n : Int) (l : List Hm) : Decidable (validP n l) := by unfold validP; infer_instance
def errV (n : Int) (l : List Hm) : Int := if validP n l then 0 else 1

abbrev plM2_12_8 : List Stp := [.ev 0, .ev 1, .ev 2, .ev 3, .ev 4, .ev 5, .ev 6, .ev 7, .ev 8, .ev 9, .ev 10, .ev 11, .ev 12, .ev 13, .ev 14, .ev 15, .ev 16, .ev 17, .ev 18, .ev 19, .ev 20, .ev 21, .ev 22, .ev 23]
theorem mvalid_spec {L : List HP} (n : Int) (ad : Option Addr) (k c : Nat) (l : List Hm) [Rds L ad Hm encH 2 l] (hk : k = l.length) (hl : l.length ≤ 1000000000) :
    Tri Tryz.prog 12 #[.int .i64 n, .slice ad k c] L (fun v L' => v = .int .i64 (errV n l) ∧ L' = L) := by
  have hmx : maxAcc = 1073741824 := rfl
  refine Tri.body (args := [.int .i64 n, .slice ad k c]) 71 en12 Tryz.func12 rfl rfl rfl (by simp) ?_
  by_cases h0 : 1 ≤ n ∧ n ≤ 12 ∧ l.length ≠ 0 ∧ l[0]!.1 = 1
  case neg =>
    have hv : errV n l = 1 := if_neg fun h => h0 h.1
    by_cases h1 : 1 ≤ n
    case neg =>
      repeat (first | refine run ?_ | intro _ | ((with_reducible apply G.atDraw); first | refine G.draw (N := 71) (id := 8) plM2_12_8 mixed (by kernel_rfl) ?_))
      exact KX.ends (by first | exact ResOk.tmps rfl | (repeat (first | exact ResOk.nil | apply ResOk.tmp rfl | apply ResOk.cell rfl (by rfl) | apply ResOk.cell1 rfl))) (Ent.refl _) ⟨by rw [hv]; rfl, rfl⟩
    by_cases h2 : n ≤ 12
    case neg =>
      repeat (first | refine run ?_ | intro _ | ((with_reducible apply G.atDraw); first | refine G.draw (N := 71) (id := 8) plM2_12_8 mixed (by kernel_rfl) ?_))
      exact KX.ends (by first | exact ResOk.tmps rfl | (repeat (first | exact ResOk.nil | apply ResOk.tmp rfl | apply ResOk.cell rfl (by rfl) | apply ResOk.cell1 rfl))) (Ent.refl _) ⟨by rw [hv]; rfl, rfl⟩
    by_cases h3 : l.length = 0
    · repeat (first | refine run ?_ | intro _ | ((with_reducible apply G.atDraw); first | refine G.draw (N := 71) (id := 8) plM2_12_8 mixed (by kernel_rfl) ?_))
      exact KX.ends (by first | exact ResOk.tmps rfl | (repeat (first | exact ResOk.nil | apply ResOk.tmp rfl | apply ResOk.cell rfl (by rfl) | apply ResOk.cell1 rfl))) (Ent.refl _) ⟨by rw [hv]; rfl, rfl⟩
    have h4 : ¬ (l[(0 : Int).toNat]!).1 = 1 := fun h => h0 ⟨h1, h2, h3, h⟩
    repeat (first | refine run ?_ | intro _ | ((with_reducible apply G.atDraw); first | refine G.draw (N := 71) (id := 8) plM2_12_8 mixed (by kernel_rfl) ?_))
    exact KX.ends (by first | exact ResOk.tmps rfl | (repeat (first | exact ResOk.nil | apply ResOk.tmp rfl | apply ResOk.cell rfl (by rfl) | apply ResOk.cell1 rfl))) (Ent.refl _) ⟨by rw [hv]; rfl, rfl⟩
  obtain ⟨h1, h2, h3, h4⟩ := h0
  have h4' : (l[(0 : Int).toNat]!).1 = 1 := h4
  repeat (first | ((fail_if_success (with_reducible refine G.atSS 3 ?_)); (with_reducible apply G.seq)) | refine runS ?_ | intro _ | ((with_reducible apply G.atDraw); first | refine G.draw (N := 71) (id := 8) plM2_12_8 mixed (by kernel_rfl) ?_))
  refine G.join (α := Unit) (fun _ => validP n l) (fun _ => []) (fun _ => L) ?_ ?_
  · repeat (first | refine run ?_ | intro _ | ((with_reducible apply G.atDraw); first | refine G.draw (N := 71) (id := 8) plM2_12_8 mixed (by kernel_rfl) ?_))
    refine G.loop (α := Int) (fun i => 0 ≤ i ∧ i ≤ k ∧ ∀ j : Nat, j < i.toNat → VP n l j) (fun i => [(0, .int .i64 n), (1, .slice ad k c), (25, .slice ad k c), (26, .int .i64 k), (27, .int .i64 i)]) (fun _ => L) (fun i => (k - i).toNat) 0 ⟨by omega, by omega, by intro j hj; simp at hj⟩ (by repeat (first | exact EnvSub.nil _ | refine EnvSub.cons rfl ?_)) (Ent.refl _) ?_
    rintro i ⟨hi0, hi1, hi2⟩
    by_cases hlt : i < k
    case neg =>
      repeat (first | refine run ?_ | intro _ | ((with_reducible apply G.atDraw); first | refine G.draw (N := 71) (id := 8) plM2_12_8 mixed (by kernel_rfl) ?_))
      exact ⟨(), ⟨⟨h1, h2, h3, h4⟩, fun j hj => hi2 j (by omega)⟩, (by repeat (first | exact EnvSub.nil _ | refine EnvSub.cons rfl ?_)), Ent.refl _⟩
    have hbad : ¬ VP n l i.toNat → errV n l = 1 := fun h => if_neg fun hv => h (hv.2 i.toNat (by omega))
    have hpe : (i - 1).toNat = i.toNat - 1 := by omega
    repeat (first | refine run ?_ | intro _ | ((with_reducible apply G.atDraw); first | refine G.draw (N := 71) (id := 8) plM2_12_8 mixed (by kernel_rfl) ?_))
    (first | with_reducible refine CB.dec (fun _ => ?_) (fun _ => ?_) | with_reducible refine GB.dec (fun _ => ?_) (fun _ => ?_) | with_reducible refine CB.bool (fun _ => ?_) (fun _ => ?_) | with_reducible refine GB.bool (fun _ => ?_) (fun _ => ?_))
    · rename_i hg
      repeat (first | refine run ?_ | intro _ | ((with_reducible apply G.atDraw); first | refine G.draw (N := 71) (id := 8) plM2_12_8 mixed (by kernel_rfl) ?_))
      exact KX.ends (by first | exact ResOk.tmps rfl | (repeat (first | exact ResOk.nil | apply ResOk.tmp rfl | apply ResOk.cell rfl (by rfl) | apply ResOk.cell1 rfl))) Ent.drop ⟨by rw [hbad (fun h => by have := h.1.1; omega)]; rfl, rfl⟩
    rename_i hg1
    repeat (first | refine run ?_ | intro _ | ((with_reducible apply G.atDraw); first | refine G.draw (N := 71) (id := 8) plM2_12_8 mixed (by kernel_rfl) ?_))
    (first | with_reducible refine CB.dec (fun _ => ?_) (fun _ => ?_) | with_reducible refine GB.dec (fun _ => ?_) (fun _ => ?_) | with_reducible refine CB.bool (fun _ => ?_) (fun _ => ?_) | with_reducible refine GB.bool (fun _ => ?_) (fun _ => ?_))
    · rename_i hg
      repeat (first | refine run ?_ | intro _ | ((with_reducible apply G.atDraw); first | refine G.draw (N := 71) (id := 8) plM2_12_8 mixed (by kernel_rfl) ?_))
      exact KX.ends (by first | exact ResOk.tmps rfl | (repeat (first | exact ResOk.nil | apply ResOk.tmp rfl | apply ResOk.cell rfl (by rfl) | apply ResOk.cell1 rfl))) Ent.drop ⟨by rw [hbad (fun h => by have := h.1.2.1; omega)]; rfl, rfl⟩
    rename_i hg2
    repeat (first | refine run ?_ | intro _ | ((with_reducible apply G.atDraw); first | refine G.draw (N := 71) (id := 8) plM2_12_8 mixed (by kernel_rfl) ?_))
    (first | with_reducible refine CB.dec (fun _ => ?_) (fun _ => ?_) | with_reducible refine GB.dec (fun _ => ?_) (fun _ => ?_) | with_reducible refine CB.bool (fun _ => ?_) (fun _ => ?_) | with_reducible refine GB.bool (fun _ => ?_) (fun _ => ?_))
    · rename_i hg
      repeat (first | refine run ?_ | intro _ | ((with_reducible apply G.atDraw); first | refine G.draw (N := 71) (id := 8) plM2_12_8 mixed (by kernel_rfl) ?_))
      exact KX.ends (by first | exact ResOk.tmps rfl | (repeat (first | exact ResOk.nil | apply ResOk.tmp rfl | apply ResOk.cell rfl (by rfl) | apply ResOk.cell1 rfl))) Ent.drop ⟨by rw [hbad (fun h => by have := h.1.2.2; omega)]; rfl, rfl⟩
    rename_i hg3
    repeat (first | refine run ?_ | intro _ | ((with_reducible apply G.atDraw); first | refine G.draw (N := 71) (id := 8) plM2_12_8 mixed (by kernel_rfl) ?_))
    (first | with_reducible refine CB.dec (fun _ => ?_) (fun _ => ?_) | with_reducible refine GB.dec (fun _ => ?_) (fun _ => ?_) | with_reducible refine CB.bool (fun _ => ?_) (fun _ => ?_) | with_reducible refine GB.bool (fun _ => ?_) (fun _ => ?_))
    case refine_2 =>
      rename_i hi3
      repeat (first | refine run ?_ | intro _ | ((with_reducible apply G.atDraw); first | refine G.draw (N := 71) (id := 8) plM2_12_8 mixed (by kernel_rfl) ?_))
      refine ⟨i + 1, ⟨by omega, by omega, ?_⟩, by omega, (by repeat (first | exact EnvSub.nil _ | refine EnvSub.cons rfl ?_)), Ent.drop⟩
      intro j hj
      have : j = i.toNat := by omega
      subst this
      exact ⟨⟨by omega, by omega, by omega⟩, fun h => absurd h (by omega)⟩
    rename_i hi3
    repeat (first | refine run ?_ | intro _ | ((with_reducible apply G.atDraw); first | refine G.draw (N := 71) (id := 8) plM2_12_8 mixed (by kernel_rfl) ?_))
    (first | with_reducible refine CB.dec (fun _ => ?_) (fun _ => ?_) | with_reducible refine GB.dec (fun _ => ?_) (fun _ => ?_) | with_reducible refine CB.bool (fun _ => ?_) (fun _ => ?_) | with_reducible refine GB.bool (fun _ => ?_) (fun _ => ?_))
    · rename_i hg
      repeat (first | refine run ?_ | intro _ | ((with_reducible apply G.atDraw); first | refine G.draw (N := 71) (id := 8) plM2_12_8 mixed (by kernel_rfl) ?_))
      exact KX.ends (by first | exact ResOk.tmps rfl | (repeat (first | exact ResOk.nil | apply ResOk.tmp rfl | apply ResOk.cell rfl (by rfl) | apply ResOk.cell1 rfl))) Ent.drop ⟨by rw [hbad (fun h => by have := (h.2 (by omega)).1; rw [← hpe] at this; omega)]; rfl, rfl⟩
    rename_i hg4
    repeat (first | refine run ?_ | intro _ | ((with_reducible apply G.atDraw); first | refine G.draw (N := 71) (id := 8) plM2_12_8 mixed (by kernel_rfl) ?_))
    (first | with_reducible refine CB.dec (fun _ => ?_) (fun _ => ?_) | with_reducible refine GB.dec (fun _ => ?_) (fun _ => ?_) | with_reducible refine CB.bool (fun _ => ?_) (fun _ => ?_) | with_reducible refine GB.bool (fun _ => ?_) (fun _ => ?_))
    · rename_i hg
      repeat (first | refine run ?_ | intro _ | ((with_reducible apply G.atDraw); first | refine G.draw (N := 71) (id := 8) plM2_12_8 mixed (by kernel_rfl) ?_))
      exact KX.ends (by first | exact ResOk.tmps rfl | (repeat (first | exact ResOk.nil | apply ResOk.tmp rfl | apply ResOk.cell rfl (by rfl) | apply ResOk.cell1 rfl))) Ent.drop ⟨by rw [hbad (fun h => by have := (h.2 (by omega)).2; rw [← hpe] at this; exact this hg)]; rfl, rfl⟩
    rename_i hg5
    repeat (first | refine run ?_ | intro _ | ((with_reducible apply G.atDraw); first | refine G.draw (N := 71) (id := 8) plM2_12_8 mixed (by kernel_rfl) ?_))
    refine ⟨i + 1, ⟨by omega, by omega, ?_⟩, by omega, (by repeat (first | exact EnvSub.nil _ | refine EnvSub.cons rfl ?_)), Ent.drop⟩
    intro j hj
    by_cases hj2 : j < i.toNat
    · exact hi2 j hj2
    have : j = i.toNat := by omega
    subst this
    exact ⟨⟨by omega, by omega, by omega⟩, fun h => by rw [← hpe]; exact ⟨by omega, hg5⟩⟩
  rintro _ hv
  repeat (first | refine run ?_ | intro _ | ((with_reducible apply G.atDraw); first | refine G.draw (N := 71) (id := 8) plM2_12_8 mixed (by kernel_rfl) ?_))
  exact KX.ends (by first | exact ResOk.tmps rfl | (repeat (first | exact ResOk.nil | apply ResOk.tmp rfl | apply ResOk.cell rfl (by rfl) | apply ResOk.cell1 rfl))) (Ent.refl _) ⟨by rw [errV, if_pos hv]; rfl, rfl⟩
end Go.Proofs.YtclgjkeeaopppaaGreatDoor
