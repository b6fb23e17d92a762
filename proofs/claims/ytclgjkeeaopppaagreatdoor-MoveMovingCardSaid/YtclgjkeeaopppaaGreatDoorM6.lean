/- Contracts of the model of package move: Valid, put, Split, Join. -/
import Derived.Test.YtclgjkeeaopppaaGreatDoorM5
namespace Go.Proofs.YtclgjkeeaopppaaGreatDoor
open Go.V
attribute [local irreducible] G GO GP GPW GPK Ev Ef EfR Ent CB GB Enters

abbrev plM6_14_8 : List Stp := [.ev 0, .ev 1, .ev 2, .ev 3, .ev 4, .ev 5, .ev 6, .ev 7, .ev 8, .ev 9, .ev 10, .ev 11, .ev 12, .ev 13, .ev 14, .ev 15, .ev 16, .ev 17, .ev 18, .ev 19, .ev 20, .ev 21, .ev 22, .ev 23, .ev 24, .ev 25, .ev 26, .ev 27, .ev 28, .ev 29, .ev 30, .ev 31, .ev 32, .ev 33, .ev 34, .ev 35, .ev 36, .ev 37, .ev 38, .ev 39, .ev 40, .ev 41]
theorem rvalid_spec {L : List HP} (n : Int) (ad : Option Addr) (k c : Nat) (l : List Hm) [Rds L ad Hm encH 2 l] (hk : k = l.length) (hl : l.length ≤ 1000000000) :
    Tri Tryz.prog 14 #[.int .i64 n, .slice ad k c] L (fun v L' => v = .bool (dB (HOk n l)) ∧ L' = L) := by
  have hmx : maxAcc = 1073741824 := rfl
  refine Tri.body (args := [.int .i64 n, .slice ad k c]) 88 en14 Tryz.func14 rfl rfl rfl (by simp) ?_
  by_cases h0 : 1 ≤ n ∧ n ≤ 12 ∧ l.length ≠ 0
  case neg =>
    have hv : ¬ HOk n l := fun h => h0 ⟨h.n1, h.n2, by have := h.pos.1; omega⟩
    rw [dB_neg hv]
    by_cases h1 : 1 ≤ n
    case neg =>
      repeat (first | refine run ?_ | intro _ | ((with_reducible apply G.atDraw); first | refine G.draw (N := 88) (id := 8) plM6_14_8 mixed (by kernel_rfl) ?_))
      exact KX.ends (by first | exact ResOk.tmps rfl | (repeat (first | exact ResOk.nil | apply ResOk.tmp rfl | apply ResOk.cell rfl (by rfl) | apply ResOk.cell1 rfl))) (Ent.refl _) ⟨rfl, rfl⟩
    by_cases h2 : n ≤ 12
    case neg =>
      repeat (first | refine run ?_ | intro _ | ((with_reducible apply G.atDraw); first | refine G.draw (N := 88) (id := 8) plM6_14_8 mixed (by kernel_rfl) ?_))
      exact KX.ends (by first | exact ResOk.tmps rfl | (repeat (first | exact ResOk.nil | apply ResOk.tmp rfl | apply ResOk.cell rfl (by rfl) | apply ResOk.cell1 rfl))) (Ent.refl _) ⟨rfl, rfl⟩
    have h3 : l.length = 0 := by omega
    repeat (first | refine run ?_ | intro _ | ((with_reducible apply G.atDraw); first | refine G.draw (N := 88) (id := 8) plM6_14_8 mixed (by kernel_rfl) ?_))
    exact KX.ends (by first | exact ResOk.tmps rfl | (repeat (first | exact ResOk.nil | apply ResOk.tmp rfl | apply ResOk.cell rfl (by rfl) | apply ResOk.cell1 rfl))) (Ent.refl _) ⟨rfl, rfl⟩
  obtain ⟨h1, h2, h3⟩ := h0
  repeat (first | ((fail_if_success (with_reducible refine G.atSS 3 ?_)); (with_reducible apply G.seq)) | refine runS ?_ | intro _ | ((with_reducible apply G.atDraw); first | refine G.draw (N := 88) (id := 8) plM6_14_8 mixed (by kernel_rfl) ?_))
  refine G.join (α := Unit) (fun _ => HOk n l) (fun _ => []) (fun _ => L) ?_ ?_
  · repeat (first | refine run ?_ | intro _ | ((with_reducible apply G.atDraw); first | refine G.draw (N := 88) (id := 8) plM6_14_8 mixed (by kernel_rfl) ?_))
    refine G.loop (α := Int) (fun i => (0 ≤ i ∧ i ≤ k) ∧ (0 < i → l[0]!.1 = 1) ∧ ∀ j : Nat, j < i.toNat → VP n l j) (fun i => [(0, .int .i64 n), (1, .slice ad k c), (5, .int .i64 i)]) (fun _ => L) (fun i => (k - i).toNat) 0 ⟨by omega, by intro h; omega, by intro j hj; simp at hj⟩ (by repeat (first | exact EnvSub.nil _ | refine EnvSub.cons rfl ?_)) (Ent.refl _) ?_
    rintro i ⟨⟨hi0, hi1⟩, hi4, hi2⟩
    by_cases hlt : i < k
    case neg =>
      repeat (first | refine run ?_ | intro _ | ((with_reducible apply G.atDraw); first | refine G.draw (N := 88) (id := 8) plM6_14_8 mixed (by kernel_rfl) ?_))
      exact ⟨(), HOk_iff.2 ⟨⟨h1, h2, h3, hi4 (by omega)⟩, fun j hj => hi2 j (by omega)⟩, (by repeat (first | exact EnvSub.nil _ | refine EnvSub.cons rfl ?_)), Ent.refl _⟩
    have hbad : ¬ VP n l i.toNat → ¬ HOk n l := fun h hv => h ((HOk_iff.1 hv).2 i.toNat (by omega))
    have hpe : (i - 1).toNat = i.toNat - 1 := by omega
    repeat (first | refine run ?_ | intro _ | ((with_reducible apply G.atDraw); first | refine G.draw (N := 88) (id := 8) plM6_14_8 mixed (by kernel_rfl) ?_))
    (first | with_reducible refine CB.dec (fun _ => ?_) (fun _ => ?_) | with_reducible refine GB.dec (fun _ => ?_) (fun _ => ?_) | with_reducible refine CB.bool (fun _ => ?_) (fun _ => ?_) | with_reducible refine GB.bool (fun _ => ?_) (fun _ => ?_))
    · rename_i hg
      repeat (first | refine run ?_ | intro _ | ((with_reducible apply G.atDraw); first | refine G.draw (N := 88) (id := 8) plM6_14_8 mixed (by kernel_rfl) ?_))
      exact KX.ends (by first | exact ResOk.tmps rfl | (repeat (first | exact ResOk.nil | apply ResOk.tmp rfl | apply ResOk.cell rfl (by rfl) | apply ResOk.cell1 rfl))) (Ent.refl _) ⟨by rw [dB_neg (hbad (fun h => by have := h.1.2.1; omega))]; rfl, rfl⟩
    rename_i hg1
    repeat (first | refine run ?_ | intro _ | ((with_reducible apply G.atDraw); first | refine G.draw (N := 88) (id := 8) plM6_14_8 mixed (by kernel_rfl) ?_))
    (first | with_reducible refine CB.dec (fun _ => ?_) (fun _ => ?_) | with_reducible refine GB.dec (fun _ => ?_) (fun _ => ?_) | with_reducible refine CB.bool (fun _ => ?_) (fun _ => ?_) | with_reducible refine GB.bool (fun _ => ?_) (fun _ => ?_))
    · rename_i hg
      repeat (first | refine run ?_ | intro _ | ((with_reducible apply G.atDraw); first | refine G.draw (N := 88) (id := 8) plM6_14_8 mixed (by kernel_rfl) ?_))
      exact KX.ends (by first | exact ResOk.tmps rfl | (repeat (first | exact ResOk.nil | apply ResOk.tmp rfl | apply ResOk.cell rfl (by rfl) | apply ResOk.cell1 rfl))) (Ent.refl _) ⟨by rw [dB_neg (hbad (fun h => by have := h.1.2.2; omega))]; rfl, rfl⟩
    rename_i hg2
    repeat (first | refine run ?_ | intro _ | ((with_reducible apply G.atDraw); first | refine G.draw (N := 88) (id := 8) plM6_14_8 mixed (by kernel_rfl) ?_))
    (first | with_reducible refine CB.dec (fun _ => ?_) (fun _ => ?_) | with_reducible refine GB.dec (fun _ => ?_) (fun _ => ?_) | with_reducible refine CB.bool (fun _ => ?_) (fun _ => ?_) | with_reducible refine GB.bool (fun _ => ?_) (fun _ => ?_))
    · rename_i hg
      repeat (first | refine run ?_ | intro _ | ((with_reducible apply G.atDraw); first | refine G.draw (N := 88) (id := 8) plM6_14_8 mixed (by kernel_rfl) ?_))
      exact KX.ends (by first | exact ResOk.tmps rfl | (repeat (first | exact ResOk.nil | apply ResOk.tmp rfl | apply ResOk.cell rfl (by rfl) | apply ResOk.cell1 rfl))) (Ent.refl _) ⟨by rw [dB_neg (hbad (fun h => by have := h.1.1; omega))]; rfl, rfl⟩
    rename_i hg3
    by_cases hi3 : i = 0
    · subst hi3
      rw [Int.toNat_zero] at hg1 hg2 hg3
      repeat (first | refine run ?_ | intro _ | ((with_reducible apply G.atDraw); first | refine G.draw (N := 88) (id := 8) plM6_14_8 mixed (by kernel_rfl) ?_))
      (first | with_reducible refine CB.dec (fun _ => ?_) (fun _ => ?_) | with_reducible refine GB.dec (fun _ => ?_) (fun _ => ?_) | with_reducible refine CB.bool (fun _ => ?_) (fun _ => ?_) | with_reducible refine GB.bool (fun _ => ?_) (fun _ => ?_))
      · rename_i hg
        repeat (first | refine run ?_ | intro _ | ((with_reducible apply G.atDraw); first | refine G.draw (N := 88) (id := 8) plM6_14_8 mixed (by kernel_rfl) ?_))
        exact KX.ends (by first | exact ResOk.tmps rfl | (repeat (first | exact ResOk.nil | apply ResOk.tmp rfl | apply ResOk.cell rfl (by rfl) | apply ResOk.cell1 rfl))) (Ent.refl _) ⟨by rw [dB_neg (fun h => hg h.pos.2)]; rfl, rfl⟩
      rename_i hg4
      repeat (first | refine run ?_ | intro _ | ((with_reducible apply G.atDraw); first | refine G.draw (N := 88) (id := 8) plM6_14_8 mixed (by kernel_rfl) ?_))
      refine ⟨1, ⟨by omega, fun _ => Decidable.of_not_not hg4, ?_⟩, by omega, (by repeat (first | exact EnvSub.nil _ | refine EnvSub.cons rfl ?_)), Ent.refl _⟩
      intro j hj
      have : j = 0 := by omega
      subst this
      exact ⟨⟨by omega, by omega, by omega⟩, fun h => absurd h (by omega)⟩
    repeat (first | refine run ?_ | intro _ | ((with_reducible apply G.atDraw); first | refine G.draw (N := 88) (id := 8) plM6_14_8 mixed (by kernel_rfl) ?_))
    (first | with_reducible refine CB.dec (fun _ => ?_) (fun _ => ?_) | with_reducible refine GB.dec (fun _ => ?_) (fun _ => ?_) | with_reducible refine CB.bool (fun _ => ?_) (fun _ => ?_) | with_reducible refine GB.bool (fun _ => ?_) (fun _ => ?_))
    · rename_i hg
      repeat (first | refine run ?_ | intro _ | ((with_reducible apply G.atDraw); first | refine G.draw (N := 88) (id := 8) plM6_14_8 mixed (by kernel_rfl) ?_))
      exact KX.ends (by first | exact ResOk.tmps rfl | (repeat (first | exact ResOk.nil | apply ResOk.tmp rfl | apply ResOk.cell rfl (by rfl) | apply ResOk.cell1 rfl))) (Ent.refl _) ⟨by rw [dB_neg (hbad (fun h => by have := (h.2 (by omega)).1; rw [← hpe] at this; omega))]; rfl, rfl⟩
    rename_i hg4
    repeat (first | refine run ?_ | intro _ | ((with_reducible apply G.atDraw); first | refine G.draw (N := 88) (id := 8) plM6_14_8 mixed (by kernel_rfl) ?_))
    (first | with_reducible refine CB.dec (fun _ => ?_) (fun _ => ?_) | with_reducible refine GB.dec (fun _ => ?_) (fun _ => ?_) | with_reducible refine CB.bool (fun _ => ?_) (fun _ => ?_) | with_reducible refine GB.bool (fun _ => ?_) (fun _ => ?_))
    · rename_i hg
      repeat (first | refine run ?_ | intro _ | ((with_reducible apply G.atDraw); first | refine G.draw (N := 88) (id := 8) plM6_14_8 mixed (by kernel_rfl) ?_))
      exact KX.ends (by first | exact ResOk.tmps rfl | (repeat (first | exact ResOk.nil | apply ResOk.tmp rfl | apply ResOk.cell rfl (by rfl) | apply ResOk.cell1 rfl))) (Ent.refl _) ⟨by rw [dB_neg (hbad (fun h => by have := (h.2 (by omega)).2; rw [← hpe] at this; exact this hg))]; rfl, rfl⟩
    rename_i hg5
    repeat (first | refine run ?_ | intro _ | ((with_reducible apply G.atDraw); first | refine G.draw (N := 88) (id := 8) plM6_14_8 mixed (by kernel_rfl) ?_))
    refine ⟨i + 1, ⟨by omega, fun _ => hi4 (by omega), ?_⟩, by omega, (by repeat (first | exact EnvSub.nil _ | refine EnvSub.cons rfl ?_)), Ent.refl _⟩
    intro j hj
    by_cases hj2 : j < i.toNat
    · exact hi2 j hj2
    have : j = i.toNat := by omega
    subst this
    exact ⟨⟨by omega, by omega, by omega⟩, fun h => by rw [← hpe]; exact ⟨by omega, hg5⟩⟩
  rintro _ hv
  repeat (first | refine run ?_ | intro _ | ((with_reducible apply G.atDraw); first | refine G.draw (N := 88) (id := 8) plM6_14_8 mixed (by kernel_rfl) ?_))
  exact KX.ends (by first | exact ResOk.tmps rfl | (repeat (first | exact ResOk.nil | apply ResOk.tmp rfl | apply ResOk.cell rfl (by rfl) | apply ResOk.cell1 rfl))) (Ent.refl _) ⟨by rw [dB_pos hv]; rfl, rfl⟩

theorem putL_split {n : Int} : ∀ (l : List Int) (k : Nat), (∀ p, p < k → l[p]! < n) → k ≤ l.length → putL l n = l.take k ++ putL (l.drop k) n
  | l, 0, _, _ => by simp
  | [], k + 1, _, h => by simp at h
  | x :: l, k + 1, hp, h => by
    have hx : x < n := by simpa using hp 0 (by omega)
    have ih := putL_split l k (fun p h => by simpa using hp (p + 1) (by omega)) (by simpa using h)
    simp only [putL, if_pos hx, List.take_succ_cons, List.drop_succ_cons, List.cons_append, ih]
theorem putL_eq {n : Int} {l : List Int} {k : Nat} (hp : ∀ p, p < k → l[p]! < n) (h : k < l.length) (he : l[k]! = n) : putL l n = l := by
  rw [putL_split l k hp (by omega), List.drop_eq_getElem_cons h]
  rw [getElem!_of h] at he
  simp only [putL]
  rw [if_neg (by omega), if_pos he, ← List.drop_eq_getElem_cons h, List.take_append_drop]
theorem putL_new {n : Int} {l : List Int} {k : Nat} (hp : ∀ p, p < k → l[p]! < n) (h : k ≤ l.length) (he : k < l.length → n < l[k]!) : putL l n = l.take k ++ [n] ++ l.drop k := by
  rw [putL_split l k hp h]
  by_cases hk : k < l.length
  · have := he hk
    rw [getElem!_of hk] at this
    rw [List.drop_eq_getElem_cons hk]
    simp only [putL]
    rw [if_neg (by omega), if_neg (by omega)]
    simp
  · rw [List.drop_of_length_le (by omega)]
    simp [putL]
theorem putL_len (l : List Int) (n : Int) : (putL l n).length ≤ l.length + 1 := by
  induction l with
  | nil => simp [putL]
  | cons x l ih =>
    simp only [putL]
    split
    · simp; omega
    · split <;> simp
abbrev tI : Nat := 3
theorem put_spec (ad : Option Addr) (c : Nat) (l : List Int) (n : Int) (hl : l.length ≤ 1000000) :
    Tri Tryz.prog 42 #[.slice ad l.length c, .int .i64 n] [osl (encI .i64) 1 tI ad c l] (fun v L' => ∃ ad2 cap2, v = .slice ad2 (putL l n).length cap2 ∧ L' = [osl (encI .i64) 1 tI ad2 cap2 (putL l n)]) := by
  refine Tri.body (args := [.slice ad l.length c, .int .i64 n]) 48 en42 Tryz.func42 rfl rfl rfl (by simp) ?_
  refine G.fact (osl_cap (ad := ad)) ?_
  rintro ⟨hcap, _⟩
  repeat (first | refine run ?_ | intro _)
  refine G.loop (α := Nat) (fun k => k ≤ l.length ∧ ∀ p, p < k → l[p]! < n) (fun k => [(0, .slice ad l.length c), (1, .int .i64 n), (5, .int .i64 (k : Int))]) (fun _ => [osl (encI .i64) 1 tI ad c l]) (fun k => l.length - k) 0 ⟨Nat.zero_le _, by intro p hp; omega⟩ (by repeat (first | exact EnvSub.nil _ | refine EnvSub.cons rfl ?_)) (Ent.refl _) ?_
  rintro k ⟨hk, hp⟩
  by_cases hlt : k < l.length ∧ l[k]! < n
  · obtain ⟨h1, h2⟩ := hlt
    repeat (first | refine run ?_ | intro _)
    rw [Int.toNat_natCast]
    repeat (first | refine run ?_ | intro _)
    refine ⟨k + 1, ⟨by omega, ?_⟩, by omega, ?_, Ent.refl _⟩
    · intro p hp2
      by_cases hpk : p = k
      · subst hpk; exact h2
      · exact hp p (by omega)
    · rw [show ((k + 1 : Nat) : Int) = (k : Int) + 1 by omega]
      exact (by repeat (first | exact EnvSub.nil _ | refine EnvSub.cons rfl ?_))
  by_cases heq : k < l.length ∧ l[k]! = n
  · obtain ⟨h1, h2⟩ := heq
    have h3 : ¬ l[(k : Int).toNat]! < n := by rw [Int.toNat_natCast]; omega
    have h4 : l[(k : Int).toNat]! = n := by rw [Int.toNat_natCast]; omega
    repeat (first | refine run ?_ | intro _)
    refine KX.ends (by first | exact ResOk.tmps rfl | (repeat (first | exact ResOk.nil | apply ResOk.tmp rfl | apply ResOk.cell rfl (by rfl) | apply ResOk.cell1 rfl))) ?_ ⟨ad, c, ?_, rfl⟩
    · rw [putL_eq hp h1 h2]; exact Ent.refl _
    · rw [putL_eq hp h1 h2]; rfl
  have e := putL_new hp hk (fun h => by have : ¬ l[k]! < n := fun x => hlt ⟨h, x⟩; have : ¬ l[k]! = n := fun x => heq ⟨h, x⟩; omega)
  rw [e]
  by_cases h1 : k < l.length
  · have h2 : ¬ l[(k : Int).toNat]! < n := by rw [Int.toNat_natCast]; exact fun x => hlt ⟨h1, x⟩
    have h3 : ¬ l[(k : Int).toNat]! = n := by rw [Int.toNat_natCast]; exact fun x => heq ⟨h1, x⟩
    repeat (first | refine run ?_ | intro _)
    rw [Int.toNat_natCast]
    refine GO.ent (Ent.nilSl (encI .i64) 1 tI) ?_
    (first | ((with_reducible apply GO.atPlain); first | refine GO.ef (Ef.appendS (ys := l.take k) (hq := Rds.take (xs := l) inferInstance k) rfl rfl rfl rfl (by simp; omega) (fun e _ => encI_one _ e) (by simp; omega) (by simp; omega)) (by decide) ?_ | refine GO.ef (by exact Ef.appendS (ys := l.take k) (hq := Rds.take (xs := l) inferInstance k) rfl rfl rfl rfl (by simp; omega) (fun e _ => encI_one _ e) (by simp; omega) (by simp; omega)) (by decide) ?_) | ((with_reducible apply GPW.atEf); first | refine GPW.ef (Ef.appendS (ys := l.take k) (hq := Rds.take (xs := l) inferInstance k) rfl rfl rfl rfl (by simp; omega) (fun e _ => encI_one _ e) (by simp; omega) (by simp; omega)) (by decide) ?_ | refine GPW.ef (by exact Ef.appendS (ys := l.take k) (hq := Rds.take (xs := l) inferInstance k) rfl rfl rfl rfl (by simp; omega) (fun e _ => encI_one _ e) (by simp; omega) (by simp; omega)) (by decide) ?_) | ((with_reducible apply GO.atUnit); first | refine GO.efu (Ef.appendS (ys := l.take k) (hq := Rds.take (xs := l) inferInstance k) rfl rfl rfl rfl (by simp; omega) (fun e _ => encI_one _ e) (by simp; omega) (by simp; omega)) ?_ | refine GO.efu (by exact Ef.appendS (ys := l.take k) (hq := Rds.take (xs := l) inferInstance k) rfl rfl rfl rfl (by simp; omega) (fun e _ => encI_one _ e) (by simp; omega) (by simp; omega)) ?_) | ((with_reducible apply GPW.atEfu); first | refine GPW.efu (Ef.appendS (ys := l.take k) (hq := Rds.take (xs := l) inferInstance k) rfl rfl rfl rfl (by simp; omega) (fun e _ => encI_one _ e) (by simp; omega) (by simp; omega)) ?_ | refine GPW.efu (by exact Ef.appendS (ys := l.take k) (hq := Rds.take (xs := l) inferInstance k) rfl rfl rfl rfl (by simp; omega) (fun e _ => encI_one _ e) (by simp; omega) (by simp; omega)) ?_))
    rintro _ _ ⟨ad3, cap3, rfl, rfl⟩
    simp only [List.nil_append]
    have hlt' : (l.take k).length ≤ 1000000 := by simp; omega
    repeat (first | refine run ?_ | intro _)
    (first | ((with_reducible apply GO.atPlain); first | refine GO.ef (Ef.append1 (e := n) rfl rfl rfl rfl rfl (by rfl) (encI_one _ _) (by omega) (by omega)) (by decide) ?_ | refine GO.ef (by exact Ef.append1 (e := n) rfl rfl rfl rfl rfl (by rfl) (encI_one _ _) (by omega) (by omega)) (by decide) ?_) | ((with_reducible apply GPW.atEf); first | refine GPW.ef (Ef.append1 (e := n) rfl rfl rfl rfl rfl (by rfl) (encI_one _ _) (by omega) (by omega)) (by decide) ?_ | refine GPW.ef (by exact Ef.append1 (e := n) rfl rfl rfl rfl rfl (by rfl) (encI_one _ _) (by omega) (by omega)) (by decide) ?_) | ((with_reducible apply GO.atUnit); first | refine GO.efu (Ef.append1 (e := n) rfl rfl rfl rfl rfl (by rfl) (encI_one _ _) (by omega) (by omega)) ?_ | refine GO.efu (by exact Ef.append1 (e := n) rfl rfl rfl rfl rfl (by rfl) (encI_one _ _) (by omega) (by omega)) ?_) | ((with_reducible apply GPW.atEfu); first | refine GPW.efu (Ef.append1 (e := n) rfl rfl rfl rfl rfl (by rfl) (encI_one _ _) (by omega) (by omega)) ?_ | refine GPW.efu (by exact Ef.append1 (e := n) rfl rfl rfl rfl rfl (by rfl) (encI_one _ _) (by omega) (by omega)) ?_))
    rintro _ _ ⟨ad4, cap4, rfl, rfl⟩
    repeat (first | refine run ?_ | intro _)
    rw [Int.toNat_natCast]
    (first | ((with_reducible apply GO.atPlain); first | refine GO.ef (Ef.appendS (ys := l.drop k) rfl rfl rfl rfl (by simp) (fun e _ => encI_one _ e) (by simp; omega) (by simp; omega)) (by decide) ?_ | refine GO.ef (by exact Ef.appendS (ys := l.drop k) rfl rfl rfl rfl (by simp) (fun e _ => encI_one _ e) (by simp; omega) (by simp; omega)) (by decide) ?_) | ((with_reducible apply GPW.atEf); first | refine GPW.ef (Ef.appendS (ys := l.drop k) rfl rfl rfl rfl (by simp) (fun e _ => encI_one _ e) (by simp; omega) (by simp; omega)) (by decide) ?_ | refine GPW.ef (by exact Ef.appendS (ys := l.drop k) rfl rfl rfl rfl (by simp) (fun e _ => encI_one _ e) (by simp; omega) (by simp; omega)) (by decide) ?_) | ((with_reducible apply GO.atUnit); first | refine GO.efu (Ef.appendS (ys := l.drop k) rfl rfl rfl rfl (by simp) (fun e _ => encI_one _ e) (by simp; omega) (by simp; omega)) ?_ | refine GO.efu (by exact Ef.appendS (ys := l.drop k) rfl rfl rfl rfl (by simp) (fun e _ => encI_one _ e) (by simp; omega) (by simp; omega)) ?_) | ((with_reducible apply GPW.atEfu); first | refine GPW.efu (Ef.appendS (ys := l.drop k) rfl rfl rfl rfl (by simp) (fun e _ => encI_one _ e) (by simp; omega) (by simp; omega)) ?_ | refine GPW.efu (by exact Ef.appendS (ys := l.drop k) rfl rfl rfl rfl (by simp) (fun e _ => encI_one _ e) (by simp; omega) (by simp; omega)) ?_))
    rintro _ _ ⟨ad5, cap5, rfl, rfl⟩
    repeat (first | refine run ?_ | intro _)
    exact KX.ends (by first | exact ResOk.tmps rfl | (repeat (first | exact ResOk.nil | apply ResOk.tmp rfl | apply ResOk.cell rfl (by rfl) | apply ResOk.cell1 rfl))) (Ent.consR Ent.drop) ⟨ad5, cap5, rfl, rfl⟩
  · skip
    repeat (first | refine run ?_ | intro _)
    rw [Int.toNat_natCast]
    refine GO.ent (Ent.nilSl (encI .i64) 1 tI) ?_
    (first | ((with_reducible apply GO.atPlain); first | refine GO.ef (Ef.appendS (ys := l.take k) (hq := Rds.take (xs := l) inferInstance k) rfl rfl rfl rfl (by simp; omega) (fun e _ => encI_one _ e) (by simp; omega) (by simp; omega)) (by decide) ?_ | refine GO.ef (by exact Ef.appendS (ys := l.take k) (hq := Rds.take (xs := l) inferInstance k) rfl rfl rfl rfl (by simp; omega) (fun e _ => encI_one _ e) (by simp; omega) (by simp; omega)) (by decide) ?_) | ((with_reducible apply GPW.atEf); first | refine GPW.ef (Ef.appendS (ys := l.take k) (hq := Rds.take (xs := l) inferInstance k) rfl rfl rfl rfl (by simp; omega) (fun e _ => encI_one _ e) (by simp; omega) (by simp; omega)) (by decide) ?_ | refine GPW.ef (by exact Ef.appendS (ys := l.take k) (hq := Rds.take (xs := l) inferInstance k) rfl rfl rfl rfl (by simp; omega) (fun e _ => encI_one _ e) (by simp; omega) (by simp; omega)) (by decide) ?_) | ((with_reducible apply GO.atUnit); first | refine GO.efu (Ef.appendS (ys := l.take k) (hq := Rds.take (xs := l) inferInstance k) rfl rfl rfl rfl (by simp; omega) (fun e _ => encI_one _ e) (by simp; omega) (by simp; omega)) ?_ | refine GO.efu (by exact Ef.appendS (ys := l.take k) (hq := Rds.take (xs := l) inferInstance k) rfl rfl rfl rfl (by simp; omega) (fun e _ => encI_one _ e) (by simp; omega) (by simp; omega)) ?_) | ((with_reducible apply GPW.atEfu); first | refine GPW.efu (Ef.appendS (ys := l.take k) (hq := Rds.take (xs := l) inferInstance k) rfl rfl rfl rfl (by simp; omega) (fun e _ => encI_one _ e) (by simp; omega) (by simp; omega)) ?_ | refine GPW.efu (by exact Ef.appendS (ys := l.take k) (hq := Rds.take (xs := l) inferInstance k) rfl rfl rfl rfl (by simp; omega) (fun e _ => encI_one _ e) (by simp; omega) (by simp; omega)) ?_))
    rintro _ _ ⟨ad3, cap3, rfl, rfl⟩
    simp only [List.nil_append]
    have hlt' : (l.take k).length ≤ 1000000 := by simp; omega
    repeat (first | refine run ?_ | intro _)
    (first | ((with_reducible apply GO.atPlain); first | refine GO.ef (Ef.append1 (e := n) rfl rfl rfl rfl rfl (by rfl) (encI_one _ _) (by omega) (by omega)) (by decide) ?_ | refine GO.ef (by exact Ef.append1 (e := n) rfl rfl rfl rfl rfl (by rfl) (encI_one _ _) (by omega) (by omega)) (by decide) ?_) | ((with_reducible apply GPW.atEf); first | refine GPW.ef (Ef.append1 (e := n) rfl rfl rfl rfl rfl (by rfl) (encI_one _ _) (by omega) (by omega)) (by decide) ?_ | refine GPW.ef (by exact Ef.append1 (e := n) rfl rfl rfl rfl rfl (by rfl) (encI_one _ _) (by omega) (by omega)) (by decide) ?_) | ((with_reducible apply GO.atUnit); first | refine GO.efu (Ef.append1 (e := n) rfl rfl rfl rfl rfl (by rfl) (encI_one _ _) (by omega) (by omega)) ?_ | refine GO.efu (by exact Ef.append1 (e := n) rfl rfl rfl rfl rfl (by rfl) (encI_one _ _) (by omega) (by omega)) ?_) | ((with_reducible apply GPW.atEfu); first | refine GPW.efu (Ef.append1 (e := n) rfl rfl rfl rfl rfl (by rfl) (encI_one _ _) (by omega) (by omega)) ?_ | refine GPW.efu (by exact Ef.append1 (e := n) rfl rfl rfl rfl rfl (by rfl) (encI_one _ _) (by omega) (by omega)) ?_))
    rintro _ _ ⟨ad4, cap4, rfl, rfl⟩
    repeat (first | refine run ?_ | intro _)
    rw [Int.toNat_natCast]
    (first | ((with_reducible apply GO.atPlain); first | refine GO.ef (Ef.appendS (ys := l.drop k) rfl rfl rfl rfl (by simp) (fun e _ => encI_one _ e) (by simp; omega) (by simp; omega)) (by decide) ?_ | refine GO.ef (by exact Ef.appendS (ys := l.drop k) rfl rfl rfl rfl (by simp) (fun e _ => encI_one _ e) (by simp; omega) (by simp; omega)) (by decide) ?_) | ((with_reducible apply GPW.atEf); first | refine GPW.ef (Ef.appendS (ys := l.drop k) rfl rfl rfl rfl (by simp) (fun e _ => encI_one _ e) (by simp; omega) (by simp; omega)) (by decide) ?_ | refine GPW.ef (by exact Ef.appendS (ys := l.drop k) rfl rfl rfl rfl (by simp) (fun e _ => encI_one _ e) (by simp; omega) (by simp; omega)) (by decide) ?_) | ((with_reducible apply GO.atUnit); first | refine GO.efu (Ef.appendS (ys := l.drop k) rfl rfl rfl rfl (by simp) (fun e _ => encI_one _ e) (by simp; omega) (by simp; omega)) ?_ | refine GO.efu (by exact Ef.appendS (ys := l.drop k) rfl rfl rfl rfl (by simp) (fun e _ => encI_one _ e) (by simp; omega) (by simp; omega)) ?_) | ((with_reducible apply GPW.atEfu); first | refine GPW.efu (Ef.appendS (ys := l.drop k) rfl rfl rfl rfl (by simp) (fun e _ => encI_one _ e) (by simp; omega) (by simp; omega)) ?_ | refine GPW.efu (by exact Ef.appendS (ys := l.drop k) rfl rfl rfl rfl (by simp) (fun e _ => encI_one _ e) (by simp; omega) (by simp; omega)) ?_))
    rintro _ _ ⟨ad5, cap5, rfl, rfl⟩
    repeat (first | refine run ?_ | intro _)
    exact KX.ends (by first | exact ResOk.tmps rfl | (repeat (first | exact ResOk.nil | apply ResOk.tmp rfl | apply ResOk.cell rfl (by rfl) | apply ResOk.cell1 rfl))) (Ent.consR Ent.drop) ⟨ad5, cap5, rfl, rfl⟩
end Go.Proofs.YtclgjkeeaopppaaGreatDoor
