/- Contracts of the model of package move: Spoilt; lists of homes copied and held against each other. -/
import Derived.Test.YtclgjkeeaopppaaGreatDoorM8
namespace Go.Proofs.YtclgjkeeaopppaaGreatDoor
open Go.V
attribute [local irreducible] G GO GP GPW GPK Ev Ef EfR Ent CB GB Enters

theorem I64.half {n : Int} (h : I64 n) : I64 (n.tdiv 2) := tdiv_bounds h.1 h.2 (by decide)
theorem spoilt_spec {L : List HP} (at_ n : Int) (ad : Option Addr) (k c : Nat) (l : List Hm) [Rds L ad Hm encH 2 l] (hk : k = l.length) (hl : l.length ≤ 1000000) (ha : I64 at_) :
    Tri Tryz.prog 11 #[.slice ad k c, .int .i64 at_, .int .i64 n] L (fun v L' => ∃ ad2 cap2 l', v = .slice ad2 l'.length cap2 ∧ l'.length = l.length ∧ L' = osl encH 2 tRH ad2 cap2 l' :: L) := by
  have ha1 := ha.1
  have ha2 := ha.2
  refine Tri.body (args := [.slice ad k c, .int .i64 at_, .int .i64 n]) 35 en11 Tryz.func11 rfl rfl rfl (by simp) ?_
  repeat (first | refine run ?_ | intro _)
  refine GO.ent (Ent.nilSl encH 2 tRH) ?_
  (first | ((with_reducible apply GO.atPlain); first | refine GO.ef (Ef.appendS (ys := l) rfl rfl rfl rfl hk (fun e _ => encH_one e) (by simp; omega) (by simp; omega)) (by decide) ?_ | refine GO.ef (by exact Ef.appendS (ys := l) rfl rfl rfl rfl hk (fun e _ => encH_one e) (by simp; omega) (by simp; omega)) (by decide) ?_) | ((with_reducible apply GPW.atEf); first | refine GPW.ef (Ef.appendS (ys := l) rfl rfl rfl rfl hk (fun e _ => encH_one e) (by simp; omega) (by simp; omega)) (by decide) ?_ | refine GPW.ef (by exact Ef.appendS (ys := l) rfl rfl rfl rfl hk (fun e _ => encH_one e) (by simp; omega) (by simp; omega)) (by decide) ?_) | ((with_reducible apply GO.atUnit); first | refine GO.efu (Ef.appendS (ys := l) rfl rfl rfl rfl hk (fun e _ => encH_one e) (by simp; omega) (by simp; omega)) ?_ | refine GO.efu (by exact Ef.appendS (ys := l) rfl rfl rfl rfl hk (fun e _ => encH_one e) (by simp; omega) (by simp; omega)) ?_) | ((with_reducible apply GPW.atEfu); first | refine GPW.efu (Ef.appendS (ys := l) rfl rfl rfl rfl hk (fun e _ => encH_one e) (by simp; omega) (by simp; omega)) ?_ | refine GPW.efu (by exact Ef.appendS (ys := l) rfl rfl rfl rfl hk (fun e _ => encH_one e) (by simp; omega) (by simp; omega)) ?_))
  rintro _ _ ⟨ad2, cap2, rfl, rfl⟩
  simp only [List.nil_append]
  by_cases h0 : l.length = 0
  · repeat (first | refine run ?_ | intro _)
    exact KX.ends (by first | exact ResOk.tmps rfl | (repeat (first | exact ResOk.nil | apply ResOk.tmp rfl | apply ResOk.cell rfl (by rfl) | apply ResOk.cell1 rfl))) (Ent.refl _) ⟨ad2, cap2, l, rfl, rfl, rfl⟩
  repeat (first | refine run ?_ | intro _)
  (first | ((with_reducible apply GO.atPlain); first | refine GO.ef (Ef.callAll (around_spec (at_.tdiv 2) (l.length : Int) ha.half (by omega) (by omega)) rfl) (by decide) ?_ | refine GO.ef (by exact Ef.callAll (around_spec (at_.tdiv 2) (l.length : Int) ha.half (by omega) (by omega)) rfl) (by decide) ?_) | ((with_reducible apply GPW.atEf); first | refine GPW.ef (Ef.callAll (around_spec (at_.tdiv 2) (l.length : Int) ha.half (by omega) (by omega)) rfl) (by decide) ?_ | refine GPW.ef (by exact Ef.callAll (around_spec (at_.tdiv 2) (l.length : Int) ha.half (by omega) (by omega)) rfl) (by decide) ?_))
  rintro _ _ ⟨rfl, rfl⟩
  have hb := around_bd (at_.tdiv 2) (k := (l.length : Int)) (by omega)
  generalize around (at_.tdiv 2) (l.length : Int) = j at hb
  repeat (first | refine run ?_ | intro _)
  (first | ((with_reducible apply GO.atPlain); first | refine GO.ef (Ef.callAll (around_spec at_ 2 ha (by decide) (by decide)) rfl) (by decide) ?_ | refine GO.ef (by exact Ef.callAll (around_spec at_ 2 ha (by decide) (by decide)) rfl) (by decide) ?_) | ((with_reducible apply GPW.atEf); first | refine GPW.ef (Ef.callAll (around_spec at_ 2 ha (by decide) (by decide)) rfl) (by decide) ?_ | refine GPW.ef (by exact Ef.callAll (around_spec at_ 2 ha (by decide) (by decide)) rfl) (by decide) ?_))
  rintro _ _ ⟨rfl, rfl⟩
  repeat (first | refine run ?_ | intro _)
  (first | with_reducible refine CB.dec (fun _ => ?_) (fun _ => ?_) | with_reducible refine GB.dec (fun _ => ?_) (fun _ => ?_) | with_reducible refine CB.bool (fun _ => ?_) (fun _ => ?_) | with_reducible refine GB.bool (fun _ => ?_) (fun _ => ?_))
  · repeat (first | refine run ?_ | intro _)
    (first | ((with_reducible apply GO.atPlain); first | refine GO.ef (Ef.storeEl (e := ((n, l[j.toNat]!.2) : Hm)) rfl rfl (by rfl) rfl (by omega) (by decide)) (by decide) ?_ | refine GO.ef (by exact Ef.storeEl (e := ((n, l[j.toNat]!.2) : Hm)) rfl rfl (by rfl) rfl (by omega) (by decide)) (by decide) ?_) | ((with_reducible apply GPW.atEf); first | refine GPW.ef (Ef.storeEl (e := ((n, l[j.toNat]!.2) : Hm)) rfl rfl (by rfl) rfl (by omega) (by decide)) (by decide) ?_ | refine GPW.ef (by exact Ef.storeEl (e := ((n, l[j.toNat]!.2) : Hm)) rfl rfl (by rfl) rfl (by omega) (by decide)) (by decide) ?_) | ((with_reducible apply GO.atUnit); first | refine GO.efu (Ef.storeEl (e := ((n, l[j.toNat]!.2) : Hm)) rfl rfl (by rfl) rfl (by omega) (by decide)) ?_ | refine GO.efu (by exact Ef.storeEl (e := ((n, l[j.toNat]!.2) : Hm)) rfl rfl (by rfl) rfl (by omega) (by decide)) ?_) | ((with_reducible apply GPW.atEfu); first | refine GPW.efu (Ef.storeEl (e := ((n, l[j.toNat]!.2) : Hm)) rfl rfl (by rfl) rfl (by omega) (by decide)) ?_ | refine GPW.efu (by exact Ef.storeEl (e := ((n, l[j.toNat]!.2) : Hm)) rfl rfl (by rfl) rfl (by omega) (by decide)) ?_))
    rintro _ _ rfl
    repeat (first | refine run ?_ | intro _)
    exact KX.ends (by first | exact ResOk.tmps rfl | (repeat (first | exact ResOk.nil | apply ResOk.tmp rfl | apply ResOk.cell rfl (by rfl) | apply ResOk.cell1 rfl))) (Ent.refl _) ⟨ad2, cap2, _, by simp [resV], by simp, rfl⟩
  · repeat (first | refine run ?_ | intro _)
    (first | ((with_reducible apply GO.atPlain); first | refine GO.ef (Ef.storeEl (e := ((l[j.toNat]!.1, n) : Hm)) rfl rfl (by rfl) rfl (by omega) (by decide)) (by decide) ?_ | refine GO.ef (by exact Ef.storeEl (e := ((l[j.toNat]!.1, n) : Hm)) rfl rfl (by rfl) rfl (by omega) (by decide)) (by decide) ?_) | ((with_reducible apply GPW.atEf); first | refine GPW.ef (Ef.storeEl (e := ((l[j.toNat]!.1, n) : Hm)) rfl rfl (by rfl) rfl (by omega) (by decide)) (by decide) ?_ | refine GPW.ef (by exact Ef.storeEl (e := ((l[j.toNat]!.1, n) : Hm)) rfl rfl (by rfl) rfl (by omega) (by decide)) (by decide) ?_) | ((with_reducible apply GO.atUnit); first | refine GO.efu (Ef.storeEl (e := ((l[j.toNat]!.1, n) : Hm)) rfl rfl (by rfl) rfl (by omega) (by decide)) ?_ | refine GO.efu (by exact Ef.storeEl (e := ((l[j.toNat]!.1, n) : Hm)) rfl rfl (by rfl) rfl (by omega) (by decide)) ?_) | ((with_reducible apply GPW.atEfu); first | refine GPW.efu (Ef.storeEl (e := ((l[j.toNat]!.1, n) : Hm)) rfl rfl (by rfl) rfl (by omega) (by decide)) ?_ | refine GPW.efu (by exact Ef.storeEl (e := ((l[j.toNat]!.1, n) : Hm)) rfl rfl (by rfl) rfl (by omega) (by decide)) ?_))
    rintro _ _ rfl
    repeat (first | refine run ?_ | intro _)
    exact KX.ends (by first | exact ResOk.tmps rfl | (repeat (first | exact ResOk.nil | apply ResOk.tmp rfl | apply ResOk.cell rfl (by rfl) | apply ResOk.cell1 rfl))) (Ent.refl _) ⟨ad2, cap2, _, by simp [resV], by simp, rfl⟩

abbrev plM9_13_5 : List Stp := [.ev 0, .ev 1, .ev 2, .ev 3, .ev 4, .ev 5, .ev 6, .ev 7, .ev 8, .ev 9, .ev 10, .ev 11, .ef 12, .ef 13, .ev 14]
theorem homes_spec {L : List HP} (ad : Option Addr) (k c : Nat) (l : List Hm) [Rds L ad Hm encH 2 l] (hk : k = l.length) (hl : l.length ≤ 1000000) :
    Tri Tryz.prog 13 #[.slice ad k c] L (fun v L' => ∃ ad2 cap2, v = .slice ad2 l.length cap2 ∧ L' = osl encH 2 tMH ad2 cap2 l :: L) := by
  refine Tri.body (args := [.slice ad k c]) 26 en13 Tryz.func13 rfl rfl rfl (by simp) ?_
  repeat (first | refine run ?_ | intro _ | ((with_reducible apply G.atDraw); first | refine G.draw (N := 26) (id := 5) plM9_13_5 mixed (by kernel_rfl) ?_))
  refine G.loop (α := Nat × Option Addr × Nat × List Hm) (fun x => x.1 ≤ k ∧ x.2.2.2 = l.take x.1) (fun x => [(0, .slice ad k c), (3, .slice x.2.1 x.2.2.2.length x.2.2.1), (4, .int .i64 (x.1 : Int))]) (fun x => osl encH 2 tMH x.2.1 x.2.2.1 x.2.2.2 :: L) (fun x => k - x.1) (0, none, 0, []) ⟨by simp, by simp⟩ (by repeat (first | exact EnvSub.nil _ | refine EnvSub.cons rfl ?_)) (Ent.nilSl encH 2 tMH) ?_
  rintro ⟨i, ad2, cap2, out⟩ ⟨h1, h2⟩
  dsimp only at h1 h2 ⊢
  by_cases hlt : i < k
  case neg =>
    rw [List.take_of_length_le (show l.length ≤ i by omega)] at h2
    subst h2
    repeat (first | refine run ?_ | intro _ | ((with_reducible apply G.atDraw); first | refine G.draw (N := 26) (id := 5) plM9_13_5 mixed (by kernel_rfl) ?_))
    exact KX.ends (by first | exact ResOk.tmps rfl | (repeat (first | exact ResOk.nil | apply ResOk.tmp rfl | apply ResOk.cell rfl (by rfl) | apply ResOk.cell1 rfl))) (Ent.refl _) ⟨ad2, cap2, rfl, rfl⟩
  have hol : out.length = i := by rw [h2]; simp; omega
  repeat (first | refine run ?_ | intro _ | ((with_reducible apply G.atDraw); first | refine G.draw (N := 26) (id := 5) plM9_13_5 mixed (by kernel_rfl) ?_))
  rw [Int.toNat_natCast]
  (first | ((with_reducible apply GO.atPlain); first | refine GO.ef (Ef.append1 (e := (l[i]! : Hm)) rfl rfl rfl rfl rfl (by rfl) (encH_one _) (by omega) (by omega)) (by decide) ?_ | refine GO.ef (by exact Ef.append1 (e := (l[i]! : Hm)) rfl rfl rfl rfl rfl (by rfl) (encH_one _) (by omega) (by omega)) (by decide) ?_) | ((with_reducible apply GPW.atEf); first | refine GPW.ef (Ef.append1 (e := (l[i]! : Hm)) rfl rfl rfl rfl rfl (by rfl) (encH_one _) (by omega) (by omega)) (by decide) ?_ | refine GPW.ef (by exact Ef.append1 (e := (l[i]! : Hm)) rfl rfl rfl rfl rfl (by rfl) (encH_one _) (by omega) (by omega)) (by decide) ?_) | ((with_reducible apply GO.atUnit); first | refine GO.efu (Ef.append1 (e := (l[i]! : Hm)) rfl rfl rfl rfl rfl (by rfl) (encH_one _) (by omega) (by omega)) ?_ | refine GO.efu (by exact Ef.append1 (e := (l[i]! : Hm)) rfl rfl rfl rfl rfl (by rfl) (encH_one _) (by omega) (by omega)) ?_) | ((with_reducible apply GPW.atEfu); first | refine GPW.efu (Ef.append1 (e := (l[i]! : Hm)) rfl rfl rfl rfl rfl (by rfl) (encH_one _) (by omega) (by omega)) ?_ | refine GPW.efu (by exact Ef.append1 (e := (l[i]! : Hm)) rfl rfl rfl rfl rfl (by rfl) (encH_one _) (by omega) (by omega)) ?_))
  rintro _ _ ⟨ad3, cap3, rfl, rfl⟩
  repeat (first | refine run ?_ | intro _ | ((with_reducible apply G.atDraw); first | refine G.draw (N := 26) (id := 5) plM9_13_5 mixed (by kernel_rfl) ?_))
  refine ⟨(i + 1, ad3, cap3, out ++ [l[i]!]), ⟨by dsimp only; omega, ?_⟩, by dsimp only; omega, ?_, Ent.refl _⟩
  · dsimp only
    rw [List.take_succ_eq_append_getElem (by omega), ← h2, getElem!_of (by omega)]
  · dsimp only
    rw [show ((i + 1 : Nat) : Int) = (i : Int) + 1 by omega]
    exact (by repeat (first | exact EnvSub.nil _ | refine EnvSub.cons rfl ?_))

theorem hm_take_step {xs ys : List Hm} {i : Nat} (h1 : i < xs.length) (h2 : i < ys.length) (h : xs.take i = ys.take i) (he : xs[i]! = ys[i]!) : xs.take (i + 1) = ys.take (i + 1) := by
  rw [List.take_succ_eq_append_getElem h1, List.take_succ_eq_append_getElem h2, h]
  rw [getElem!_of h1, getElem!_of h2] at he
  rw [he]
abbrev plM9_20_6 : List Stp := [.ev 0, .ev 1, .ev 2, .ev 3, .ev 4, .ev 5, .ev 6, .ev 7, .ev 8, .ev 9, .ev 10, .ev 11, .ev 12, .ev 13, .ev 14, .ev 15, .ev 16, .ev 17, .ev 18, .ev 19, .ev 20, .ev 21, .ev 22, .ev 23]
theorem same_spec {L : List HP} (ad : Option Addr) (k c : Nat) (xs : List Hm) (ad' : Option Addr) (k' c' : Nat) (ys : List Hm) [Rds L ad Hm encH 2 xs] [Rds L ad' Hm encH 2 ys] (hk : k = xs.length) (hk' : k' = ys.length) (hl : xs.length ≤ 1000000000) :
    Tri Tryz.prog 20 #[.slice ad k c, .slice ad' k' c'] L (fun v L' => v = .bool (dB (xs = ys)) ∧ L' = L) := by
  refine Tri.body (args := [.slice ad k c, .slice ad' k' c']) 41 en20 Tryz.func20 rfl rfl rfl (by simp) ?_
  by_cases hne : xs.length = ys.length
  case neg =>
    rw [dB_neg (fun e => hne (by rw [e]))]
    repeat (first | refine run ?_ | intro _ | ((with_reducible apply G.atDraw); first | refine G.draw (N := 41) (id := 6) plM9_20_6 mixed (by kernel_rfl) ?_))
    exact KX.ends (by first | exact ResOk.tmps rfl | (repeat (first | exact ResOk.nil | apply ResOk.tmp rfl | apply ResOk.cell rfl (by rfl) | apply ResOk.cell1 rfl))) (Ent.refl _) ⟨rfl, rfl⟩
  repeat (first | refine run ?_ | intro _ | ((with_reducible apply G.atDraw); first | refine G.draw (N := 41) (id := 6) plM9_20_6 mixed (by kernel_rfl) ?_))
  refine G.loop (α := Nat) (fun i => i ≤ k ∧ xs.take i = ys.take i) (fun i => [(0, .slice ad k c), (1, .slice ad' k' c'), (5, .int .i64 (i : Int))]) (fun _ => L) (fun i => k - i) 0 ⟨by omega, rfl⟩ (by repeat (first | exact EnvSub.nil _ | refine EnvSub.cons rfl ?_)) (Ent.refl _) ?_
  rintro i ⟨h1, h2⟩
  by_cases hlt : i < k
  case neg =>
    rw [List.take_of_length_le (by omega), List.take_of_length_le (by omega)] at h2
    rw [dB_pos h2]
    repeat (first | refine run ?_ | intro _ | ((with_reducible apply G.atDraw); first | refine G.draw (N := 41) (id := 6) plM9_20_6 mixed (by kernel_rfl) ?_))
    exact KX.ends (by first | exact ResOk.tmps rfl | (repeat (first | exact ResOk.nil | apply ResOk.tmp rfl | apply ResOk.cell rfl (by rfl) | apply ResOk.cell1 rfl))) (Ent.refl _) ⟨rfl, rfl⟩
  have hii : (i : Int).toNat = i := by omega
  repeat (first | refine run ?_ | intro _ | ((with_reducible apply G.atDraw); first | refine G.draw (N := 41) (id := 6) plM9_20_6 mixed (by kernel_rfl) ?_))
  (first | with_reducible refine CB.dec (fun _ => ?_) (fun _ => ?_) | with_reducible refine GB.dec (fun _ => ?_) (fun _ => ?_) | with_reducible refine CB.bool (fun _ => ?_) (fun _ => ?_) | with_reducible refine GB.bool (fun _ => ?_) (fun _ => ?_))
  · rename_i hc
    rw [dB_neg (p := xs = ys) (fun e => hc (by rw [e]))]
    repeat (first | refine run ?_ | intro _ | ((with_reducible apply G.atDraw); first | refine G.draw (N := 41) (id := 6) plM9_20_6 mixed (by kernel_rfl) ?_))
    exact KX.ends (by first | exact ResOk.tmps rfl | (repeat (first | exact ResOk.nil | apply ResOk.tmp rfl | apply ResOk.cell rfl (by rfl) | apply ResOk.cell1 rfl))) (Ent.refl _) ⟨rfl, rfl⟩
  rename_i hc1
  repeat (first | refine run ?_ | intro _ | ((with_reducible apply G.atDraw); first | refine G.draw (N := 41) (id := 6) plM9_20_6 mixed (by kernel_rfl) ?_))
  (first | with_reducible refine CB.dec (fun _ => ?_) (fun _ => ?_) | with_reducible refine GB.dec (fun _ => ?_) (fun _ => ?_) | with_reducible refine CB.bool (fun _ => ?_) (fun _ => ?_) | with_reducible refine GB.bool (fun _ => ?_) (fun _ => ?_))
  · rename_i hc
    rw [dB_neg (p := xs = ys) (fun e => hc (by rw [e]))]
    repeat (first | refine run ?_ | intro _ | ((with_reducible apply G.atDraw); first | refine G.draw (N := 41) (id := 6) plM9_20_6 mixed (by kernel_rfl) ?_))
    exact KX.ends (by first | exact ResOk.tmps rfl | (repeat (first | exact ResOk.nil | apply ResOk.tmp rfl | apply ResOk.cell rfl (by rfl) | apply ResOk.cell1 rfl))) (Ent.refl _) ⟨rfl, rfl⟩
  rename_i hc2
  have he : xs[i]! = ys[i]! := by
    rw [hii] at hc1 hc2
    exact Prod.ext (Decidable.of_not_not hc1) (Decidable.of_not_not hc2)
  repeat (first | refine run ?_ | intro _ | ((with_reducible apply G.atDraw); first | refine G.draw (N := 41) (id := 6) plM9_20_6 mixed (by kernel_rfl) ?_))
  refine ⟨i + 1, ⟨by omega, hm_take_step (by omega) (by omega) h2 he⟩, by omega, ?_, Ent.refl _⟩
  rw [show ((i + 1 : Nat) : Int) = (i : Int) + 1 by omega]
  exact (by repeat (first | exact EnvSub.nil _ | refine EnvSub.cons rfl ?_))
abbrev plM9_23_6 : List Stp := [.ev 0, .ev 1, .ev 2, .ev 3, .ev 4, .ev 5, .ev 6, .ev 7, .ev 8]
theorem equal_spec {L : List HP} (ad : Option Addr) (k c : Nat) (xs : List Hm) (ad' : Option Addr) (k' c' : Nat) (ys : List Hm) [Rds L ad Hm encH 2 xs] [Rds L ad' Hm encH 2 ys] (hk : k = xs.length) (hk' : k' = ys.length) (hl : xs.length ≤ 1000000000) :
    Tri Tryz.prog 23 #[.slice ad k c, .slice ad' k' c'] L (fun v L' => v = .bool (dB (xs = ys)) ∧ L' = L) := by
  refine Tri.body (args := [.slice ad k c, .slice ad' k' c']) 26 en23 Tryz.func23 rfl rfl rfl (by simp) ?_
  by_cases hne : xs.length = ys.length
  case neg =>
    rw [dB_neg (fun e => hne (by rw [e]))]
    repeat (first | refine run ?_ | intro _ | ((with_reducible apply G.atDraw); first | refine G.draw (N := 26) (id := 6) plM9_23_6 mixed (by kernel_rfl) ?_))
    exact KX.ends (by first | exact ResOk.tmps rfl | (repeat (first | exact ResOk.nil | apply ResOk.tmp rfl | apply ResOk.cell rfl (by rfl) | apply ResOk.cell1 rfl))) (Ent.refl _) ⟨rfl, rfl⟩
  repeat (first | refine run ?_ | intro _ | ((with_reducible apply G.atDraw); first | refine G.draw (N := 26) (id := 6) plM9_23_6 mixed (by kernel_rfl) ?_))
  refine G.loop (α := Nat) (fun i => i ≤ k ∧ xs.take i = ys.take i) (fun i => [(0, .slice ad k c), (1, .slice ad' k' c'), (5, .int .i64 (i : Int))]) (fun _ => L) (fun i => k - i) 0 ⟨by omega, rfl⟩ (by repeat (first | exact EnvSub.nil _ | refine EnvSub.cons rfl ?_)) (Ent.refl _) ?_
  rintro i ⟨h1, h2⟩
  by_cases hlt : i < k
  case neg =>
    rw [List.take_of_length_le (by omega), List.take_of_length_le (by omega)] at h2
    rw [dB_pos h2]
    repeat (first | refine run ?_ | intro _ | ((with_reducible apply G.atDraw); first | refine G.draw (N := 26) (id := 6) plM9_23_6 mixed (by kernel_rfl) ?_))
    exact KX.ends (by first | exact ResOk.tmps rfl | (repeat (first | exact ResOk.nil | apply ResOk.tmp rfl | apply ResOk.cell rfl (by rfl) | apply ResOk.cell1 rfl))) (Ent.refl _) ⟨rfl, rfl⟩
  have hii : (i : Int).toNat = i := by omega
  repeat (first | refine run ?_ | intro _ | ((with_reducible apply G.atDraw); first | refine G.draw (N := 26) (id := 6) plM9_23_6 mixed (by kernel_rfl) ?_))
  (first | with_reducible refine CB.dec (fun _ => ?_) (fun _ => ?_) | with_reducible refine GB.dec (fun _ => ?_) (fun _ => ?_) | with_reducible refine CB.bool (fun _ => ?_) (fun _ => ?_) | with_reducible refine GB.bool (fun _ => ?_) (fun _ => ?_))
  · rename_i hc
    rw [dB_neg (p := xs = ys) (fun e => hc (by rw [e]))]
    repeat (first | refine run ?_ | intro _ | ((with_reducible apply G.atDraw); first | refine G.draw (N := 26) (id := 6) plM9_23_6 mixed (by kernel_rfl) ?_))
    exact KX.ends (by first | exact ResOk.tmps rfl | (repeat (first | exact ResOk.nil | apply ResOk.tmp rfl | apply ResOk.cell rfl (by rfl) | apply ResOk.cell1 rfl))) (Ent.refl _) ⟨rfl, rfl⟩
  rename_i hc1
  have he : xs[i]! = ys[i]! := by
    rw [hii] at hc1
    have := Decidable.of_not_not hc1
    simp only [List.cons.injEq, and_true] at this
    exact Prod.ext this.1 this.2
  repeat (first | refine run ?_ | intro _ | ((with_reducible apply G.atDraw); first | refine G.draw (N := 26) (id := 6) plM9_23_6 mixed (by kernel_rfl) ?_))
  refine ⟨i + 1, ⟨by omega, hm_take_step (by omega) (by omega) h2 he⟩, by omega, ?_, Ent.refl _⟩
  rw [show ((i + 1 : Nat) : Int) = (i : Int) + 1 by omega]
  exact (by repeat (first | exact EnvSub.nil _ | refine EnvSub.cons rfl ?_))
end Go.Proofs.YtclgjkeeaopppaaGreatDoor
