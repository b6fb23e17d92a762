/- Contracts of the model of package move: Split, Join, Homes, Spoilt; lists of homes held against each other. -/
import Derived.Test.YtclgjkeeaopppaaGreatDoorM6
namespace Go.Proofs.YtclgjkeeaopppaaGreatDoor
open Go.V
attribute [local irreducible] G GO GP GPW GPK Ev Ef EfR Ent CB GB Enters

theorem foldl_put_len (l : List Hm) : ∀ a : List Int, (l.foldl (fun a h => putL a h.1) a).length ≤ a.length + l.length := by
  induction l with
  | nil => intro a; simp
  | cons p l ih =>
    intro a
    have := ih (putL a p.1)
    have := putL_len a p.1
    simp only [List.foldl_cons, List.length_cons]
    omega
theorem zip_map_self (l : List Int) (g : Int → Int) : l.zip (l.map g) = l.map fun p => (p, g p) := by
  induction l with
  | nil => rfl
  | cons x l ih => simp [ih]
theorem rsplit_spec {L : List HP} (f t s : Int) (ad : Option Addr) (k c : Nat) (l : List Hm) [Rds L ad Hm encH 2 l] (hk : k = l.length) (hl : l.length ≤ 100000) (ht : I64 t) :
    Tri Tryz.prog 21 #[.slice ad k c, .int .i64 f, .int .i64 t, .int .i64 s] L (fun v L' => ∃ ad2 cap2, v = .slice ad2 (refSplit l f t s).length cap2 ∧ L' = osl encH 2 tRH ad2 cap2 (refSplit l f t s) :: L) := by
  have hmx : maxAcc = 1073741824 := rfl
  obtain ⟨ht1, ht2⟩ := ht
  refine Tri.body (args := [.slice ad k c, .int .i64 f, .int .i64 t, .int .i64 s]) 71 en21 Tryz.func21 rfl rfl rfl (by simp) ?_
  repeat (first | ((fail_if_success (with_reducible refine G.atSS 2 ?_)); (with_reducible apply G.seq)) | refine runS ?_ | intro _)
  refine G.join (α := Option Addr × Nat × List Int) (fun x => x.2.2 = l.foldl (fun a h => putL a h.1) []) (fun x => [(0, .slice ad k c), (1, .int .i64 f), (2, .int .i64 t), (3, .int .i64 s), (9, .slice x.1 x.2.2.length x.2.1)]) (fun x => osl (encI .i64) 1 tI x.1 x.2.1 x.2.2 :: L) ?_ ?_
  · repeat (first | refine run ?_ | intro _)
    refine G.loop (α := Nat × Option Addr × Nat × List Int) (fun x => x.1 ≤ k ∧ x.2.2.2 = (l.take x.1).foldl (fun a h => putL a h.1) []) (fun x => [(0, .slice ad k c), (1, .int .i64 f), (2, .int .i64 t), (3, .int .i64 s), (9, .slice x.2.1 x.2.2.2.length x.2.2.1), (10, .int .i64 (x.1 : Int))]) (fun x => osl (encI .i64) 1 tI x.2.1 x.2.2.1 x.2.2.2 :: L) (fun x => k - x.1) (0, none, 0, []) ⟨by simp, by simp⟩ (by repeat (first | exact EnvSub.nil _ | refine EnvSub.cons rfl ?_)) (Ent.nilSl (encI .i64) 1 tI) ?_
    rintro ⟨i, ad1, cap1, a⟩ ⟨h1, h2⟩
    dsimp only at h1 h2 ⊢
    by_cases hlt : i < k
    case neg =>
      rw [List.take_of_length_le (show l.length ≤ i by omega)] at h2
      repeat (first | refine run ?_ | intro _)
      exact ⟨(ad1, cap1, a), h2, (by repeat (first | exact EnvSub.nil _ | refine EnvSub.cons rfl ?_)), Ent.refl _⟩
    have hal : a.length ≤ 200000 := by
      have := foldl_put_len (l.take i) []
      rw [h2]
      simp at this ⊢
      omega
    repeat (first | refine run ?_ | intro _)
    rw [Int.toNat_natCast]
    repeat (first | refine run ?_ | intro _)
    (first | ((with_reducible apply GO.atPlain); first | refine GO.ef (Ef.call (put_spec ad1 cap1 a l[i]!.1 (by omega)) rfl (by repeat (first | exact Ent.refl _ | apply Ent.take))) (by decide) ?_ | refine GO.ef (by exact Ef.call (put_spec ad1 cap1 a l[i]!.1 (by omega)) rfl (by repeat (first | exact Ent.refl _ | apply Ent.take))) (by decide) ?_) | ((with_reducible apply GPW.atEf); first | refine GPW.ef (Ef.call (put_spec ad1 cap1 a l[i]!.1 (by omega)) rfl (by repeat (first | exact Ent.refl _ | apply Ent.take))) (by decide) ?_ | refine GPW.ef (by exact Ef.call (put_spec ad1 cap1 a l[i]!.1 (by omega)) rfl (by repeat (first | exact Ent.refl _ | apply Ent.take))) (by decide) ?_))
    rintro _ _ ⟨_, ⟨ad2, cap2, rfl, rfl⟩, hL⟩
    simp only [List.cons_append, List.nil_append] at hL; subst hL
    repeat (first | refine run ?_ | intro _)
    refine ⟨(i + 1, ad2, cap2, putL a l[i]!.1), ⟨by dsimp only; omega, ?_⟩, by dsimp only; omega, ?_, Ent.refl _⟩
    · dsimp only
      rw [List.take_succ_eq_append_getElem (by omega), List.foldl_append, ← h2, getElem!_of (by omega)]
      rfl
    · dsimp only
      rw [show ((i + 1 : Nat) : Int) = (i : Int) + 1 by omega]
      exact (by repeat (first | exact EnvSub.nil _ | refine EnvSub.cons rfl ?_))
  rintro ⟨ad1, cap1, a⟩ ha
  dsimp only at ha ⊢
  have hal : a.length ≤ 200000 := by
    have := foldl_put_len l []
    rw [ha]
    simp at this ⊢
    omega
  repeat (first | refine run ?_ | intro _)
  (first | ((with_reducible apply GO.atPlain); first | refine GO.ef (Ef.call (put_spec ad1 cap1 a f (by omega)) rfl (by repeat (first | exact Ent.refl _ | apply Ent.take))) (by decide) ?_ | refine GO.ef (by exact Ef.call (put_spec ad1 cap1 a f (by omega)) rfl (by repeat (first | exact Ent.refl _ | apply Ent.take))) (by decide) ?_) | ((with_reducible apply GPW.atEf); first | refine GPW.ef (Ef.call (put_spec ad1 cap1 a f (by omega)) rfl (by repeat (first | exact Ent.refl _ | apply Ent.take))) (by decide) ?_ | refine GPW.ef (by exact Ef.call (put_spec ad1 cap1 a f (by omega)) rfl (by repeat (first | exact Ent.refl _ | apply Ent.take))) (by decide) ?_))
  rintro _ _ ⟨_, ⟨ad2, cap2, rfl, rfl⟩, hL⟩
  simp only [List.cons_append, List.nil_append] at hL; subst hL
  have hal2 := putL_len a f
  repeat (first | ((fail_if_success (with_reducible refine G.atSS 7 ?_)); (with_reducible apply G.seq)) | refine runS ?_ | intro _)
  refine G.join (α := Option Addr × Nat × List Int) (fun x => x.2.2 = refPts l f t) (fun x => [(0, .slice ad k c), (1, .int .i64 f), (2, .int .i64 t), (3, .int .i64 s), (9, .slice x.1 x.2.2.length x.2.1)]) (fun x => osl (encI .i64) 1 tI x.1 x.2.1 x.2.2 :: L) ?_ ?_
  · by_cases hc : t < maxAcc
    · repeat (first | refine run ?_ | intro _)
      (first | ((with_reducible apply GO.atPlain); first | refine GO.ef (Ef.call (put_spec ad2 cap2 (putL a f) (t + 1) (by omega)) rfl (by repeat (first | exact Ent.refl _ | apply Ent.take))) (by decide) ?_ | refine GO.ef (by exact Ef.call (put_spec ad2 cap2 (putL a f) (t + 1) (by omega)) rfl (by repeat (first | exact Ent.refl _ | apply Ent.take))) (by decide) ?_) | ((with_reducible apply GPW.atEf); first | refine GPW.ef (Ef.call (put_spec ad2 cap2 (putL a f) (t + 1) (by omega)) rfl (by repeat (first | exact Ent.refl _ | apply Ent.take))) (by decide) ?_ | refine GPW.ef (by exact Ef.call (put_spec ad2 cap2 (putL a f) (t + 1) (by omega)) rfl (by repeat (first | exact Ent.refl _ | apply Ent.take))) (by decide) ?_))
      rintro _ _ ⟨_, ⟨ad3, cap3, rfl, rfl⟩, hL⟩
      simp only [List.cons_append, List.nil_append] at hL; subst hL
      repeat (first | refine run ?_ | intro _)
      refine ⟨(ad3, cap3, putL (putL a f) (t + 1)), ?_, (by repeat (first | exact EnvSub.nil _ | refine EnvSub.cons rfl ?_)), Ent.refl _⟩
      simp only [refPts, ← ha, if_pos hc]
    · repeat (first | refine run ?_ | intro _)
      refine ⟨(ad2, cap2, putL a f), ?_, (by repeat (first | exact EnvSub.nil _ | refine EnvSub.cons rfl ?_)), Ent.refl _⟩
      simp only [refPts, ← ha, if_neg hc]
  rintro ⟨ad3, cap3, pts⟩ hpts
  dsimp only at hpts ⊢
  have hpl : pts.length ≤ 200002 := by
    rw [hpts]
    simp only [refPts, ← ha]
    have := putL_len (putL a f) (t + 1)
    split <;> omega
  repeat (first | refine run ?_ | intro _)
  obtain ⟨g, hg⟩ : ∃ g : Int → Int, ∀ p, g p = (if f ≤ p ∧ p ≤ t then s else fndH l p) := ⟨_, fun _ => rfl⟩
  refine G.loop (α := Nat × Option Addr × Nat × List Int) (fun x => x.1 ≤ pts.length ∧ x.2.2.2 = (pts.take x.1).map g) (fun x => [(0, .slice ad k c), (1, .int .i64 f), (2, .int .i64 t), (3, .int .i64 s), (9, .slice ad3 pts.length cap3), (11, .slice x.2.1 x.2.2.2.length x.2.2.1), (12, .int .i64 (x.1 : Int))]) (fun x => osl (encI .i64) 1 tI x.2.1 x.2.2.1 x.2.2.2 :: osl (encI .i64) 1 tI ad3 cap3 pts :: L) (fun x => pts.length - x.1) (0, none, 0, []) ⟨by simp, by simp⟩ (by repeat (first | exact EnvSub.nil _ | refine EnvSub.cons rfl ?_)) (Ent.nilSl (encI .i64) 1 tI) ?_
  rintro ⟨i, ad4, cap4, ss⟩ ⟨h1, h2⟩
  dsimp only at h1 h2 ⊢
  have hsl : ss.length = i := by rw [h2]; simp; omega
  by_cases hlt : i < pts.length
  case neg =>
    rw [List.take_of_length_le (show pts.length ≤ i by omega)] at h2
    have hz : normalM (pts.zip ss) = refSplit l f t s := by
      unfold refSplit
      rw [h2, zip_map_self, ← hpts]
      congr 1
      apply List.map_congr_left
      intro p _
      rw [hg]
    repeat (first | refine run ?_ | intro _)
    (first | ((with_reducible apply GO.atPlain); first | refine GO.ef (Ef.callAll (normal_spec ad3 ad4 pts.length cap3 ss.length cap4 pts ss rfl rfl (by omega) (by omega)) rfl) (by decide) ?_ | refine GO.ef (by exact Ef.callAll (normal_spec ad3 ad4 pts.length cap3 ss.length cap4 pts ss rfl rfl (by omega) (by omega)) rfl) (by decide) ?_) | ((with_reducible apply GPW.atEf); first | refine GPW.ef (Ef.callAll (normal_spec ad3 ad4 pts.length cap3 ss.length cap4 pts ss rfl rfl (by omega) (by omega)) rfl) (by decide) ?_ | refine GPW.ef (by exact Ef.callAll (normal_spec ad3 ad4 pts.length cap3 ss.length cap4 pts ss rfl rfl (by omega) (by omega)) rfl) (by decide) ?_))
    rintro _ _ ⟨ad5, cap5, rfl, rfl⟩
    rw [hz]
    repeat (first | refine run ?_ | intro _)
    refine KX.ends (by first | exact ResOk.tmps rfl | (repeat (first | exact ResOk.nil | apply ResOk.tmp rfl | apply ResOk.cell rfl (by rfl) | apply ResOk.cell1 rfl))) ?_ ⟨ad5, cap5, rfl, rfl⟩
    repeat (first | exact Ent.refl _ | exact Ent.nil _ | refine Ent.take' ?_ | refine Ent.trans Ent.drop ?_)
  have hnx : (pts.take (i + 1)).map g = ss ++ [g pts[i]!] := by
    rw [List.take_succ_eq_append_getElem hlt, List.map_append, ← h2, getElem!_of hlt]
    rfl
  have fin : ∀ {env' : Env} {L' : List HP} (ad6 : Option Addr) (cap6 : Nat), EnvSub env' [(0, .slice ad k c), (1, .int .i64 f), (2, .int .i64 t), (3, .int .i64 s), (9, .slice ad3 pts.length cap3), (11, .slice ad6 (ss ++ [g pts[i]!]).length cap6), (12, .int .i64 ((i : Int) + 1))] → Ent L' (osl (encI .i64) 1 tI ad6 cap6 (ss ++ [g pts[i]!]) :: osl (encI .i64) 1 tI ad3 cap3 pts :: L) →
      ∃ x : Nat × Option Addr × Nat × List Int, (x.1 ≤ pts.length ∧ x.2.2.2 = (pts.take x.1).map g) ∧ pts.length - x.1 < pts.length - i ∧ EnvSub env' [(0, .slice ad k c), (1, .int .i64 f), (2, .int .i64 t), (3, .int .i64 s), (9, .slice ad3 pts.length cap3), (11, .slice x.2.1 x.2.2.2.length x.2.2.1), (12, .int .i64 (x.1 : Int))] ∧ Ent L' (osl (encI .i64) 1 tI x.2.1 x.2.2.1 x.2.2.2 :: osl (encI .i64) 1 tI ad3 cap3 pts :: L) :=
    fun ad6 cap6 e1 e2 => ⟨(i + 1, ad6, cap6, ss ++ [g pts[i]!]), ⟨by dsimp only; omega, hnx.symm⟩, by dsimp only; omega, by dsimp only; rw [show ((i + 1 : Nat) : Int) = (i : Int) + 1 by omega]; exact e1, e2⟩
  have hgi := hg pts[i]!
  repeat (first | refine run ?_ | intro _)
  rw [Int.toNat_natCast]
  (first | with_reducible refine CB.dec (fun _ => ?_) (fun _ => ?_) | with_reducible refine GB.dec (fun _ => ?_) (fun _ => ?_) | with_reducible refine CB.bool (fun _ => ?_) (fun _ => ?_) | with_reducible refine GB.bool (fun _ => ?_) (fun _ => ?_))
  · rename_i hc1
    repeat (first | refine run ?_ | intro _)
    rw [Int.toNat_natCast]
    repeat (first | refine run ?_ | intro _)
    (first | with_reducible refine CB.dec (fun _ => ?_) (fun _ => ?_) | with_reducible refine GB.dec (fun _ => ?_) (fun _ => ?_) | with_reducible refine CB.bool (fun _ => ?_) (fun _ => ?_) | with_reducible refine GB.bool (fun _ => ?_) (fun _ => ?_))
    · rename_i hc2
      rw [if_pos ⟨hc1, hc2⟩] at hgi
      rw [hgi] at fin
      repeat (first | refine run ?_ | intro _)
      (first | ((with_reducible apply GO.atPlain); first | refine GO.ef (Ef.append1 (e := s) rfl rfl rfl rfl rfl (by rfl) (encI_one _ _) (by omega) (by omega)) (by decide) ?_ | refine GO.ef (by exact Ef.append1 (e := s) rfl rfl rfl rfl rfl (by rfl) (encI_one _ _) (by omega) (by omega)) (by decide) ?_) | ((with_reducible apply GPW.atEf); first | refine GPW.ef (Ef.append1 (e := s) rfl rfl rfl rfl rfl (by rfl) (encI_one _ _) (by omega) (by omega)) (by decide) ?_ | refine GPW.ef (by exact Ef.append1 (e := s) rfl rfl rfl rfl rfl (by rfl) (encI_one _ _) (by omega) (by omega)) (by decide) ?_) | ((with_reducible apply GO.atUnit); first | refine GO.efu (Ef.append1 (e := s) rfl rfl rfl rfl rfl (by rfl) (encI_one _ _) (by omega) (by omega)) ?_ | refine GO.efu (by exact Ef.append1 (e := s) rfl rfl rfl rfl rfl (by rfl) (encI_one _ _) (by omega) (by omega)) ?_) | ((with_reducible apply GPW.atEfu); first | refine GPW.efu (Ef.append1 (e := s) rfl rfl rfl rfl rfl (by rfl) (encI_one _ _) (by omega) (by omega)) ?_ | refine GPW.efu (by exact Ef.append1 (e := s) rfl rfl rfl rfl rfl (by rfl) (encI_one _ _) (by omega) (by omega)) ?_))
      rintro _ _ ⟨ad6, cap6, rfl, rfl⟩
      repeat (first | refine run ?_ | intro _)
      exact fin ad6 cap6 (by repeat (first | exact EnvSub.nil _ | refine EnvSub.cons rfl ?_)) (Ent.refl _)
    · rename_i hc2
      rw [if_neg (fun h => hc2 h.2)] at hgi
      rw [hgi] at fin
      repeat (first | refine run ?_ | intro _)
      rw [Int.toNat_natCast]
      (first | ((with_reducible apply GO.atPlain); first | refine GO.ef (Ef.callAll (rfind_spec pts[i]! ad k c l hk (by omega)) rfl) (by decide) ?_ | refine GO.ef (by exact Ef.callAll (rfind_spec pts[i]! ad k c l hk (by omega)) rfl) (by decide) ?_) | ((with_reducible apply GPW.atEf); first | refine GPW.ef (Ef.callAll (rfind_spec pts[i]! ad k c l hk (by omega)) rfl) (by decide) ?_ | refine GPW.ef (by exact Ef.callAll (rfind_spec pts[i]! ad k c l hk (by omega)) rfl) (by decide) ?_))
      rintro _ _ ⟨rfl, rfl⟩
      repeat (first | refine run ?_ | intro _)
      (first | ((with_reducible apply GO.atPlain); first | refine GO.ef (Ef.append1 (e := fndH l pts[i]!) rfl rfl rfl rfl rfl (by rfl) (encI_one _ _) (by omega) (by omega)) (by decide) ?_ | refine GO.ef (by exact Ef.append1 (e := fndH l pts[i]!) rfl rfl rfl rfl rfl (by rfl) (encI_one _ _) (by omega) (by omega)) (by decide) ?_) | ((with_reducible apply GPW.atEf); first | refine GPW.ef (Ef.append1 (e := fndH l pts[i]!) rfl rfl rfl rfl rfl (by rfl) (encI_one _ _) (by omega) (by omega)) (by decide) ?_ | refine GPW.ef (by exact Ef.append1 (e := fndH l pts[i]!) rfl rfl rfl rfl rfl (by rfl) (encI_one _ _) (by omega) (by omega)) (by decide) ?_) | ((with_reducible apply GO.atUnit); first | refine GO.efu (Ef.append1 (e := fndH l pts[i]!) rfl rfl rfl rfl rfl (by rfl) (encI_one _ _) (by omega) (by omega)) ?_ | refine GO.efu (by exact Ef.append1 (e := fndH l pts[i]!) rfl rfl rfl rfl rfl (by rfl) (encI_one _ _) (by omega) (by omega)) ?_) | ((with_reducible apply GPW.atEfu); first | refine GPW.efu (Ef.append1 (e := fndH l pts[i]!) rfl rfl rfl rfl rfl (by rfl) (encI_one _ _) (by omega) (by omega)) ?_ | refine GPW.efu (by exact Ef.append1 (e := fndH l pts[i]!) rfl rfl rfl rfl rfl (by rfl) (encI_one _ _) (by omega) (by omega)) ?_))
      rintro _ _ ⟨ad6, cap6, rfl, rfl⟩
      repeat (first | refine run ?_ | intro _)
      exact fin ad6 cap6 (by repeat (first | exact EnvSub.nil _ | refine EnvSub.cons rfl ?_)) (Ent.refl _)
  · rename_i hc1
    rw [if_neg (fun h => hc1 h.1)] at hgi
    rw [hgi] at fin
    repeat (first | refine run ?_ | intro _)
    rw [Int.toNat_natCast]
    (first | ((with_reducible apply GO.atPlain); first | refine GO.ef (Ef.callAll (rfind_spec pts[i]! ad k c l hk (by omega)) rfl) (by decide) ?_ | refine GO.ef (by exact Ef.callAll (rfind_spec pts[i]! ad k c l hk (by omega)) rfl) (by decide) ?_) | ((with_reducible apply GPW.atEf); first | refine GPW.ef (Ef.callAll (rfind_spec pts[i]! ad k c l hk (by omega)) rfl) (by decide) ?_ | refine GPW.ef (by exact Ef.callAll (rfind_spec pts[i]! ad k c l hk (by omega)) rfl) (by decide) ?_))
    rintro _ _ ⟨rfl, rfl⟩
    repeat (first | refine run ?_ | intro _)
    (first | ((with_reducible apply GO.atPlain); first | refine GO.ef (Ef.append1 (e := fndH l pts[i]!) rfl rfl rfl rfl rfl (by rfl) (encI_one _ _) (by omega) (by omega)) (by decide) ?_ | refine GO.ef (by exact Ef.append1 (e := fndH l pts[i]!) rfl rfl rfl rfl rfl (by rfl) (encI_one _ _) (by omega) (by omega)) (by decide) ?_) | ((with_reducible apply GPW.atEf); first | refine GPW.ef (Ef.append1 (e := fndH l pts[i]!) rfl rfl rfl rfl rfl (by rfl) (encI_one _ _) (by omega) (by omega)) (by decide) ?_ | refine GPW.ef (by exact Ef.append1 (e := fndH l pts[i]!) rfl rfl rfl rfl rfl (by rfl) (encI_one _ _) (by omega) (by omega)) (by decide) ?_) | ((with_reducible apply GO.atUnit); first | refine GO.efu (Ef.append1 (e := fndH l pts[i]!) rfl rfl rfl rfl rfl (by rfl) (encI_one _ _) (by omega) (by omega)) ?_ | refine GO.efu (by exact Ef.append1 (e := fndH l pts[i]!) rfl rfl rfl rfl rfl (by rfl) (encI_one _ _) (by omega) (by omega)) ?_) | ((with_reducible apply GPW.atEfu); first | refine GPW.efu (Ef.append1 (e := fndH l pts[i]!) rfl rfl rfl rfl rfl (by rfl) (encI_one _ _) (by omega) (by omega)) ?_ | refine GPW.efu (by exact Ef.append1 (e := fndH l pts[i]!) rfl rfl rfl rfl rfl (by rfl) (encI_one _ _) (by omega) (by omega)) ?_))
    rintro _ _ ⟨ad6, cap6, rfl, rfl⟩
    repeat (first | refine run ?_ | intro _)
    exact fin ad6 cap6 (by repeat (first | exact EnvSub.nil _ | refine EnvSub.cons rfl ?_)) (Ent.refl _)
end Go.Proofs.YtclgjkeeaopppaaGreatDoor
