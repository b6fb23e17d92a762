/- Contracts of the model of package move: Join, Homes, Spoilt; lists of homes held against each other. -/
import Derived.Test.YtclgjkeeaopppaaGreatDoorM7
namespace Go.Proofs.YtclgjkeeaopppaaGreatDoor
open Go.V
attribute [local irreducible] G GO GP GPW GPK Ev Ef EfR Ent CB GB Enters

theorem rjoin_spec {L : List HP} (s t : Int) (ad : Option Addr) (k c : Nat) (l : List Hm) [Rds L ad Hm encH 2 l] (hk : k = l.length) (hl : l.length ≤ 100000) :
    Tri Tryz.prog 22 #[.slice ad k c, .int .i64 s, .int .i64 t] L (fun v L' => ∃ ad2 cap2, v = .slice ad2 (joinH l s t).length cap2 ∧ L' = osl encH 2 tRH ad2 cap2 (joinH l s t) :: L) := by
  refine Tri.body (args := [.slice ad k c, .int .i64 s, .int .i64 t]) 46 en22 Tryz.func22 rfl rfl rfl (by simp) ?_
  repeat (first | refine run ?_ | intro _)
  refine G.loop (α := Nat × Option Addr × Nat × Option Addr × Nat) (fun x => x.1 ≤ k) (fun x => [(0, .slice ad k c), (1, .int .i64 s), (2, .int .i64 t), (7, .slice x.2.1 ((l.take x.1).map (·.1)).length x.2.2.1), (8, .slice x.2.2.2.1 ((l.take x.1).map fun p => ren s t p.2).length x.2.2.2.2), (9, .int .i64 (x.1 : Int))])
    (fun x => osl (encI .i64) 1 tI x.2.1 x.2.2.1 ((l.take x.1).map (·.1)) :: osl (encI .i64) 1 tI x.2.2.2.1 x.2.2.2.2 ((l.take x.1).map fun p => ren s t p.2) :: L) (fun x => k - x.1) (0, none, 0, none, 0) (by simp) (by repeat (first | exact EnvSub.nil _ | refine EnvSub.cons rfl ?_)) ((Ent.nilSl (encI .i64) 1 tI).trans (Ent.nilSl (encI .i64) 1 tI)) ?_
  rintro ⟨i, ad1, cap1, ad2, cap2⟩ h1
  dsimp only at h1 ⊢
  by_cases hlt : i < k
  case neg =>
    rw [List.take_of_length_le (show l.length ≤ i by omega)]
    have hz : normalM ((l.map (·.1)).zip (l.map fun p => ren s t p.2)) = joinH l s t := by
      unfold joinH joinP
      congr 1
      rw [List.zip_map']
    obtain ⟨us, hus⟩ : ∃ us, us = l.map (·.1) := ⟨_, rfl⟩
    obtain ⟨ws, hws⟩ : ∃ ws, ws = l.map fun p => ren s t p.2 := ⟨_, rfl⟩
    have hul : us.length = l.length := by rw [hus]; simp
    have hwl : ws.length = l.length := by rw [hws]; simp
    rw [← hus, ← hws] at hz ⊢
    repeat (first | refine run ?_ | intro _)
    (first | ((with_reducible apply GO.atPlain); first | refine GO.ef (Ef.callAll (normal_spec ad1 ad2 us.length cap1 ws.length cap2 us ws rfl rfl (by omega) (by omega)) rfl) (by decide) ?_ | refine GO.ef (by exact Ef.callAll (normal_spec ad1 ad2 us.length cap1 ws.length cap2 us ws rfl rfl (by omega) (by omega)) rfl) (by decide) ?_) | ((with_reducible apply GPW.atEf); first | refine GPW.ef (Ef.callAll (normal_spec ad1 ad2 us.length cap1 ws.length cap2 us ws rfl rfl (by omega) (by omega)) rfl) (by decide) ?_ | refine GPW.ef (by exact Ef.callAll (normal_spec ad1 ad2 us.length cap1 ws.length cap2 us ws rfl rfl (by omega) (by omega)) rfl) (by decide) ?_))
    rintro _ _ ⟨ad5, cap5, rfl, rfl⟩
    rw [hz]
    repeat (first | refine run ?_ | intro _)
    refine KX.ends (by first | exact ResOk.tmps rfl | (repeat (first | exact ResOk.nil | apply ResOk.tmp rfl | apply ResOk.cell rfl (by rfl) | apply ResOk.cell1 rfl))) ?_ ⟨ad5, cap5, rfl, rfl⟩
    repeat (first | exact Ent.refl _ | exact Ent.nil _ | refine Ent.take' ?_ | refine Ent.trans Ent.drop ?_)
  have hlx : (l.take i).length = i := by simp; omega
  have e1 : (l.take (i + 1)).map (·.1) = (l.take i).map (·.1) ++ [l[i]!.1] := by
    rw [List.take_succ_eq_append_getElem (by omega), List.map_append, getElem!_of (by omega)]
    rfl
  have e2 : (l.take (i + 1)).map (fun p => ren s t p.2) = (l.take i).map (fun p => ren s t p.2) ++ [ren s t l[i]!.2] := by
    rw [List.take_succ_eq_append_getElem (by omega), List.map_append, getElem!_of (by omega)]
    rfl
  have fin : ∀ {env' : Env} {L' : List HP} (ad6 : Option Addr) (cap6 : Nat) (ad7 : Option Addr) (cap7 : Nat), EnvSub env' [(0, .slice ad k c), (1, .int .i64 s), (2, .int .i64 t), (7, .slice ad6 ((l.take i).map (·.1) ++ [l[i]!.1]).length cap6), (8, .slice ad7 ((l.take i).map (fun p => ren s t p.2) ++ [ren s t l[i]!.2]).length cap7), (9, .int .i64 ((i : Int) + 1))] →
      Ent L' (osl (encI .i64) 1 tI ad6 cap6 ((l.take i).map (·.1) ++ [l[i]!.1]) :: osl (encI .i64) 1 tI ad7 cap7 ((l.take i).map (fun p => ren s t p.2) ++ [ren s t l[i]!.2]) :: L) →
      ∃ x : Nat × Option Addr × Nat × Option Addr × Nat, (x.1 ≤ k) ∧ k - x.1 < k - i ∧ EnvSub env' [(0, .slice ad k c), (1, .int .i64 s), (2, .int .i64 t), (7, .slice x.2.1 ((l.take x.1).map (·.1)).length x.2.2.1), (8, .slice x.2.2.2.1 ((l.take x.1).map fun p => ren s t p.2).length x.2.2.2.2), (9, .int .i64 (x.1 : Int))] ∧
      Ent L' (osl (encI .i64) 1 tI x.2.1 x.2.2.1 ((l.take x.1).map (·.1)) :: osl (encI .i64) 1 tI x.2.2.2.1 x.2.2.2.2 ((l.take x.1).map fun p => ren s t p.2) :: L) :=
    fun ad6 cap6 ad7 cap7 a1 a2 => ⟨(i + 1, ad6, cap6, ad7, cap7), by dsimp only; omega, by dsimp only; omega, by dsimp only; rw [e1, e2, show ((i + 1 : Nat) : Int) = (i : Int) + 1 by omega]; exact a1, by dsimp only; rw [e1, e2]; exact a2⟩
  obtain ⟨us, hus⟩ : ∃ us, us = (l.take i).map (·.1) := ⟨_, rfl⟩
  obtain ⟨ws, hws⟩ : ∃ ws, ws = (l.take i).map fun p => ren s t p.2 := ⟨_, rfl⟩
  have hul : us.length ≤ 100000 := by rw [hus]; simp; omega
  have hwl : ws.length ≤ 100000 := by rw [hws]; simp; omega
  rw [← hus, ← hws] at fin ⊢
  repeat (first | refine run ?_ | intro _)
  rw [Int.toNat_natCast]
  (first | ((with_reducible apply GO.atPlain); first | refine GO.ef (Ef.append1 (e := l[i]!.1) rfl rfl rfl rfl rfl (by rfl) (encI_one _ _) (by omega) (by omega)) (by decide) ?_ | refine GO.ef (by exact Ef.append1 (e := l[i]!.1) rfl rfl rfl rfl rfl (by rfl) (encI_one _ _) (by omega) (by omega)) (by decide) ?_) | ((with_reducible apply GPW.atEf); first | refine GPW.ef (Ef.append1 (e := l[i]!.1) rfl rfl rfl rfl rfl (by rfl) (encI_one _ _) (by omega) (by omega)) (by decide) ?_ | refine GPW.ef (by exact Ef.append1 (e := l[i]!.1) rfl rfl rfl rfl rfl (by rfl) (encI_one _ _) (by omega) (by omega)) (by decide) ?_) | ((with_reducible apply GO.atUnit); first | refine GO.efu (Ef.append1 (e := l[i]!.1) rfl rfl rfl rfl rfl (by rfl) (encI_one _ _) (by omega) (by omega)) ?_ | refine GO.efu (by exact Ef.append1 (e := l[i]!.1) rfl rfl rfl rfl rfl (by rfl) (encI_one _ _) (by omega) (by omega)) ?_) | ((with_reducible apply GPW.atEfu); first | refine GPW.efu (Ef.append1 (e := l[i]!.1) rfl rfl rfl rfl rfl (by rfl) (encI_one _ _) (by omega) (by omega)) ?_ | refine GPW.efu (by exact Ef.append1 (e := l[i]!.1) rfl rfl rfl rfl rfl (by rfl) (encI_one _ _) (by omega) (by omega)) ?_))
  rintro _ _ ⟨ad6, cap6, rfl, rfl⟩
  by_cases hc : l[i]!.2 = s
  · rw [show ren s t l[i]!.2 = t from if_pos hc] at fin
    repeat (first | refine run ?_ | intro _)
    rw [Int.toNat_natCast]
    repeat (first | refine run ?_ | intro _)
    (first | ((with_reducible apply GO.atPlain); first | refine GO.ef (Ef.append1 (e := t) rfl rfl rfl rfl rfl (by rfl) (encI_one _ _) (by omega) (by omega)) (by decide) ?_ | refine GO.ef (by exact Ef.append1 (e := t) rfl rfl rfl rfl rfl (by rfl) (encI_one _ _) (by omega) (by omega)) (by decide) ?_) | ((with_reducible apply GPW.atEf); first | refine GPW.ef (Ef.append1 (e := t) rfl rfl rfl rfl rfl (by rfl) (encI_one _ _) (by omega) (by omega)) (by decide) ?_ | refine GPW.ef (by exact Ef.append1 (e := t) rfl rfl rfl rfl rfl (by rfl) (encI_one _ _) (by omega) (by omega)) (by decide) ?_) | ((with_reducible apply GO.atUnit); first | refine GO.efu (Ef.append1 (e := t) rfl rfl rfl rfl rfl (by rfl) (encI_one _ _) (by omega) (by omega)) ?_ | refine GO.efu (by exact Ef.append1 (e := t) rfl rfl rfl rfl rfl (by rfl) (encI_one _ _) (by omega) (by omega)) ?_) | ((with_reducible apply GPW.atEfu); first | refine GPW.efu (Ef.append1 (e := t) rfl rfl rfl rfl rfl (by rfl) (encI_one _ _) (by omega) (by omega)) ?_ | refine GPW.efu (by exact Ef.append1 (e := t) rfl rfl rfl rfl rfl (by rfl) (encI_one _ _) (by omega) (by omega)) ?_))
    rintro _ _ ⟨ad7, cap7, rfl, rfl⟩
    repeat (first | refine run ?_ | intro _)
    exact fin ad6 cap6 ad7 cap7 (by repeat (first | exact EnvSub.nil _ | refine EnvSub.cons rfl ?_)) (by repeat (first | exact Ent.refl _ | exact Ent.nil _ | refine Ent.take' ?_ | refine Ent.trans Ent.drop ?_))
  · rw [show ren s t l[i]!.2 = l[i]!.2 from if_neg hc] at fin
    repeat (first | refine run ?_ | intro _)
    rw [Int.toNat_natCast]
    repeat (first | refine run ?_ | intro _)
    rw [Int.toNat_natCast]
    (first | ((with_reducible apply GO.atPlain); first | refine GO.ef (Ef.append1 (e := l[i]!.2) rfl rfl rfl rfl rfl (by rfl) (encI_one _ _) (by omega) (by omega)) (by decide) ?_ | refine GO.ef (by exact Ef.append1 (e := l[i]!.2) rfl rfl rfl rfl rfl (by rfl) (encI_one _ _) (by omega) (by omega)) (by decide) ?_) | ((with_reducible apply GPW.atEf); first | refine GPW.ef (Ef.append1 (e := l[i]!.2) rfl rfl rfl rfl rfl (by rfl) (encI_one _ _) (by omega) (by omega)) (by decide) ?_ | refine GPW.ef (by exact Ef.append1 (e := l[i]!.2) rfl rfl rfl rfl rfl (by rfl) (encI_one _ _) (by omega) (by omega)) (by decide) ?_) | ((with_reducible apply GO.atUnit); first | refine GO.efu (Ef.append1 (e := l[i]!.2) rfl rfl rfl rfl rfl (by rfl) (encI_one _ _) (by omega) (by omega)) ?_ | refine GO.efu (by exact Ef.append1 (e := l[i]!.2) rfl rfl rfl rfl rfl (by rfl) (encI_one _ _) (by omega) (by omega)) ?_) | ((with_reducible apply GPW.atEfu); first | refine GPW.efu (Ef.append1 (e := l[i]!.2) rfl rfl rfl rfl rfl (by rfl) (encI_one _ _) (by omega) (by omega)) ?_ | refine GPW.efu (by exact Ef.append1 (e := l[i]!.2) rfl rfl rfl rfl rfl (by rfl) (encI_one _ _) (by omega) (by omega)) ?_))
    rintro _ _ ⟨ad7, cap7, rfl, rfl⟩
    repeat (first | refine run ?_ | intro _)
    exact fin ad6 cap6 ad7 cap7 (by repeat (first | exact EnvSub.nil _ | refine EnvSub.cons rfl ?_)) (by repeat (first | exact Ent.refl _ | exact Ent.nil _ | refine Ent.take' ?_ | refine Ent.trans Ent.drop ?_))

/-- What is known of the numbers that homes are made of. -/
structure HGen (n : Int) (i : Nat) (next : Int) (xs ys : List Int) : Prop where
  lx : xs.length = i + 1
  ly : ys.length = i + 1
  nx : 1 ≤ next ∧ next ≤ 1 + 5 * i
  z : ∃ s tl, xs.zip ys = (1, s) :: tl ∧ Inc 1 tl ∧ ∀ p ∈ (1, s) :: tl, p.1 ≤ next ∧ 0 ≤ p.2 ∧ p.2 < n
theorem HGen.step {n : Int} {i : Nat} {next : Int} {xs ys : List Int} (h : HGen n i next xs ys) {a b : Int} (ha : 0 ≤ a ∧ a < 4) (hb : 0 ≤ b ∧ b < n) : HGen n (i + 1) (next + 1 + a) (xs ++ [next + 1 + a]) (ys ++ [b]) := by
  obtain ⟨h1, h2, ⟨h3, h4⟩, s, tl, hz, hi, hp⟩ := h
  refine ⟨by simp [h1], by simp [h2], ⟨by omega, by omega⟩, s, tl ++ [(next + 1 + a, b)], ?_, ?_, ?_⟩
  · rw [List.zip_append (by omega), hz]; rfl
  · refine Inc.app hi (fun p hpm => (hp p (List.mem_cons_of_mem _ hpm)).1) (by omega) ⟨by omega, trivial⟩
  · intro p hpm
    rw [← List.cons_append] at hpm
    rcases List.mem_append.1 hpm with h | h
    · have := hp p h; omega
    · simp at h; subst h; dsimp only; omega
theorem HGen.ok {n : Int} {i : Nat} {next : Int} {xs ys : List Int} (h : HGen n i next xs ys) (h1 : 1 ≤ n) (h2 : n ≤ 12) (hi : i ≤ 6) : HOk n (normalM (xs.zip ys)) ∧ (normalM (xs.zip ys)).length ≤ 7 := by
  obtain ⟨a1, a2, ⟨a3, a4⟩, s, tl, hz, hin, hp⟩ := h
  have hl := foldl_push_len (xs.zip ys) []
  have hzl : (xs.zip ys).length = i + 1 := by simp; omega
  refine ⟨?_, by show ((xs.zip ys).foldl push []).length ≤ 7; simp only [List.length_nil] at hl; omega⟩
  rw [hz]
  exact (normal_ok h1 h2 hin (fun x hx => by have := hp x hx; have hmx : maxAcc = 1073741824 := rfl; omega)).1
theorem rhomes_spec {L : List HP} (n at_ : Int) (ad : Option Addr) (k c : Nat) (l : List Int) [Rds L ad Int (encI .i64) 1 l] (hk : k = l.length) (hl : l.length ≤ 9223372036854775807) (hb : ∀ x ∈ l, I64 x) (h1 : 1 ≤ n) (h2 : n ≤ 12) (ha : 0 ≤ at_ ∧ at_ ≤ 1000) :
    Tri Tryz.prog 9 #[.int .i64 n, .slice ad k c, .int .i64 at_] L (fun v L' => ∃ ad2 cap2 l', v = .slice ad2 l'.length cap2 ∧ (HOk n l' ∧ l'.length ≤ 7) ∧ L' = osl encH 2 tRH ad2 cap2 l' :: L) := by
  refine Tri.body (args := [.int .i64 n, .slice ad k c, .int .i64 at_]) 53 en9 Tryz.func9 rfl rfl rfl (by simp) ?_
  repeat (first | refine run ?_ | intro _)
  rename_i b1
  (first | ((with_reducible apply GO.atPlain); first | refine GO.ef (Ef.callAll (pick_spec ad k c l at_ n hk hl hb h1 (by omega)) rfl) (by decide) ?_ | refine GO.ef (by exact Ef.callAll (pick_spec ad k c l at_ n hk hl hb h1 (by omega)) rfl) (by decide) ?_) | ((with_reducible apply GPW.atEf); first | refine GPW.ef (Ef.callAll (pick_spec ad k c l at_ n hk hl hb h1 (by omega)) rfl) (by decide) ?_ | refine GPW.ef (by exact Ef.callAll (pick_spec ad k c l at_ n hk hl hb h1 (by omega)) rfl) (by decide) ?_))
  rintro _ _ ⟨rfl, rfl⟩
  repeat (first | refine run ?_ | intro _)
  rename_i b2
  have hp0 := pickM_bd l at_ h1
  have hp6 := pickM_bd l (at_ + 1) (most := 6) (by decide)
  refine G.loop (α := Nat × Int × Option Addr × Nat × List Int × Option Addr × Nat × List Int) (fun x => (x.1 : Int) ≤ pickM l (at_ + 1) 6 ∧ HGen n x.1 x.2.1 x.2.2.2.2.1 x.2.2.2.2.2.2.2)
    (fun x => [(0, .int .i64 n), (1, .slice ad k c), (2, .int .i64 at_), (7, .slice x.2.2.1 x.2.2.2.2.1.length x.2.2.2.1), (8, .slice x.2.2.2.2.2.1 x.2.2.2.2.2.2.2.length x.2.2.2.2.2.2.1), (9, .int .i64 x.2.1), (10, .int .i64 (x.1 : Int))])
    (fun x => osl (encI .i64) 1 tI x.2.2.1 x.2.2.2.1 x.2.2.2.2.1 :: osl (encI .i64) 1 tI x.2.2.2.2.2.1 x.2.2.2.2.2.2.1 x.2.2.2.2.2.2.2 :: L) (fun x => 6 - x.1) (0, 1, some ⟨b1, 0, none⟩, 1, [1], some ⟨b2, 0, none⟩, 1, [pickM l at_ n])
    ⟨by dsimp only; omega, rfl, rfl, by dsimp only; omega, pickM l at_ n, [], rfl, trivial, by intro p hp; simp at hp; subst hp; dsimp only; omega⟩ (by repeat (first | exact EnvSub.nil _ | refine EnvSub.cons rfl ?_)) ?_ ?_
  · refine (Ent.objSl (enc := encI .i64) (sz := 1) (xs := [pickM l at_ n]) rfl rfl (by simp [encI]) (by simp)).trans ?_
    refine Ent.trans (Ent.consR (Ent.objSl (enc := encI .i64) (sz := 1) (xs := [1]) rfl rfl (by simp [encI]) (by simp))) ?_
    exact Ent.swap
  rintro ⟨i, next, ad1, cap1, xs, ad2, cap2, ys⟩ ⟨h3, h4⟩
  dsimp only at h3 h4 ⊢
  have hlx := h4.lx
  have hly := h4.ly
  have hnx := h4.nx
  repeat (first | refine run ?_ | intro _)
  (first | ((with_reducible apply GO.atPlain); first | refine GO.ef (Ef.callAll (pick_spec ad k c l (at_ + 1) 6 hk hl hb (by decide) (by decide)) rfl) (by decide) ?_ | refine GO.ef (by exact Ef.callAll (pick_spec ad k c l (at_ + 1) 6 hk hl hb (by decide) (by decide)) rfl) (by decide) ?_) | ((with_reducible apply GPW.atEf); first | refine GPW.ef (Ef.callAll (pick_spec ad k c l (at_ + 1) 6 hk hl hb (by decide) (by decide)) rfl) (by decide) ?_ | refine GPW.ef (by exact Ef.callAll (pick_spec ad k c l (at_ + 1) 6 hk hl hb (by decide) (by decide)) rfl) (by decide) ?_))
  rintro _ _ ⟨rfl, rfl⟩
  by_cases hlt : (i : Int) < pickM l (at_ + 1) 6
  case neg =>
    obtain ⟨o1, o2⟩ := h4.ok h1 h2 (by omega)
    repeat (first | refine run ?_ | intro _)
    (first | ((with_reducible apply GO.atPlain); first | refine GO.ef (Ef.callAll (normal_spec ad1 ad2 xs.length cap1 ys.length cap2 xs ys rfl rfl (by omega) (by omega)) rfl) (by decide) ?_ | refine GO.ef (by exact Ef.callAll (normal_spec ad1 ad2 xs.length cap1 ys.length cap2 xs ys rfl rfl (by omega) (by omega)) rfl) (by decide) ?_) | ((with_reducible apply GPW.atEf); first | refine GPW.ef (Ef.callAll (normal_spec ad1 ad2 xs.length cap1 ys.length cap2 xs ys rfl rfl (by omega) (by omega)) rfl) (by decide) ?_ | refine GPW.ef (by exact Ef.callAll (normal_spec ad1 ad2 xs.length cap1 ys.length cap2 xs ys rfl rfl (by omega) (by omega)) rfl) (by decide) ?_))
    rintro _ _ ⟨ad5, cap5, rfl, rfl⟩
    repeat (first | refine run ?_ | intro _)
    refine KX.ends (by first | exact ResOk.tmps rfl | (repeat (first | exact ResOk.nil | apply ResOk.tmp rfl | apply ResOk.cell rfl (by rfl) | apply ResOk.cell1 rfl))) ?_ ⟨ad5, cap5, _, rfl, ⟨o1, o2⟩, rfl⟩
    repeat (first | exact Ent.refl _ | exact Ent.nil _ | refine Ent.take' ?_ | refine Ent.trans Ent.drop ?_)
  repeat (first | refine run ?_ | intro _)
  (first | ((with_reducible apply GO.atPlain); first | refine GO.ef (Ef.callAll (pick_spec ad k c l (at_ + 2 * (i : Int) + 2) 4 hk hl hb (by decide) (by decide)) rfl) (by decide) ?_ | refine GO.ef (by exact Ef.callAll (pick_spec ad k c l (at_ + 2 * (i : Int) + 2) 4 hk hl hb (by decide) (by decide)) rfl) (by decide) ?_) | ((with_reducible apply GPW.atEf); first | refine GPW.ef (Ef.callAll (pick_spec ad k c l (at_ + 2 * (i : Int) + 2) 4 hk hl hb (by decide) (by decide)) rfl) (by decide) ?_ | refine GPW.ef (by exact Ef.callAll (pick_spec ad k c l (at_ + 2 * (i : Int) + 2) 4 hk hl hb (by decide) (by decide)) rfl) (by decide) ?_))
  rintro _ _ ⟨rfl, rfl⟩
  have hpa := pickM_bd l (at_ + 2 * (i : Int) + 2) (most := 4) (by decide)
  repeat (first | refine run ?_ | intro _)
  (first | ((with_reducible apply GO.atPlain); first | refine GO.ef (Ef.append1 (e := next + 1 + pickM l (at_ + 2 * (i : Int) + 2) 4) rfl rfl rfl rfl rfl (by rfl) (encI_one _ _) (by omega) (by omega)) (by decide) ?_ | refine GO.ef (by exact Ef.append1 (e := next + 1 + pickM l (at_ + 2 * (i : Int) + 2) 4) rfl rfl rfl rfl rfl (by rfl) (encI_one _ _) (by omega) (by omega)) (by decide) ?_) | ((with_reducible apply GPW.atEf); first | refine GPW.ef (Ef.append1 (e := next + 1 + pickM l (at_ + 2 * (i : Int) + 2) 4) rfl rfl rfl rfl rfl (by rfl) (encI_one _ _) (by omega) (by omega)) (by decide) ?_ | refine GPW.ef (by exact Ef.append1 (e := next + 1 + pickM l (at_ + 2 * (i : Int) + 2) 4) rfl rfl rfl rfl rfl (by rfl) (encI_one _ _) (by omega) (by omega)) (by decide) ?_) | ((with_reducible apply GO.atUnit); first | refine GO.efu (Ef.append1 (e := next + 1 + pickM l (at_ + 2 * (i : Int) + 2) 4) rfl rfl rfl rfl rfl (by rfl) (encI_one _ _) (by omega) (by omega)) ?_ | refine GO.efu (by exact Ef.append1 (e := next + 1 + pickM l (at_ + 2 * (i : Int) + 2) 4) rfl rfl rfl rfl rfl (by rfl) (encI_one _ _) (by omega) (by omega)) ?_) | ((with_reducible apply GPW.atEfu); first | refine GPW.efu (Ef.append1 (e := next + 1 + pickM l (at_ + 2 * (i : Int) + 2) 4) rfl rfl rfl rfl rfl (by rfl) (encI_one _ _) (by omega) (by omega)) ?_ | refine GPW.efu (by exact Ef.append1 (e := next + 1 + pickM l (at_ + 2 * (i : Int) + 2) 4) rfl rfl rfl rfl rfl (by rfl) (encI_one _ _) (by omega) (by omega)) ?_))
  rintro _ _ ⟨ad6, cap6, rfl, rfl⟩
  repeat (first | refine run ?_ | intro _)
  (first | ((with_reducible apply GO.atPlain); first | refine GO.ef (Ef.callAll (pick_spec ad k c l (at_ + 2 * (i : Int) + 3) n hk hl hb h1 (by omega)) rfl) (by decide) ?_ | refine GO.ef (by exact Ef.callAll (pick_spec ad k c l (at_ + 2 * (i : Int) + 3) n hk hl hb h1 (by omega)) rfl) (by decide) ?_) | ((with_reducible apply GPW.atEf); first | refine GPW.ef (Ef.callAll (pick_spec ad k c l (at_ + 2 * (i : Int) + 3) n hk hl hb h1 (by omega)) rfl) (by decide) ?_ | refine GPW.ef (by exact Ef.callAll (pick_spec ad k c l (at_ + 2 * (i : Int) + 3) n hk hl hb h1 (by omega)) rfl) (by decide) ?_))
  rintro _ _ ⟨rfl, rfl⟩
  have hpb := pickM_bd l (at_ + 2 * (i : Int) + 3) h1
  repeat (first | refine run ?_ | intro _)
  (first | ((with_reducible apply GO.atPlain); first | refine GO.ef (Ef.append1 (e := pickM l (at_ + 2 * (i : Int) + 3) n) rfl rfl rfl rfl rfl (by rfl) (encI_one _ _) (by omega) (by omega)) (by decide) ?_ | refine GO.ef (by exact Ef.append1 (e := pickM l (at_ + 2 * (i : Int) + 3) n) rfl rfl rfl rfl rfl (by rfl) (encI_one _ _) (by omega) (by omega)) (by decide) ?_) | ((with_reducible apply GPW.atEf); first | refine GPW.ef (Ef.append1 (e := pickM l (at_ + 2 * (i : Int) + 3) n) rfl rfl rfl rfl rfl (by rfl) (encI_one _ _) (by omega) (by omega)) (by decide) ?_ | refine GPW.ef (by exact Ef.append1 (e := pickM l (at_ + 2 * (i : Int) + 3) n) rfl rfl rfl rfl rfl (by rfl) (encI_one _ _) (by omega) (by omega)) (by decide) ?_) | ((with_reducible apply GO.atUnit); first | refine GO.efu (Ef.append1 (e := pickM l (at_ + 2 * (i : Int) + 3) n) rfl rfl rfl rfl rfl (by rfl) (encI_one _ _) (by omega) (by omega)) ?_ | refine GO.efu (by exact Ef.append1 (e := pickM l (at_ + 2 * (i : Int) + 3) n) rfl rfl rfl rfl rfl (by rfl) (encI_one _ _) (by omega) (by omega)) ?_) | ((with_reducible apply GPW.atEfu); first | refine GPW.efu (Ef.append1 (e := pickM l (at_ + 2 * (i : Int) + 3) n) rfl rfl rfl rfl rfl (by rfl) (encI_one _ _) (by omega) (by omega)) ?_ | refine GPW.efu (by exact Ef.append1 (e := pickM l (at_ + 2 * (i : Int) + 3) n) rfl rfl rfl rfl rfl (by rfl) (encI_one _ _) (by omega) (by omega)) ?_))
  rintro _ _ ⟨ad7, cap7, rfl, rfl⟩
  repeat (first | refine run ?_ | intro _)
  refine ⟨(i + 1, next + 1 + pickM l (at_ + 2 * (i : Int) + 2) 4, ad6, cap6, xs ++ [next + 1 + pickM l (at_ + 2 * (i : Int) + 2) 4], ad7, cap7, ys ++ [pickM l (at_ + 2 * (i : Int) + 3) n]), ⟨by dsimp only; omega, h4.step hpa hpb⟩, by dsimp only; omega, ?_, ?_⟩
  · dsimp only
    rw [show ((i + 1 : Nat) : Int) = (i : Int) + 1 by omega]
    exact (by repeat (first | exact EnvSub.nil _ | refine EnvSub.cons rfl ?_))
  · dsimp only
    repeat (first | exact Ent.refl _ | exact Ent.nil _ | refine Ent.take' ?_ | refine Ent.trans Ent.drop ?_)
end Go.Proofs.YtclgjkeeaopppaaGreatDoor
