/- Contracts: Moving of package move; the law MoveMoving. -/
import Derived.Test.YtclgjkeeaopppaaGreatDoorN1
import Derived.Test.YtclgjkeeaopppaaGreatDoorV22
import Derived.Test.YtclgjkeeaopppaaGreatDoorSh
namespace Go.Proofs.YtclgjkeeaopppaaGreatDoor
open Go.V
attribute [local irreducible] G GO GP GPW GPK Ev Ef EfR Ent CB GB Enters

theorem sortI_spec {L : List HP} (ad : Option Addr) (cap : Nat) (xs : List Int) (hl : xs.length ≤ 1000000) :
    Tri Tryz.prog 53 #[.slice ad xs.length cap] (osl (Go.V.encI .i64) 1 tI ad cap xs :: L) (fun v L' => v = .tuple #[] ∧ L' = osl (Go.V.encI .i64) 1 tI ad cap (sortM xs) :: L) :=
  Tri.sortI en53 (sortM_perm xs).length_eq (by omega) (fun _ w => Tryz.slices_Sort_int_none ad cap w) (fun blk w h hb => Tryz.slices_Sort_int blk 0 cap xs w h hb (by omega))
abbrev plN6_54_6 : List Stp := [.ev 0, .ev 1, .ev 2, .ev 3, .ev 4, .ev 5, .ev 6, .ev 7, .ev 8, .ev 9]
abbrev plN6_54_11 : List Stp := [.ev 0, .ev 1, .ev 2, .ev 3, .ev 4, .ev 5, .ev 6, .ev 7, .ev 8, .ev 9]
theorem compactI_spec {L : List HP} (ad : Option Addr) (cap : Nat) (xs : List Int) (hl : xs.length ≤ 1000000) (hc : (Lib.compact xs).length ≤ xs.length) :
    Tri Tryz.prog 54 #[.slice ad xs.length cap] (osl (Go.V.encI .i64) 1 tI ad cap xs :: L) (fun v L' => v = .slice ad (Lib.compact xs).length cap ∧ L' = osl (Go.V.encI .i64) 1 tI ad cap (Lib.compact xs) :: L) :=
  Tri.compactI (zs := List.replicate (xs.length - (Lib.compact xs).length) 0) en54 (by simp; omega) (by omega) (fun _ w => Tryz.slices_Compact_int_empty ad cap w) (fun hcap blk w h => Tryz.slices_Compact_int blk 0 cap xs w h (by omega) hcap)

/-- The accounts that have to move. -/
def mvL (old now : List Hm) (accs : List Int) : List Int := accs.filter fun a => !(fndH old a == fndH now a)
theorem mvL_snoc (old now : List Hm) (accs : List Int) (a : Int) : mvL old now (accs ++ [a]) = mvL old now accs ++ (if fndH old a = fndH now a then [] else [a]) := by
  unfold mvL
  rw [List.filter_append]
  by_cases h : fndH old a = fndH now a <;> simp [h]
def MvOk (old now : List Hm) (accs : List Int) : Prop := HOk 12 old ∧ HOk 12 now ∧ ∀ a ∈ accs, 1 ≤ a ∧ a ≤ maxAcc
theorem isAcc_spec {L : List HP} (a : Int) : Tri Tryz.prog 35 #[.int .i64 a] L (fun v L' => v = .bool (dB (1 ≤ a ∧ a ≤ maxAcc)) ∧ L' = L) := by
  have hmx : maxAcc = 1073741824 := rfl
  refine Tri.body (args := [.int .i64 a]) 9 en35 Tryz.func35 rfl rfl rfl (by simp) ?_
  by_cases h1 : 1 ≤ a
  · by_cases h2 : a ≤ 1073741824
    · repeat (first | refine runB ?_ | intro _)
      rw [dB_pos h2]
      exact KX.ends (by first | exact ResOk.tmps rfl | (repeat (first | exact ResOk.nil | apply ResOk.tmp rfl | apply ResOk.cell rfl (by rfl) | apply ResOk.cell1 rfl))) (Ent.refl _) ⟨by rw [dB_pos ⟨h1, h2⟩]; rfl, rfl⟩
    · repeat (first | refine runB ?_ | intro _)
      rw [dB_neg h2]
      exact KX.ends (by first | exact ResOk.tmps rfl | (repeat (first | exact ResOk.nil | apply ResOk.tmp rfl | apply ResOk.cell rfl (by rfl) | apply ResOk.cell1 rfl))) (Ent.refl _) ⟨by rw [dB_neg (fun e => h2 e.2)]; rfl, rfl⟩
  · repeat (first | refine runB ?_ | intro _)
    exact KX.ends (by first | exact ResOk.tmps rfl | (repeat (first | exact ResOk.nil | apply ResOk.tmp rfl | apply ResOk.cell rfl (by rfl) | apply ResOk.cell1 rfl))) (Ent.refl _) ⟨by rw [dB_neg (fun e => h1 e.1)]; rfl, rfl⟩
theorem moving_spec {L : List HP} (ad1 ad2 ad3 : Option Addr) (k1 c1 k2 c2 k3 c3 : Nat) (old now : List Hm) (accs : List Int) [Rds L ad1 Hm encH 2 old] [Rds L ad2 Hm encH 2 now] [Rds L ad3 Int (Go.V.encI .i64) 1 accs] (hk1 : k1 = old.length) (hk2 : k2 = now.length) (hk3 : k3 = accs.length) (hl1 : old.length ≤ 1000000) (hl2 : now.length ≤ 1000000) (hl3 : accs.length ≤ 100000) :
    Tri Tryz.prog 30 #[.slice ad1 k1 c1, .slice ad2 k2 c2, .slice ad3 k3 c3] L (fun v L' =>
      (¬ MvOk old now accs ∧ v = .tuple #[.slice none 0 0, .int .i64 1] ∧ L' = L) ∨
      (MvOk old now accs ∧ ∃ ad cap, v = .tuple #[.slice ad (uniqM (mvL old now accs)).length cap, .int .i64 0] ∧ L' = osl (Go.V.encI .i64) 1 tI ad cap (uniqM (mvL old now accs)) :: L)) := by
  have hmx : maxAcc = 1073741824 := rfl
  refine Tri.body (args := [.slice ad1 k1 c1, .slice ad2 k2 c2, .slice ad3 k3 c3]) 44 en30 Tryz.func30 rfl rfl rfl (by simp) ?_
  repeat (first | refine runB ?_ | intro _)
  (first | ((with_reducible apply GO.atPlain); first | refine GO.ef (Ef.callAll (mpossible_spec ad1 k1 c1 old hk1 (by omega)) rfl) (by decide) ?_ | refine GO.ef (by exact Ef.callAll (mpossible_spec ad1 k1 c1 old hk1 (by omega)) rfl) (by decide) ?_) | ((with_reducible apply GPW.atEf); first | refine GPW.ef (Ef.callAll (mpossible_spec ad1 k1 c1 old hk1 (by omega)) rfl) (by decide) ?_ | refine GPW.ef (by exact Ef.callAll (mpossible_spec ad1 k1 c1 old hk1 (by omega)) rfl) (by decide) ?_))
  rintro _ L ⟨rfl, rfl⟩
  by_cases ho : HOk 12 old
  case neg =>
    rw [dB_neg ho]
    repeat (first | refine runB ?_ | intro _)
    exact KX.ends (by first | exact ResOk.tmps rfl | (repeat (first | exact ResOk.nil | apply ResOk.tmp rfl | apply ResOk.cell rfl (by rfl) | apply ResOk.cell1 rfl))) (Ent.refl _) (.inl ⟨fun e => ho e.1, rfl, rfl⟩)
  rw [dB_pos ho]
  repeat (first | refine runB ?_ | intro _)
  (first | ((with_reducible apply GO.atPlain); first | refine GO.ef (Ef.callAll (mpossible_spec ad2 k2 c2 now hk2 (by omega)) rfl) (by decide) ?_ | refine GO.ef (by exact Ef.callAll (mpossible_spec ad2 k2 c2 now hk2 (by omega)) rfl) (by decide) ?_) | ((with_reducible apply GPW.atEf); first | refine GPW.ef (Ef.callAll (mpossible_spec ad2 k2 c2 now hk2 (by omega)) rfl) (by decide) ?_ | refine GPW.ef (by exact Ef.callAll (mpossible_spec ad2 k2 c2 now hk2 (by omega)) rfl) (by decide) ?_))
  rintro _ L ⟨rfl, rfl⟩
  by_cases hn : HOk 12 now
  case neg =>
    rw [dB_neg hn]
    repeat (first | refine runB ?_ | intro _)
    exact KX.ends (by first | exact ResOk.tmps rfl | (repeat (first | exact ResOk.nil | apply ResOk.tmp rfl | apply ResOk.cell rfl (by rfl) | apply ResOk.cell1 rfl))) (Ent.refl _) (.inl ⟨fun e => hn e.2.1, rfl, rfl⟩)
  rw [dB_pos hn]
  repeat (first | refine runB ?_ | intro _)
  refine G.loop (α := Nat × Option Addr × Nat) (fun x => x.1 ≤ k3 ∧ ∀ a ∈ accs.take x.1, 1 ≤ a ∧ a ≤ maxAcc) (fun x => [(0, .slice ad1 k1 c1), (1, .slice ad2 k2 c2), (8, .slice x.2.1 (mvL old now (accs.take x.1)).length x.2.2), (19, .slice ad3 k3 c3), (20, .int .i64 k3), (21, .int .i64 (x.1 : Int))]) (fun x => osl (Go.V.encI .i64) 1 tI x.2.1 x.2.2 (mvL old now (accs.take x.1)) :: L) (fun x => k3 - x.1) (0, none, 0) ⟨by simp, by simp⟩ (by repeat (first | exact EnvSub.nil _ | refine EnvSub.cons rfl ?_)) (Ent.nilSl (Go.V.encI .i64) 1 tI) ?_
  rintro ⟨i, ad, cap⟩ ⟨h1, h2⟩
  dsimp only at h1 h2 ⊢
  have hfl : (mvL old now (accs.take i)).length ≤ i := Nat.le_trans (List.length_filter_le _ _) (by simp; omega)
  by_cases hlt : i < k3
  case neg =>
    rw [List.take_of_length_le (show accs.length ≤ i by omega)] at h2 hfl ⊢
    have hu := (uniqM_facts (mvL old now accs)).2.2
    have hsl : (sortM (mvL old now accs)).length = (mvL old now accs).length := (sortM_perm _).length_eq
    repeat (first | refine runB ?_ | intro _)
    (first | ((with_reducible apply GO.atPlain); first | refine GO.ef (Ef.callAll (sortI_spec ad cap (mvL old now accs) (by omega)) rfl) (by decide) ?_ | refine GO.ef (by exact Ef.callAll (sortI_spec ad cap (mvL old now accs) (by omega)) rfl) (by decide) ?_) | ((with_reducible apply GPW.atEf); first | refine GPW.ef (Ef.callAll (sortI_spec ad cap (mvL old now accs) (by omega)) rfl) (by decide) ?_ | refine GPW.ef (by exact Ef.callAll (sortI_spec ad cap (mvL old now accs) (by omega)) rfl) (by decide) ?_))
    rintro _ _ ⟨rfl, rfl⟩
    repeat (first | refine runB ?_ | intro _)
    rw [← hsl]
    (first | ((with_reducible apply GO.atPlain); first | refine GO.ef (Ef.callAll (compactI_spec ad cap (sortM (mvL old now accs)) (by omega) (by rw [hsl]; exact hu)) rfl) (by decide) ?_ | refine GO.ef (by exact Ef.callAll (compactI_spec ad cap (sortM (mvL old now accs)) (by omega) (by rw [hsl]; exact hu)) rfl) (by decide) ?_) | ((with_reducible apply GPW.atEf); first | refine GPW.ef (Ef.callAll (compactI_spec ad cap (sortM (mvL old now accs)) (by omega) (by rw [hsl]; exact hu)) rfl) (by decide) ?_ | refine GPW.ef (by exact Ef.callAll (compactI_spec ad cap (sortM (mvL old now accs)) (by omega) (by rw [hsl]; exact hu)) rfl) (by decide) ?_))
    rintro _ _ ⟨rfl, rfl⟩
    repeat (first | refine runB ?_ | intro _)
    exact KX.ends (by first | exact ResOk.tmps rfl | (repeat (first | exact ResOk.nil | apply ResOk.tmp rfl | apply ResOk.cell rfl (by rfl) | apply ResOk.cell1 rfl))) (Ent.refl _) (.inr ⟨⟨ho, hn, h2⟩, ad, cap, rfl, rfl⟩)
  have hii : (i : Int).toNat = i := by omega
  have hts : accs.take (i + 1) = accs.take i ++ [accs[i]!] := by rw [List.take_succ_eq_append_getElem (by omega), getElem!_of (by omega)]
  have hmem : accs[i]! ∈ accs := mem_get! (by omega)
  repeat (first | refine runB ?_ | intro _)
  rw [hii]
  generalize haa : accs[i]! = a at hts hmem
  by_cases ha : 1 ≤ a ∧ a ≤ maxAcc
  case neg =>
    have hbad : ¬ MvOk old now accs := fun e => ha (e.2.2 a hmem)
    repeat (first | refine runB ?_ | intro _)
    (first | ((with_reducible apply GO.atPlain); first | refine GO.ef (Ef.callAll (isAcc_spec a) rfl) (by decide) ?_ | refine GO.ef (by exact Ef.callAll (isAcc_spec a) rfl) (by decide) ?_) | ((with_reducible apply GPW.atEf); first | refine GPW.ef (Ef.callAll (isAcc_spec a) rfl) (by decide) ?_ | refine GPW.ef (by exact Ef.callAll (isAcc_spec a) rfl) (by decide) ?_))
    rintro _ _ ⟨rfl, rfl⟩
    rw [dB_neg ha]
    repeat (first | refine runB ?_ | intro _)
    exact KX.ends (by first | exact ResOk.tmps rfl | (repeat (first | exact ResOk.nil | apply ResOk.tmp rfl | apply ResOk.cell rfl (by rfl) | apply ResOk.cell1 rfl))) Ent.drop (.inl ⟨hbad, rfl, rfl⟩)
  repeat (first | refine runB ?_ | intro _)
  (first | ((with_reducible apply GO.atPlain); first | refine GO.ef (Ef.callAll (isAcc_spec a) rfl) (by decide) ?_ | refine GO.ef (by exact Ef.callAll (isAcc_spec a) rfl) (by decide) ?_) | ((with_reducible apply GPW.atEf); first | refine GPW.ef (Ef.callAll (isAcc_spec a) rfl) (by decide) ?_ | refine GPW.ef (by exact Ef.callAll (isAcc_spec a) rfl) (by decide) ?_))
  rintro _ _ ⟨rfl, rfl⟩
  rw [dB_pos ha]
  obtain ⟨ha1, ha2⟩ := ha
  repeat (first | refine runB ?_ | intro _)
  (first | ((with_reducible apply GO.atPlain); first | refine GO.ef (Ef.callAll (mfind_spec a ad1 k1 c1 old hk1 (by omega) ho ⟨ha1, ha2⟩) rfl) (by decide) ?_ | refine GO.ef (by exact Ef.callAll (mfind_spec a ad1 k1 c1 old hk1 (by omega) ho ⟨ha1, ha2⟩) rfl) (by decide) ?_) | ((with_reducible apply GPW.atEf); first | refine GPW.ef (Ef.callAll (mfind_spec a ad1 k1 c1 old hk1 (by omega) ho ⟨ha1, ha2⟩) rfl) (by decide) ?_ | refine GPW.ef (by exact Ef.callAll (mfind_spec a ad1 k1 c1 old hk1 (by omega) ho ⟨ha1, ha2⟩) rfl) (by decide) ?_))
  rintro _ _ ⟨rfl, rfl⟩
  repeat (first | refine runB ?_ | intro _)
  (first | ((with_reducible apply GO.atPlain); first | refine GO.ef (Ef.callAll (mfind_spec a ad2 k2 c2 now hk2 (by omega) hn ⟨ha1, ha2⟩) rfl) (by decide) ?_ | refine GO.ef (by exact Ef.callAll (mfind_spec a ad2 k2 c2 now hk2 (by omega) hn ⟨ha1, ha2⟩) rfl) (by decide) ?_) | ((with_reducible apply GPW.atEf); first | refine GPW.ef (Ef.callAll (mfind_spec a ad2 k2 c2 now hk2 (by omega) hn ⟨ha1, ha2⟩) rfl) (by decide) ?_ | refine GPW.ef (by exact Ef.callAll (mfind_spec a ad2 k2 c2 now hk2 (by omega) hn ⟨ha1, ha2⟩) rfl) (by decide) ?_))
  rintro _ _ ⟨rfl, rfl⟩
  have hinv : ∀ b ∈ accs.take (i + 1), 1 ≤ b ∧ b ≤ maxAcc := by
    intro b hb
    rw [hts] at hb
    rcases List.mem_append.1 hb with hb | hb
    · exact h2 b hb
    · simp at hb; subst hb; exact ⟨ha1, ha2⟩
  by_cases he : fndH old a = fndH now a
  · have e2 : mvL old now (accs.take (i + 1)) = mvL old now (accs.take i) := by rw [hts, mvL_snoc, if_pos he, List.append_nil]
    repeat (first | refine runB ?_ | intro _)
    refine ⟨(i + 1, ad, cap), ⟨by dsimp only; omega, hinv⟩, by dsimp only; omega, ?_, ?_⟩
    · dsimp only
      rw [e2, show ((i + 1 : Nat) : Int) = (i : Int) + 1 by omega]
      exact (by repeat (first | exact EnvSub.nil _ | refine EnvSub.cons rfl ?_))
    · dsimp only
      rw [e2]
      exact Ent.refl _
  · have e2 : mvL old now (accs.take (i + 1)) = mvL old now (accs.take i) ++ [a] := by rw [hts, mvL_snoc, if_neg he]
    repeat (first | refine runB ?_ | intro _)
    (first | ((with_reducible apply GO.atPlain); first | refine GO.ef (Ef.append1 (enc := Go.V.encI .i64) (e := a) rfl rfl rfl rfl rfl (by rfl) (Go.V.encI_one _ _) (by omega) (by omega)) (by decide) ?_ | refine GO.ef (by exact Ef.append1 (enc := Go.V.encI .i64) (e := a) rfl rfl rfl rfl rfl (by rfl) (Go.V.encI_one _ _) (by omega) (by omega)) (by decide) ?_) | ((with_reducible apply GPW.atEf); first | refine GPW.ef (Ef.append1 (enc := Go.V.encI .i64) (e := a) rfl rfl rfl rfl rfl (by rfl) (Go.V.encI_one _ _) (by omega) (by omega)) (by decide) ?_ | refine GPW.ef (by exact Ef.append1 (enc := Go.V.encI .i64) (e := a) rfl rfl rfl rfl rfl (by rfl) (Go.V.encI_one _ _) (by omega) (by omega)) (by decide) ?_) | ((with_reducible apply GO.atUnit); first | refine GO.efu (Ef.append1 (enc := Go.V.encI .i64) (e := a) rfl rfl rfl rfl rfl (by rfl) (Go.V.encI_one _ _) (by omega) (by omega)) ?_ | refine GO.efu (by exact Ef.append1 (enc := Go.V.encI .i64) (e := a) rfl rfl rfl rfl rfl (by rfl) (Go.V.encI_one _ _) (by omega) (by omega)) ?_) | ((with_reducible apply GPW.atEfu); first | refine GPW.efu (Ef.append1 (enc := Go.V.encI .i64) (e := a) rfl rfl rfl rfl rfl (by rfl) (Go.V.encI_one _ _) (by omega) (by omega)) ?_ | refine GPW.efu (by exact Ef.append1 (enc := Go.V.encI .i64) (e := a) rfl rfl rfl rfl rfl (by rfl) (Go.V.encI_one _ _) (by omega) (by omega)) ?_))
    rintro _ _ ⟨ad4, cap4, rfl, rfl⟩
    repeat (first | refine runB ?_ | intro _)
    refine ⟨(i + 1, ad4, cap4), ⟨by dsimp only; omega, hinv⟩, by dsimp only; omega, ?_, ?_⟩
    · dsimp only
      rw [e2, show ((i + 1 : Nat) : Int) = (i : Int) + 1 by omega]
      exact (by repeat (first | exact EnvSub.nil _ | refine EnvSub.cons rfl ?_))
    · dsimp only
      rw [e2]
      exact Ent.refl _
theorem has_spec {L : List HP} (ad : Option Addr) (k c : Nat) (l : List Int) [hr : Rds L ad Int (Go.V.encI .i64) 1 l] (n : Int) (hk : k = l.length) (hl : l.length ≤ 1000000000) :
    Tri Tryz.prog 31 #[.slice ad k c, .int .i64 n] L (fun v L' => v = .bool (dB (n ∈ l)) ∧ L' = L) := by
  refine Tri.body (args := [.slice ad k c, .int .i64 n]) 18 en31 Tryz.func31 rfl rfl rfl (by simp) ?_
  repeat (first | refine runB ?_ | intro _)
  refine G.loop (α := Nat) (fun i => i ≤ k ∧ n ∉ l.take i) (fun i => [(0, .slice ad k c), (1, .int .i64 n), (5, .int .i64 (i : Int))]) (fun _ => L) (fun i => k - i) 0 ⟨by omega, by simp⟩ (by repeat (first | exact EnvSub.nil _ | refine EnvSub.cons rfl ?_)) (Ent.refl _) ?_
  rintro i ⟨h1, h2⟩
  by_cases hlt : i < k
  case neg =>
    rw [List.take_of_length_le (by omega)] at h2
    rw [dB_neg h2]
    repeat (first | refine runB ?_ | intro _)
    exact KX.ends (by first | exact ResOk.tmps rfl | (repeat (first | exact ResOk.nil | apply ResOk.tmp rfl | apply ResOk.cell rfl (by rfl) | apply ResOk.cell1 rfl))) (Ent.refl _) ⟨rfl, rfl⟩
  have hii : (i : Int).toNat = i := by omega
  repeat (first | refine runB ?_ | intro _)
  rw [hii]
  by_cases he : l[i]! = n
  · rw [dB_pos (show n ∈ l from he ▸ mem_get! (by omega))]
    repeat (first | refine runB ?_ | intro _)
    exact KX.ends (by first | exact ResOk.tmps rfl | (repeat (first | exact ResOk.nil | apply ResOk.tmp rfl | apply ResOk.cell rfl (by rfl) | apply ResOk.cell1 rfl))) (Ent.refl _) ⟨rfl, rfl⟩
  · repeat (first | refine runB ?_ | intro _)
    refine ⟨i + 1, ⟨by omega, ?_⟩, by omega, ?_, Ent.refl _⟩
    · rw [List.take_succ_eq_append_getElem (by omega), List.mem_append, ← getElem!_of (by omega)]
      rintro (h | h)
      · exact h2 h
      · rw [List.mem_singleton] at h; exact he h.symm
    · rw [show ((i + 1 : Nat) : Int) = (i : Int) + 1 by omega]
      exact (by repeat (first | exact EnvSub.nil _ | refine EnvSub.cons rfl ?_))

/-- The distinct ones among the first i that move. -/
structure Ded (p : Int → Prop) (l : List Int) (i : Nat) (ded : List Int) : Prop where
  nd : ded.Nodup
  mem : ∀ x, x ∈ ded ↔ x ∈ l.take i ∧ p x
  len : ded.length ≤ i
theorem Ded.zero (p : Int → Prop) (l : List Int) : Ded p l 0 [] := ⟨List.nodup_nil, by simp, by simp⟩
theorem take_succ! {l : List Int} {i : Nat} (hi : i < l.length) : l.take (i + 1) = l.take i ++ [l[i]!] := by rw [List.take_succ_eq_append_getElem hi, getElem!_of hi]
theorem Ded.skip {p : Int → Prop} {l : List Int} {i : Nat} {ded : List Int} (h : Ded p l i ded) (hi : i < l.length) (hs : l[i]! ∈ l.take i ∨ ¬ p l[i]!) : Ded p l (i + 1) ded := by
  refine ⟨h.nd, fun x => ?_, by have := h.len; omega⟩
  rw [h.mem, take_succ! hi, List.mem_append, List.mem_singleton]
  constructor
  · rintro ⟨a, b⟩; exact ⟨.inl a, b⟩
  · rintro ⟨a | rfl, b⟩
    · exact ⟨a, b⟩
    · rcases hs with hs | hs
      · exact ⟨hs, b⟩
      · exact absurd b hs
theorem Ded.add {p : Int → Prop} {l : List Int} {i : Nat} {ded : List Int} (h : Ded p l i ded) (hi : i < l.length) (h1 : l[i]! ∉ l.take i) (h2 : p l[i]!) : Ded p l (i + 1) (ded ++ [l[i]!]) := by
  refine ⟨?_, fun x => ?_, by have := h.len; simp; omega⟩
  · rw [List.nodup_append]
    refine ⟨h.nd, by simp, ?_⟩
    intro a ha b hb
    rw [List.mem_singleton] at hb
    subst hb
    intro e
    subst e
    exact h1 ((h.mem _).1 ha).1
  · rw [List.mem_append, h.mem, take_succ! hi, List.mem_append, List.mem_singleton]
    constructor
    · rintro (⟨a, b⟩ | rfl)
      · exact ⟨.inl a, b⟩
      · exact ⟨.inr rfl, h2⟩
    · rintro ⟨a | rfl, b⟩
      · exact .inl ⟨a, b⟩
      · exact .inr rfl
theorem Ded.fin {x y : List Hm} {l : List Int} {ded : List Int} (h : Ded (fun a => ¬ fndH x a = fndH y a) l l.length ded) : ded.length = (uniqM (mvL x y l)).length := by
  obtain ⟨h1, h2, _⟩ := uniqM_facts (mvL x y l)
  refine ((List.perm_ext_iff_of_nodup h.nd (h1.imp (fun hab => by omega))).2 fun a => ?_).length_eq
  rw [h.mem, h2, List.take_length]
  simp [mvL]
abbrev plN6_8_26 : List Stp := [.ev 0, .ev 1, .ev 2, .ev 3, .ev 4, .ev 5, .ev 6, .ev 7, .ev 8, .ev 9, .ev 10, .ev 11, .ef 12, .ev 13, .ev 14, .ev 15, .ev 16, .ev 17, .ev 18, .ev 19, .ev 20, .ev 22, .ev 23, .ev 24, .ev 25, .ev 26, .ef 21, .ef 27, .ev 28, .ev 29]
abbrev plN6_8_32 : List Stp := [.ev 0, .ev 1, .ev 2, .ev 3, .ev 4, .ev 5, .ev 6, .ef 7, .ev 8, .ev 9]
abbrev plN6_8_33 : List Stp := [.ev 0, .ev 1, .ev 2, .ev 3, .ev 4, .ev 5, .ev 6, .ev 8, .ev 9, .ev 10, .ev 11, .ev 12, .ef 7, .ef 13, .ev 14, .ev 15]
set_option maxHeartbeats 2000000 in
theorem moveMoving_spec {L : List HP} [hk : KR L] (ad : Option Addr) (len cap : Nat) (xs : List Int) [Rds L ad Int (Go.V.encI .i64) 1 xs] (hlen : len = xs.length) (hmx0 : len ≤ 9223372036854775807) (hxb : ∀ x ∈ xs, I64 x)
    (ad' : Option Addr) (len' cap' : Nat) (ys : List Int) [Rds L ad' Int (Go.V.encI .i64) 1 ys] (hlen' : len' = ys.length) (hmx0' : len' ≤ 9223372036854775807) (hyb : ∀ x ∈ ys, I64 x)
    (ad'' : Option Addr) (len'' cap'' : Nat) (zs : List Int) [Rds L ad'' Int (Go.V.encI .i64) 1 zs] (hlen'' : len'' = zs.length) (_hmx0'' : len'' ≤ 9223372036854775807) (hzb : ∀ x ∈ zs, I64 x)
    (bad : Int) (hbad : I64 bad) (at_ : Int) (hat : I64 at_) (n : Int) (hn : I64 n) :
    Tri Tryz.prog 8 #[.slice ad len cap, .slice ad' len' cap', .slice ad'' len'' cap'', .int .i64 bad, .int .i64 at_, .int .i64 n] L (fun v L' => v = .bool true ∧ L' = L) := by
  have hmx : maxAcc = 1073741824 := rfl
  refine Tri.body (args := [.slice ad len cap, .slice ad' len' cap', .slice ad'' len'' cap'', .int .i64 bad, .int .i64 at_, .int .i64 n]) 209 en8 Tryz.func8 rfl rfl rfl (by simp) ?_
  repeat (first | refine runB ?_ | intro _ | ((with_reducible apply G.atDraw); first | refine G.draw (N := 209) (id := 26) plN6_8_26 mixed (by kernel_rfl) ?_ | refine G.draw (N := 209) (id := 32) plN6_8_32 mixed (by kernel_rfl) ?_ | refine G.draw (N := 209) (id := 33) plN6_8_33 mixed (by kernel_rfl) ?_))
  (first | ((with_reducible apply GO.atPlain); first | refine GO.ef (Ef.callAll (rhomes_spec 4 0 ad len cap xs hlen (by omega) hxb (by omega) (by omega) (by decide)) rfl) (by decide) ?_ | refine GO.ef (by exact Ef.callAll (rhomes_spec 4 0 ad len cap xs hlen (by omega) hxb (by omega) (by omega) (by decide)) rfl) (by decide) ?_) | ((with_reducible apply GPW.atEf); first | refine GPW.ef (Ef.callAll (rhomes_spec 4 0 ad len cap xs hlen (by omega) hxb (by omega) (by omega) (by decide)) rfl) (by decide) ?_ | refine GPW.ef (by exact Ef.callAll (rhomes_spec 4 0 ad len cap xs hlen (by omega) hxb (by omega) (by omega) (by decide)) rfl) (by decide) ?_))
  rintro _ _ ⟨ad1, cap1, l1, rfl, ⟨hok1, hl1⟩, rfl⟩
  repeat (first | refine runB ?_ | intro _ | ((with_reducible apply G.atDraw); first | refine G.draw (N := 209) (id := 26) plN6_8_26 mixed (by kernel_rfl) ?_ | refine G.draw (N := 209) (id := 32) plN6_8_32 mixed (by kernel_rfl) ?_ | refine G.draw (N := 209) (id := 33) plN6_8_33 mixed (by kernel_rfl) ?_))
  (first | ((with_reducible apply GO.atPlain); first | refine GO.ef (Ef.callAll (rhomes_spec 4 0 ad' len' cap' ys hlen' (by omega) hyb (by omega) (by omega) (by decide)) rfl) (by decide) ?_ | refine GO.ef (by exact Ef.callAll (rhomes_spec 4 0 ad' len' cap' ys hlen' (by omega) hyb (by omega) (by omega) (by decide)) rfl) (by decide) ?_) | ((with_reducible apply GPW.atEf); first | refine GPW.ef (Ef.callAll (rhomes_spec 4 0 ad' len' cap' ys hlen' (by omega) hyb (by omega) (by omega) (by decide)) rfl) (by decide) ?_ | refine GPW.ef (by exact Ef.callAll (rhomes_spec 4 0 ad' len' cap' ys hlen' (by omega) hyb (by omega) (by omega) (by decide)) rfl) (by decide) ?_))
  rintro _ _ ⟨ad2, cap2, l2, rfl, ⟨hok2, hl2⟩, rfl⟩
  refine GO.ent (Ent.freezeSl.trans (Ent.consR Ent.freezeSl)) ?_
  repeat (first | ((fail_if_success (with_reducible refine G.atSS 4 ?_)); (with_reducible apply G.seq)) | refine runBS ?_ | intro _ | ((with_reducible apply G.atDraw); first | refine G.draw (N := 209) (id := 26) plN6_8_26 mixed (by kernel_rfl) ?_ | refine G.draw (N := 209) (id := 32) plN6_8_32 mixed (by kernel_rfl) ?_ | refine G.draw (N := 209) (id := 33) plN6_8_33 mixed (by kernel_rfl) ?_))
  refine G.join (α := Option Addr × Nat × List Int) (fun x => x.2.2.length ≤ 20 ∧ ∀ a ∈ x.2.2, 1 ≤ a ∧ a ≤ maxAcc) (fun x => [(3, .int .i64 bad), (4, .int .i64 at_), (5, .int .i64 n), (13, .slice ad1 l1.length cap1), (14, .slice ad2 l2.length cap2), (15, .slice x.1 x.2.2.length x.2.1)])
    (fun x => osl (Go.V.encI .i64) 1 tI x.1 x.2.1 x.2.2 :: isl encH 2 ad2 l2 :: isl encH 2 ad1 l1 :: L) ?_ ?_
  · repeat (first | refine runB ?_ | intro _ | ((with_reducible apply G.atDraw); first | refine G.draw (N := 209) (id := 26) plN6_8_26 mixed (by kernel_rfl) ?_ | refine G.draw (N := 209) (id := 32) plN6_8_32 mixed (by kernel_rfl) ?_ | refine G.draw (N := 209) (id := 33) plN6_8_33 mixed (by kernel_rfl) ?_))
    refine G.loop (α := Nat × Option Addr × Nat × List Int) (fun x => x.1 ≤ 20 ∧ x.1 ≤ len'' ∧ x.2.2.2.length = x.1 ∧ ∀ a ∈ x.2.2.2, 1 ≤ a ∧ a ≤ maxAcc) (fun x => [(2, .slice ad'' len'' cap''), (3, .int .i64 bad), (4, .int .i64 at_), (5, .int .i64 n), (13, .slice ad1 l1.length cap1), (14, .slice ad2 l2.length cap2), (15, .slice x.2.1 x.2.2.2.length x.2.2.1), (16, .int .i64 (x.1 : Int))])
      (fun x => osl (Go.V.encI .i64) 1 tI x.2.1 x.2.2.1 x.2.2.2 :: isl encH 2 ad2 l2 :: isl encH 2 ad1 l1 :: L) (fun x => 20 - x.1) (0, none, 0, []) ⟨by simp, by simp, by simp, by simp⟩ (by repeat (first | exact EnvSub.nil _ | refine EnvSub.cons rfl ?_)) (Ent.nilSl (Go.V.encI .i64) 1 tI) ?_
    rintro ⟨i, ad3, cap3, ls⟩ ⟨h1, h2, h3, h4⟩
    dsimp only at h1 h2 h3 h4 ⊢
    by_cases hlt : i < len''
    case pos =>
      by_cases hlt2 : i < 20
      case neg =>
        repeat (first | refine runB ?_ | intro _ | ((with_reducible apply G.atDraw); first | refine G.draw (N := 209) (id := 26) plN6_8_26 mixed (by kernel_rfl) ?_ | refine G.draw (N := 209) (id := 32) plN6_8_32 mixed (by kernel_rfl) ?_ | refine G.draw (N := 209) (id := 33) plN6_8_33 mixed (by kernel_rfl) ?_))
        exact ⟨(ad3, cap3, ls), ⟨by dsimp only; omega, h4⟩, (by repeat (first | exact EnvSub.nil _ | refine EnvSub.cons rfl ?_)), Ent.refl _⟩
      case pos =>
        have hzi := hzb zs[(i : Int).toNat]! (mem_get! (by omega))
        have hz25 := around_bd zs[(i : Int).toNat]! (k := 25) (by decide)
        repeat (first | refine runB ?_ | intro _ | ((with_reducible apply G.atDraw); first | refine G.draw (N := 209) (id := 26) plN6_8_26 mixed (by kernel_rfl) ?_ | refine G.draw (N := 209) (id := 32) plN6_8_32 mixed (by kernel_rfl) ?_ | refine G.draw (N := 209) (id := 33) plN6_8_33 mixed (by kernel_rfl) ?_))
        (first | ((with_reducible apply GO.atPlain); first | refine GO.ef (Ef.callAll (around_spec zs[(i : Int).toNat]! 25 hzi (by decide) (by decide)) rfl) (by decide) ?_ | refine GO.ef (by exact Ef.callAll (around_spec zs[(i : Int).toNat]! 25 hzi (by decide) (by decide)) rfl) (by decide) ?_) | ((with_reducible apply GPW.atEf); first | refine GPW.ef (Ef.callAll (around_spec zs[(i : Int).toNat]! 25 hzi (by decide) (by decide)) rfl) (by decide) ?_ | refine GPW.ef (by exact Ef.callAll (around_spec zs[(i : Int).toNat]! 25 hzi (by decide) (by decide)) rfl) (by decide) ?_))
        rintro _ _ ⟨rfl, rfl⟩
        repeat (first | refine runB ?_ | intro _ | ((with_reducible apply G.atDraw); first | refine G.draw (N := 209) (id := 26) plN6_8_26 mixed (by kernel_rfl) ?_ | refine G.draw (N := 209) (id := 32) plN6_8_32 mixed (by kernel_rfl) ?_ | refine G.draw (N := 209) (id := 33) plN6_8_33 mixed (by kernel_rfl) ?_))
        (first | ((with_reducible apply GO.atPlain); first | refine GO.ef (Ef.append1 (enc := Go.V.encI .i64) (e := 1 + around zs[(i : Int).toNat]! 25) rfl rfl rfl rfl rfl (by rfl) (Go.V.encI_one _ _) (by omega) (by omega)) (by decide) ?_ | refine GO.ef (by exact Ef.append1 (enc := Go.V.encI .i64) (e := 1 + around zs[(i : Int).toNat]! 25) rfl rfl rfl rfl rfl (by rfl) (Go.V.encI_one _ _) (by omega) (by omega)) (by decide) ?_) | ((with_reducible apply GPW.atEf); first | refine GPW.ef (Ef.append1 (enc := Go.V.encI .i64) (e := 1 + around zs[(i : Int).toNat]! 25) rfl rfl rfl rfl rfl (by rfl) (Go.V.encI_one _ _) (by omega) (by omega)) (by decide) ?_ | refine GPW.ef (by exact Ef.append1 (enc := Go.V.encI .i64) (e := 1 + around zs[(i : Int).toNat]! 25) rfl rfl rfl rfl rfl (by rfl) (Go.V.encI_one _ _) (by omega) (by omega)) (by decide) ?_) | ((with_reducible apply GO.atUnit); first | refine GO.efu (Ef.append1 (enc := Go.V.encI .i64) (e := 1 + around zs[(i : Int).toNat]! 25) rfl rfl rfl rfl rfl (by rfl) (Go.V.encI_one _ _) (by omega) (by omega)) ?_ | refine GO.efu (by exact Ef.append1 (enc := Go.V.encI .i64) (e := 1 + around zs[(i : Int).toNat]! 25) rfl rfl rfl rfl rfl (by rfl) (Go.V.encI_one _ _) (by omega) (by omega)) ?_) | ((with_reducible apply GPW.atEfu); first | refine GPW.efu (Ef.append1 (enc := Go.V.encI .i64) (e := 1 + around zs[(i : Int).toNat]! 25) rfl rfl rfl rfl rfl (by rfl) (Go.V.encI_one _ _) (by omega) (by omega)) ?_ | refine GPW.efu (by exact Ef.append1 (enc := Go.V.encI .i64) (e := 1 + around zs[(i : Int).toNat]! 25) rfl rfl rfl rfl rfl (by rfl) (Go.V.encI_one _ _) (by omega) (by omega)) ?_))
        rintro _ _ ⟨ad4, cap4, rfl, rfl⟩
        repeat (first | refine runB ?_ | intro _ | ((with_reducible apply G.atDraw); first | refine G.draw (N := 209) (id := 26) plN6_8_26 mixed (by kernel_rfl) ?_ | refine G.draw (N := 209) (id := 32) plN6_8_32 mixed (by kernel_rfl) ?_ | refine G.draw (N := 209) (id := 33) plN6_8_33 mixed (by kernel_rfl) ?_))
        refine ⟨(i + 1, ad4, cap4, ls ++ [1 + around zs[(i : Int).toNat]! 25]), ⟨by dsimp only; omega, by dsimp only; omega, by dsimp only; simp; omega, ?_⟩, by dsimp only; omega, ?_, Ent.refl _⟩
        · intro b hb
          rcases List.mem_append.1 hb with hb | hb
          · exact h4 b hb
          · rw [List.mem_singleton] at hb; subst hb; exact ⟨by omega, by omega⟩
        · dsimp only
          rw [show ((i + 1 : Nat) : Int) = (i : Int) + 1 by omega]
          exact (by repeat (first | exact EnvSub.nil _ | refine EnvSub.cons rfl ?_))
    case neg =>
      repeat (first | refine runB ?_ | intro _ | ((with_reducible apply G.atDraw); first | refine G.draw (N := 209) (id := 26) plN6_8_26 mixed (by kernel_rfl) ?_ | refine G.draw (N := 209) (id := 32) plN6_8_32 mixed (by kernel_rfl) ?_ | refine G.draw (N := 209) (id := 33) plN6_8_33 mixed (by kernel_rfl) ?_))
      exact ⟨(ad3, cap3, ls), ⟨by dsimp only; omega, h4⟩, (by repeat (first | exact EnvSub.nil _ | refine EnvSub.cons rfl ?_)), Ent.refl _⟩
  rintro ⟨ad3, cap3, ls⟩ ⟨h3, h4⟩
  dsimp only at h3 h4 ⊢
  have hb6 := around_bd bad (k := 6) (by decide)
  repeat (first | refine runB ?_ | intro _ | ((with_reducible apply G.atDraw); first | refine G.draw (N := 209) (id := 26) plN6_8_26 mixed (by kernel_rfl) ?_ | refine G.draw (N := 209) (id := 32) plN6_8_32 mixed (by kernel_rfl) ?_ | refine G.draw (N := 209) (id := 33) plN6_8_33 mixed (by kernel_rfl) ?_))
  (first | ((with_reducible apply GO.atPlain); first | refine GO.ef (Ef.callAll (around_spec bad 6 hbad (by decide) (by decide)) rfl) (by decide) ?_ | refine GO.ef (by exact Ef.callAll (around_spec bad 6 hbad (by decide) (by decide)) rfl) (by decide) ?_) | ((with_reducible apply GPW.atEf); first | refine GPW.ef (Ef.callAll (around_spec bad 6 hbad (by decide) (by decide)) rfl) (by decide) ?_ | refine GPW.ef (by exact Ef.callAll (around_spec bad 6 hbad (by decide) (by decide)) rfl) (by decide) ?_))
  rintro _ _ ⟨rfl, rfl⟩
  generalize around bad 6 = kb at hb6
  repeat (first | ((fail_if_success (with_reducible refine G.atSS 10 ?_)); (with_reducible apply G.seq)) | refine runBS ?_ | intro _ | ((with_reducible apply G.atDraw); first | refine G.draw (N := 209) (id := 26) plN6_8_26 mixed (by kernel_rfl) ?_ | refine G.draw (N := 209) (id := 32) plN6_8_32 mixed (by kernel_rfl) ?_ | refine G.draw (N := 209) (id := 33) plN6_8_33 mixed (by kernel_rfl) ?_))
  refine G.join (α := Option Addr × Nat × List Hm) (fun x => x.2.2.length ≤ 7) (fun x => [(4, .int .i64 at_), (5, .int .i64 n), (13, .slice x.1 x.2.2.length x.2.1), (14, .slice ad2 l2.length cap2), (15, .slice ad3 ls.length cap3), (17, .bool true), (18, .int .i64 kb)])
    (fun x => isl encH 2 x.1 x.2.2 :: osl (Go.V.encI .i64) 1 tI ad3 cap3 ls :: isl encH 2 ad2 l2 :: L) ?_ ?_
  · by_cases hc : kb = 0
    · repeat (first | refine runB ?_ | intro _ | ((with_reducible apply G.atDraw); first | refine G.draw (N := 209) (id := 26) plN6_8_26 mixed (by kernel_rfl) ?_ | refine G.draw (N := 209) (id := 32) plN6_8_32 mixed (by kernel_rfl) ?_ | refine G.draw (N := 209) (id := 33) plN6_8_33 mixed (by kernel_rfl) ?_))
      (first | ((with_reducible apply GO.atPlain); first | refine GO.ef (Ef.callAll (spoilt_spec at_ n ad1 l1.length cap1 l1 rfl (by omega) hat) rfl) (by decide) ?_ | refine GO.ef (by exact Ef.callAll (spoilt_spec at_ n ad1 l1.length cap1 l1 rfl (by omega) hat) rfl) (by decide) ?_) | ((with_reducible apply GPW.atEf); first | refine GPW.ef (Ef.callAll (spoilt_spec at_ n ad1 l1.length cap1 l1 rfl (by omega) hat) rfl) (by decide) ?_ | refine GPW.ef (by exact Ef.callAll (spoilt_spec at_ n ad1 l1.length cap1 l1 rfl (by omega) hat) rfl) (by decide) ?_))
      rintro _ _ ⟨ad5, cap5, l5, rfl, hl5, rfl⟩
      repeat (first | refine runB ?_ | intro _ | ((with_reducible apply G.atDraw); first | refine G.draw (N := 209) (id := 26) plN6_8_26 mixed (by kernel_rfl) ?_ | refine G.draw (N := 209) (id := 32) plN6_8_32 mixed (by kernel_rfl) ?_ | refine G.draw (N := 209) (id := 33) plN6_8_33 mixed (by kernel_rfl) ?_))
      exact ⟨(ad5, cap5, l5), by dsimp only; omega, (by repeat (first | exact EnvSub.nil _ | refine EnvSub.cons rfl ?_)), Ent.freezeSl.trans (by repeat (first | exact Ent.refl _ | exact Ent.nil _ | refine Ent.take' ?_ | refine Ent.trans Ent.drop ?_))⟩
    · repeat (first | refine runB ?_ | intro _ | ((with_reducible apply G.atDraw); first | refine G.draw (N := 209) (id := 26) plN6_8_26 mixed (by kernel_rfl) ?_ | refine G.draw (N := 209) (id := 32) plN6_8_32 mixed (by kernel_rfl) ?_ | refine G.draw (N := 209) (id := 33) plN6_8_33 mixed (by kernel_rfl) ?_))
      exact ⟨(ad1, cap1, l1), hl1, (by repeat (first | exact EnvSub.nil _ | refine EnvSub.cons rfl ?_)), by repeat (first | exact Ent.refl _ | exact Ent.nil _ | refine Ent.take' ?_ | refine Ent.trans Ent.drop ?_)⟩
  rintro ⟨adx, capx, x⟩ hlx
  dsimp only at hlx ⊢
  repeat (first | ((fail_if_success (with_reducible refine G.atSS 12 ?_)); (with_reducible apply G.seq)) | refine runBS ?_ | intro _ | ((with_reducible apply G.atDraw); first | refine G.draw (N := 209) (id := 26) plN6_8_26 mixed (by kernel_rfl) ?_ | refine G.draw (N := 209) (id := 32) plN6_8_32 mixed (by kernel_rfl) ?_ | refine G.draw (N := 209) (id := 33) plN6_8_33 mixed (by kernel_rfl) ?_))
  refine G.join (α := Option Addr × Nat × List Hm) (fun y => y.2.2.length ≤ 7) (fun y => [(5, .int .i64 n), (13, .slice adx x.length capx), (14, .slice y.1 y.2.2.length y.2.1), (15, .slice ad3 ls.length cap3), (17, .bool true), (18, .int .i64 kb)])
    (fun y => isl encH 2 y.1 y.2.2 :: isl encH 2 adx x :: osl (Go.V.encI .i64) 1 tI ad3 cap3 ls :: L) ?_ ?_
  · by_cases hc : kb = 1
    · repeat (first | refine runB ?_ | intro _ | ((with_reducible apply G.atDraw); first | refine G.draw (N := 209) (id := 26) plN6_8_26 mixed (by kernel_rfl) ?_ | refine G.draw (N := 209) (id := 32) plN6_8_32 mixed (by kernel_rfl) ?_ | refine G.draw (N := 209) (id := 33) plN6_8_33 mixed (by kernel_rfl) ?_))
      (first | ((with_reducible apply GO.atPlain); first | refine GO.ef (Ef.callAll (spoilt_spec at_ n ad2 l2.length cap2 l2 rfl (by omega) hat) rfl) (by decide) ?_ | refine GO.ef (by exact Ef.callAll (spoilt_spec at_ n ad2 l2.length cap2 l2 rfl (by omega) hat) rfl) (by decide) ?_) | ((with_reducible apply GPW.atEf); first | refine GPW.ef (Ef.callAll (spoilt_spec at_ n ad2 l2.length cap2 l2 rfl (by omega) hat) rfl) (by decide) ?_ | refine GPW.ef (by exact Ef.callAll (spoilt_spec at_ n ad2 l2.length cap2 l2 rfl (by omega) hat) rfl) (by decide) ?_))
      rintro _ _ ⟨ad5, cap5, l5, rfl, hl5, rfl⟩
      repeat (first | refine runB ?_ | intro _ | ((with_reducible apply G.atDraw); first | refine G.draw (N := 209) (id := 26) plN6_8_26 mixed (by kernel_rfl) ?_ | refine G.draw (N := 209) (id := 32) plN6_8_32 mixed (by kernel_rfl) ?_ | refine G.draw (N := 209) (id := 33) plN6_8_33 mixed (by kernel_rfl) ?_))
      exact ⟨(ad5, cap5, l5), by dsimp only; omega, (by repeat (first | exact EnvSub.nil _ | refine EnvSub.cons rfl ?_)), Ent.freezeSl.trans (by repeat (first | exact Ent.refl _ | exact Ent.nil _ | refine Ent.take' ?_ | refine Ent.trans Ent.drop ?_))⟩
    · repeat (first | refine runB ?_ | intro _ | ((with_reducible apply G.atDraw); first | refine G.draw (N := 209) (id := 26) plN6_8_26 mixed (by kernel_rfl) ?_ | refine G.draw (N := 209) (id := 32) plN6_8_32 mixed (by kernel_rfl) ?_ | refine G.draw (N := 209) (id := 33) plN6_8_33 mixed (by kernel_rfl) ?_))
      exact ⟨(ad2, cap2, l2), hl2, (by repeat (first | exact EnvSub.nil _ | refine EnvSub.cons rfl ?_)), by repeat (first | exact Ent.refl _ | exact Ent.nil _ | refine Ent.take' ?_ | refine Ent.trans Ent.drop ?_)⟩
  rintro ⟨ady, capy, y⟩ hly
  dsimp only at hly ⊢
  repeat (first | ((fail_if_success (with_reducible refine G.atSS 14 ?_)); (with_reducible apply G.seq)) | refine runBS ?_ | intro _ | ((with_reducible apply G.atDraw); first | refine G.draw (N := 209) (id := 26) plN6_8_26 mixed (by kernel_rfl) ?_ | refine G.draw (N := 209) (id := 32) plN6_8_32 mixed (by kernel_rfl) ?_ | refine G.draw (N := 209) (id := 33) plN6_8_33 mixed (by kernel_rfl) ?_))
  refine G.join (α := Option Addr × Nat × List Int × Bool) (fun z => (z.2.2.1.length ≤ 21 ∧ z.2.2.1.length ≤ z.2.1) ∧ (z.2.2.2 = true ↔ ∀ a ∈ z.2.2.1, 1 ≤ a ∧ a ≤ maxAcc)) (fun z => [(13, .slice adx x.length capx), (14, .slice ady y.length capy), (15, .slice z.1 z.2.2.1.length z.2.1), (17, .bool z.2.2.2)])
    (fun z => isl (Go.V.encI .i64) 1 z.1 z.2.2.1 :: isl encH 2 ady y :: isl encH 2 adx x :: L) ?_ ?_
  · by_cases hc : kb = 2
    · have hne : ∀ g : Bool, (g = true ↔ 1 ≤ n ∧ n ≤ maxAcc) → (g = true ↔ ∀ a ∈ ls ++ [n], 1 ≤ a ∧ a ≤ maxAcc) := by
        intro g hg
        rw [hg]
        constructor
        · intro h a ha
          rcases List.mem_append.1 ha with ha | ha
          · exact h4 a ha
          · rw [List.mem_singleton] at ha; subst ha; exact h
        · intro h
          exact h n (by simp)
      repeat (first | refine runB ?_ | intro _ | ((with_reducible apply G.atDraw); first | refine G.draw (N := 209) (id := 26) plN6_8_26 mixed (by kernel_rfl) ?_ | refine G.draw (N := 209) (id := 32) plN6_8_32 mixed (by kernel_rfl) ?_ | refine G.draw (N := 209) (id := 33) plN6_8_33 mixed (by kernel_rfl) ?_))
      (first | ((with_reducible apply GO.atPlain); first | refine GO.ef (Ef.append1 (enc := Go.V.encI .i64) (e := n) rfl rfl rfl rfl rfl (by rfl) (Go.V.encI_one _ _) (by omega) (by omega)) (by decide) ?_ | refine GO.ef (by exact Ef.append1 (enc := Go.V.encI .i64) (e := n) rfl rfl rfl rfl rfl (by rfl) (Go.V.encI_one _ _) (by omega) (by omega)) (by decide) ?_) | ((with_reducible apply GPW.atEf); first | refine GPW.ef (Ef.append1 (enc := Go.V.encI .i64) (e := n) rfl rfl rfl rfl rfl (by rfl) (Go.V.encI_one _ _) (by omega) (by omega)) (by decide) ?_ | refine GPW.ef (by exact Ef.append1 (enc := Go.V.encI .i64) (e := n) rfl rfl rfl rfl rfl (by rfl) (Go.V.encI_one _ _) (by omega) (by omega)) (by decide) ?_) | ((with_reducible apply GO.atUnit); first | refine GO.efu (Ef.append1 (enc := Go.V.encI .i64) (e := n) rfl rfl rfl rfl rfl (by rfl) (Go.V.encI_one _ _) (by omega) (by omega)) ?_ | refine GO.efu (by exact Ef.append1 (enc := Go.V.encI .i64) (e := n) rfl rfl rfl rfl rfl (by rfl) (Go.V.encI_one _ _) (by omega) (by omega)) ?_) | ((with_reducible apply GPW.atEfu); first | refine GPW.efu (Ef.append1 (enc := Go.V.encI .i64) (e := n) rfl rfl rfl rfl rfl (by rfl) (Go.V.encI_one _ _) (by omega) (by omega)) ?_ | refine GPW.efu (by exact Ef.append1 (enc := Go.V.encI .i64) (e := n) rfl rfl rfl rfl rfl (by rfl) (Go.V.encI_one _ _) (by omega) (by omega)) ?_))
      rintro _ _ ⟨ad5, cap5, rfl, rfl⟩
      refine GO.fact (osl_cap (ad := ad5)) ?_
      rintro ⟨hcp, _⟩
      by_cases hn1 : 1 ≤ n
      · by_cases hn2 : n ≤ 1073741824
        · repeat (first | refine runB ?_ | intro _ | ((with_reducible apply G.atDraw); first | refine G.draw (N := 209) (id := 26) plN6_8_26 mixed (by kernel_rfl) ?_ | refine G.draw (N := 209) (id := 32) plN6_8_32 mixed (by kernel_rfl) ?_ | refine G.draw (N := 209) (id := 33) plN6_8_33 mixed (by kernel_rfl) ?_))
          rw [dB_pos hn2]
          exact ⟨(ad5, cap5, ls ++ [n], true), ⟨⟨by dsimp only; simp; omega, hcp⟩, hne _ (by simp; omega)⟩, (by repeat (first | exact EnvSub.nil _ | refine EnvSub.cons rfl ?_)), Ent.freezeSl.trans (by repeat (first | exact Ent.refl _ | exact Ent.nil _ | refine Ent.take' ?_ | refine Ent.trans Ent.drop ?_))⟩
        · repeat (first | refine runB ?_ | intro _ | ((with_reducible apply G.atDraw); first | refine G.draw (N := 209) (id := 26) plN6_8_26 mixed (by kernel_rfl) ?_ | refine G.draw (N := 209) (id := 32) plN6_8_32 mixed (by kernel_rfl) ?_ | refine G.draw (N := 209) (id := 33) plN6_8_33 mixed (by kernel_rfl) ?_))
          rw [dB_neg hn2]
          exact ⟨(ad5, cap5, ls ++ [n], false), ⟨⟨by dsimp only; simp; omega, hcp⟩, hne _ (by simp; omega)⟩, (by repeat (first | exact EnvSub.nil _ | refine EnvSub.cons rfl ?_)), Ent.freezeSl.trans (by repeat (first | exact Ent.refl _ | exact Ent.nil _ | refine Ent.take' ?_ | refine Ent.trans Ent.drop ?_))⟩
      · repeat (first | refine runB ?_ | intro _ | ((with_reducible apply G.atDraw); first | refine G.draw (N := 209) (id := 26) plN6_8_26 mixed (by kernel_rfl) ?_ | refine G.draw (N := 209) (id := 32) plN6_8_32 mixed (by kernel_rfl) ?_ | refine G.draw (N := 209) (id := 33) plN6_8_33 mixed (by kernel_rfl) ?_))
        exact ⟨(ad5, cap5, ls ++ [n], false), ⟨⟨by dsimp only; simp; omega, hcp⟩, hne _ (by simp; omega)⟩, (by repeat (first | exact EnvSub.nil _ | refine EnvSub.cons rfl ?_)), Ent.freezeSl.trans (by repeat (first | exact Ent.refl _ | exact Ent.nil _ | refine Ent.take' ?_ | refine Ent.trans Ent.drop ?_))⟩
    · refine G.fact (osl_cap (ad := ad3)) ?_
      rintro ⟨hcp, _⟩
      repeat (first | refine runB ?_ | intro _ | ((with_reducible apply G.atDraw); first | refine G.draw (N := 209) (id := 26) plN6_8_26 mixed (by kernel_rfl) ?_ | refine G.draw (N := 209) (id := 32) plN6_8_32 mixed (by kernel_rfl) ?_ | refine G.draw (N := 209) (id := 33) plN6_8_33 mixed (by kernel_rfl) ?_))
      exact ⟨(ad3, cap3, ls, true), ⟨⟨by dsimp only; omega, hcp⟩, by simpa using h4⟩, (by repeat (first | exact EnvSub.nil _ | refine EnvSub.cons rfl ?_)), (Ent.frz ad3).trans (by repeat (first | exact Ent.refl _ | exact Ent.nil _ | refine Ent.take' ?_ | refine Ent.trans Ent.drop ?_))⟩
  rintro ⟨adl, capl, ls, g⟩ ⟨⟨hll, hlc⟩, hg⟩
  dsimp only at hll hlc hg ⊢
  clear h3 h4
  repeat (first | ((fail_if_success (with_reducible refine G.atS 17 ?_)); (with_reducible apply G.seq)) | refine runBS ?_ | intro _ | ((with_reducible apply G.atDraw); first | refine G.draw (N := 209) (id := 26) plN6_8_26 mixed (by kernel_rfl) ?_ | refine G.draw (N := 209) (id := 32) plN6_8_32 mixed (by kernel_rfl) ?_ | refine G.draw (N := 209) (id := 33) plN6_8_33 mixed (by kernel_rfl) ?_))
  refine G.join (α := Bool) (fun z => z = true ↔ MvOk x y ls) (fun z => [(13, .slice adx x.length capx), (14, .slice ady y.length capy), (15, .slice adl ls.length capl), (17, .bool z)])
    (fun _ => isl (Go.V.encI .i64) 1 adl ls :: isl encH 2 ady y :: isl encH 2 adx x :: L) ?_ ?_
  · cases g
    · repeat (first | refine runB ?_ | intro _ | ((with_reducible apply G.atDraw); first | refine G.draw (N := 209) (id := 26) plN6_8_26 mixed (by kernel_rfl) ?_ | refine G.draw (N := 209) (id := 32) plN6_8_32 mixed (by kernel_rfl) ?_ | refine G.draw (N := 209) (id := 33) plN6_8_33 mixed (by kernel_rfl) ?_))
      exact ⟨false, by simp [MvOk]; intro _ _; simpa using hg, (by repeat (first | exact EnvSub.nil _ | refine EnvSub.cons rfl ?_)), Ent.refl _⟩
    have hg' := hg.1 rfl
    repeat (first | refine runB ?_ | intro _ | ((with_reducible apply G.atDraw); first | refine G.draw (N := 209) (id := 26) plN6_8_26 mixed (by kernel_rfl) ?_ | refine G.draw (N := 209) (id := 32) plN6_8_32 mixed (by kernel_rfl) ?_ | refine G.draw (N := 209) (id := 33) plN6_8_33 mixed (by kernel_rfl) ?_))
    (first | ((with_reducible apply GO.atPlain); first | refine GO.ef (Ef.callAll (rvalid_spec 12 adx x.length capx x rfl (by omega)) rfl) (by decide) ?_ | refine GO.ef (by exact Ef.callAll (rvalid_spec 12 adx x.length capx x rfl (by omega)) rfl) (by decide) ?_) | ((with_reducible apply GPW.atEf); first | refine GPW.ef (Ef.callAll (rvalid_spec 12 adx x.length capx x rfl (by omega)) rfl) (by decide) ?_ | refine GPW.ef (by exact Ef.callAll (rvalid_spec 12 adx x.length capx x rfl (by omega)) rfl) (by decide) ?_))
    rintro _ _ ⟨rfl, rfl⟩
    by_cases hx : HOk 12 x
    case neg =>
      rw [dB_neg hx]
      repeat (first | refine runB ?_ | intro _ | ((with_reducible apply G.atDraw); first | refine G.draw (N := 209) (id := 26) plN6_8_26 mixed (by kernel_rfl) ?_ | refine G.draw (N := 209) (id := 32) plN6_8_32 mixed (by kernel_rfl) ?_ | refine G.draw (N := 209) (id := 33) plN6_8_33 mixed (by kernel_rfl) ?_))
      exact ⟨false, by simp [MvOk, hx], (by repeat (first | exact EnvSub.nil _ | refine EnvSub.cons rfl ?_)), Ent.refl _⟩
    rw [dB_pos hx]
    repeat (first | refine runB ?_ | intro _ | ((with_reducible apply G.atDraw); first | refine G.draw (N := 209) (id := 26) plN6_8_26 mixed (by kernel_rfl) ?_ | refine G.draw (N := 209) (id := 32) plN6_8_32 mixed (by kernel_rfl) ?_ | refine G.draw (N := 209) (id := 33) plN6_8_33 mixed (by kernel_rfl) ?_))
    (first | ((with_reducible apply GO.atPlain); first | refine GO.ef (Ef.callAll (rvalid_spec 12 ady y.length capy y rfl (by omega)) rfl) (by decide) ?_ | refine GO.ef (by exact Ef.callAll (rvalid_spec 12 ady y.length capy y rfl (by omega)) rfl) (by decide) ?_) | ((with_reducible apply GPW.atEf); first | refine GPW.ef (Ef.callAll (rvalid_spec 12 ady y.length capy y rfl (by omega)) rfl) (by decide) ?_ | refine GPW.ef (by exact Ef.callAll (rvalid_spec 12 ady y.length capy y rfl (by omega)) rfl) (by decide) ?_))
    rintro _ _ ⟨rfl, rfl⟩
    by_cases hy : HOk 12 y
    case neg =>
      rw [dB_neg hy]
      repeat (first | refine runB ?_ | intro _ | ((with_reducible apply G.atDraw); first | refine G.draw (N := 209) (id := 26) plN6_8_26 mixed (by kernel_rfl) ?_ | refine G.draw (N := 209) (id := 32) plN6_8_32 mixed (by kernel_rfl) ?_ | refine G.draw (N := 209) (id := 33) plN6_8_33 mixed (by kernel_rfl) ?_))
      exact ⟨false, by simp [MvOk, hy], (by repeat (first | exact EnvSub.nil _ | refine EnvSub.cons rfl ?_)), Ent.refl _⟩
    rw [dB_pos hy]
    repeat (first | refine runB ?_ | intro _ | ((with_reducible apply G.atDraw); first | refine G.draw (N := 209) (id := 26) plN6_8_26 mixed (by kernel_rfl) ?_ | refine G.draw (N := 209) (id := 32) plN6_8_32 mixed (by kernel_rfl) ?_ | refine G.draw (N := 209) (id := 33) plN6_8_33 mixed (by kernel_rfl) ?_))
    exact ⟨true, by simp only [true_iff]; exact ⟨hx, hy, hg'⟩, (by repeat (first | exact EnvSub.nil _ | refine EnvSub.cons rfl ?_)), Ent.refl _⟩
  rintro z hz
  repeat (first | refine runB ?_ | intro _ | ((with_reducible apply G.atDraw); first | refine G.draw (N := 209) (id := 26) plN6_8_26 mixed (by kernel_rfl) ?_ | refine G.draw (N := 209) (id := 32) plN6_8_32 mixed (by kernel_rfl) ?_ | refine G.draw (N := 209) (id := 33) plN6_8_33 mixed (by kernel_rfl) ?_))
  (first | ((with_reducible apply GO.atPlain); first | refine GO.ef (Ef.callAll (homes_spec adx x.length capx x rfl (by omega)) rfl) (by decide) ?_ | refine GO.ef (by exact Ef.callAll (homes_spec adx x.length capx x rfl (by omega)) rfl) (by decide) ?_) | ((with_reducible apply GPW.atEf); first | refine GPW.ef (Ef.callAll (homes_spec adx x.length capx x rfl (by omega)) rfl) (by decide) ?_ | refine GPW.ef (by exact Ef.callAll (homes_spec adx x.length capx x rfl (by omega)) rfl) (by decide) ?_))
  rintro _ _ ⟨ad5, cap5, rfl, rfl⟩
  repeat (first | refine runB ?_ | intro _ | ((with_reducible apply G.atDraw); first | refine G.draw (N := 209) (id := 26) plN6_8_26 mixed (by kernel_rfl) ?_ | refine G.draw (N := 209) (id := 32) plN6_8_32 mixed (by kernel_rfl) ?_ | refine G.draw (N := 209) (id := 33) plN6_8_33 mixed (by kernel_rfl) ?_))
  (first | ((with_reducible apply GO.atPlain); first | refine GO.ef (Ef.callAll (homes_spec ady y.length capy y rfl (by omega)) rfl) (by decide) ?_ | refine GO.ef (by exact Ef.callAll (homes_spec ady y.length capy y rfl (by omega)) rfl) (by decide) ?_) | ((with_reducible apply GPW.atEf); first | refine GPW.ef (Ef.callAll (homes_spec ady y.length capy y rfl (by omega)) rfl) (by decide) ?_ | refine GPW.ef (by exact Ef.callAll (homes_spec ady y.length capy y rfl (by omega)) rfl) (by decide) ?_))
  rintro _ _ ⟨ad6, cap6, rfl, rfl⟩
  repeat (first | refine runB ?_ | intro _ | ((with_reducible apply G.atDraw); first | refine G.draw (N := 209) (id := 26) plN6_8_26 mixed (by kernel_rfl) ?_ | refine G.draw (N := 209) (id := 32) plN6_8_32 mixed (by kernel_rfl) ?_ | refine G.draw (N := 209) (id := 33) plN6_8_33 mixed (by kernel_rfl) ?_))
  (first | ((with_reducible apply GO.atPlain); first | refine GO.ef (Ef.callAll (moving_spec ad5 ad6 adl x.length cap5 y.length cap6 ls.length capl x y ls rfl rfl rfl (by omega) (by omega) (by omega)) rfl) (by decide) ?_ | refine GO.ef (by exact Ef.callAll (moving_spec ad5 ad6 adl x.length cap5 y.length cap6 ls.length capl x y ls rfl rfl rfl (by omega) (by omega) (by omega)) rfl) (by decide) ?_) | ((with_reducible apply GPW.atEf); first | refine GPW.ef (Ef.callAll (moving_spec ad5 ad6 adl x.length cap5 y.length cap6 ls.length capl x y ls rfl rfl rfl (by omega) (by omega) (by omega)) rfl) (by decide) ?_ | refine GPW.ef (by exact Ef.callAll (moving_spec ad5 ad6 adl x.length cap5 y.length cap6 ls.length capl x y ls rfl rfl rfl (by omega) (by omega) (by omega)) rfl) (by decide) ?_))
  rintro _ _ (⟨hbd, rfl, rfl⟩ | ⟨hgd, ad7, cap7, rfl, rfl⟩)
  · have ez : z = false := by
      cases z
      · rfl
      · exact absurd (hz.1 rfl) hbd
    subst ez
    repeat (first | refine runB ?_ | intro _ | ((with_reducible apply G.atDraw); first | refine G.draw (N := 209) (id := 26) plN6_8_26 mixed (by kernel_rfl) ?_ | refine G.draw (N := 209) (id := 32) plN6_8_32 mixed (by kernel_rfl) ?_ | refine G.draw (N := 209) (id := 33) plN6_8_33 mixed (by kernel_rfl) ?_))
    (first | ((with_reducible apply GO.atPlain); first | refine GO.ef (Ef.callAll (lives_spec) rfl) (by decide) ?_ | refine GO.ef (by exact Ef.callAll (lives_spec) rfl) (by decide) ?_) | ((with_reducible apply GPW.atEf); first | refine GPW.ef (Ef.callAll (lives_spec) rfl) (by decide) ?_ | refine GPW.ef (by exact Ef.callAll (lives_spec) rfl) (by decide) ?_))
    rintro _ _ ⟨rfl, rfl⟩
    repeat (first | refine runB ?_ | intro _ | ((with_reducible apply G.atDraw); first | refine G.draw (N := 209) (id := 26) plN6_8_26 mixed (by kernel_rfl) ?_ | refine G.draw (N := 209) (id := 32) plN6_8_32 mixed (by kernel_rfl) ?_ | refine G.draw (N := 209) (id := 33) plN6_8_33 mixed (by kernel_rfl) ?_))
    exact KX.ends (by first | exact ResOk.tmps rfl | (repeat (first | exact ResOk.nil | apply ResOk.tmp rfl | apply ResOk.cell rfl (by rfl) | apply ResOk.cell1 rfl))) (by repeat (first | exact Ent.refl _ | exact Ent.nil _ | refine Ent.take' ?_ | refine Ent.trans Ent.drop ?_)) ⟨rfl, rfl⟩
  have ez : z = true := hz.2 hgd
  subst ez
  obtain ⟨hu1, hu2, hu3⟩ := uniqM_facts (mvL x y ls)
  have hul : (uniqM (mvL x y ls)).length ≤ 21 := by
    have : (mvL x y ls).length ≤ ls.length := List.length_filter_le _ _
    omega
  have hmem : ∀ a ∈ uniqM (mvL x y ls), a ∈ ls ∧ ¬ fndH x a = fndH y a := by
    intro a ha
    have := (hu2 a).1 ha
    simpa [mvL] using this
  have hpos : ∀ a ∈ uniqM (mvL x y ls), 1 ≤ a := fun a ha => (hgd.2.2 a (hmem a ha).1).1
  have hfin : ∀ ded, Ded (fun a => ¬ fndH x a = fndH y a) ls ls.length ded → ded.length = (uniqM (mvL x y ls)).length := fun ded h => h.fin
  generalize uniqM (mvL x y ls) = got at hu1 hul hmem hpos hfin
  have hgpos : ∀ i : Nat, i < got.length → 1 ≤ got[i]! := fun i hi => hpos _ (mem_get! hi)
  have hginc : ∀ i : Nat, i + 1 < got.length → got[i]! < got[i + 1]! := by
    intro i hi
    rw [getElem!_of (by omega), getElem!_of hi]
    exact List.pairwise_iff_getElem.1 hu1 i (i + 1) (by omega) hi (by omega)
  repeat (first | ((fail_if_success (with_reducible refine G.atSS 23 ?_)); (with_reducible apply G.seq)) | refine runBS ?_ | intro _ | ((with_reducible apply G.atDraw); first | refine G.draw (N := 209) (id := 26) plN6_8_26 mixed (by kernel_rfl) ?_ | refine G.draw (N := 209) (id := 32) plN6_8_32 mixed (by kernel_rfl) ?_ | refine G.draw (N := 209) (id := 33) plN6_8_33 mixed (by kernel_rfl) ?_))
  refine G.join (α := Unit) (fun _ => True) (fun _ => [(13, .slice adx x.length capx), (14, .slice ady y.length capy), (15, .slice adl ls.length capl), (19, .slice ad7 got.length cap7), (20, .int .i64 0), (22, .int .i64 0)])
    (fun _ => osl (Go.V.encI .i64) 1 tI ad7 cap7 got :: isl (Go.V.encI .i64) 1 adl ls :: isl encH 2 ady y :: isl encH 2 adx x :: L) ?_ ?_
  · repeat (first | refine runB ?_ | intro _ | ((with_reducible apply G.atDraw); first | refine G.draw (N := 209) (id := 26) plN6_8_26 mixed (by kernel_rfl) ?_ | refine G.draw (N := 209) (id := 32) plN6_8_32 mixed (by kernel_rfl) ?_ | refine G.draw (N := 209) (id := 33) plN6_8_33 mixed (by kernel_rfl) ?_))
    refine G.loop (α := Nat × Int) (fun z => z.1 ≤ got.length ∧ (z.1 < got.length → z.2 < got[z.1]!)) (fun z => [(13, .slice adx x.length capx), (14, .slice ady y.length capy), (15, .slice adl ls.length capl), (19, .slice ad7 got.length cap7), (20, .int .i64 0), (21, .int .i64 z.2), (22, .int .i64 0), (23, .int .i64 (z.1 : Int))])
      (fun _ => osl (Go.V.encI .i64) 1 tI ad7 cap7 got :: isl (Go.V.encI .i64) 1 adl ls :: isl encH 2 ady y :: isl encH 2 adx x :: L) (fun z => got.length - z.1) (0, 0) ⟨Nat.zero_le _, fun h => by have := hgpos 0 h; dsimp only; omega⟩ (by repeat (first | exact EnvSub.nil _ | refine EnvSub.cons rfl ?_)) (by repeat (first | exact Ent.refl _ | exact Ent.nil _ | refine Ent.take' ?_ | refine Ent.trans Ent.drop ?_)) ?_
    rintro ⟨i, la⟩ ⟨hi1, hi2⟩
    dsimp only at hi1 hi2 ⊢
    by_cases hlt : i < got.length
    case neg =>
      repeat (first | refine runB ?_ | intro _ | ((with_reducible apply G.atDraw); first | refine G.draw (N := 209) (id := 26) plN6_8_26 mixed (by kernel_rfl) ?_ | refine G.draw (N := 209) (id := 32) plN6_8_32 mixed (by kernel_rfl) ?_ | refine G.draw (N := 209) (id := 33) plN6_8_33 mixed (by kernel_rfl) ?_))
      exact ⟨(), trivial, (by repeat (first | exact EnvSub.nil _ | refine EnvSub.cons rfl ?_)), Ent.refl _⟩
    have hii : (i : Int).toNat = i := by omega
    have hla := hi2 hlt
    obtain ⟨hm1, hm2⟩ := hmem _ (mem_get! hlt)
    rw [← hii] at hla hm1 hm2
    repeat (first | refine runB ?_ | intro _ | ((with_reducible apply G.atDraw); first | refine G.draw (N := 209) (id := 26) plN6_8_26 mixed (by kernel_rfl) ?_ | refine G.draw (N := 209) (id := 32) plN6_8_32 mixed (by kernel_rfl) ?_ | refine G.draw (N := 209) (id := 33) plN6_8_33 mixed (by kernel_rfl) ?_))
    (first | ((with_reducible apply GO.atPlain); first | refine GO.ef (Ef.callAll (has_spec adl ls.length capl ls got[(i : Int).toNat]! rfl (by omega)) rfl) (by decide) ?_ | refine GO.ef (by exact Ef.callAll (has_spec adl ls.length capl ls got[(i : Int).toNat]! rfl (by omega)) rfl) (by decide) ?_) | ((with_reducible apply GPW.atEf); first | refine GPW.ef (Ef.callAll (has_spec adl ls.length capl ls got[(i : Int).toNat]! rfl (by omega)) rfl) (by decide) ?_ | refine GPW.ef (by exact Ef.callAll (has_spec adl ls.length capl ls got[(i : Int).toNat]! rfl (by omega)) rfl) (by decide) ?_))
    rintro _ _ ⟨rfl, rfl⟩
    rw [dB_pos hm1]
    repeat (first | refine runB ?_ | intro _ | ((with_reducible apply G.atDraw); first | refine G.draw (N := 209) (id := 26) plN6_8_26 mixed (by kernel_rfl) ?_ | refine G.draw (N := 209) (id := 32) plN6_8_32 mixed (by kernel_rfl) ?_ | refine G.draw (N := 209) (id := 33) plN6_8_33 mixed (by kernel_rfl) ?_))
    (first | ((with_reducible apply GO.atPlain); first | refine GO.ef (Ef.callAll (rfind_spec got[(i : Int).toNat]! adx x.length capx x rfl (by omega)) rfl) (by decide) ?_ | refine GO.ef (by exact Ef.callAll (rfind_spec got[(i : Int).toNat]! adx x.length capx x rfl (by omega)) rfl) (by decide) ?_) | ((with_reducible apply GPW.atEf); first | refine GPW.ef (Ef.callAll (rfind_spec got[(i : Int).toNat]! adx x.length capx x rfl (by omega)) rfl) (by decide) ?_ | refine GPW.ef (by exact Ef.callAll (rfind_spec got[(i : Int).toNat]! adx x.length capx x rfl (by omega)) rfl) (by decide) ?_))
    rintro _ _ ⟨rfl, rfl⟩
    repeat (first | refine runB ?_ | intro _ | ((with_reducible apply G.atDraw); first | refine G.draw (N := 209) (id := 26) plN6_8_26 mixed (by kernel_rfl) ?_ | refine G.draw (N := 209) (id := 32) plN6_8_32 mixed (by kernel_rfl) ?_ | refine G.draw (N := 209) (id := 33) plN6_8_33 mixed (by kernel_rfl) ?_))
    (first | ((with_reducible apply GO.atPlain); first | refine GO.ef (Ef.callAll (rfind_spec got[(i : Int).toNat]! ady y.length capy y rfl (by omega)) rfl) (by decide) ?_ | refine GO.ef (by exact Ef.callAll (rfind_spec got[(i : Int).toNat]! ady y.length capy y rfl (by omega)) rfl) (by decide) ?_) | ((with_reducible apply GPW.atEf); first | refine GPW.ef (Ef.callAll (rfind_spec got[(i : Int).toNat]! ady y.length capy y rfl (by omega)) rfl) (by decide) ?_ | refine GPW.ef (by exact Ef.callAll (rfind_spec got[(i : Int).toNat]! ady y.length capy y rfl (by omega)) rfl) (by decide) ?_))
    rintro _ _ ⟨rfl, rfl⟩
    repeat (first | refine runB ?_ | intro _ | ((with_reducible apply G.atDraw); first | refine G.draw (N := 209) (id := 26) plN6_8_26 mixed (by kernel_rfl) ?_ | refine G.draw (N := 209) (id := 32) plN6_8_32 mixed (by kernel_rfl) ?_ | refine G.draw (N := 209) (id := 33) plN6_8_33 mixed (by kernel_rfl) ?_))
    refine ⟨(i + 1, got[(i : Int).toNat]!), ⟨by dsimp only; omega, fun h => ?_⟩, by dsimp only; omega, ?_, Ent.refl _⟩
    · dsimp only at h ⊢
      rw [hii]
      exact hginc i h
    · dsimp only
      rw [show ((i + 1 : Nat) : Int) = (i : Int) + 1 by omega]
      exact (by repeat (first | exact EnvSub.nil _ | refine EnvSub.cons rfl ?_))
  rintro _ _
  repeat (first | refine runB ?_ | intro _ | ((with_reducible apply G.atDraw); first | refine G.draw (N := 209) (id := 26) plN6_8_26 mixed (by kernel_rfl) ?_ | refine G.draw (N := 209) (id := 32) plN6_8_32 mixed (by kernel_rfl) ?_ | refine G.draw (N := 209) (id := 33) plN6_8_33 mixed (by kernel_rfl) ?_))
  refine G.loop (α := Nat × List Int) (fun z => z.1 ≤ ls.length ∧ Ded (fun a => ¬ fndH x a = fndH y a) ls z.1 z.2) (fun z => [(13, .slice adx x.length capx), (14, .slice ady y.length capy), (15, .slice adl ls.length capl), (19, .slice ad7 got.length cap7), (20, .int .i64 0), (22, .int .i64 (z.2.length : Int)), (24, .int .i64 (z.1 : Int))])
    (fun _ => osl (Go.V.encI .i64) 1 tI ad7 cap7 got :: isl (Go.V.encI .i64) 1 adl ls :: isl encH 2 ady y :: isl encH 2 adx x :: L) (fun z => ls.length - z.1) (0, []) ⟨Nat.zero_le _, Ded.zero _ _⟩ (by repeat (first | exact EnvSub.nil _ | refine EnvSub.cons rfl ?_)) (by repeat (first | exact Ent.refl _ | exact Ent.nil _ | refine Ent.take' ?_ | refine Ent.trans Ent.drop ?_)) ?_
  rintro ⟨i, ded⟩ ⟨hi1, hd⟩
  dsimp only at hi1 hd ⊢
  by_cases hlt : i < ls.length
  case neg =>
    have hie : i = ls.length := by omega
    subst hie
    have hfe := hfin ded hd
    repeat (first | refine runB ?_ | intro _ | ((with_reducible apply G.atDraw); first | refine G.draw (N := 209) (id := 26) plN6_8_26 mixed (by kernel_rfl) ?_ | refine G.draw (N := 209) (id := 32) plN6_8_32 mixed (by kernel_rfl) ?_ | refine G.draw (N := 209) (id := 33) plN6_8_33 mixed (by kernel_rfl) ?_))
    (first | ((with_reducible apply GO.atPlain); first | refine GO.ef (Ef.callAll (homes_spec adx x.length capx x rfl (by omega)) rfl) (by decide) ?_ | refine GO.ef (by exact Ef.callAll (homes_spec adx x.length capx x rfl (by omega)) rfl) (by decide) ?_) | ((with_reducible apply GPW.atEf); first | refine GPW.ef (Ef.callAll (homes_spec adx x.length capx x rfl (by omega)) rfl) (by decide) ?_ | refine GPW.ef (by exact Ef.callAll (homes_spec adx x.length capx x rfl (by omega)) rfl) (by decide) ?_))
    rintro _ _ ⟨ad8, cap8, rfl, rfl⟩
    repeat (first | refine runB ?_ | intro _ | ((with_reducible apply G.atDraw); first | refine G.draw (N := 209) (id := 26) plN6_8_26 mixed (by kernel_rfl) ?_ | refine G.draw (N := 209) (id := 32) plN6_8_32 mixed (by kernel_rfl) ?_ | refine G.draw (N := 209) (id := 33) plN6_8_33 mixed (by kernel_rfl) ?_))
    (first | ((with_reducible apply GO.atPlain); first | refine GO.ef (Ef.callAll (homes_spec adx x.length capx x rfl (by omega)) rfl) (by decide) ?_ | refine GO.ef (by exact Ef.callAll (homes_spec adx x.length capx x rfl (by omega)) rfl) (by decide) ?_) | ((with_reducible apply GPW.atEf); first | refine GPW.ef (Ef.callAll (homes_spec adx x.length capx x rfl (by omega)) rfl) (by decide) ?_ | refine GPW.ef (by exact Ef.callAll (homes_spec adx x.length capx x rfl (by omega)) rfl) (by decide) ?_))
    rintro _ _ ⟨ad9, cap9, rfl, rfl⟩
    repeat (first | refine runB ?_ | intro _ | ((with_reducible apply G.atDraw); first | refine G.draw (N := 209) (id := 26) plN6_8_26 mixed (by kernel_rfl) ?_ | refine G.draw (N := 209) (id := 32) plN6_8_32 mixed (by kernel_rfl) ?_ | refine G.draw (N := 209) (id := 33) plN6_8_33 mixed (by kernel_rfl) ?_))
    (first | ((with_reducible apply GO.atPlain); first | refine GO.ef (Ef.callAll (moving_spec ad8 ad9 adl x.length cap8 x.length cap9 ls.length capl x x ls rfl rfl rfl (by omega) (by omega) (by omega)) rfl) (by decide) ?_ | refine GO.ef (by exact Ef.callAll (moving_spec ad8 ad9 adl x.length cap8 x.length cap9 ls.length capl x x ls rfl rfl rfl (by omega) (by omega) (by omega)) rfl) (by decide) ?_) | ((with_reducible apply GPW.atEf); first | refine GPW.ef (Ef.callAll (moving_spec ad8 ad9 adl x.length cap8 x.length cap9 ls.length capl x x ls rfl rfl rfl (by omega) (by omega) (by omega)) rfl) (by decide) ?_ | refine GPW.ef (by exact Ef.callAll (moving_spec ad8 ad9 adl x.length cap8 x.length cap9 ls.length capl x x ls rfl rfl rfl (by omega) (by omega) (by omega)) rfl) (by decide) ?_))
    rintro _ _ (⟨hbd, rfl, rfl⟩ | ⟨_, ad10, cap10, rfl, rfl⟩)
    · exact absurd ⟨hgd.1, hgd.1, hgd.2.2⟩ hbd
    have hnil : uniqM (mvL x x ls) = [] := by
      have : mvL x x ls = [] := by simp [mvL]
      have h := (uniqM_facts (mvL x x ls)).2.2
      rw [this] at h ⊢
      exact List.eq_nil_of_length_eq_zero (by simpa using h)
    have hnl : (uniqM (mvL x x ls)).length = 0 := by rw [hnil]; rfl
    repeat (first | refine runB ?_ | intro _ | ((with_reducible apply G.atDraw); first | refine G.draw (N := 209) (id := 26) plN6_8_26 mixed (by kernel_rfl) ?_ | refine G.draw (N := 209) (id := 32) plN6_8_32 mixed (by kernel_rfl) ?_ | refine G.draw (N := 209) (id := 33) plN6_8_33 mixed (by kernel_rfl) ?_))
    (first | ((with_reducible apply GO.atPlain); first | refine GO.ef (Ef.callAll (lives_spec) rfl) (by decide) ?_ | refine GO.ef (by exact Ef.callAll (lives_spec) rfl) (by decide) ?_) | ((with_reducible apply GPW.atEf); first | refine GPW.ef (Ef.callAll (lives_spec) rfl) (by decide) ?_ | refine GPW.ef (by exact Ef.callAll (lives_spec) rfl) (by decide) ?_))
    rintro _ _ ⟨rfl, rfl⟩
    repeat (first | refine runB ?_ | intro _ | ((with_reducible apply G.atDraw); first | refine G.draw (N := 209) (id := 26) plN6_8_26 mixed (by kernel_rfl) ?_ | refine G.draw (N := 209) (id := 32) plN6_8_32 mixed (by kernel_rfl) ?_ | refine G.draw (N := 209) (id := 33) plN6_8_33 mixed (by kernel_rfl) ?_))
    exact KX.ends (by first | exact ResOk.tmps rfl | (repeat (first | exact ResOk.nil | apply ResOk.tmp rfl | apply ResOk.cell rfl (by rfl) | apply ResOk.cell1 rfl))) (by repeat (first | exact Ent.refl _ | exact Ent.nil _ | refine Ent.take' ?_ | refine Ent.trans Ent.drop ?_)) ⟨rfl, rfl⟩
  have hii : (i : Int).toNat = i := by omega
  have hdl := hd.len
  repeat (first | refine runB ?_ | intro _ | ((with_reducible apply G.atDraw); first | refine G.draw (N := 209) (id := 26) plN6_8_26 mixed (by kernel_rfl) ?_ | refine G.draw (N := 209) (id := 32) plN6_8_32 mixed (by kernel_rfl) ?_ | refine G.draw (N := 209) (id := 33) plN6_8_33 mixed (by kernel_rfl) ?_))
  (first | ((with_reducible apply GO.atPlain); first | refine GO.ef (Ef.callAll (has_spec (hr := Rds.take inferInstance i) adl (i : Int).toNat capl (ls.take i) ls[(i : Int).toNat]! (by simp; omega) (by simp; omega)) rfl) (by decide) ?_ | refine GO.ef (by exact Ef.callAll (has_spec (hr := Rds.take inferInstance i) adl (i : Int).toNat capl (ls.take i) ls[(i : Int).toNat]! (by simp; omega) (by simp; omega)) rfl) (by decide) ?_) | ((with_reducible apply GPW.atEf); first | refine GPW.ef (Ef.callAll (has_spec (hr := Rds.take inferInstance i) adl (i : Int).toNat capl (ls.take i) ls[(i : Int).toNat]! (by simp; omega) (by simp; omega)) rfl) (by decide) ?_ | refine GPW.ef (by exact Ef.callAll (has_spec (hr := Rds.take inferInstance i) adl (i : Int).toNat capl (ls.take i) ls[(i : Int).toNat]! (by simp; omega) (by simp; omega)) rfl) (by decide) ?_))
  rintro _ _ ⟨rfl, rfl⟩
  rw [hii]
  by_cases hm : ls[i]! ∈ ls.take i
  case pos =>
    rw [dB_pos hm]
    repeat (first | refine runB ?_ | intro _ | ((with_reducible apply G.atDraw); first | refine G.draw (N := 209) (id := 26) plN6_8_26 mixed (by kernel_rfl) ?_ | refine G.draw (N := 209) (id := 32) plN6_8_32 mixed (by kernel_rfl) ?_ | refine G.draw (N := 209) (id := 33) plN6_8_33 mixed (by kernel_rfl) ?_))
    refine ⟨(i + 1, ded), ⟨by dsimp only; omega, hd.skip hlt (.inl hm)⟩, by dsimp only; omega, ?_, Ent.refl _⟩
    dsimp only
    rw [show ((i + 1 : Nat) : Int) = (i : Int) + 1 by omega]
    exact (by repeat (first | exact EnvSub.nil _ | refine EnvSub.cons rfl ?_))
  rw [dB_neg hm]
  repeat (first | refine runB ?_ | intro _ | ((with_reducible apply G.atDraw); first | refine G.draw (N := 209) (id := 26) plN6_8_26 mixed (by kernel_rfl) ?_ | refine G.draw (N := 209) (id := 32) plN6_8_32 mixed (by kernel_rfl) ?_ | refine G.draw (N := 209) (id := 33) plN6_8_33 mixed (by kernel_rfl) ?_))
  (first | ((with_reducible apply GO.atPlain); first | refine GO.ef (Ef.callAll (rfind_spec ls[(i : Int).toNat]! adx x.length capx x rfl (by omega)) rfl) (by decide) ?_ | refine GO.ef (by exact Ef.callAll (rfind_spec ls[(i : Int).toNat]! adx x.length capx x rfl (by omega)) rfl) (by decide) ?_) | ((with_reducible apply GPW.atEf); first | refine GPW.ef (Ef.callAll (rfind_spec ls[(i : Int).toNat]! adx x.length capx x rfl (by omega)) rfl) (by decide) ?_ | refine GPW.ef (by exact Ef.callAll (rfind_spec ls[(i : Int).toNat]! adx x.length capx x rfl (by omega)) rfl) (by decide) ?_))
  rintro _ _ ⟨rfl, rfl⟩
  repeat (first | refine runB ?_ | intro _ | ((with_reducible apply G.atDraw); first | refine G.draw (N := 209) (id := 26) plN6_8_26 mixed (by kernel_rfl) ?_ | refine G.draw (N := 209) (id := 32) plN6_8_32 mixed (by kernel_rfl) ?_ | refine G.draw (N := 209) (id := 33) plN6_8_33 mixed (by kernel_rfl) ?_))
  (first | ((with_reducible apply GO.atPlain); first | refine GO.ef (Ef.callAll (rfind_spec ls[(i : Int).toNat]! ady y.length capy y rfl (by omega)) rfl) (by decide) ?_ | refine GO.ef (by exact Ef.callAll (rfind_spec ls[(i : Int).toNat]! ady y.length capy y rfl (by omega)) rfl) (by decide) ?_) | ((with_reducible apply GPW.atEf); first | refine GPW.ef (Ef.callAll (rfind_spec ls[(i : Int).toNat]! ady y.length capy y rfl (by omega)) rfl) (by decide) ?_ | refine GPW.ef (by exact Ef.callAll (rfind_spec ls[(i : Int).toNat]! ady y.length capy y rfl (by omega)) rfl) (by decide) ?_))
  rintro _ _ ⟨rfl, rfl⟩
  rw [hii]
  by_cases hf : fndH x ls[i]! = fndH y ls[i]!
  · repeat (first | refine runB ?_ | intro _ | ((with_reducible apply G.atDraw); first | refine G.draw (N := 209) (id := 26) plN6_8_26 mixed (by kernel_rfl) ?_ | refine G.draw (N := 209) (id := 32) plN6_8_32 mixed (by kernel_rfl) ?_ | refine G.draw (N := 209) (id := 33) plN6_8_33 mixed (by kernel_rfl) ?_))
    refine ⟨(i + 1, ded), ⟨by dsimp only; omega, hd.skip hlt (.inr (fun e => e hf))⟩, by dsimp only; omega, ?_, Ent.refl _⟩
    dsimp only
    rw [show ((i + 1 : Nat) : Int) = (i : Int) + 1 by omega]
    exact (by repeat (first | exact EnvSub.nil _ | refine EnvSub.cons rfl ?_))
  · repeat (first | refine runB ?_ | intro _ | ((with_reducible apply G.atDraw); first | refine G.draw (N := 209) (id := 26) plN6_8_26 mixed (by kernel_rfl) ?_ | refine G.draw (N := 209) (id := 32) plN6_8_32 mixed (by kernel_rfl) ?_ | refine G.draw (N := 209) (id := 33) plN6_8_33 mixed (by kernel_rfl) ?_))
    refine ⟨(i + 1, ded ++ [ls[i]!]), ⟨by dsimp only; omega, hd.add hlt hm hf⟩, by dsimp only; omega, ?_, Ent.refl _⟩
    dsimp only
    rw [show ((i + 1 : Nat) : Int) = (i : Int) + 1 by omega, show (((ded ++ [ls[i]!]).length : Nat) : Int) = (ded.length : Int) + 1 by simp]
    exact (by repeat (first | exact EnvSub.nil _ | refine EnvSub.cons rfl ?_))
end Go.Proofs.YtclgjkeeaopppaaGreatDoor
