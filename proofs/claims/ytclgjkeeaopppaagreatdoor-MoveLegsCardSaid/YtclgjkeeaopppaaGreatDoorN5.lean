/- The law MoveLegs: Legs returns a leg with everything that the account has, or the specified error. -/
import Derived.Test.YtclgjkeeaopppaaGreatDoorN4
import Derived.Test.YtclgjkeeaopppaaGreatDoorN1
import Derived.Test.YtclgjkeeaopppaaGreatDoorV21
namespace Go.Proofs.YtclgjkeeaopppaaGreatDoor
open Go.V
attribute [local irreducible] G GO GP GPW GPK Ev Ef EfR Ent CB GB Enters
abbrev tA2 : Nat := 38
abbrev plN5_6_14 : List Stp := [.ev 0, .ev 1, .ev 2, .ev 3, .ev 4, .ev 5, .ev 6, .ev 7, .ef 8, .ev 9, .ev 10, .ev 11, .ev 12, .ev 13]
abbrev plN5_6_28 : List Stp := [.ev 0, .ev 1, .ev 2, .ev 3, .ev 4, .ev 5, .ev 6, .ev 7, .ev 8, .ev 9, .ev 10, .ev 11, .ev 12, .ev 13, .ev 14, .ev 15, .ev 16, .ev 17, .ev 18, .ev 19, .ev 20, .ev 21, .ev 22, .ev 23, .ev 24, .ev 25, .ev 26, .ev 27, .ev 28, .ev 29, .ev 30, .ev 31, .ev 32, .ev 33, .ev 34, .ev 35, .ev 36, .ev 37, .ev 38, .ev 39, .ev 40, .ev 41, .ev 42, .ev 43, .ev 44, .ev 45, .ev 46, .ev 47, .ev 48, .ev 49, .ev 50]
abbrev plN5_6_33 : List Stp := [.ev 0, .ev 1, .ev 2, .ev 3, .ev 4, .ev 5, .ev 6, .ev 7, .ev 8, .ev 9, .ev 10, .ev 11]
set_option maxHeartbeats 2000000 in
theorem moveLegs_spec {L : List HP} [hk : KR L] (ad : Option Addr) (len cap : Nat) (xs : List Int) [Rds L ad Int (encI .i64) 1 xs] (hlen : len = xs.length) (hmx0 : len ≤ 9223372036854775807) (hxb : ∀ x ∈ xs, I64 x) (sh : Int) (hsh : I64 sh) (acc : Int) (hacc : I64 acc) (to : Int) (hto : I64 to) :
    Tri Tryz.prog 6 #[.slice ad len cap, .int .i64 sh, .int .i64 acc, .int .i64 to] L (fun v L' => v = .bool true ∧ L' = L) := by
  have hmx : maxAcc = 1073741824 := rfl
  refine Tri.body (args := [.slice ad len cap, .int .i64 sh, .int .i64 acc, .int .i64 to]) 209 en6 Tryz.func6 rfl rfl rfl (by simp) ?_
  repeat (first | refine runB ?_ | intro _ | ((with_reducible apply G.atDraw); first | refine G.draw (N := 209) (id := 14) plN5_6_14 mixed (by kernel_rfl) ?_ | refine G.draw (N := 209) (id := 28) plN5_6_28 mixed (by kernel_rfl) ?_ | refine G.draw (N := 209) (id := 33) plN5_6_33 mixed (by kernel_rfl) ?_))
  (first | ((with_reducible apply GO.atPlain); first | refine GO.ef (Ef.callAll (ledgers1_spec ad len cap xs hlen hmx0 hxb) rfl) (by decide) ?_ | refine GO.ef (by exact Ef.callAll (ledgers1_spec ad len cap xs hlen hmx0 hxb) rfl) (by decide) ?_) | ((with_reducible apply GPW.atEf); first | refine GPW.ef (Ef.callAll (ledgers1_spec ad len cap xs hlen hmx0 hxb) rfl) (by decide) ?_ | refine GPW.ef (by exact Ef.callAll (ledgers1_spec ad len cap xs hlen hmx0 hxb) rfl) (by decide) ?_))
  rintro _ _ ⟨lad, lcap, bl, S, ng, rfl, ⟨hg, hng⟩, rfl⟩
  have hS := hg.ok (by omega)
  have hits : S.its.length = 4 := by rw [hg.its]; rfl
  have hbll : ([bl] : List Nat).length = 1 := rfl
  refine GO.ent (L' := osl encP 1 tPL lad lcap [bl] :: LedR ([bl] : List Nat)[(0 : Int).toNat]! S :: L) (Ent.refl _) ?_
  repeat (first | refine runB ?_ | intro _ | ((with_reducible apply G.atDraw); first | refine G.draw (N := 209) (id := 14) plN5_6_14 mixed (by kernel_rfl) ?_ | refine G.draw (N := 209) (id := 28) plN5_6_28 mixed (by kernel_rfl) ?_ | refine G.draw (N := 209) (id := 33) plN5_6_33 mixed (by kernel_rfl) ?_))
  (first | ((with_reducible apply GO.atPlain); first | refine GO.ef (Ef.callAll (around_spec acc 14 hacc (by decide) (by decide)) rfl) (by decide) ?_ | refine GO.ef (by exact Ef.callAll (around_spec acc 14 hacc (by decide) (by decide)) rfl) (by decide) ?_) | ((with_reducible apply GPW.atEf); first | refine GPW.ef (Ef.callAll (around_spec acc 14 hacc (by decide) (by decide)) rfl) (by decide) ?_ | refine GPW.ef (by exact Ef.callAll (around_spec acc 14 hacc (by decide) (by decide)) rfl) (by decide) ?_))
  rintro _ _ ⟨rfl, rfl⟩
  repeat (first | refine runB ?_ | intro _ | ((with_reducible apply G.atDraw); first | refine G.draw (N := 209) (id := 14) plN5_6_14 mixed (by kernel_rfl) ?_ | refine G.draw (N := 209) (id := 28) plN5_6_28 mixed (by kernel_rfl) ?_ | refine G.draw (N := 209) (id := 33) plN5_6_33 mixed (by kernel_rfl) ?_))
  (first | ((with_reducible apply GO.atPlain); first | refine GO.ev (Ev.buildI2 rfl rfl) (by decide) ?_ | refine GO.ev (by exact Ev.buildI2 rfl rfl) (by decide) ?_) | ((with_reducible apply GPW.atEv); first | refine GPW.evP (Ev.buildI2 rfl rfl) (by decide) ?_ | refine GPW.evP (by exact Ev.buildI2 rfl rfl) (by decide) ?_) | ((with_reducible apply GPW.atEv); first | refine GPW.evL (Ev.buildI2 rfl rfl) (by decide) ?_ | refine GPW.evL (by exact Ev.buildI2 rfl rfl) (by decide) ?_))
  repeat (first | refine runB ?_ | intro _ | ((with_reducible apply G.atDraw); first | refine G.draw (N := 209) (id := 14) plN5_6_14 mixed (by kernel_rfl) ?_ | refine G.draw (N := 209) (id := 28) plN5_6_28 mixed (by kernel_rfl) ?_ | refine G.draw (N := 209) (id := 33) plN5_6_33 mixed (by kernel_rfl) ?_))
  (first | ((with_reducible apply GO.atPlain); first | refine GO.ef (Ef.callAll (around_spec sh 13 hsh (by decide) (by decide)) rfl) (by decide) ?_ | refine GO.ef (by exact Ef.callAll (around_spec sh 13 hsh (by decide) (by decide)) rfl) (by decide) ?_) | ((with_reducible apply GPW.atEf); first | refine GPW.ef (Ef.callAll (around_spec sh 13 hsh (by decide) (by decide)) rfl) (by decide) ?_ | refine GPW.ef (by exact Ef.callAll (around_spec sh 13 hsh (by decide) (by decide)) rfl) (by decide) ?_))
  rintro _ _ ⟨rfl, rfl⟩
  repeat (first | refine runB ?_ | intro _ | ((with_reducible apply G.atDraw); first | refine G.draw (N := 209) (id := 14) plN5_6_14 mixed (by kernel_rfl) ?_ | refine G.draw (N := 209) (id := 28) plN5_6_28 mixed (by kernel_rfl) ?_ | refine G.draw (N := 209) (id := 33) plN5_6_33 mixed (by kernel_rfl) ?_))
  (first | ((with_reducible apply GO.atPlain); first | refine GO.ef (Ef.callAll (around_spec to 13 hto (by decide) (by decide)) rfl) (by decide) ?_ | refine GO.ef (by exact Ef.callAll (around_spec to 13 hto (by decide) (by decide)) rfl) (by decide) ?_) | ((with_reducible apply GPW.atEf); first | refine GPW.ef (Ef.callAll (around_spec to 13 hto (by decide) (by decide)) rfl) (by decide) ?_ | refine GPW.ef (by exact Ef.callAll (around_spec to 13 hto (by decide) (by decide)) rfl) (by decide) ?_))
  rintro _ _ ⟨rfl, rfl⟩
  repeat (first | refine runB ?_ | intro _ | ((with_reducible apply G.atDraw); first | refine G.draw (N := 209) (id := 14) plN5_6_14 mixed (by kernel_rfl) ?_ | refine G.draw (N := 209) (id := 28) plN5_6_28 mixed (by kernel_rfl) ?_ | refine G.draw (N := 209) (id := 33) plN5_6_33 mixed (by kernel_rfl) ?_))
  (first | ((with_reducible apply GO.atPlain); first | refine GO.ev (Ev.buildI2 rfl rfl) (by decide) ?_ | refine GO.ev (by exact Ev.buildI2 rfl rfl) (by decide) ?_) | ((with_reducible apply GPW.atEv); first | refine GPW.evP (Ev.buildI2 rfl rfl) (by decide) ?_ | refine GPW.evP (by exact Ev.buildI2 rfl rfl) (by decide) ?_) | ((with_reducible apply GPW.atEv); first | refine GPW.evL (Ev.buildI2 rfl rfl) (by decide) ?_ | refine GPW.evL (by exact Ev.buildI2 rfl rfl) (by decide) ?_))
  repeat (first | refine runB ?_ | intro _ | ((with_reducible apply G.atDraw); first | refine G.draw (N := 209) (id := 14) plN5_6_14 mixed (by kernel_rfl) ?_ | refine G.draw (N := 209) (id := 28) plN5_6_28 mixed (by kernel_rfl) ?_ | refine G.draw (N := 209) (id := 33) plN5_6_33 mixed (by kernel_rfl) ?_))
  rename_i ba bp
  obtain ⟨acl, has⟩ : ∃ acl : List Int, acl = [acc, around acc 14] := ⟨_, rfl⟩
  obtain ⟨ps, hps⟩ : ∃ ps : List Hm, ps = [(sh, to), (around sh 13, around to 13)] := ⟨_, rfl⟩
  have hal : acl.length = 2 := by rw [has]; rfl
  have hpl : ps.length = 2 := by rw [hps]; rfl
  refine G.loop (α := Nat) (fun i => i ≤ 2) (fun i => [(9, .slice lad 1 lcap), (11, .slice (some ⟨ba, 0, none⟩) 2 2), (12, .slice (some ⟨bp, 0, none⟩) 2 2), (13, .int .i64 (i : Int))]) (fun _ => isl encH 2 (some ⟨bp, 0, none⟩) ps :: isl (encI .i64) 1 (some ⟨ba, 0, none⟩) acl :: osl encP 1 tPL lad lcap [bl] :: LedR ([bl] : List Nat)[(0 : Int).toNat]! S :: L) (fun i => 2 - i) 0 (by decide) (by repeat (first | exact EnvSub.nil _ | refine EnvSub.cons rfl ?_)) ?_ ?_
  · refine (Ent.objSl (enc := encH) (sz := 2) (xs := ps) (by rw [hps]; rfl) hpl (by intro y _; rfl) (by decide)).trans ?_
    refine (Ent.frz (some ⟨bp, 0, none⟩)).trans (Ent.consR ?_)
    refine (Ent.objSl (enc := encI .i64) (sz := 1) (xs := acl) (by rw [has]; rfl) hal (by intro y _; rfl) (by decide)).trans ?_
    exact Ent.frz (some ⟨ba, 0, none⟩)
  clear has hps
  intro i hi
  by_cases hlt : i < 2
  case neg =>
    repeat (first | refine runB ?_ | intro _ | ((with_reducible apply G.atDraw); first | refine G.draw (N := 209) (id := 14) plN5_6_14 mixed (by kernel_rfl) ?_ | refine G.draw (N := 209) (id := 28) plN5_6_28 mixed (by kernel_rfl) ?_ | refine G.draw (N := 209) (id := 33) plN5_6_33 mixed (by kernel_rfl) ?_))
    (first | ((with_reducible apply GO.atPlain); first | refine GO.ef (Ef.callAll (lives_spec) rfl) (by decide) ?_ | refine GO.ef (by exact Ef.callAll (lives_spec) rfl) (by decide) ?_) | ((with_reducible apply GPW.atEf); first | refine GPW.ef (Ef.callAll (lives_spec) rfl) (by decide) ?_ | refine GPW.ef (by exact Ef.callAll (lives_spec) rfl) (by decide) ?_))
    rintro _ _ ⟨rfl, rfl⟩
    repeat (first | refine runB ?_ | intro _ | ((with_reducible apply G.atDraw); first | refine G.draw (N := 209) (id := 14) plN5_6_14 mixed (by kernel_rfl) ?_ | refine G.draw (N := 209) (id := 28) plN5_6_28 mixed (by kernel_rfl) ?_ | refine G.draw (N := 209) (id := 33) plN5_6_33 mixed (by kernel_rfl) ?_))
    exact KX.ends (by first | exact ResOk.tmps rfl | (repeat (first | exact ResOk.nil | apply ResOk.tmp rfl | apply ResOk.cell rfl (by rfl) | apply ResOk.cell1 rfl))) (by repeat (first | exact Ent.refl _ | exact Ent.nil _ | refine Ent.take' ?_ | refine Ent.trans Ent.drop ?_)) ⟨rfl, rfl⟩
  repeat (first | refine runB ?_ | intro _ | ((with_reducible apply G.atDraw); first | refine G.draw (N := 209) (id := 14) plN5_6_14 mixed (by kernel_rfl) ?_ | refine G.draw (N := 209) (id := 28) plN5_6_28 mixed (by kernel_rfl) ?_ | refine G.draw (N := 209) (id := 33) plN5_6_33 mixed (by kernel_rfl) ?_))
  refine G.loop (α := Nat) (fun k => k ≤ 2) (fun k => [(9, .slice lad 1 lcap), (11, .slice (some ⟨ba, 0, none⟩) 2 2), (12, .slice (some ⟨bp, 0, none⟩) 2 2), (13, .int .i64 (i : Int)), (14, .int .i64 (k : Int))]) (fun _ => isl encH 2 (some ⟨bp, 0, none⟩) ps :: isl (encI .i64) 1 (some ⟨ba, 0, none⟩) acl :: osl encP 1 tPL lad lcap [bl] :: LedR ([bl] : List Nat)[(0 : Int).toNat]! S :: L) (fun k => 2 - k) 0 (by decide) (by repeat (first | exact EnvSub.nil _ | refine EnvSub.cons rfl ?_)) (Ent.refl _) ?_
  intro k hk2
  by_cases hkl : k < 2
  case neg =>
    repeat (first | refine runB ?_ | intro _ | ((with_reducible apply G.atDraw); first | refine G.draw (N := 209) (id := 14) plN5_6_14 mixed (by kernel_rfl) ?_ | refine G.draw (N := 209) (id := 28) plN5_6_28 mixed (by kernel_rfl) ?_ | refine G.draw (N := 209) (id := 33) plN5_6_33 mixed (by kernel_rfl) ?_))
    refine ⟨i + 1, by omega, by omega, ?_, Ent.refl _⟩
    rw [show ((i + 1 : Nat) : Int) = (i : Int) + 1 by omega]
    exact (by repeat (first | exact EnvSub.nil _ | refine EnvSub.cons rfl ?_))
  repeat (first | refine runB ?_ | intro _ | ((with_reducible apply G.atDraw); first | refine G.draw (N := 209) (id := 14) plN5_6_14 mixed (by kernel_rfl) ?_ | refine G.draw (N := 209) (id := 28) plN5_6_28 mixed (by kernel_rfl) ?_ | refine G.draw (N := 209) (id := 33) plN5_6_33 mixed (by kernel_rfl) ?_))
  rename_i bs
  refine GPW.ent (Ent.at (A := LedR ([bl] : List Nat)[(0 : Int).toNat]! S) (Ent.refl _)) ?_
  (first | ((with_reducible apply GO.atPlain); first | refine GO.ef (Ef.callAll (legs_spec ([bl] : List Nat)[(0 : Int).toNat]! S hS (by omega) ps[(k : Int).toNat]!.1 acl[(i : Int).toNat]! ps[(k : Int).toNat]!.2) rfl) (by decide) ?_ | refine GO.ef (by exact Ef.callAll (legs_spec ([bl] : List Nat)[(0 : Int).toNat]! S hS (by omega) ps[(k : Int).toNat]!.1 acl[(i : Int).toNat]! ps[(k : Int).toNat]!.2) rfl) (by decide) ?_) | ((with_reducible apply GPW.atEf); first | refine GPW.ef (Ef.callAll (legs_spec ([bl] : List Nat)[(0 : Int).toNat]! S hS (by omega) ps[(k : Int).toNat]!.1 acl[(i : Int).toNat]! ps[(k : Int).toNat]!.2) rfl) (by decide) ?_ | refine GPW.ef (by exact Ef.callAll (legs_spec ([bl] : List Nat)[(0 : Int).toNat]! S hS (by omega) ps[(k : Int).toNat]!.1 acl[(i : Int).toNat]! ps[(k : Int).toNat]!.2) rfl) (by decide) ?_))
  rintro _ _ (⟨hbad, rfl, rfl⟩ | ⟨hngd, hem, rfl, rfl⟩ | ⟨hngd, hem, ad', l, rfl, ⟨e1, e2, e3, e4, e5⟩, rfl⟩)
  · unfold legsBad at hbad
    repeat' (first | refine runB ?_ | intro _ | ((with_reducible apply G.atDraw); first | refine G.draw (N := 209) (id := 14) plN5_6_14 mixed (by kernel_rfl) ?_ | refine G.draw (N := 209) (id := 28) plN5_6_28 mixed (by kernel_rfl) ?_ | refine G.draw (N := 209) (id := 33) plN5_6_33 mixed (by kernel_rfl) ?_) | with_reducible refine CB.dec (fun _ => ?_) (fun _ => ?_) | with_reducible refine GB.dec (fun _ => ?_) (fun _ => ?_) | with_reducible refine CB.bool (fun _ => ?_) (fun _ => ?_) | with_reducible refine GB.bool (fun _ => ?_) (fun _ => ?_))
    all_goals first
      | (exfalso; exact hbad ⟨⟨by omega, by omega⟩, ⟨by omega, by omega⟩, ⟨by omega, by omega⟩, by omega⟩)
      | (refine ⟨k + 1, by omega, by omega, ?_, by repeat (first | exact Ent.refl _ | exact Ent.nil _ | refine Ent.take' ?_ | refine Ent.trans Ent.drop ?_)⟩; rw [show ((k + 1 : Nat) : Int) = (k : Int) + 1 by omega]; exact (by repeat (first | exact EnvSub.nil _ | refine EnvSub.cons rfl ?_)))
  all_goals
    have hgd : (1 ≤ acl[(i : Int).toNat]! ∧ acl[(i : Int).toNat]! ≤ maxAcc) ∧ (0 ≤ ps[(k : Int).toNat]!.1 ∧ ps[(k : Int).toNat]!.1 < 12) ∧ (0 ≤ ps[(k : Int).toNat]!.2 ∧ ps[(k : Int).toNat]!.2 < 12) ∧ ps[(k : Int).toNat]!.1 ≠ ps[(k : Int).toNat]!.2 := Decidable.of_not_not hngd
    obtain ⟨⟨g1, g2⟩, ⟨g3, g4⟩, ⟨g5, g6⟩, g7⟩ := hgd
    rw [hits] at hem
    (try rw [hits] at e5)
  · repeat (first | refine runB ?_ | intro _ | ((with_reducible apply G.atDraw); first | refine G.draw (N := 209) (id := 14) plN5_6_14 mixed (by kernel_rfl) ?_ | refine G.draw (N := 209) (id := 28) plN5_6_28 mixed (by kernel_rfl) ?_ | refine G.draw (N := 209) (id := 33) plN5_6_33 mixed (by kernel_rfl) ?_))
    refine G.loop (α := Nat × Option Addr × Nat × List (Int × Int)) (fun z => z.1 ≤ 4 ∧ z.2.2.2 = S.ams acl[(i : Int).toNat]! z.1) (fun z => [(9, .slice lad 1 lcap), (11, .slice (some ⟨ba, 0, none⟩) 2 2), (12, .slice (some ⟨bp, 0, none⟩) 2 2), (13, .int .i64 (i : Int)), (14, .int .i64 (k : Int)), (15, .int .i64 acl[(i : Int).toNat]!), (16, .pointer (some ⟨bs, 0, none⟩)), (17, .slice none 0 0), (18, .int .i64 7), (19, .slice z.2.1 z.2.2.2.length z.2.2.1), (20, .int .i64 (z.1 : Int))])
      (fun z => osl encAm 2 tAm z.2.1 z.2.2.1 z.2.2.2 :: LedR ([bl] : List Nat)[(0 : Int).toNat]! S :: obj bs tA2 [.int .i64 ps[(k : Int).toNat]!.1, .int .i64 ps[(k : Int).toNat]!.2] :: isl encH 2 (some ⟨bp, 0, none⟩) ps :: isl (encI .i64) 1 (some ⟨ba, 0, none⟩) acl :: osl encP 1 tPL lad lcap [bl] :: L) (fun z => 4 - z.1) (0, none, 0, []) ⟨by decide, rfl⟩ (by repeat (first | exact EnvSub.nil _ | refine EnvSub.cons rfl ?_)) (Ent.nilSl encAm 2 tAm) ?_
    rintro ⟨it, wad, wcap, out⟩ ⟨hi4, ho⟩
    dsimp only at hi4 ho ⊢
    have hol := S.ams_len acl[(i : Int).toNat]! it
    by_cases hil : it < 4
    case pos =>
      have hbl := hS.bal acl[(i : Int).toNat]! (it : Int)
      have hams : S.ams acl[(i : Int).toNat]! (it + 1) = S.ams acl[(i : Int).toNat]! it ++ (if 0 < S.bal acl[(i : Int).toNat]! it then [((it : Int), S.bal acl[(i : Int).toNat]! it)] else []) := rfl
      repeat (first | refine runB ?_ | intro _ | ((with_reducible apply G.atDraw); first | refine G.draw (N := 209) (id := 14) plN5_6_14 mixed (by kernel_rfl) ?_ | refine G.draw (N := 209) (id := 28) plN5_6_28 mixed (by kernel_rfl) ?_ | refine G.draw (N := 209) (id := 33) plN5_6_33 mixed (by kernel_rfl) ?_))
      refine GO.ent (Ent.at (A := LedR ([bl] : List Nat)[(0 : Int).toNat]! S) (Ent.refl _)) ?_
      (first | ((with_reducible apply GO.atPlain); first | refine GO.ef (Ef.callAll (balance_spec ([bl] : List Nat)[(0 : Int).toNat]! S hS acl[(i : Int).toNat]! (it : Int)) rfl) (by decide) ?_ | refine GO.ef (by exact Ef.callAll (balance_spec ([bl] : List Nat)[(0 : Int).toNat]! S hS acl[(i : Int).toNat]! (it : Int)) rfl) (by decide) ?_) | ((with_reducible apply GPW.atEf); first | refine GPW.ef (Ef.callAll (balance_spec ([bl] : List Nat)[(0 : Int).toNat]! S hS acl[(i : Int).toNat]! (it : Int)) rfl) (by decide) ?_ | refine GPW.ef (by exact Ef.callAll (balance_spec ([bl] : List Nat)[(0 : Int).toNat]! S hS acl[(i : Int).toNat]! (it : Int)) rfl) (by decide) ?_))
      rintro _ _ ⟨rfl, rfl⟩
      by_cases hp : 0 < S.bal acl[(i : Int).toNat]! (it : Int)
      · rw [if_pos hp] at hams
        repeat (first | refine runB ?_ | intro _ | ((with_reducible apply G.atDraw); first | refine G.draw (N := 209) (id := 14) plN5_6_14 mixed (by kernel_rfl) ?_ | refine G.draw (N := 209) (id := 28) plN5_6_28 mixed (by kernel_rfl) ?_ | refine G.draw (N := 209) (id := 33) plN5_6_33 mixed (by kernel_rfl) ?_))
        (first | ((with_reducible apply GO.atPlain); first | refine GO.ef (Ef.append1 (enc := encAm) (e := (((it : Int), S.bal acl[(i : Int).toNat]! it) : Int × Int)) rfl rfl rfl rfl rfl (by rfl) (encAm_one _) (by rw [ho]; omega) (by rw [ho]; omega)) (by decide) ?_ | refine GO.ef (by exact Ef.append1 (enc := encAm) (e := (((it : Int), S.bal acl[(i : Int).toNat]! it) : Int × Int)) rfl rfl rfl rfl rfl (by rfl) (encAm_one _) (by rw [ho]; omega) (by rw [ho]; omega)) (by decide) ?_) | ((with_reducible apply GPW.atEf); first | refine GPW.ef (Ef.append1 (enc := encAm) (e := (((it : Int), S.bal acl[(i : Int).toNat]! it) : Int × Int)) rfl rfl rfl rfl rfl (by rfl) (encAm_one _) (by rw [ho]; omega) (by rw [ho]; omega)) (by decide) ?_ | refine GPW.ef (by exact Ef.append1 (enc := encAm) (e := (((it : Int), S.bal acl[(i : Int).toNat]! it) : Int × Int)) rfl rfl rfl rfl rfl (by rfl) (encAm_one _) (by rw [ho]; omega) (by rw [ho]; omega)) (by decide) ?_) | ((with_reducible apply GO.atUnit); first | refine GO.efu (Ef.append1 (enc := encAm) (e := (((it : Int), S.bal acl[(i : Int).toNat]! it) : Int × Int)) rfl rfl rfl rfl rfl (by rfl) (encAm_one _) (by rw [ho]; omega) (by rw [ho]; omega)) ?_ | refine GO.efu (by exact Ef.append1 (enc := encAm) (e := (((it : Int), S.bal acl[(i : Int).toNat]! it) : Int × Int)) rfl rfl rfl rfl rfl (by rfl) (encAm_one _) (by rw [ho]; omega) (by rw [ho]; omega)) ?_) | ((with_reducible apply GPW.atEfu); first | refine GPW.efu (Ef.append1 (enc := encAm) (e := (((it : Int), S.bal acl[(i : Int).toNat]! it) : Int × Int)) rfl rfl rfl rfl rfl (by rfl) (encAm_one _) (by rw [ho]; omega) (by rw [ho]; omega)) ?_ | refine GPW.efu (by exact Ef.append1 (enc := encAm) (e := (((it : Int), S.bal acl[(i : Int).toNat]! it) : Int × Int)) rfl rfl rfl rfl rfl (by rfl) (encAm_one _) (by rw [ho]; omega) (by rw [ho]; omega)) ?_))
        rintro _ _ ⟨wad2, wcap2, rfl, rfl⟩
        repeat (first | refine runB ?_ | intro _ | ((with_reducible apply G.atDraw); first | refine G.draw (N := 209) (id := 14) plN5_6_14 mixed (by kernel_rfl) ?_ | refine G.draw (N := 209) (id := 28) plN5_6_28 mixed (by kernel_rfl) ?_ | refine G.draw (N := 209) (id := 33) plN5_6_33 mixed (by kernel_rfl) ?_))
        refine ⟨(it + 1, wad2, wcap2, out ++ [((it : Int), S.bal acl[(i : Int).toNat]! it)]), ⟨by dsimp only; omega, ?_⟩, by dsimp only; omega, ?_, ?_⟩
        · dsimp only; rw [hams, ho]
        · dsimp only
          rw [show ((it + 1 : Nat) : Int) = (it : Int) + 1 by omega]
          exact (by repeat (first | exact EnvSub.nil _ | refine EnvSub.cons rfl ?_))
        · repeat (first | exact Ent.refl _ | exact Ent.nil _ | refine Ent.take' ?_ | refine Ent.trans Ent.drop ?_)
      · rw [if_neg hp, List.append_nil] at hams
        repeat (first | refine runB ?_ | intro _ | ((with_reducible apply G.atDraw); first | refine G.draw (N := 209) (id := 14) plN5_6_14 mixed (by kernel_rfl) ?_ | refine G.draw (N := 209) (id := 28) plN5_6_28 mixed (by kernel_rfl) ?_ | refine G.draw (N := 209) (id := 33) plN5_6_33 mixed (by kernel_rfl) ?_))
        refine ⟨(it + 1, wad, wcap, out), ⟨by dsimp only; omega, ?_⟩, by dsimp only; omega, ?_, ?_⟩
        · dsimp only; rw [hams, ho]
        · dsimp only
          rw [show ((it + 1 : Nat) : Int) = (it : Int) + 1 by omega]
          exact (by repeat (first | exact EnvSub.nil _ | refine EnvSub.cons rfl ?_))
        · repeat (first | exact Ent.refl _ | exact Ent.nil _ | refine Ent.take' ?_ | refine Ent.trans Ent.drop ?_)
    have hie : it = 4 := by omega
    subst hie
    have h0 : out.length = 0 := by rw [ho, hem]; rfl
    repeat (first | refine runB ?_ | intro _ | ((with_reducible apply G.atDraw); first | refine G.draw (N := 209) (id := 14) plN5_6_14 mixed (by kernel_rfl) ?_ | refine G.draw (N := 209) (id := 28) plN5_6_28 mixed (by kernel_rfl) ?_ | refine G.draw (N := 209) (id := 33) plN5_6_33 mixed (by kernel_rfl) ?_))
    refine ⟨k + 1, by omega, by omega, ?_, by repeat (first | exact Ent.refl _ | exact Ent.nil _ | refine Ent.take' ?_ | refine Ent.trans Ent.drop ?_)⟩
    rw [show ((k + 1 : Nat) : Int) = (k : Int) + 1 by omega]
    exact (by repeat (first | exact EnvSub.nil _ | refine EnvSub.cons rfl ?_))
  · have q1 : ([l] : List LegV)[(0 : Int).toNat]!.sh = ps[(k : Int).toNat]!.1 := e1
    have q2 : ([l] : List LegV)[(0 : Int).toNat]!.frm = acl[(i : Int).toNat]! := e2
    have q3 : ([l] : List LegV)[(0 : Int).toNat]!.tsh = ps[(k : Int).toNat]!.2 := e3
    have q4 : ([l] : List LegV)[(0 : Int).toNat]!.to = acl[(i : Int).toNat]! := e4
    repeat (first | refine runB ?_ | intro _ | ((with_reducible apply G.atDraw); first | refine G.draw (N := 209) (id := 14) plN5_6_14 mixed (by kernel_rfl) ?_ | refine G.draw (N := 209) (id := 28) plN5_6_28 mixed (by kernel_rfl) ?_ | refine G.draw (N := 209) (id := 33) plN5_6_33 mixed (by kernel_rfl) ?_))
    refine G.loop (α := Nat × Option Addr × Nat × List (Int × Int)) (fun z => z.1 ≤ 4 ∧ z.2.2.2 = S.ams acl[(i : Int).toNat]! z.1) (fun z => [(9, .slice lad 1 lcap), (11, .slice (some ⟨ba, 0, none⟩) 2 2), (12, .slice (some ⟨bp, 0, none⟩) 2 2), (13, .int .i64 (i : Int)), (14, .int .i64 (k : Int)), (15, .int .i64 acl[(i : Int).toNat]!), (16, .pointer (some ⟨bs, 0, none⟩)), (17, (.slice ad' 1 1)), (18, .int .i64 0), (19, .slice z.2.1 z.2.2.2.length z.2.2.1), (20, .int .i64 (z.1 : Int))])
      (fun z => osl encAm 2 tAm z.2.1 z.2.2.1 z.2.2.2 :: isl encLeg 5 ad' [l] :: amP ([l] : List LegV)[(0 : Int).toNat]! :: LedR ([bl] : List Nat)[(0 : Int).toNat]! S :: obj bs tA2 [.int .i64 ps[(k : Int).toNat]!.1, .int .i64 ps[(k : Int).toNat]!.2] :: isl encH 2 (some ⟨bp, 0, none⟩) ps :: isl (encI .i64) 1 (some ⟨ba, 0, none⟩) acl :: osl encP 1 tPL lad lcap [bl] :: L) (fun z => 4 - z.1) (0, none, 0, []) ⟨by decide, rfl⟩ (by repeat (first | exact EnvSub.nil _ | refine EnvSub.cons rfl ?_)) (Ent.nilSl encAm 2 tAm) ?_
    rintro ⟨it, wad, wcap, out⟩ ⟨hi4, ho⟩
    dsimp only at hi4 ho ⊢
    have hol := S.ams_len acl[(i : Int).toNat]! it
    by_cases hil : it < 4
    case pos =>
      have hbl := hS.bal acl[(i : Int).toNat]! (it : Int)
      have hams : S.ams acl[(i : Int).toNat]! (it + 1) = S.ams acl[(i : Int).toNat]! it ++ (if 0 < S.bal acl[(i : Int).toNat]! it then [((it : Int), S.bal acl[(i : Int).toNat]! it)] else []) := rfl
      repeat (first | refine runB ?_ | intro _ | ((with_reducible apply G.atDraw); first | refine G.draw (N := 209) (id := 14) plN5_6_14 mixed (by kernel_rfl) ?_ | refine G.draw (N := 209) (id := 28) plN5_6_28 mixed (by kernel_rfl) ?_ | refine G.draw (N := 209) (id := 33) plN5_6_33 mixed (by kernel_rfl) ?_))
      refine GO.ent (Ent.at (A := LedR ([bl] : List Nat)[(0 : Int).toNat]! S) (Ent.refl _)) ?_
      (first | ((with_reducible apply GO.atPlain); first | refine GO.ef (Ef.callAll (balance_spec ([bl] : List Nat)[(0 : Int).toNat]! S hS acl[(i : Int).toNat]! (it : Int)) rfl) (by decide) ?_ | refine GO.ef (by exact Ef.callAll (balance_spec ([bl] : List Nat)[(0 : Int).toNat]! S hS acl[(i : Int).toNat]! (it : Int)) rfl) (by decide) ?_) | ((with_reducible apply GPW.atEf); first | refine GPW.ef (Ef.callAll (balance_spec ([bl] : List Nat)[(0 : Int).toNat]! S hS acl[(i : Int).toNat]! (it : Int)) rfl) (by decide) ?_ | refine GPW.ef (by exact Ef.callAll (balance_spec ([bl] : List Nat)[(0 : Int).toNat]! S hS acl[(i : Int).toNat]! (it : Int)) rfl) (by decide) ?_))
      rintro _ _ ⟨rfl, rfl⟩
      by_cases hp : 0 < S.bal acl[(i : Int).toNat]! (it : Int)
      · rw [if_pos hp] at hams
        repeat (first | refine runB ?_ | intro _ | ((with_reducible apply G.atDraw); first | refine G.draw (N := 209) (id := 14) plN5_6_14 mixed (by kernel_rfl) ?_ | refine G.draw (N := 209) (id := 28) plN5_6_28 mixed (by kernel_rfl) ?_ | refine G.draw (N := 209) (id := 33) plN5_6_33 mixed (by kernel_rfl) ?_))
        (first | ((with_reducible apply GO.atPlain); first | refine GO.ef (Ef.append1 (enc := encAm) (e := (((it : Int), S.bal acl[(i : Int).toNat]! it) : Int × Int)) rfl rfl rfl rfl rfl (by rfl) (encAm_one _) (by rw [ho]; omega) (by rw [ho]; omega)) (by decide) ?_ | refine GO.ef (by exact Ef.append1 (enc := encAm) (e := (((it : Int), S.bal acl[(i : Int).toNat]! it) : Int × Int)) rfl rfl rfl rfl rfl (by rfl) (encAm_one _) (by rw [ho]; omega) (by rw [ho]; omega)) (by decide) ?_) | ((with_reducible apply GPW.atEf); first | refine GPW.ef (Ef.append1 (enc := encAm) (e := (((it : Int), S.bal acl[(i : Int).toNat]! it) : Int × Int)) rfl rfl rfl rfl rfl (by rfl) (encAm_one _) (by rw [ho]; omega) (by rw [ho]; omega)) (by decide) ?_ | refine GPW.ef (by exact Ef.append1 (enc := encAm) (e := (((it : Int), S.bal acl[(i : Int).toNat]! it) : Int × Int)) rfl rfl rfl rfl rfl (by rfl) (encAm_one _) (by rw [ho]; omega) (by rw [ho]; omega)) (by decide) ?_) | ((with_reducible apply GO.atUnit); first | refine GO.efu (Ef.append1 (enc := encAm) (e := (((it : Int), S.bal acl[(i : Int).toNat]! it) : Int × Int)) rfl rfl rfl rfl rfl (by rfl) (encAm_one _) (by rw [ho]; omega) (by rw [ho]; omega)) ?_ | refine GO.efu (by exact Ef.append1 (enc := encAm) (e := (((it : Int), S.bal acl[(i : Int).toNat]! it) : Int × Int)) rfl rfl rfl rfl rfl (by rfl) (encAm_one _) (by rw [ho]; omega) (by rw [ho]; omega)) ?_) | ((with_reducible apply GPW.atEfu); first | refine GPW.efu (Ef.append1 (enc := encAm) (e := (((it : Int), S.bal acl[(i : Int).toNat]! it) : Int × Int)) rfl rfl rfl rfl rfl (by rfl) (encAm_one _) (by rw [ho]; omega) (by rw [ho]; omega)) ?_ | refine GPW.efu (by exact Ef.append1 (enc := encAm) (e := (((it : Int), S.bal acl[(i : Int).toNat]! it) : Int × Int)) rfl rfl rfl rfl rfl (by rfl) (encAm_one _) (by rw [ho]; omega) (by rw [ho]; omega)) ?_))
        rintro _ _ ⟨wad2, wcap2, rfl, rfl⟩
        repeat (first | refine runB ?_ | intro _ | ((with_reducible apply G.atDraw); first | refine G.draw (N := 209) (id := 14) plN5_6_14 mixed (by kernel_rfl) ?_ | refine G.draw (N := 209) (id := 28) plN5_6_28 mixed (by kernel_rfl) ?_ | refine G.draw (N := 209) (id := 33) plN5_6_33 mixed (by kernel_rfl) ?_))
        refine ⟨(it + 1, wad2, wcap2, out ++ [((it : Int), S.bal acl[(i : Int).toNat]! it)]), ⟨by dsimp only; omega, ?_⟩, by dsimp only; omega, ?_, ?_⟩
        · dsimp only; rw [hams, ho]
        · dsimp only
          rw [show ((it + 1 : Nat) : Int) = (it : Int) + 1 by omega]
          exact (by repeat (first | exact EnvSub.nil _ | refine EnvSub.cons rfl ?_))
        · repeat (first | exact Ent.refl _ | exact Ent.nil _ | refine Ent.take' ?_ | refine Ent.trans Ent.drop ?_)
      · rw [if_neg hp, List.append_nil] at hams
        repeat (first | refine runB ?_ | intro _ | ((with_reducible apply G.atDraw); first | refine G.draw (N := 209) (id := 14) plN5_6_14 mixed (by kernel_rfl) ?_ | refine G.draw (N := 209) (id := 28) plN5_6_28 mixed (by kernel_rfl) ?_ | refine G.draw (N := 209) (id := 33) plN5_6_33 mixed (by kernel_rfl) ?_))
        refine ⟨(it + 1, wad, wcap, out), ⟨by dsimp only; omega, ?_⟩, by dsimp only; omega, ?_, ?_⟩
        · dsimp only; rw [hams, ho]
        · dsimp only
          rw [show ((it + 1 : Nat) : Int) = (it : Int) + 1 by omega]
          exact (by repeat (first | exact EnvSub.nil _ | refine EnvSub.cons rfl ?_))
        · repeat (first | exact Ent.refl _ | exact Ent.nil _ | refine Ent.take' ?_ | refine Ent.trans Ent.drop ?_)
    have hie : it = 4 := by omega
    subst hie
    have h0 : out.length ≠ 0 := fun e => hem (by rw [← ho]; exact List.eq_nil_of_length_eq_zero e)
    have hXo : ([l] : List LegV)[(0 : Int).toNat]!.ams = out := by rw [ho]; exact e5
    have hXl : ([l] : List LegV)[(0 : Int).toNat]!.ams.length = out.length := by rw [hXo]
    have hll : ([l] : List LegV).length = 1 := rfl
    have hol4 : out.length ≤ 4 := by rw [ho]; exact hol
    repeat (first | refine runB ?_ | intro _ | ((with_reducible apply G.atDraw); first | refine G.draw (N := 209) (id := 14) plN5_6_14 mixed (by kernel_rfl) ?_ | refine G.draw (N := 209) (id := 28) plN5_6_28 mixed (by kernel_rfl) ?_ | refine G.draw (N := 209) (id := 33) plN5_6_33 mixed (by kernel_rfl) ?_))
    refine G.loop (α := Nat) (fun j => j ≤ out.length) (fun j => [(9, .slice lad 1 lcap), (11, .slice (some ⟨ba, 0, none⟩) 2 2), (12, .slice (some ⟨bp, 0, none⟩) 2 2), (13, .int .i64 (i : Int)), (14, .int .i64 (k : Int)), (17, .slice ad' 1 1), (19, .slice wad out.length wcap), (22, .int .i64 (j : Int))])
      (fun j => osl encAm 2 tAm wad wcap out :: isl encLeg 5 ad' [l] :: amP ([l] : List LegV)[(0 : Int).toNat]! :: LedR ([bl] : List Nat)[(0 : Int).toNat]! S :: obj bs tA2 [.int .i64 ps[(k : Int).toNat]!.1, .int .i64 ps[(k : Int).toNat]!.2] :: isl encH 2 (some ⟨bp, 0, none⟩) ps :: isl (encI .i64) 1 (some ⟨ba, 0, none⟩) acl :: osl encP 1 tPL lad lcap [bl] :: L) (fun j => out.length - j) 0 (Nat.zero_le _) (by repeat (first | exact EnvSub.nil _ | refine EnvSub.cons rfl ?_)) (Ent.refl _) ?_
    intro j hj
    by_cases hjl : j < out.length
    case neg =>
      repeat (first | refine runB ?_ | intro _ | ((with_reducible apply G.atDraw); first | refine G.draw (N := 209) (id := 14) plN5_6_14 mixed (by kernel_rfl) ?_ | refine G.draw (N := 209) (id := 28) plN5_6_28 mixed (by kernel_rfl) ?_ | refine G.draw (N := 209) (id := 33) plN5_6_33 mixed (by kernel_rfl) ?_))
      refine ⟨k + 1, by omega, by omega, ?_, by repeat (first | exact Ent.refl _ | exact Ent.nil _ | refine Ent.take' ?_ | refine Ent.trans Ent.drop ?_)⟩
      rw [show ((k + 1 : Nat) : Int) = (k : Int) + 1 by omega]
      exact (by repeat (first | exact EnvSub.nil _ | refine EnvSub.cons rfl ?_))
    repeat (first | refine runB ?_ | intro _ | ((with_reducible apply G.atDraw); first | refine G.draw (N := 209) (id := 14) plN5_6_14 mixed (by kernel_rfl) ?_ | refine G.draw (N := 209) (id := 28) plN5_6_28 mixed (by kernel_rfl) ?_ | refine G.draw (N := 209) (id := 33) plN5_6_33 mixed (by kernel_rfl) ?_))
    rw [hXo]
    refine CB.neg (fun e => e rfl) ?_
    repeat (first | refine runB ?_ | intro _ | ((with_reducible apply G.atDraw); first | refine G.draw (N := 209) (id := 14) plN5_6_14 mixed (by kernel_rfl) ?_ | refine G.draw (N := 209) (id := 28) plN5_6_28 mixed (by kernel_rfl) ?_ | refine G.draw (N := 209) (id := 33) plN5_6_33 mixed (by kernel_rfl) ?_))
    refine ⟨j + 1, by omega, by omega, ?_, Ent.refl _⟩
    rw [show ((j + 1 : Nat) : Int) = (j : Int) + 1 by omega]
    exact (by repeat (first | exact EnvSub.nil _ | refine EnvSub.cons rfl ?_))
end Go.Proofs.YtclgjkeeaopppaaGreatDoor
