/- Contract: the section's example works. -/
import Derived.Test.YtclgjkeeaopppaaGreatDoorL11
namespace Go.Proofs.YtclgjkeeaopppaaGreatDoor
open Go.V
attribute [local irreducible] G GO GP GPW GPK Ev Ef EfR Ent CB GB Enters

def l1 : List Hm := [(1, 0)]
def l3 : List Hm := [(1, 0), (10, 1), (20, 0)]
theorem ex_split : splitRes l1 10 19 1 = (l3, 0) := by decide +kernel
theorem ex_join : joinRes l3 1 0 = (l1, 0) := by decide +kernel
theorem ex_ok1 : HOk 12 l1 := by decide +kernel
theorem ex_ok3 : HOk 12 l3 := by decide +kernel
def S0 : LedS := ⟨0, its4, [], [], 0, 0⟩
def S1 : LedS := S0.spawn 12 0 5
theorem S0_ok : S0.Ok := ⟨by decide, by decide, by decide, by intro p hp; cases hp⟩
theorem S1_stk : S1.stk = [((12, 0), [(0, 0, 5)])] := by decide +kernel
theorem S1_ok : S1.Ok := ⟨by decide, by decide, by decide, by
  rw [S1_stk]
  intro p hp
  simp at hp
  subst hp
  refine ⟨by decide, ?_⟩
  intro l hl
  simp at hl
  subst hl
  exact ⟨by decide, by decide, by decide, by decide, by decide⟩⟩
theorem S1_ams : S1.ams 12 S1.its.length = [(0, 5)] := by decide +kernel
theorem S0_sp : SpOk S0 12 0 5 := ⟨by decide, by decide, by decide, by decide⟩
set_option maxHeartbeats 1000000 in
theorem lives_spec {L : List HP} [hk : KR L] : Tri Tryz.prog 17 #[] L (fun v L' => v = .bool true ∧ L' = L) := by
  have hl3 : l3.length = 3 := rfl
  have hl1 : l1.length = 1 := rfl
  refine Tri.body (args := []) 147 en17 Tryz.func17 rfl rfl rfl (by simp) ?_
  repeat (first | refine runB ?_ | intro _)
  rename_i b15
  refine GO.ent (Ent.objSl (enc := encH) (sz := 2) (xs := l1) rfl rfl (by intro y _; rfl) (by decide)) ?_
  (first | ((with_reducible apply GO.atPlain); first | refine GO.ef (Ef.callAll (split_spec 10 19 1 (some ⟨b15, 0, none⟩) 1 1 l1 rfl (by decide)) rfl) (by decide) ?_ | refine GO.ef (by exact Ef.callAll (split_spec 10 19 1 (some ⟨b15, 0, none⟩) 1 1 l1 rfl (by decide)) rfl) (by decide) ?_) | ((with_reducible apply GPW.atEf); first | refine GPW.ef (Ef.callAll (split_spec 10 19 1 (some ⟨b15, 0, none⟩) 1 1 l1 rfl (by decide)) rfl) (by decide) ?_ | refine GPW.ef (by exact Ef.callAll (split_spec 10 19 1 (some ⟨b15, 0, none⟩) 1 1 l1 rfl (by decide)) rfl) (by decide) ?_))
  rintro _ _ ⟨ad1, cap1, rfl, rfl⟩
  rw [ex_split]
  dsimp only
  repeat (first | refine runB ?_ | intro _)
  (first | ((with_reducible apply GO.atPlain); first | refine GO.ef (Ef.callAll (mFind_spec 19 ad1 l3.length cap1 l3 rfl (by decide)) rfl) (by decide) ?_ | refine GO.ef (by exact Ef.callAll (mFind_spec 19 ad1 l3.length cap1 l3 rfl (by decide)) rfl) (by decide) ?_) | ((with_reducible apply GPW.atEf); first | refine GPW.ef (Ef.callAll (mFind_spec 19 ad1 l3.length cap1 l3 rfl (by decide)) rfl) (by decide) ?_ | refine GPW.ef (by exact Ef.callAll (mFind_spec 19 ad1 l3.length cap1 l3 rfl (by decide)) rfl) (by decide) ?_))
  rintro _ _ ⟨rfl, rfl⟩
  rw [if_pos ⟨ex_ok3, by decide, by decide⟩, show fndH l3 19 = 1 by decide +kernel]
  repeat (first | refine runB ?_ | intro _)
  (first | ((with_reducible apply GO.atPlain); first | refine GO.ef (Ef.callAll (join_spec 1 0 ad1 l3.length cap1 l3 rfl (by decide)) rfl) (by decide) ?_ | refine GO.ef (by exact Ef.callAll (join_spec 1 0 ad1 l3.length cap1 l3 rfl (by decide)) rfl) (by decide) ?_) | ((with_reducible apply GPW.atEf); first | refine GPW.ef (Ef.callAll (join_spec 1 0 ad1 l3.length cap1 l3 rfl (by decide)) rfl) (by decide) ?_ | refine GPW.ef (by exact Ef.callAll (join_spec 1 0 ad1 l3.length cap1 l3 rfl (by decide)) rfl) (by decide) ?_))
  rintro _ _ ⟨ad2, cap2, rfl, rfl⟩
  rw [ex_join]
  dsimp only
  repeat (first | refine runB ?_ | intro _)
  (first | ((with_reducible apply GO.atPlain); first | refine GO.ef (Ef.callAll (refCatalog_spec) rfl) (by decide) ?_ | refine GO.ef (by exact Ef.callAll (refCatalog_spec) rfl) (by decide) ?_) | ((with_reducible apply GPW.atEf); first | refine GPW.ef (Ef.callAll (refCatalog_spec) rfl) (by decide) ?_ | refine GPW.ef (by exact Ef.callAll (refCatalog_spec) rfl) (by decide) ?_))
  rintro _ _ ⟨ad3, cap3, rfl, rfl⟩
  (first | ((with_reducible apply GO.atPlain); first | refine GO.ef (Ef.callAll (lnew_spec 0 (by decide) ad3 cap3 its4 its4_ok) rfl) (by decide) ?_ | refine GO.ef (by exact Ef.callAll (lnew_spec 0 (by decide) ad3 cap3 its4 its4_ok) rfl) (by decide) ?_) | ((with_reducible apply GPW.atEf); first | refine GPW.ef (Ef.callAll (lnew_spec 0 (by decide) ad3 cap3 its4 its4_ok) rfl) (by decide) ?_ | refine GPW.ef (by exact Ef.callAll (lnew_spec 0 (by decide) ad3 cap3 its4 its4_ok) rfl) (by decide) ?_))
  rintro _ _ ⟨bl, rfl, rfl⟩
  rw [show (⟨0, its4, [], [], 0, 0⟩ : LedS) = S0 from rfl]
  have h31 : l3[(1 : Int).toNat]! = (10, 1) := rfl
  repeat (first | refine runB ?_ | intro _)
  rw [h31]
  repeat (first | refine runB ?_ | intro _)
  rename_i b76
  refine GO.ent (Ent.objSl (enc := encMv) (sz := 5) (xs := [(12, 0, 5)]) rfl rfl (by intro y _; rfl) (by decide)) ?_
  refine GO.ent (Ent.at (A := LedR bl S0) (Ent.refl _)) ?_
  (first | ((with_reducible apply GO.atPlain); first | refine GO.ef (Ef.callAll (post_spec bl S0 S0_ok (some ⟨b76, 0, none⟩) 1 S0_sp) rfl) (by decide) ?_ | refine GO.ef (by exact Ef.callAll (post_spec bl S0 S0_ok (some ⟨b76, 0, none⟩) 1 S0_sp) rfl) (by decide) ?_) | ((with_reducible apply GPW.atEf); first | refine GPW.ef (Ef.callAll (post_spec bl S0 S0_ok (some ⟨b76, 0, none⟩) 1 S0_sp) rfl) (by decide) ?_ | refine GPW.ef (by exact Ef.callAll (post_spec bl S0 S0_ok (some ⟨b76, 0, none⟩) 1 S0_sp) rfl) (by decide) ?_))
  rintro _ _ ⟨rfl, rfl⟩
  rw [show S0.spawn 12 0 5 = S1 from rfl]
  repeat (first | refine runB ?_ | intro _)
  rename_i b84
  refine GO.ent (Ent.objSl (enc := encH) (sz := 2) (xs := l1) rfl rfl (by intro y _; rfl) (by decide)) ?_
  refine GO.ent (Ent.at (A := LedR bl S1) (Ent.refl _)) ?_
  (first | ((with_reducible apply GO.atPlain); first | refine GO.ef (Ef.callAll (plan1_spec bl S1 S1_ok (by decide) 12 0 [(0, 0, 5)] S1_stk (by decide) 0 (by decide) (some ⟨b84, 0, none⟩) ad1 1 1 l3.length cap1 l1 l3 rfl rfl (by decide) (by decide) ex_ok1 ex_ok3 (by decide +kernel) (by decide +kernel) (by rw [S1_ams]; simp)) rfl) (by decide) ?_ | refine GO.ef (by exact Ef.callAll (plan1_spec bl S1 S1_ok (by decide) 12 0 [(0, 0, 5)] S1_stk (by decide) 0 (by decide) (some ⟨b84, 0, none⟩) ad1 1 1 l3.length cap1 l1 l3 rfl rfl (by decide) (by decide) ex_ok1 ex_ok3 (by decide +kernel) (by decide +kernel) (by rw [S1_ams]; simp)) rfl) (by decide) ?_) | ((with_reducible apply GPW.atEf); first | refine GPW.ef (Ef.callAll (plan1_spec bl S1 S1_ok (by decide) 12 0 [(0, 0, 5)] S1_stk (by decide) 0 (by decide) (some ⟨b84, 0, none⟩) ad1 1 1 l3.length cap1 l1 l3 rfl rfl (by decide) (by decide) ex_ok1 ex_ok3 (by decide +kernel) (by decide +kernel) (by rw [S1_ams]; simp)) rfl) (by decide) ?_ | refine GPW.ef (by exact Ef.callAll (plan1_spec bl S1 S1_ok (by decide) 12 0 [(0, 0, 5)] S1_stk (by decide) 0 (by decide) (some ⟨b84, 0, none⟩) ad1 1 1 l3.length cap1 l1 l3 rfl rfl (by decide) (by decide) ex_ok1 ex_ok3 (by decide +kernel) (by decide +kernel) (by rw [S1_ams]; simp)) rfl) (by decide) ?_))
  rintro _ _ ⟨pad, pcap, lad', ⟨sh, frm, tsh, to, lad, lcap, lams⟩, rfl, ⟨e1, e2, e3, e4, e5⟩, rfl⟩
  dsimp only at e1 e2 e3 e4 e5
  rw [S1_ams] at e5
  rw [show fndH l3 12 = 1 by decide +kernel] at e3
  subst e1 e2 e3 e4 e5
  have g0 : ([(⟨lad', 1, 1⟩ : SlV)])[(0 : Int).toNat]! = ⟨lad', 1, 1⟩ := rfl
  have g1 : ([(⟨0, 12, 1, 12, lad, lcap, [(0, 5)]⟩ : LegV)])[(0 : Int).toNat]! = ⟨0, 12, 1, 12, lad, lcap, [(0, 5)]⟩ := rfl
  have g2 : ([((0, 5) : Int × Int)])[(0 : Int).toNat]! = (0, 5) := rfl
  have g3 : ([(⟨0, 12, 1, 12, lad, lcap, [(0, 5)]⟩ : LegV)]).length = 1 := rfl
  have g4 : ([(⟨lad', 1, 1⟩ : SlV)]).length = 1 := rfl
  have g5 : ([((0, 5) : Int × Int)]).length = 1 := rfl
  repeat (first | refine runB ?_ | intro _)
  (try simp only [g0])
  repeat (first | refine runB ?_ | intro _)
  (try simp only [g0, g1])
  repeat (first | refine runB ?_ | intro _)
  (try simp only [g0, g1])
  repeat (first | refine runB ?_ | intro _)
  (try simp only [g0, g1])
  repeat (first | refine runB ?_ | intro _)
  (try simp only [g1])
  repeat (first | refine runB ?_ | intro _)
  refine KX.ends (by first | exact ResOk.tmps rfl | (repeat (first | exact ResOk.nil | apply ResOk.tmp rfl | apply ResOk.cell rfl (by rfl) | apply ResOk.cell1 rfl))) ?_ ⟨?_, rfl⟩
  · repeat (first | exact Ent.refl _ | exact Ent.nil _ | refine Ent.take' ?_ | refine Ent.trans Ent.drop ?_)
  · exact congrArg Value.bool (dB_pos rfl)
end Go.Proofs.YtclgjkeeaopppaaGreatDoor
