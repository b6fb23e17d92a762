/- The law MoveSplits: Split and Join return the specified results. -/
import Derived.Test.YtclgjkeeaopppaaGreatDoorN1
import Derived.Test.YtclgjkeeaopppaaGreatDoorV21
namespace Go.Proofs.YtclgjkeeaopppaaGreatDoor
open Go.V
attribute [local irreducible] G GO GP GPW GPK Ev Ef EfR Ent CB GB Enters

theorem splitH_len (l : List Hm) (f t s : Int) : (splitH l f t s).length ≤ 3 * l.length := by
  unfold splitH normalM splitP
  refine Nat.le_trans (foldl_push_len _ []) ?_
  have := flatMap_len (piecesH f t s) (pieces_len f t s) (rngs l)
  rw [rngs_len] at this
  simpa using this
theorem joinH_len (l : List Hm) (s t : Int) : (joinH l s t).length ≤ l.length := by
  unfold joinH normalM joinP
  refine Nat.le_trans (foldl_push_len _ []) ?_
  simp
abbrev plN2_4_14 : List Stp := [.ev 0, .ev 2, .ev 3, .ev 4, .ev 5, .ev 6, .ev 7, .ev 8, .ev 9, .ev 10, .ev 11, .ev 12, .ef 1, .ef 13, .ev 14, .ev 15, .ev 16, .ev 17, .ev 18]
abbrev plN2_4_17 : List Stp := [.ev 0, .ev 1, .ev 2, .ev 3, .ev 4, .ev 5, .ev 6, .ev 7, .ev 8, .ev 9, .ev 10, .ev 11, .ev 12, .ev 13, .ev 14, .ev 15, .ev 16, .ev 17, .ev 18, .ev 19, .ev 20, .ev 21, .ev 22, .ev 23, .ev 24, .ev 25, .ev 26, .ev 27, .ev 28, .ev 29, .ev 30]
abbrev plN2_4_21 : List Stp := [.ev 0, .ev 1, .ev 2, .ev 3, .ev 4, .ev 5, .ev 6, .ev 7, .ev 8, .ev 9, .ev 10, .ev 11, .ev 12, .ev 13, .ev 14, .ef 15, .ef 16, .ev 17, .ev 18, .ev 19, .ev 20, .ev 21, .ev 22, .ev 23, .ev 24, .ev 25, .ef 26, .ef 27, .ev 28, .ev 29, .ev 30]
set_option maxHeartbeats 2000000 in
theorem moveSplits_spec {L : List HP} [hk : KR L] (ad : Option Addr) (len cap : Nat) (xs : List Int) [Rds L ad Int (encI .i64) 1 xs] (hlen : len = xs.length) (hmx0 : len ≤ 9223372036854775807) (hxb : ∀ x ∈ xs, I64 x) (fr : Int) (hfr : I64 fr) (to : Int) (hto : I64 to) (sh : Int) (hsh : I64 sh) (int : Int) (hint : I64 int) (bad : Bool) (at_ : Int) (hat : I64 at_) :
    Tri Tryz.prog 4 #[.slice ad len cap, .int .i64 fr, .int .i64 to, .int .i64 sh, .int .i64 int, .bool bad, .int .i64 at_] L (fun v L' => v = .bool true ∧ L' = L) := by
  have hmx : maxAcc = 1073741824 := rfl
  have hf20 := around_bd fr (k := 20) (by decide)
  have ht30 := around_bd to (k := 30) (by decide)
  have hs4 := around_bd sh (k := 4) (by decide)
  have hi4 := around_bd int (k := 4) (by decide)
  refine Tri.body (args := [.slice ad len cap, .int .i64 fr, .int .i64 to, .int .i64 sh, .int .i64 int, .bool bad, .int .i64 at_]) 220 en4 Tryz.func4 rfl rfl rfl (by simp) ?_
  repeat (first | refine runB ?_ | intro _ | ((with_reducible apply G.atDraw); first | refine G.draw (N := 220) (id := 14) plN2_4_14 mixed (by kernel_rfl) ?_ | refine G.draw (N := 220) (id := 17) plN2_4_17 mixed (by kernel_rfl) ?_ | refine G.draw (N := 220) (id := 21) plN2_4_21 mixed (by kernel_rfl) ?_))
  (first | ((with_reducible apply GO.atPlain); first | refine GO.ef (Ef.callAll (rhomes_spec 4 0 ad len cap xs hlen (by omega) hxb (by omega) (by omega) (by decide)) rfl) (by decide) ?_ | refine GO.ef (by exact Ef.callAll (rhomes_spec 4 0 ad len cap xs hlen (by omega) hxb (by omega) (by omega) (by decide)) rfl) (by decide) ?_) | ((with_reducible apply GPW.atEf); first | refine GPW.ef (Ef.callAll (rhomes_spec 4 0 ad len cap xs hlen (by omega) hxb (by omega) (by omega) (by decide)) rfl) (by decide) ?_ | refine GPW.ef (by exact Ef.callAll (rhomes_spec 4 0 ad len cap xs hlen (by omega) hxb (by omega) (by omega) (by decide)) rfl) (by decide) ?_))
  rintro _ _ ⟨ad1, cap1, l1, rfl, ⟨hok1, hl1⟩, rfl⟩
  repeat (first | ((fail_if_success (with_reducible refine G.atSS 2 ?_)); (with_reducible apply G.seq)) | refine runBS ?_ | intro _ | ((with_reducible apply G.atDraw); first | refine G.draw (N := 220) (id := 14) plN2_4_14 mixed (by kernel_rfl) ?_ | refine G.draw (N := 220) (id := 17) plN2_4_17 mixed (by kernel_rfl) ?_ | refine G.draw (N := 220) (id := 21) plN2_4_21 mixed (by kernel_rfl) ?_))
  refine G.join (α := Option Addr × Nat × List Hm) (fun x => x.2.2.length ≤ 7) (fun x => [(1, .int .i64 fr), (2, .int .i64 to), (3, .int .i64 sh), (4, .int .i64 int), (15, .slice x.1 x.2.2.length x.2.1)]) (fun x => isl encH 2 x.1 x.2.2 :: L) ?_ ?_
  · cases bad
    · repeat (first | refine runB ?_ | intro _ | ((with_reducible apply G.atDraw); first | refine G.draw (N := 220) (id := 14) plN2_4_14 mixed (by kernel_rfl) ?_ | refine G.draw (N := 220) (id := 17) plN2_4_17 mixed (by kernel_rfl) ?_ | refine G.draw (N := 220) (id := 21) plN2_4_21 mixed (by kernel_rfl) ?_))
      exact ⟨(ad1, cap1, l1), hl1, (by repeat (first | exact EnvSub.nil _ | refine EnvSub.cons rfl ?_)), Ent.freezeSl⟩
    · repeat (first | refine runB ?_ | intro _ | ((with_reducible apply G.atDraw); first | refine G.draw (N := 220) (id := 14) plN2_4_14 mixed (by kernel_rfl) ?_ | refine G.draw (N := 220) (id := 17) plN2_4_17 mixed (by kernel_rfl) ?_ | refine G.draw (N := 220) (id := 21) plN2_4_21 mixed (by kernel_rfl) ?_))
      (first | ((with_reducible apply GO.atPlain); first | refine GO.ef (Ef.callAll (spoilt_spec at_ fr ad1 l1.length cap1 l1 rfl (by omega) hat) rfl) (by decide) ?_ | refine GO.ef (by exact Ef.callAll (spoilt_spec at_ fr ad1 l1.length cap1 l1 rfl (by omega) hat) rfl) (by decide) ?_) | ((with_reducible apply GPW.atEf); first | refine GPW.ef (Ef.callAll (spoilt_spec at_ fr ad1 l1.length cap1 l1 rfl (by omega) hat) rfl) (by decide) ?_ | refine GPW.ef (by exact Ef.callAll (spoilt_spec at_ fr ad1 l1.length cap1 l1 rfl (by omega) hat) rfl) (by decide) ?_))
      rintro _ _ ⟨ad2, cap2, l2, rfl, hl2, rfl⟩
      repeat (first | refine runB ?_ | intro _ | ((with_reducible apply G.atDraw); first | refine G.draw (N := 220) (id := 14) plN2_4_14 mixed (by kernel_rfl) ?_ | refine G.draw (N := 220) (id := 17) plN2_4_17 mixed (by kernel_rfl) ?_ | refine G.draw (N := 220) (id := 21) plN2_4_21 mixed (by kernel_rfl) ?_))
      exact ⟨(ad2, cap2, l2), by dsimp only; omega, (by repeat (first | exact EnvSub.nil _ | refine EnvSub.cons rfl ?_)), Ent.freezeSl.trans (Ent.consR Ent.drop)⟩
  rintro ⟨adx, capx, l⟩ hl
  dsimp only at hl ⊢
  repeat (first | refine runB ?_ | intro _ | ((with_reducible apply G.atDraw); first | refine G.draw (N := 220) (id := 14) plN2_4_14 mixed (by kernel_rfl) ?_ | refine G.draw (N := 220) (id := 17) plN2_4_17 mixed (by kernel_rfl) ?_ | refine G.draw (N := 220) (id := 21) plN2_4_21 mixed (by kernel_rfl) ?_))
  (first | ((with_reducible apply GO.atPlain); first | refine GO.ev (Ev.buildI2 rfl rfl) (by decide) ?_ | refine GO.ev (by exact Ev.buildI2 rfl rfl) (by decide) ?_) | ((with_reducible apply GPW.atEv); first | refine GPW.evP (Ev.buildI2 rfl rfl) (by decide) ?_ | refine GPW.evP (by exact Ev.buildI2 rfl rfl) (by decide) ?_) | ((with_reducible apply GPW.atEv); first | refine GPW.evL (Ev.buildI2 rfl rfl) (by decide) ?_ | refine GPW.evL (by exact Ev.buildI2 rfl rfl) (by decide) ?_))
  repeat (first | refine runB ?_ | intro _ | ((with_reducible apply G.atDraw); first | refine G.draw (N := 220) (id := 14) plN2_4_14 mixed (by kernel_rfl) ?_ | refine G.draw (N := 220) (id := 17) plN2_4_17 mixed (by kernel_rfl) ?_ | refine G.draw (N := 220) (id := 21) plN2_4_21 mixed (by kernel_rfl) ?_))
  (first | ((with_reducible apply GO.atPlain); first | refine GO.ef (Ef.callAll (around_spec fr 20 hfr (by decide) (by decide)) rfl) (by decide) ?_ | refine GO.ef (by exact Ef.callAll (around_spec fr 20 hfr (by decide) (by decide)) rfl) (by decide) ?_) | ((with_reducible apply GPW.atEf); first | refine GPW.ef (Ef.callAll (around_spec fr 20 hfr (by decide) (by decide)) rfl) (by decide) ?_ | refine GPW.ef (by exact Ef.callAll (around_spec fr 20 hfr (by decide) (by decide)) rfl) (by decide) ?_))
  rintro _ _ ⟨rfl, rfl⟩
  repeat (first | refine runB ?_ | intro _ | ((with_reducible apply G.atDraw); first | refine G.draw (N := 220) (id := 14) plN2_4_14 mixed (by kernel_rfl) ?_ | refine G.draw (N := 220) (id := 17) plN2_4_17 mixed (by kernel_rfl) ?_ | refine G.draw (N := 220) (id := 21) plN2_4_21 mixed (by kernel_rfl) ?_))
  (first | ((with_reducible apply GO.atPlain); first | refine GO.ef (Ef.callAll (around_spec to 30 hto (by decide) (by decide)) rfl) (by decide) ?_ | refine GO.ef (by exact Ef.callAll (around_spec to 30 hto (by decide) (by decide)) rfl) (by decide) ?_) | ((with_reducible apply GPW.atEf); first | refine GPW.ef (Ef.callAll (around_spec to 30 hto (by decide) (by decide)) rfl) (by decide) ?_ | refine GPW.ef (by exact Ef.callAll (around_spec to 30 hto (by decide) (by decide)) rfl) (by decide) ?_))
  rintro _ _ ⟨rfl, rfl⟩
  repeat (first | refine runB ?_ | intro _ | ((with_reducible apply G.atDraw); first | refine G.draw (N := 220) (id := 14) plN2_4_14 mixed (by kernel_rfl) ?_ | refine G.draw (N := 220) (id := 17) plN2_4_17 mixed (by kernel_rfl) ?_ | refine G.draw (N := 220) (id := 21) plN2_4_21 mixed (by kernel_rfl) ?_))
  (first | ((with_reducible apply GO.atPlain); first | refine GO.ev (Ev.buildI2 rfl rfl) (by decide) ?_ | refine GO.ev (by exact Ev.buildI2 rfl rfl) (by decide) ?_) | ((with_reducible apply GPW.atEv); first | refine GPW.evP (Ev.buildI2 rfl rfl) (by decide) ?_ | refine GPW.evP (by exact Ev.buildI2 rfl rfl) (by decide) ?_) | ((with_reducible apply GPW.atEv); first | refine GPW.evL (Ev.buildI2 rfl rfl) (by decide) ?_ | refine GPW.evL (by exact Ev.buildI2 rfl rfl) (by decide) ?_))
  repeat (first | refine runB ?_ | intro _ | ((with_reducible apply G.atDraw); first | refine G.draw (N := 220) (id := 14) plN2_4_14 mixed (by kernel_rfl) ?_ | refine G.draw (N := 220) (id := 17) plN2_4_17 mixed (by kernel_rfl) ?_ | refine G.draw (N := 220) (id := 21) plN2_4_21 mixed (by kernel_rfl) ?_))
  (first | ((with_reducible apply GO.atPlain); first | refine GO.ef (Ef.callAll (around_spec fr 20 hfr (by decide) (by decide)) rfl) (by decide) ?_ | refine GO.ef (by exact Ef.callAll (around_spec fr 20 hfr (by decide) (by decide)) rfl) (by decide) ?_) | ((with_reducible apply GPW.atEf); first | refine GPW.ef (Ef.callAll (around_spec fr 20 hfr (by decide) (by decide)) rfl) (by decide) ?_ | refine GPW.ef (by exact Ef.callAll (around_spec fr 20 hfr (by decide) (by decide)) rfl) (by decide) ?_))
  rintro _ _ ⟨rfl, rfl⟩
  repeat (first | refine runB ?_ | intro _ | ((with_reducible apply G.atDraw); first | refine G.draw (N := 220) (id := 14) plN2_4_14 mixed (by kernel_rfl) ?_ | refine G.draw (N := 220) (id := 17) plN2_4_17 mixed (by kernel_rfl) ?_ | refine G.draw (N := 220) (id := 21) plN2_4_21 mixed (by kernel_rfl) ?_))
  (first | ((with_reducible apply GO.atPlain); first | refine GO.ev (Ev.buildI2 rfl rfl) (by decide) ?_ | refine GO.ev (by exact Ev.buildI2 rfl rfl) (by decide) ?_) | ((with_reducible apply GPW.atEv); first | refine GPW.evP (Ev.buildI2 rfl rfl) (by decide) ?_ | refine GPW.evP (by exact Ev.buildI2 rfl rfl) (by decide) ?_) | ((with_reducible apply GPW.atEv); first | refine GPW.evL (Ev.buildI2 rfl rfl) (by decide) ?_ | refine GPW.evL (by exact Ev.buildI2 rfl rfl) (by decide) ?_))
  repeat (first | refine runB ?_ | intro _ | ((with_reducible apply G.atDraw); first | refine G.draw (N := 220) (id := 14) plN2_4_14 mixed (by kernel_rfl) ?_ | refine G.draw (N := 220) (id := 17) plN2_4_17 mixed (by kernel_rfl) ?_ | refine G.draw (N := 220) (id := 21) plN2_4_21 mixed (by kernel_rfl) ?_))
  (first | ((with_reducible apply GO.atPlain); first | refine GO.ev (Ev.buildI2 rfl rfl) (by decide) ?_ | refine GO.ev (by exact Ev.buildI2 rfl rfl) (by decide) ?_) | ((with_reducible apply GPW.atEv); first | refine GPW.evP (Ev.buildI2 rfl rfl) (by decide) ?_ | refine GPW.evP (by exact Ev.buildI2 rfl rfl) (by decide) ?_) | ((with_reducible apply GPW.atEv); first | refine GPW.evL (Ev.buildI2 rfl rfl) (by decide) ?_ | refine GPW.evL (by exact Ev.buildI2 rfl rfl) (by decide) ?_))
  repeat (first | refine runB ?_ | intro _ | ((with_reducible apply G.atDraw); first | refine G.draw (N := 220) (id := 14) plN2_4_14 mixed (by kernel_rfl) ?_ | refine G.draw (N := 220) (id := 17) plN2_4_17 mixed (by kernel_rfl) ?_ | refine G.draw (N := 220) (id := 21) plN2_4_21 mixed (by kernel_rfl) ?_))
  (first | ((with_reducible apply GO.atPlain); first | refine GO.ef (Ef.callAll (around_spec sh 4 hsh (by decide) (by decide)) rfl) (by decide) ?_ | refine GO.ef (by exact Ef.callAll (around_spec sh 4 hsh (by decide) (by decide)) rfl) (by decide) ?_) | ((with_reducible apply GPW.atEf); first | refine GPW.ef (Ef.callAll (around_spec sh 4 hsh (by decide) (by decide)) rfl) (by decide) ?_ | refine GPW.ef (by exact Ef.callAll (around_spec sh 4 hsh (by decide) (by decide)) rfl) (by decide) ?_))
  rintro _ _ ⟨rfl, rfl⟩
  repeat (first | refine runB ?_ | intro _ | ((with_reducible apply G.atDraw); first | refine G.draw (N := 220) (id := 14) plN2_4_14 mixed (by kernel_rfl) ?_ | refine G.draw (N := 220) (id := 17) plN2_4_17 mixed (by kernel_rfl) ?_ | refine G.draw (N := 220) (id := 21) plN2_4_21 mixed (by kernel_rfl) ?_))
  (first | ((with_reducible apply GO.atPlain); first | refine GO.ef (Ef.callAll (around_spec int 4 hint (by decide) (by decide)) rfl) (by decide) ?_ | refine GO.ef (by exact Ef.callAll (around_spec int 4 hint (by decide) (by decide)) rfl) (by decide) ?_) | ((with_reducible apply GPW.atEf); first | refine GPW.ef (Ef.callAll (around_spec int 4 hint (by decide) (by decide)) rfl) (by decide) ?_ | refine GPW.ef (by exact Ef.callAll (around_spec int 4 hint (by decide) (by decide)) rfl) (by decide) ?_))
  rintro _ _ ⟨rfl, rfl⟩
  repeat (first | refine runB ?_ | intro _ | ((with_reducible apply G.atDraw); first | refine G.draw (N := 220) (id := 14) plN2_4_14 mixed (by kernel_rfl) ?_ | refine G.draw (N := 220) (id := 17) plN2_4_17 mixed (by kernel_rfl) ?_ | refine G.draw (N := 220) (id := 21) plN2_4_21 mixed (by kernel_rfl) ?_))
  (first | ((with_reducible apply GO.atPlain); first | refine GO.ev (Ev.buildI2 rfl rfl) (by decide) ?_ | refine GO.ev (by exact Ev.buildI2 rfl rfl) (by decide) ?_) | ((with_reducible apply GPW.atEv); first | refine GPW.evP (Ev.buildI2 rfl rfl) (by decide) ?_ | refine GPW.evP (by exact Ev.buildI2 rfl rfl) (by decide) ?_) | ((with_reducible apply GPW.atEv); first | refine GPW.evL (Ev.buildI2 rfl rfl) (by decide) ?_ | refine GPW.evL (by exact Ev.buildI2 rfl rfl) (by decide) ?_))
  repeat (first | refine runB ?_ | intro _ | ((with_reducible apply G.atDraw); first | refine G.draw (N := 220) (id := 14) plN2_4_14 mixed (by kernel_rfl) ?_ | refine G.draw (N := 220) (id := 17) plN2_4_17 mixed (by kernel_rfl) ?_ | refine G.draw (N := 220) (id := 21) plN2_4_21 mixed (by kernel_rfl) ?_))
  rename_i br bs
  obtain ⟨rs, hrs⟩ : ∃ rs : List Hm, rs = [(fr, to), (1 + around fr 20, 1 + around to 30), (1 + around fr 20, 1073741824)] := ⟨_, rfl⟩
  obtain ⟨ss, hss⟩ : ∃ ss : List Hm, ss = [(sh, int), (around sh 4, around int 4)] := ⟨_, rfl⟩
  have hrl : rs.length = 3 := by rw [hrs]; rfl
  have hsl : ss.length = 2 := by rw [hss]; rfl
  have hrb : ∀ x ∈ rs, I64 x.2 := by
    intro x hx
    rw [hrs] at hx
    simp only [List.mem_cons, List.not_mem_nil, or_false] at hx
    rcases hx with rfl | rfl | rfl
    · exact hto
    · exact ⟨by dsimp only; omega, by dsimp only; omega⟩
    · exact ⟨by dsimp only; omega, by dsimp only; omega⟩
  refine G.loop (α := Nat) (fun i => i ≤ 3) (fun i => [(15, .slice adx l.length capx), (16, .slice (some ⟨br, 0, none⟩) 3 3), (17, .slice (some ⟨bs, 0, none⟩) 2 2), (18, .int .i64 (i : Int))]) (fun _ => isl encH 2 (some ⟨bs, 0, none⟩) ss :: isl encH 2 (some ⟨br, 0, none⟩) rs :: isl encH 2 adx l :: L) (fun i => 3 - i) 0 (by decide) (by repeat (first | exact EnvSub.nil _ | refine EnvSub.cons rfl ?_)) ?_ ?_
  · refine (Ent.objSl (enc := encH) (sz := 2) (xs := ss) (by rw [hss]; rfl) hsl (by intro y _; rfl) (by decide)).trans ?_
    refine (Ent.frz (some ⟨bs, 0, none⟩)).trans (Ent.consR ?_)
    refine (Ent.objSl (enc := encH) (sz := 2) (xs := rs) (by rw [hrs]; rfl) hrl (by intro y _; rfl) (by decide)).trans ?_
    exact Ent.frz (some ⟨br, 0, none⟩)
  clear hrs hss
  intro i hi
  by_cases hlt : i < 3
  case neg =>
    repeat (first | refine runB ?_ | intro _ | ((with_reducible apply G.atDraw); first | refine G.draw (N := 220) (id := 14) plN2_4_14 mixed (by kernel_rfl) ?_ | refine G.draw (N := 220) (id := 17) plN2_4_17 mixed (by kernel_rfl) ?_ | refine G.draw (N := 220) (id := 21) plN2_4_21 mixed (by kernel_rfl) ?_))
    (first | ((with_reducible apply GO.atPlain); first | refine GO.ef (Ef.callAll (lives_spec) rfl) (by decide) ?_ | refine GO.ef (by exact Ef.callAll (lives_spec) rfl) (by decide) ?_) | ((with_reducible apply GPW.atEf); first | refine GPW.ef (Ef.callAll (lives_spec) rfl) (by decide) ?_ | refine GPW.ef (by exact Ef.callAll (lives_spec) rfl) (by decide) ?_))
    rintro _ _ ⟨rfl, rfl⟩
    repeat (first | refine runB ?_ | intro _ | ((with_reducible apply G.atDraw); first | refine G.draw (N := 220) (id := 14) plN2_4_14 mixed (by kernel_rfl) ?_ | refine G.draw (N := 220) (id := 17) plN2_4_17 mixed (by kernel_rfl) ?_ | refine G.draw (N := 220) (id := 21) plN2_4_21 mixed (by kernel_rfl) ?_))
    exact KX.ends (by first | exact ResOk.tmps rfl | (repeat (first | exact ResOk.nil | apply ResOk.tmp rfl | apply ResOk.cell rfl (by rfl) | apply ResOk.cell1 rfl))) (by repeat (first | exact Ent.refl _ | exact Ent.nil _ | refine Ent.take' ?_ | refine Ent.trans Ent.drop ?_)) ⟨rfl, rfl⟩
  have hrm : rs[(i : Int).toNat]! ∈ rs := mem_get! (by omega)
  have hrI := hrb _ hrm
  repeat (first | refine runB ?_ | intro _ | ((with_reducible apply G.atDraw); first | refine G.draw (N := 220) (id := 14) plN2_4_14 mixed (by kernel_rfl) ?_ | refine G.draw (N := 220) (id := 17) plN2_4_17 mixed (by kernel_rfl) ?_ | refine G.draw (N := 220) (id := 21) plN2_4_21 mixed (by kernel_rfl) ?_))
  refine G.loop (α := Nat) (fun k => k ≤ 2) (fun k => [(15, .slice adx l.length capx), (16, .slice (some ⟨br, 0, none⟩) 3 3), (17, .slice (some ⟨bs, 0, none⟩) 2 2), (18, .int .i64 (i : Int)), (19, .int .i64 (k : Int))]) (fun _ => isl encH 2 (some ⟨bs, 0, none⟩) ss :: isl encH 2 (some ⟨br, 0, none⟩) rs :: isl encH 2 adx l :: L) (fun k => 2 - k) 0 (by decide) (by repeat (first | exact EnvSub.nil _ | refine EnvSub.cons rfl ?_)) (Ent.refl _) ?_
  intro k hk2
  by_cases hkl : k < 2
  case neg =>
    repeat (first | refine runB ?_ | intro _ | ((with_reducible apply G.atDraw); first | refine G.draw (N := 220) (id := 14) plN2_4_14 mixed (by kernel_rfl) ?_ | refine G.draw (N := 220) (id := 17) plN2_4_17 mixed (by kernel_rfl) ?_ | refine G.draw (N := 220) (id := 21) plN2_4_21 mixed (by kernel_rfl) ?_))
    refine ⟨i + 1, by omega, by omega, ?_, Ent.refl _⟩
    rw [show ((i + 1 : Nat) : Int) = (i : Int) + 1 by omega]
    exact (by repeat (first | exact EnvSub.nil _ | refine EnvSub.cons rfl ?_))
  repeat (first | refine runB ?_ | intro _ | ((with_reducible apply G.atDraw); first | refine G.draw (N := 220) (id := 14) plN2_4_14 mixed (by kernel_rfl) ?_ | refine G.draw (N := 220) (id := 17) plN2_4_17 mixed (by kernel_rfl) ?_ | refine G.draw (N := 220) (id := 21) plN2_4_21 mixed (by kernel_rfl) ?_))
  (first | ((with_reducible apply GO.atPlain); first | refine GO.ef (Ef.callAll (homes_spec adx l.length capx l rfl (by omega)) rfl) (by decide) ?_ | refine GO.ef (by exact Ef.callAll (homes_spec adx l.length capx l rfl (by omega)) rfl) (by decide) ?_) | ((with_reducible apply GPW.atEf); first | refine GPW.ef (Ef.callAll (homes_spec adx l.length capx l rfl (by omega)) rfl) (by decide) ?_ | refine GPW.ef (by exact Ef.callAll (homes_spec adx l.length capx l rfl (by omega)) rfl) (by decide) ?_))
  rintro _ _ ⟨ad5, cap5, rfl, rfl⟩
  repeat (first | refine runB ?_ | intro _ | ((with_reducible apply G.atDraw); first | refine G.draw (N := 220) (id := 14) plN2_4_14 mixed (by kernel_rfl) ?_ | refine G.draw (N := 220) (id := 17) plN2_4_17 mixed (by kernel_rfl) ?_ | refine G.draw (N := 220) (id := 21) plN2_4_21 mixed (by kernel_rfl) ?_))
  (first | ((with_reducible apply GO.atPlain); first | refine GO.ef (Ef.callAll (split_spec rs[(i : Int).toNat]!.1 rs[(i : Int).toNat]!.2 ss[(k : Int).toNat]!.1 ad5 l.length cap5 l rfl (by omega)) rfl) (by decide) ?_ | refine GO.ef (by exact Ef.callAll (split_spec rs[(i : Int).toNat]!.1 rs[(i : Int).toNat]!.2 ss[(k : Int).toNat]!.1 ad5 l.length cap5 l rfl (by omega)) rfl) (by decide) ?_) | ((with_reducible apply GPW.atEf); first | refine GPW.ef (Ef.callAll (split_spec rs[(i : Int).toNat]!.1 rs[(i : Int).toNat]!.2 ss[(k : Int).toNat]!.1 ad5 l.length cap5 l rfl (by omega)) rfl) (by decide) ?_ | refine GPW.ef (by exact Ef.callAll (split_spec rs[(i : Int).toNat]!.1 rs[(i : Int).toNat]!.2 ss[(k : Int).toNat]!.1 ad5 l.length cap5 l rfl (by omega)) rfl) (by decide) ?_))
  rintro _ _ ⟨ada, capa, rfl, rfl⟩
  repeat (first | refine runB ?_ | intro _ | ((with_reducible apply G.atDraw); first | refine G.draw (N := 220) (id := 14) plN2_4_14 mixed (by kernel_rfl) ?_ | refine G.draw (N := 220) (id := 17) plN2_4_17 mixed (by kernel_rfl) ?_ | refine G.draw (N := 220) (id := 21) plN2_4_21 mixed (by kernel_rfl) ?_))
  (first | ((with_reducible apply GO.atPlain); first | refine GO.ef (Ef.callAll (homes_spec adx l.length capx l rfl (by omega)) rfl) (by decide) ?_ | refine GO.ef (by exact Ef.callAll (homes_spec adx l.length capx l rfl (by omega)) rfl) (by decide) ?_) | ((with_reducible apply GPW.atEf); first | refine GPW.ef (Ef.callAll (homes_spec adx l.length capx l rfl (by omega)) rfl) (by decide) ?_ | refine GPW.ef (by exact Ef.callAll (homes_spec adx l.length capx l rfl (by omega)) rfl) (by decide) ?_))
  rintro _ _ ⟨ad6, cap6, rfl, rfl⟩
  repeat (first | refine runB ?_ | intro _ | ((with_reducible apply G.atDraw); first | refine G.draw (N := 220) (id := 14) plN2_4_14 mixed (by kernel_rfl) ?_ | refine G.draw (N := 220) (id := 17) plN2_4_17 mixed (by kernel_rfl) ?_ | refine G.draw (N := 220) (id := 21) plN2_4_21 mixed (by kernel_rfl) ?_))
  (first | ((with_reducible apply GO.atPlain); first | refine GO.ef (Ef.callAll (join_spec ss[(k : Int).toNat]!.1 ss[(k : Int).toNat]!.2 ad6 l.length cap6 l rfl (by omega)) rfl) (by decide) ?_ | refine GO.ef (by exact Ef.callAll (join_spec ss[(k : Int).toNat]!.1 ss[(k : Int).toNat]!.2 ad6 l.length cap6 l rfl (by omega)) rfl) (by decide) ?_) | ((with_reducible apply GPW.atEf); first | refine GPW.ef (Ef.callAll (join_spec ss[(k : Int).toNat]!.1 ss[(k : Int).toNat]!.2 ad6 l.length cap6 l rfl (by omega)) rfl) (by decide) ?_ | refine GPW.ef (by exact Ef.callAll (join_spec ss[(k : Int).toNat]!.1 ss[(k : Int).toNat]!.2 ad6 l.length cap6 l rfl (by omega)) rfl) (by decide) ?_))
  rintro _ _ ⟨adb, capb, rfl, rfl⟩
  repeat (first | ((fail_if_success (with_reducible refine G.atS 16 ?_)); (with_reducible apply G.seq)) | refine runBS ?_ | intro _ | ((with_reducible apply G.atDraw); first | refine G.draw (N := 220) (id := 14) plN2_4_14 mixed (by kernel_rfl) ?_ | refine G.draw (N := 220) (id := 17) plN2_4_17 mixed (by kernel_rfl) ?_ | refine G.draw (N := 220) (id := 21) plN2_4_21 mixed (by kernel_rfl) ?_))
  obtain ⟨okb, hokb⟩ : ∃ b : Bool, b = dB (HOk 12 l ∧ 0 ≤ ss[(k : Int).toNat]!.1 ∧ ss[(k : Int).toNat]!.1 < 12) := ⟨_, rfl⟩
  refine G.join (α := Unit) (fun _ => True) (fun _ => [(15, .slice adx l.length capx), (16, .slice (some ⟨br, 0, none⟩) 3 3), (17, .slice (some ⟨bs, 0, none⟩) 2 2), (18, .int .i64 (i : Int)), (19, .int .i64 (k : Int)), (20, .int .i64 ss[(k : Int).toNat]!.1), (21, .int .i64 ss[(k : Int).toNat]!.2), (22, .slice ada (splitRes l rs[(i : Int).toNat]!.1 rs[(i : Int).toNat]!.2 ss[(k : Int).toNat]!.1).1.length capa), (23, .int .i64 (splitRes l rs[(i : Int).toNat]!.1 rs[(i : Int).toNat]!.2 ss[(k : Int).toNat]!.1).2), (24, .slice adb (joinRes l ss[(k : Int).toNat]!.1 ss[(k : Int).toNat]!.2).1.length capb), (25, .int .i64 (joinRes l ss[(k : Int).toNat]!.1 ss[(k : Int).toNat]!.2).2), (26, .bool okb)]) (fun _ => osl encH 2 84 adb capb (joinRes l ss[(k : Int).toNat]!.1 ss[(k : Int).toNat]!.2).1 :: osl encH 2 84 ada capa (splitRes l rs[(i : Int).toNat]!.1 rs[(i : Int).toNat]!.2 ss[(k : Int).toNat]!.1).1 :: isl encH 2 (some ⟨bs, 0, none⟩) ss :: isl encH 2 (some ⟨br, 0, none⟩) rs :: isl encH 2 adx l :: L) ?_ ?_
  · by_cases hq : HOk 12 l
    case neg =>
      rw [dB_neg (fun e => hq e.1)] at hokb
      subst hokb
      repeat (first | refine runB ?_ | intro _ | ((with_reducible apply G.atDraw); first | refine G.draw (N := 220) (id := 14) plN2_4_14 mixed (by kernel_rfl) ?_ | refine G.draw (N := 220) (id := 17) plN2_4_17 mixed (by kernel_rfl) ?_ | refine G.draw (N := 220) (id := 21) plN2_4_21 mixed (by kernel_rfl) ?_))
      (first | ((with_reducible apply GO.atPlain); first | refine GO.ef (Ef.callAll (rvalid_spec 12 adx l.length capx l rfl (by omega)) rfl) (by decide) ?_ | refine GO.ef (by exact Ef.callAll (rvalid_spec 12 adx l.length capx l rfl (by omega)) rfl) (by decide) ?_) | ((with_reducible apply GPW.atEf); first | refine GPW.ef (Ef.callAll (rvalid_spec 12 adx l.length capx l rfl (by omega)) rfl) (by decide) ?_ | refine GPW.ef (by exact Ef.callAll (rvalid_spec 12 adx l.length capx l rfl (by omega)) rfl) (by decide) ?_))
      rintro _ _ ⟨rfl, rfl⟩
      repeat (first | refine runB ?_ | intro _ | ((with_reducible apply G.atDraw); first | refine G.draw (N := 220) (id := 14) plN2_4_14 mixed (by kernel_rfl) ?_ | refine G.draw (N := 220) (id := 17) plN2_4_17 mixed (by kernel_rfl) ?_ | refine G.draw (N := 220) (id := 21) plN2_4_21 mixed (by kernel_rfl) ?_))
      exact ⟨(), trivial, (by repeat (first | exact EnvSub.nil _ | refine EnvSub.cons rfl ?_)), by repeat (first | exact Ent.refl _ | exact Ent.nil _ | refine Ent.take' ?_ | refine Ent.trans Ent.drop ?_)⟩
    by_cases hq1 : 0 ≤ ss[(k : Int).toNat]!.1
    case neg =>
      rw [dB_neg (fun e => hq1 e.2.1)] at hokb
      subst hokb
      repeat (first | refine runB ?_ | intro _ | ((with_reducible apply G.atDraw); first | refine G.draw (N := 220) (id := 14) plN2_4_14 mixed (by kernel_rfl) ?_ | refine G.draw (N := 220) (id := 17) plN2_4_17 mixed (by kernel_rfl) ?_ | refine G.draw (N := 220) (id := 21) plN2_4_21 mixed (by kernel_rfl) ?_))
      (first | ((with_reducible apply GO.atPlain); first | refine GO.ef (Ef.callAll (rvalid_spec 12 adx l.length capx l rfl (by omega)) rfl) (by decide) ?_ | refine GO.ef (by exact Ef.callAll (rvalid_spec 12 adx l.length capx l rfl (by omega)) rfl) (by decide) ?_) | ((with_reducible apply GPW.atEf); first | refine GPW.ef (Ef.callAll (rvalid_spec 12 adx l.length capx l rfl (by omega)) rfl) (by decide) ?_ | refine GPW.ef (by exact Ef.callAll (rvalid_spec 12 adx l.length capx l rfl (by omega)) rfl) (by decide) ?_))
      rintro _ _ ⟨rfl, rfl⟩
      repeat (first | refine runB ?_ | intro _ | ((with_reducible apply G.atDraw); first | refine G.draw (N := 220) (id := 14) plN2_4_14 mixed (by kernel_rfl) ?_ | refine G.draw (N := 220) (id := 17) plN2_4_17 mixed (by kernel_rfl) ?_ | refine G.draw (N := 220) (id := 21) plN2_4_21 mixed (by kernel_rfl) ?_))
      exact ⟨(), trivial, (by repeat (first | exact EnvSub.nil _ | refine EnvSub.cons rfl ?_)), by repeat (first | exact Ent.refl _ | exact Ent.nil _ | refine Ent.take' ?_ | refine Ent.trans Ent.drop ?_)⟩
    by_cases hq2 : ss[(k : Int).toNat]!.1 < 12
    case neg =>
      rw [dB_neg (fun e => hq2 e.2.2)] at hokb
      subst hokb
      repeat (first | refine runB ?_ | intro _ | ((with_reducible apply G.atDraw); first | refine G.draw (N := 220) (id := 14) plN2_4_14 mixed (by kernel_rfl) ?_ | refine G.draw (N := 220) (id := 17) plN2_4_17 mixed (by kernel_rfl) ?_ | refine G.draw (N := 220) (id := 21) plN2_4_21 mixed (by kernel_rfl) ?_))
      (first | ((with_reducible apply GO.atPlain); first | refine GO.ef (Ef.callAll (rvalid_spec 12 adx l.length capx l rfl (by omega)) rfl) (by decide) ?_ | refine GO.ef (by exact Ef.callAll (rvalid_spec 12 adx l.length capx l rfl (by omega)) rfl) (by decide) ?_) | ((with_reducible apply GPW.atEf); first | refine GPW.ef (Ef.callAll (rvalid_spec 12 adx l.length capx l rfl (by omega)) rfl) (by decide) ?_ | refine GPW.ef (by exact Ef.callAll (rvalid_spec 12 adx l.length capx l rfl (by omega)) rfl) (by decide) ?_))
      rintro _ _ ⟨rfl, rfl⟩
      repeat (first | refine runB ?_ | intro _ | ((with_reducible apply G.atDraw); first | refine G.draw (N := 220) (id := 14) plN2_4_14 mixed (by kernel_rfl) ?_ | refine G.draw (N := 220) (id := 17) plN2_4_17 mixed (by kernel_rfl) ?_ | refine G.draw (N := 220) (id := 21) plN2_4_21 mixed (by kernel_rfl) ?_))
      rw [dB_neg hq2]
      exact ⟨(), trivial, (by repeat (first | exact EnvSub.nil _ | refine EnvSub.cons rfl ?_)), by repeat (first | exact Ent.refl _ | exact Ent.nil _ | refine Ent.take' ?_ | refine Ent.trans Ent.drop ?_)⟩
    rw [dB_pos ⟨hq, hq1, hq2⟩] at hokb
    subst hokb
    repeat (first | refine runB ?_ | intro _ | ((with_reducible apply G.atDraw); first | refine G.draw (N := 220) (id := 14) plN2_4_14 mixed (by kernel_rfl) ?_ | refine G.draw (N := 220) (id := 17) plN2_4_17 mixed (by kernel_rfl) ?_ | refine G.draw (N := 220) (id := 21) plN2_4_21 mixed (by kernel_rfl) ?_))
    (first | ((with_reducible apply GO.atPlain); first | refine GO.ef (Ef.callAll (rvalid_spec 12 adx l.length capx l rfl (by omega)) rfl) (by decide) ?_ | refine GO.ef (by exact Ef.callAll (rvalid_spec 12 adx l.length capx l rfl (by omega)) rfl) (by decide) ?_) | ((with_reducible apply GPW.atEf); first | refine GPW.ef (Ef.callAll (rvalid_spec 12 adx l.length capx l rfl (by omega)) rfl) (by decide) ?_ | refine GPW.ef (by exact Ef.callAll (rvalid_spec 12 adx l.length capx l rfl (by omega)) rfl) (by decide) ?_))
    rintro _ _ ⟨rfl, rfl⟩
    repeat (first | refine runB ?_ | intro _ | ((with_reducible apply G.atDraw); first | refine G.draw (N := 220) (id := 14) plN2_4_14 mixed (by kernel_rfl) ?_ | refine G.draw (N := 220) (id := 17) plN2_4_17 mixed (by kernel_rfl) ?_ | refine G.draw (N := 220) (id := 21) plN2_4_21 mixed (by kernel_rfl) ?_))
    rw [dB_pos hq2]
    exact ⟨(), trivial, (by repeat (first | exact EnvSub.nil _ | refine EnvSub.cons rfl ?_)), by repeat (first | exact Ent.refl _ | exact Ent.nil _ | refine Ent.take' ?_ | refine Ent.trans Ent.drop ?_)⟩
  rintro _ _
  repeat (first | ((fail_if_success (with_reducible refine G.atS 17 ?_)); (with_reducible apply G.seq)) | refine runBS ?_ | intro _ | ((with_reducible apply G.atDraw); first | refine G.draw (N := 220) (id := 14) plN2_4_14 mixed (by kernel_rfl) ?_ | refine G.draw (N := 220) (id := 17) plN2_4_17 mixed (by kernel_rfl) ?_ | refine G.draw (N := 220) (id := 21) plN2_4_21 mixed (by kernel_rfl) ?_))
  obtain ⟨goodb, hgb⟩ : ∃ b : Bool, b = dB ((HOk 12 l ∧ 0 ≤ ss[(k : Int).toNat]!.1 ∧ ss[(k : Int).toNat]!.1 < 12) ∧ 1 ≤ rs[(i : Int).toNat]!.1 ∧ rs[(i : Int).toNat]!.1 ≤ rs[(i : Int).toNat]!.2 ∧ rs[(i : Int).toNat]!.2 ≤ 1073741824) := ⟨_, rfl⟩
  refine G.join (α := Unit) (fun _ => True) (fun _ => [(15, .slice adx l.length capx), (16, .slice (some ⟨br, 0, none⟩) 3 3), (17, .slice (some ⟨bs, 0, none⟩) 2 2), (18, .int .i64 (i : Int)), (19, .int .i64 (k : Int)), (20, .int .i64 ss[(k : Int).toNat]!.1), (21, .int .i64 ss[(k : Int).toNat]!.2), (22, .slice ada (splitRes l rs[(i : Int).toNat]!.1 rs[(i : Int).toNat]!.2 ss[(k : Int).toNat]!.1).1.length capa), (23, .int .i64 (splitRes l rs[(i : Int).toNat]!.1 rs[(i : Int).toNat]!.2 ss[(k : Int).toNat]!.1).2), (24, .slice adb (joinRes l ss[(k : Int).toNat]!.1 ss[(k : Int).toNat]!.2).1.length capb), (25, .int .i64 (joinRes l ss[(k : Int).toNat]!.1 ss[(k : Int).toNat]!.2).2), (26, .bool okb), (27, .bool goodb)]) (fun _ => osl encH 2 84 adb capb (joinRes l ss[(k : Int).toNat]!.1 ss[(k : Int).toNat]!.2).1 :: osl encH 2 84 ada capa (splitRes l rs[(i : Int).toNat]!.1 rs[(i : Int).toNat]!.2 ss[(k : Int).toNat]!.1).1 :: isl encH 2 (some ⟨bs, 0, none⟩) ss :: isl encH 2 (some ⟨br, 0, none⟩) rs :: isl encH 2 adx l :: L) ?_ ?_
  · by_cases hok : HOk 12 l ∧ 0 ≤ ss[(k : Int).toNat]!.1 ∧ ss[(k : Int).toNat]!.1 < 12
    case neg =>
      rw [dB_neg hok] at hokb
      rw [dB_neg (fun e => hok e.1)] at hgb
      subst hokb
      subst hgb
      repeat (first | refine runB ?_ | intro _ | ((with_reducible apply G.atDraw); first | refine G.draw (N := 220) (id := 14) plN2_4_14 mixed (by kernel_rfl) ?_ | refine G.draw (N := 220) (id := 17) plN2_4_17 mixed (by kernel_rfl) ?_ | refine G.draw (N := 220) (id := 21) plN2_4_21 mixed (by kernel_rfl) ?_))
      exact ⟨(), trivial, (by repeat (first | exact EnvSub.nil _ | refine EnvSub.cons rfl ?_)), by repeat (first | exact Ent.refl _ | exact Ent.nil _ | refine Ent.take' ?_ | refine Ent.trans Ent.drop ?_)⟩
    rw [dB_pos hok] at hokb
    subst hokb
    by_cases h1 : 1 ≤ rs[(i : Int).toNat]!.1
    case neg =>
      rw [dB_neg (fun e => h1 e.2.1)] at hgb
      subst hgb
      repeat (first | refine runB ?_ | intro _ | ((with_reducible apply G.atDraw); first | refine G.draw (N := 220) (id := 14) plN2_4_14 mixed (by kernel_rfl) ?_ | refine G.draw (N := 220) (id := 17) plN2_4_17 mixed (by kernel_rfl) ?_ | refine G.draw (N := 220) (id := 21) plN2_4_21 mixed (by kernel_rfl) ?_))
      exact ⟨(), trivial, (by repeat (first | exact EnvSub.nil _ | refine EnvSub.cons rfl ?_)), by repeat (first | exact Ent.refl _ | exact Ent.nil _ | refine Ent.take' ?_ | refine Ent.trans Ent.drop ?_)⟩
    by_cases h2 : rs[(i : Int).toNat]!.1 ≤ rs[(i : Int).toNat]!.2
    case neg =>
      rw [dB_neg (fun e => h2 e.2.2.1)] at hgb
      subst hgb
      repeat (first | refine runB ?_ | intro _ | ((with_reducible apply G.atDraw); first | refine G.draw (N := 220) (id := 14) plN2_4_14 mixed (by kernel_rfl) ?_ | refine G.draw (N := 220) (id := 17) plN2_4_17 mixed (by kernel_rfl) ?_ | refine G.draw (N := 220) (id := 21) plN2_4_21 mixed (by kernel_rfl) ?_))
      exact ⟨(), trivial, (by repeat (first | exact EnvSub.nil _ | refine EnvSub.cons rfl ?_)), by repeat (first | exact Ent.refl _ | exact Ent.nil _ | refine Ent.take' ?_ | refine Ent.trans Ent.drop ?_)⟩
    by_cases h3 : rs[(i : Int).toNat]!.2 ≤ 1073741824
    case neg =>
      rw [dB_neg (fun e => h3 e.2.2.2)] at hgb
      subst hgb
      repeat (first | refine runB ?_ | intro _ | ((with_reducible apply G.atDraw); first | refine G.draw (N := 220) (id := 14) plN2_4_14 mixed (by kernel_rfl) ?_ | refine G.draw (N := 220) (id := 17) plN2_4_17 mixed (by kernel_rfl) ?_ | refine G.draw (N := 220) (id := 21) plN2_4_21 mixed (by kernel_rfl) ?_))
      rw [dB_neg h3]
      exact ⟨(), trivial, (by repeat (first | exact EnvSub.nil _ | refine EnvSub.cons rfl ?_)), by repeat (first | exact Ent.refl _ | exact Ent.nil _ | refine Ent.take' ?_ | refine Ent.trans Ent.drop ?_)⟩
    rw [dB_pos ⟨hok, h1, h2, h3⟩] at hgb
    subst hgb
    repeat (first | refine runB ?_ | intro _ | ((with_reducible apply G.atDraw); first | refine G.draw (N := 220) (id := 14) plN2_4_14 mixed (by kernel_rfl) ?_ | refine G.draw (N := 220) (id := 17) plN2_4_17 mixed (by kernel_rfl) ?_ | refine G.draw (N := 220) (id := 21) plN2_4_21 mixed (by kernel_rfl) ?_))
    rw [dB_pos h3]
    exact ⟨(), trivial, (by repeat (first | exact EnvSub.nil _ | refine EnvSub.cons rfl ?_)), by repeat (first | exact Ent.refl _ | exact Ent.nil _ | refine Ent.take' ?_ | refine Ent.trans Ent.drop ?_)⟩
  rintro _ _
  repeat (first | ((fail_if_success (with_reducible refine G.atS 18 ?_)); (with_reducible apply G.seq)) | refine runBS ?_ | intro _ | ((with_reducible apply G.atDraw); first | refine G.draw (N := 220) (id := 14) plN2_4_14 mixed (by kernel_rfl) ?_ | refine G.draw (N := 220) (id := 17) plN2_4_17 mixed (by kernel_rfl) ?_ | refine G.draw (N := 220) (id := 21) plN2_4_21 mixed (by kernel_rfl) ?_))
  obtain ⟨fineb, hfb⟩ : ∃ b : Bool, b = dB ((HOk 12 l ∧ 0 ≤ ss[(k : Int).toNat]!.1 ∧ ss[(k : Int).toNat]!.1 < 12) ∧ 0 ≤ ss[(k : Int).toNat]!.2 ∧ ss[(k : Int).toNat]!.2 < 12) := ⟨_, rfl⟩
  refine G.join (α := Unit) (fun _ => True) (fun _ => [(15, .slice adx l.length capx), (16, .slice (some ⟨br, 0, none⟩) 3 3), (17, .slice (some ⟨bs, 0, none⟩) 2 2), (18, .int .i64 (i : Int)), (19, .int .i64 (k : Int)), (20, .int .i64 ss[(k : Int).toNat]!.1), (21, .int .i64 ss[(k : Int).toNat]!.2), (22, .slice ada (splitRes l rs[(i : Int).toNat]!.1 rs[(i : Int).toNat]!.2 ss[(k : Int).toNat]!.1).1.length capa), (23, .int .i64 (splitRes l rs[(i : Int).toNat]!.1 rs[(i : Int).toNat]!.2 ss[(k : Int).toNat]!.1).2), (24, .slice adb (joinRes l ss[(k : Int).toNat]!.1 ss[(k : Int).toNat]!.2).1.length capb), (25, .int .i64 (joinRes l ss[(k : Int).toNat]!.1 ss[(k : Int).toNat]!.2).2), (27, .bool goodb), (28, .bool fineb)]) (fun _ => osl encH 2 84 adb capb (joinRes l ss[(k : Int).toNat]!.1 ss[(k : Int).toNat]!.2).1 :: osl encH 2 84 ada capa (splitRes l rs[(i : Int).toNat]!.1 rs[(i : Int).toNat]!.2 ss[(k : Int).toNat]!.1).1 :: isl encH 2 (some ⟨bs, 0, none⟩) ss :: isl encH 2 (some ⟨br, 0, none⟩) rs :: isl encH 2 adx l :: L) ?_ ?_
  · by_cases hok : HOk 12 l ∧ 0 ≤ ss[(k : Int).toNat]!.1 ∧ ss[(k : Int).toNat]!.1 < 12
    case neg =>
      rw [dB_neg hok] at hokb
      rw [dB_neg (fun e => hok e.1)] at hfb
      subst hokb
      subst hfb
      repeat (first | refine runB ?_ | intro _ | ((with_reducible apply G.atDraw); first | refine G.draw (N := 220) (id := 14) plN2_4_14 mixed (by kernel_rfl) ?_ | refine G.draw (N := 220) (id := 17) plN2_4_17 mixed (by kernel_rfl) ?_ | refine G.draw (N := 220) (id := 21) plN2_4_21 mixed (by kernel_rfl) ?_))
      exact ⟨(), trivial, (by repeat (first | exact EnvSub.nil _ | refine EnvSub.cons rfl ?_)), by repeat (first | exact Ent.refl _ | exact Ent.nil _ | refine Ent.take' ?_ | refine Ent.trans Ent.drop ?_)⟩
    rw [dB_pos hok] at hokb
    subst hokb
    by_cases h1 : 0 ≤ ss[(k : Int).toNat]!.2
    case neg =>
      rw [dB_neg (fun e => h1 e.2.1)] at hfb
      subst hfb
      repeat (first | refine runB ?_ | intro _ | ((with_reducible apply G.atDraw); first | refine G.draw (N := 220) (id := 14) plN2_4_14 mixed (by kernel_rfl) ?_ | refine G.draw (N := 220) (id := 17) plN2_4_17 mixed (by kernel_rfl) ?_ | refine G.draw (N := 220) (id := 21) plN2_4_21 mixed (by kernel_rfl) ?_))
      exact ⟨(), trivial, (by repeat (first | exact EnvSub.nil _ | refine EnvSub.cons rfl ?_)), by repeat (first | exact Ent.refl _ | exact Ent.nil _ | refine Ent.take' ?_ | refine Ent.trans Ent.drop ?_)⟩
    by_cases h2 : ss[(k : Int).toNat]!.2 < 12
    case neg =>
      rw [dB_neg (fun e => h2 e.2.2)] at hfb
      subst hfb
      repeat (first | refine runB ?_ | intro _ | ((with_reducible apply G.atDraw); first | refine G.draw (N := 220) (id := 14) plN2_4_14 mixed (by kernel_rfl) ?_ | refine G.draw (N := 220) (id := 17) plN2_4_17 mixed (by kernel_rfl) ?_ | refine G.draw (N := 220) (id := 21) plN2_4_21 mixed (by kernel_rfl) ?_))
      rw [dB_neg h2]
      exact ⟨(), trivial, (by repeat (first | exact EnvSub.nil _ | refine EnvSub.cons rfl ?_)), by repeat (first | exact Ent.refl _ | exact Ent.nil _ | refine Ent.take' ?_ | refine Ent.trans Ent.drop ?_)⟩
    rw [dB_pos ⟨hok, h1, h2⟩] at hfb
    subst hfb
    repeat (first | refine runB ?_ | intro _ | ((with_reducible apply G.atDraw); first | refine G.draw (N := 220) (id := 14) plN2_4_14 mixed (by kernel_rfl) ?_ | refine G.draw (N := 220) (id := 17) plN2_4_17 mixed (by kernel_rfl) ?_ | refine G.draw (N := 220) (id := 21) plN2_4_21 mixed (by kernel_rfl) ?_))
    rw [dB_pos h2]
    exact ⟨(), trivial, (by repeat (first | exact EnvSub.nil _ | refine EnvSub.cons rfl ?_)), by repeat (first | exact Ent.refl _ | exact Ent.nil _ | refine Ent.take' ?_ | refine Ent.trans Ent.drop ?_)⟩
  rintro _ _
  repeat (first | ((fail_if_success (with_reducible refine G.atSS 19 ?_)); (with_reducible apply G.seq)) | refine runBS ?_ | intro _ | ((with_reducible apply G.atDraw); first | refine G.draw (N := 220) (id := 14) plN2_4_14 mixed (by kernel_rfl) ?_ | refine G.draw (N := 220) (id := 17) plN2_4_17 mixed (by kernel_rfl) ?_ | refine G.draw (N := 220) (id := 21) plN2_4_21 mixed (by kernel_rfl) ?_))
  have hlA := splitH_len l rs[(i : Int).toNat]!.1 rs[(i : Int).toNat]!.2 ss[(k : Int).toNat]!.1
  have hlB := joinH_len l ss[(k : Int).toNat]!.1 ss[(k : Int).toNat]!.2
  by_cases hg : (HOk 12 l ∧ 0 ≤ ss[(k : Int).toNat]!.1 ∧ ss[(k : Int).toNat]!.1 < 12) ∧ 1 ≤ rs[(i : Int).toNat]!.1 ∧ rs[(i : Int).toNat]!.1 ≤ rs[(i : Int).toNat]!.2 ∧ rs[(i : Int).toNat]!.2 ≤ 1073741824
  case pos =>
    have eA : splitRes l rs[(i : Int).toNat]!.1 rs[(i : Int).toNat]!.2 ss[(k : Int).toNat]!.1 = (splitH l rs[(i : Int).toNat]!.1 rs[(i : Int).toNat]!.2 ss[(k : Int).toNat]!.1, 0) := if_pos ⟨hg.1.1, hg.1.2, hg.2.1, hg.2.2.1, hg.2.2.2⟩
    rw [dB_pos hg] at hgb
    by_cases hf : (HOk 12 l ∧ 0 ≤ ss[(k : Int).toNat]!.1 ∧ ss[(k : Int).toNat]!.1 < 12) ∧ 0 ≤ ss[(k : Int).toNat]!.2 ∧ ss[(k : Int).toNat]!.2 < 12
    case pos =>
      have eB : joinRes l ss[(k : Int).toNat]!.1 ss[(k : Int).toNat]!.2 = (joinH l ss[(k : Int).toNat]!.1 ss[(k : Int).toNat]!.2, 0) := if_pos ⟨hf.1.1, hf.1.2, hf.2.1, hf.2.2⟩
      rw [dB_pos hf] at hfb
      subst hgb
      subst hfb
      rw [eA, eB]
      dsimp only
      repeat (first | refine runB ?_ | intro _ | ((with_reducible apply G.atDraw); first | refine G.draw (N := 220) (id := 14) plN2_4_14 mixed (by kernel_rfl) ?_ | refine G.draw (N := 220) (id := 17) plN2_4_17 mixed (by kernel_rfl) ?_ | refine G.draw (N := 220) (id := 21) plN2_4_21 mixed (by kernel_rfl) ?_))
      (first | ((with_reducible apply GO.atPlain); first | refine GO.ev (Ev.neqBT rfl rfl) (by decide) ?_ | refine GO.ev (by exact Ev.neqBT rfl rfl) (by decide) ?_) | ((with_reducible apply GPW.atEv); first | refine GPW.evP (Ev.neqBT rfl rfl) (by decide) ?_ | refine GPW.evP (by exact Ev.neqBT rfl rfl) (by decide) ?_) | ((with_reducible apply GPW.atEv); first | refine GPW.evL (Ev.neqBT rfl rfl) (by decide) ?_ | refine GPW.evL (by exact Ev.neqBT rfl rfl) (by decide) ?_))
      repeat (first | refine runB ?_ | intro _ | ((with_reducible apply G.atDraw); first | refine G.draw (N := 220) (id := 14) plN2_4_14 mixed (by kernel_rfl) ?_ | refine G.draw (N := 220) (id := 17) plN2_4_17 mixed (by kernel_rfl) ?_ | refine G.draw (N := 220) (id := 21) plN2_4_21 mixed (by kernel_rfl) ?_))
      (first | ((with_reducible apply GO.atPlain); first | refine GO.ev (Ev.neqBT rfl rfl) (by decide) ?_ | refine GO.ev (by exact Ev.neqBT rfl rfl) (by decide) ?_) | ((with_reducible apply GPW.atEv); first | refine GPW.evP (Ev.neqBT rfl rfl) (by decide) ?_ | refine GPW.evP (by exact Ev.neqBT rfl rfl) (by decide) ?_) | ((with_reducible apply GPW.atEv); first | refine GPW.evL (Ev.neqBT rfl rfl) (by decide) ?_ | refine GPW.evL (by exact Ev.neqBT rfl rfl) (by decide) ?_))
      repeat (first | refine runB ?_ | intro _ | ((with_reducible apply G.atDraw); first | refine G.draw (N := 220) (id := 14) plN2_4_14 mixed (by kernel_rfl) ?_ | refine G.draw (N := 220) (id := 17) plN2_4_17 mixed (by kernel_rfl) ?_ | refine G.draw (N := 220) (id := 21) plN2_4_21 mixed (by kernel_rfl) ?_))
      (first | ((with_reducible apply GO.atPlain); first | refine GO.ef (Ef.callAll (rsplit_spec rs[(i : Int).toNat]!.1 rs[(i : Int).toNat]!.2 ss[(k : Int).toNat]!.1 adx l.length capx l rfl (by omega) hrI) rfl) (by decide) ?_ | refine GO.ef (by exact Ef.callAll (rsplit_spec rs[(i : Int).toNat]!.1 rs[(i : Int).toNat]!.2 ss[(k : Int).toNat]!.1 adx l.length capx l rfl (by omega) hrI) rfl) (by decide) ?_) | ((with_reducible apply GPW.atEf); first | refine GPW.ef (Ef.callAll (rsplit_spec rs[(i : Int).toNat]!.1 rs[(i : Int).toNat]!.2 ss[(k : Int).toNat]!.1 adx l.length capx l rfl (by omega) hrI) rfl) (by decide) ?_ | refine GPW.ef (by exact Ef.callAll (rsplit_spec rs[(i : Int).toNat]!.1 rs[(i : Int).toNat]!.2 ss[(k : Int).toNat]!.1 adx l.length capx l rfl (by omega) hrI) rfl) (by decide) ?_))
      rintro _ _ ⟨ad7, cap7, rfl, rfl⟩
      rw [refSplit_eq hg.1.1 hg.1.2 hg.2.2.1 hg.2.1 hg.2.2.2]
      repeat (first | refine runB ?_ | intro _ | ((with_reducible apply G.atDraw); first | refine G.draw (N := 220) (id := 14) plN2_4_14 mixed (by kernel_rfl) ?_ | refine G.draw (N := 220) (id := 17) plN2_4_17 mixed (by kernel_rfl) ?_ | refine G.draw (N := 220) (id := 21) plN2_4_21 mixed (by kernel_rfl) ?_))
      (first | ((with_reducible apply GO.atPlain); first | refine GO.ef (Ef.callAll (same_spec ada _ capa (splitH l rs[(i : Int).toNat]!.1 rs[(i : Int).toNat]!.2 ss[(k : Int).toNat]!.1) ad7 _ cap7 (splitH l rs[(i : Int).toNat]!.1 rs[(i : Int).toNat]!.2 ss[(k : Int).toNat]!.1) rfl rfl (by omega)) rfl) (by decide) ?_ | refine GO.ef (by exact Ef.callAll (same_spec ada _ capa (splitH l rs[(i : Int).toNat]!.1 rs[(i : Int).toNat]!.2 ss[(k : Int).toNat]!.1) ad7 _ cap7 (splitH l rs[(i : Int).toNat]!.1 rs[(i : Int).toNat]!.2 ss[(k : Int).toNat]!.1) rfl rfl (by omega)) rfl) (by decide) ?_) | ((with_reducible apply GPW.atEf); first | refine GPW.ef (Ef.callAll (same_spec ada _ capa (splitH l rs[(i : Int).toNat]!.1 rs[(i : Int).toNat]!.2 ss[(k : Int).toNat]!.1) ad7 _ cap7 (splitH l rs[(i : Int).toNat]!.1 rs[(i : Int).toNat]!.2 ss[(k : Int).toNat]!.1) rfl rfl (by omega)) rfl) (by decide) ?_ | refine GPW.ef (by exact Ef.callAll (same_spec ada _ capa (splitH l rs[(i : Int).toNat]!.1 rs[(i : Int).toNat]!.2 ss[(k : Int).toNat]!.1) ad7 _ cap7 (splitH l rs[(i : Int).toNat]!.1 rs[(i : Int).toNat]!.2 ss[(k : Int).toNat]!.1) rfl rfl (by omega)) rfl) (by decide) ?_))
      rintro _ _ ⟨rfl, rfl⟩
      rw [dB_pos rfl]
      repeat (first | refine runB ?_ | intro _ | ((with_reducible apply G.atDraw); first | refine G.draw (N := 220) (id := 14) plN2_4_14 mixed (by kernel_rfl) ?_ | refine G.draw (N := 220) (id := 17) plN2_4_17 mixed (by kernel_rfl) ?_ | refine G.draw (N := 220) (id := 21) plN2_4_21 mixed (by kernel_rfl) ?_))
      (first | ((with_reducible apply GO.atPlain); first | refine GO.ef (Ef.callAll (rjoin_spec ss[(k : Int).toNat]!.1 ss[(k : Int).toNat]!.2 adx l.length capx l rfl (by omega)) rfl) (by decide) ?_ | refine GO.ef (by exact Ef.callAll (rjoin_spec ss[(k : Int).toNat]!.1 ss[(k : Int).toNat]!.2 adx l.length capx l rfl (by omega)) rfl) (by decide) ?_) | ((with_reducible apply GPW.atEf); first | refine GPW.ef (Ef.callAll (rjoin_spec ss[(k : Int).toNat]!.1 ss[(k : Int).toNat]!.2 adx l.length capx l rfl (by omega)) rfl) (by decide) ?_ | refine GPW.ef (by exact Ef.callAll (rjoin_spec ss[(k : Int).toNat]!.1 ss[(k : Int).toNat]!.2 adx l.length capx l rfl (by omega)) rfl) (by decide) ?_))
      rintro _ _ ⟨ad8, cap8, rfl, rfl⟩
      repeat (first | refine runB ?_ | intro _ | ((with_reducible apply G.atDraw); first | refine G.draw (N := 220) (id := 14) plN2_4_14 mixed (by kernel_rfl) ?_ | refine G.draw (N := 220) (id := 17) plN2_4_17 mixed (by kernel_rfl) ?_ | refine G.draw (N := 220) (id := 21) plN2_4_21 mixed (by kernel_rfl) ?_))
      (first | ((with_reducible apply GO.atPlain); first | refine GO.ef (Ef.callAll (same_spec adb _ capb (joinH l ss[(k : Int).toNat]!.1 ss[(k : Int).toNat]!.2) ad8 _ cap8 (joinH l ss[(k : Int).toNat]!.1 ss[(k : Int).toNat]!.2) rfl rfl (by omega)) rfl) (by decide) ?_ | refine GO.ef (by exact Ef.callAll (same_spec adb _ capb (joinH l ss[(k : Int).toNat]!.1 ss[(k : Int).toNat]!.2) ad8 _ cap8 (joinH l ss[(k : Int).toNat]!.1 ss[(k : Int).toNat]!.2) rfl rfl (by omega)) rfl) (by decide) ?_) | ((with_reducible apply GPW.atEf); first | refine GPW.ef (Ef.callAll (same_spec adb _ capb (joinH l ss[(k : Int).toNat]!.1 ss[(k : Int).toNat]!.2) ad8 _ cap8 (joinH l ss[(k : Int).toNat]!.1 ss[(k : Int).toNat]!.2) rfl rfl (by omega)) rfl) (by decide) ?_ | refine GPW.ef (by exact Ef.callAll (same_spec adb _ capb (joinH l ss[(k : Int).toNat]!.1 ss[(k : Int).toNat]!.2) ad8 _ cap8 (joinH l ss[(k : Int).toNat]!.1 ss[(k : Int).toNat]!.2) rfl rfl (by omega)) rfl) (by decide) ?_))
      rintro _ _ ⟨rfl, rfl⟩
      rw [dB_pos rfl]
      repeat (first | refine runB ?_ | intro _ | ((with_reducible apply G.atDraw); first | refine G.draw (N := 220) (id := 14) plN2_4_14 mixed (by kernel_rfl) ?_ | refine G.draw (N := 220) (id := 17) plN2_4_17 mixed (by kernel_rfl) ?_ | refine G.draw (N := 220) (id := 21) plN2_4_21 mixed (by kernel_rfl) ?_))
      refine ⟨k + 1, by omega, by omega, ?_, by repeat (first | exact Ent.refl _ | exact Ent.nil _ | refine Ent.take' ?_ | refine Ent.trans Ent.drop ?_)⟩
      rw [show ((k + 1 : Nat) : Int) = (k : Int) + 1 by omega]
      exact (by repeat (first | exact EnvSub.nil _ | refine EnvSub.cons rfl ?_))
    have eB : joinRes l ss[(k : Int).toNat]!.1 ss[(k : Int).toNat]!.2 = ([], 1) := if_neg (fun e => hf ⟨⟨e.1, e.2.1⟩, e.2.2.1, e.2.2.2⟩)
    rw [dB_neg hf] at hfb
    subst hgb
    subst hfb
    rw [eA, eB]
    dsimp only
    repeat (first | refine runB ?_ | intro _ | ((with_reducible apply G.atDraw); first | refine G.draw (N := 220) (id := 14) plN2_4_14 mixed (by kernel_rfl) ?_ | refine G.draw (N := 220) (id := 17) plN2_4_17 mixed (by kernel_rfl) ?_ | refine G.draw (N := 220) (id := 21) plN2_4_21 mixed (by kernel_rfl) ?_))
    (first | ((with_reducible apply GO.atPlain); first | refine GO.ev (Ev.neqBT rfl rfl) (by decide) ?_ | refine GO.ev (by exact Ev.neqBT rfl rfl) (by decide) ?_) | ((with_reducible apply GPW.atEv); first | refine GPW.evP (Ev.neqBT rfl rfl) (by decide) ?_ | refine GPW.evP (by exact Ev.neqBT rfl rfl) (by decide) ?_) | ((with_reducible apply GPW.atEv); first | refine GPW.evL (Ev.neqBT rfl rfl) (by decide) ?_ | refine GPW.evL (by exact Ev.neqBT rfl rfl) (by decide) ?_))
    repeat (first | refine runB ?_ | intro _ | ((with_reducible apply G.atDraw); first | refine G.draw (N := 220) (id := 14) plN2_4_14 mixed (by kernel_rfl) ?_ | refine G.draw (N := 220) (id := 17) plN2_4_17 mixed (by kernel_rfl) ?_ | refine G.draw (N := 220) (id := 21) plN2_4_21 mixed (by kernel_rfl) ?_))
    (first | ((with_reducible apply GO.atPlain); first | refine GO.ev (Ev.neqBF rfl rfl) (by decide) ?_ | refine GO.ev (by exact Ev.neqBF rfl rfl) (by decide) ?_) | ((with_reducible apply GPW.atEv); first | refine GPW.evP (Ev.neqBF rfl rfl) (by decide) ?_ | refine GPW.evP (by exact Ev.neqBF rfl rfl) (by decide) ?_) | ((with_reducible apply GPW.atEv); first | refine GPW.evL (Ev.neqBF rfl rfl) (by decide) ?_ | refine GPW.evL (by exact Ev.neqBF rfl rfl) (by decide) ?_))
    repeat (first | refine runB ?_ | intro _ | ((with_reducible apply G.atDraw); first | refine G.draw (N := 220) (id := 14) plN2_4_14 mixed (by kernel_rfl) ?_ | refine G.draw (N := 220) (id := 17) plN2_4_17 mixed (by kernel_rfl) ?_ | refine G.draw (N := 220) (id := 21) plN2_4_21 mixed (by kernel_rfl) ?_))
    (first | ((with_reducible apply GO.atPlain); first | refine GO.ef (Ef.callAll (rsplit_spec rs[(i : Int).toNat]!.1 rs[(i : Int).toNat]!.2 ss[(k : Int).toNat]!.1 adx l.length capx l rfl (by omega) hrI) rfl) (by decide) ?_ | refine GO.ef (by exact Ef.callAll (rsplit_spec rs[(i : Int).toNat]!.1 rs[(i : Int).toNat]!.2 ss[(k : Int).toNat]!.1 adx l.length capx l rfl (by omega) hrI) rfl) (by decide) ?_) | ((with_reducible apply GPW.atEf); first | refine GPW.ef (Ef.callAll (rsplit_spec rs[(i : Int).toNat]!.1 rs[(i : Int).toNat]!.2 ss[(k : Int).toNat]!.1 adx l.length capx l rfl (by omega) hrI) rfl) (by decide) ?_ | refine GPW.ef (by exact Ef.callAll (rsplit_spec rs[(i : Int).toNat]!.1 rs[(i : Int).toNat]!.2 ss[(k : Int).toNat]!.1 adx l.length capx l rfl (by omega) hrI) rfl) (by decide) ?_))
    rintro _ _ ⟨ad7, cap7, rfl, rfl⟩
    rw [refSplit_eq hg.1.1 hg.1.2 hg.2.2.1 hg.2.1 hg.2.2.2]
    repeat (first | refine runB ?_ | intro _ | ((with_reducible apply G.atDraw); first | refine G.draw (N := 220) (id := 14) plN2_4_14 mixed (by kernel_rfl) ?_ | refine G.draw (N := 220) (id := 17) plN2_4_17 mixed (by kernel_rfl) ?_ | refine G.draw (N := 220) (id := 21) plN2_4_21 mixed (by kernel_rfl) ?_))
    (first | ((with_reducible apply GO.atPlain); first | refine GO.ef (Ef.callAll (same_spec ada _ capa (splitH l rs[(i : Int).toNat]!.1 rs[(i : Int).toNat]!.2 ss[(k : Int).toNat]!.1) ad7 _ cap7 (splitH l rs[(i : Int).toNat]!.1 rs[(i : Int).toNat]!.2 ss[(k : Int).toNat]!.1) rfl rfl (by omega)) rfl) (by decide) ?_ | refine GO.ef (by exact Ef.callAll (same_spec ada _ capa (splitH l rs[(i : Int).toNat]!.1 rs[(i : Int).toNat]!.2 ss[(k : Int).toNat]!.1) ad7 _ cap7 (splitH l rs[(i : Int).toNat]!.1 rs[(i : Int).toNat]!.2 ss[(k : Int).toNat]!.1) rfl rfl (by omega)) rfl) (by decide) ?_) | ((with_reducible apply GPW.atEf); first | refine GPW.ef (Ef.callAll (same_spec ada _ capa (splitH l rs[(i : Int).toNat]!.1 rs[(i : Int).toNat]!.2 ss[(k : Int).toNat]!.1) ad7 _ cap7 (splitH l rs[(i : Int).toNat]!.1 rs[(i : Int).toNat]!.2 ss[(k : Int).toNat]!.1) rfl rfl (by omega)) rfl) (by decide) ?_ | refine GPW.ef (by exact Ef.callAll (same_spec ada _ capa (splitH l rs[(i : Int).toNat]!.1 rs[(i : Int).toNat]!.2 ss[(k : Int).toNat]!.1) ad7 _ cap7 (splitH l rs[(i : Int).toNat]!.1 rs[(i : Int).toNat]!.2 ss[(k : Int).toNat]!.1) rfl rfl (by omega)) rfl) (by decide) ?_))
    rintro _ _ ⟨rfl, rfl⟩
    rw [dB_pos rfl]
    repeat (first | refine runB ?_ | intro _ | ((with_reducible apply G.atDraw); first | refine G.draw (N := 220) (id := 14) plN2_4_14 mixed (by kernel_rfl) ?_ | refine G.draw (N := 220) (id := 17) plN2_4_17 mixed (by kernel_rfl) ?_ | refine G.draw (N := 220) (id := 21) plN2_4_21 mixed (by kernel_rfl) ?_))
    refine ⟨k + 1, by omega, by omega, ?_, by repeat (first | exact Ent.refl _ | exact Ent.nil _ | refine Ent.take' ?_ | refine Ent.trans Ent.drop ?_)⟩
    rw [show ((k + 1 : Nat) : Int) = (k : Int) + 1 by omega]
    exact (by repeat (first | exact EnvSub.nil _ | refine EnvSub.cons rfl ?_))
  have eA : splitRes l rs[(i : Int).toNat]!.1 rs[(i : Int).toNat]!.2 ss[(k : Int).toNat]!.1 = ([], 1) := if_neg (fun e => hg ⟨⟨e.1, e.2.1⟩, e.2.2.1, e.2.2.2.1, e.2.2.2.2⟩)
  rw [dB_neg hg] at hgb
  by_cases hf : (HOk 12 l ∧ 0 ≤ ss[(k : Int).toNat]!.1 ∧ ss[(k : Int).toNat]!.1 < 12) ∧ 0 ≤ ss[(k : Int).toNat]!.2 ∧ ss[(k : Int).toNat]!.2 < 12
  case pos =>
    have eB : joinRes l ss[(k : Int).toNat]!.1 ss[(k : Int).toNat]!.2 = (joinH l ss[(k : Int).toNat]!.1 ss[(k : Int).toNat]!.2, 0) := if_pos ⟨hf.1.1, hf.1.2, hf.2.1, hf.2.2⟩
    rw [dB_pos hf] at hfb
    subst hgb
    subst hfb
    rw [eA, eB]
    dsimp only
    repeat (first | refine runB ?_ | intro _ | ((with_reducible apply G.atDraw); first | refine G.draw (N := 220) (id := 14) plN2_4_14 mixed (by kernel_rfl) ?_ | refine G.draw (N := 220) (id := 17) plN2_4_17 mixed (by kernel_rfl) ?_ | refine G.draw (N := 220) (id := 21) plN2_4_21 mixed (by kernel_rfl) ?_))
    (first | ((with_reducible apply GO.atPlain); first | refine GO.ev (Ev.neqBF rfl rfl) (by decide) ?_ | refine GO.ev (by exact Ev.neqBF rfl rfl) (by decide) ?_) | ((with_reducible apply GPW.atEv); first | refine GPW.evP (Ev.neqBF rfl rfl) (by decide) ?_ | refine GPW.evP (by exact Ev.neqBF rfl rfl) (by decide) ?_) | ((with_reducible apply GPW.atEv); first | refine GPW.evL (Ev.neqBF rfl rfl) (by decide) ?_ | refine GPW.evL (by exact Ev.neqBF rfl rfl) (by decide) ?_))
    repeat (first | refine runB ?_ | intro _ | ((with_reducible apply G.atDraw); first | refine G.draw (N := 220) (id := 14) plN2_4_14 mixed (by kernel_rfl) ?_ | refine G.draw (N := 220) (id := 17) plN2_4_17 mixed (by kernel_rfl) ?_ | refine G.draw (N := 220) (id := 21) plN2_4_21 mixed (by kernel_rfl) ?_))
    (first | ((with_reducible apply GO.atPlain); first | refine GO.ev (Ev.neqBT rfl rfl) (by decide) ?_ | refine GO.ev (by exact Ev.neqBT rfl rfl) (by decide) ?_) | ((with_reducible apply GPW.atEv); first | refine GPW.evP (Ev.neqBT rfl rfl) (by decide) ?_ | refine GPW.evP (by exact Ev.neqBT rfl rfl) (by decide) ?_) | ((with_reducible apply GPW.atEv); first | refine GPW.evL (Ev.neqBT rfl rfl) (by decide) ?_ | refine GPW.evL (by exact Ev.neqBT rfl rfl) (by decide) ?_))
    repeat (first | refine runB ?_ | intro _ | ((with_reducible apply G.atDraw); first | refine G.draw (N := 220) (id := 14) plN2_4_14 mixed (by kernel_rfl) ?_ | refine G.draw (N := 220) (id := 17) plN2_4_17 mixed (by kernel_rfl) ?_ | refine G.draw (N := 220) (id := 21) plN2_4_21 mixed (by kernel_rfl) ?_))
    (first | ((with_reducible apply GO.atPlain); first | refine GO.ef (Ef.callAll (rjoin_spec ss[(k : Int).toNat]!.1 ss[(k : Int).toNat]!.2 adx l.length capx l rfl (by omega)) rfl) (by decide) ?_ | refine GO.ef (by exact Ef.callAll (rjoin_spec ss[(k : Int).toNat]!.1 ss[(k : Int).toNat]!.2 adx l.length capx l rfl (by omega)) rfl) (by decide) ?_) | ((with_reducible apply GPW.atEf); first | refine GPW.ef (Ef.callAll (rjoin_spec ss[(k : Int).toNat]!.1 ss[(k : Int).toNat]!.2 adx l.length capx l rfl (by omega)) rfl) (by decide) ?_ | refine GPW.ef (by exact Ef.callAll (rjoin_spec ss[(k : Int).toNat]!.1 ss[(k : Int).toNat]!.2 adx l.length capx l rfl (by omega)) rfl) (by decide) ?_))
    rintro _ _ ⟨ad8, cap8, rfl, rfl⟩
    repeat (first | refine runB ?_ | intro _ | ((with_reducible apply G.atDraw); first | refine G.draw (N := 220) (id := 14) plN2_4_14 mixed (by kernel_rfl) ?_ | refine G.draw (N := 220) (id := 17) plN2_4_17 mixed (by kernel_rfl) ?_ | refine G.draw (N := 220) (id := 21) plN2_4_21 mixed (by kernel_rfl) ?_))
    (first | ((with_reducible apply GO.atPlain); first | refine GO.ef (Ef.callAll (same_spec adb _ capb (joinH l ss[(k : Int).toNat]!.1 ss[(k : Int).toNat]!.2) ad8 _ cap8 (joinH l ss[(k : Int).toNat]!.1 ss[(k : Int).toNat]!.2) rfl rfl (by omega)) rfl) (by decide) ?_ | refine GO.ef (by exact Ef.callAll (same_spec adb _ capb (joinH l ss[(k : Int).toNat]!.1 ss[(k : Int).toNat]!.2) ad8 _ cap8 (joinH l ss[(k : Int).toNat]!.1 ss[(k : Int).toNat]!.2) rfl rfl (by omega)) rfl) (by decide) ?_) | ((with_reducible apply GPW.atEf); first | refine GPW.ef (Ef.callAll (same_spec adb _ capb (joinH l ss[(k : Int).toNat]!.1 ss[(k : Int).toNat]!.2) ad8 _ cap8 (joinH l ss[(k : Int).toNat]!.1 ss[(k : Int).toNat]!.2) rfl rfl (by omega)) rfl) (by decide) ?_ | refine GPW.ef (by exact Ef.callAll (same_spec adb _ capb (joinH l ss[(k : Int).toNat]!.1 ss[(k : Int).toNat]!.2) ad8 _ cap8 (joinH l ss[(k : Int).toNat]!.1 ss[(k : Int).toNat]!.2) rfl rfl (by omega)) rfl) (by decide) ?_))
    rintro _ _ ⟨rfl, rfl⟩
    rw [dB_pos rfl]
    repeat (first | refine runB ?_ | intro _ | ((with_reducible apply G.atDraw); first | refine G.draw (N := 220) (id := 14) plN2_4_14 mixed (by kernel_rfl) ?_ | refine G.draw (N := 220) (id := 17) plN2_4_17 mixed (by kernel_rfl) ?_ | refine G.draw (N := 220) (id := 21) plN2_4_21 mixed (by kernel_rfl) ?_))
    refine ⟨k + 1, by omega, by omega, ?_, by repeat (first | exact Ent.refl _ | exact Ent.nil _ | refine Ent.take' ?_ | refine Ent.trans Ent.drop ?_)⟩
    rw [show ((k + 1 : Nat) : Int) = (k : Int) + 1 by omega]
    exact (by repeat (first | exact EnvSub.nil _ | refine EnvSub.cons rfl ?_))
  have eB : joinRes l ss[(k : Int).toNat]!.1 ss[(k : Int).toNat]!.2 = ([], 1) := if_neg (fun e => hf ⟨⟨e.1, e.2.1⟩, e.2.2.1, e.2.2.2⟩)
  rw [dB_neg hf] at hfb
  subst hgb
  subst hfb
  rw [eA, eB]
  dsimp only
  repeat (first | refine runB ?_ | intro _ | ((with_reducible apply G.atDraw); first | refine G.draw (N := 220) (id := 14) plN2_4_14 mixed (by kernel_rfl) ?_ | refine G.draw (N := 220) (id := 17) plN2_4_17 mixed (by kernel_rfl) ?_ | refine G.draw (N := 220) (id := 21) plN2_4_21 mixed (by kernel_rfl) ?_))
  (first | ((with_reducible apply GO.atPlain); first | refine GO.ev (Ev.neqBF rfl rfl) (by decide) ?_ | refine GO.ev (by exact Ev.neqBF rfl rfl) (by decide) ?_) | ((with_reducible apply GPW.atEv); first | refine GPW.evP (Ev.neqBF rfl rfl) (by decide) ?_ | refine GPW.evP (by exact Ev.neqBF rfl rfl) (by decide) ?_) | ((with_reducible apply GPW.atEv); first | refine GPW.evL (Ev.neqBF rfl rfl) (by decide) ?_ | refine GPW.evL (by exact Ev.neqBF rfl rfl) (by decide) ?_))
  repeat (first | refine runB ?_ | intro _ | ((with_reducible apply G.atDraw); first | refine G.draw (N := 220) (id := 14) plN2_4_14 mixed (by kernel_rfl) ?_ | refine G.draw (N := 220) (id := 17) plN2_4_17 mixed (by kernel_rfl) ?_ | refine G.draw (N := 220) (id := 21) plN2_4_21 mixed (by kernel_rfl) ?_))
  (first | ((with_reducible apply GO.atPlain); first | refine GO.ev (Ev.neqBF rfl rfl) (by decide) ?_ | refine GO.ev (by exact Ev.neqBF rfl rfl) (by decide) ?_) | ((with_reducible apply GPW.atEv); first | refine GPW.evP (Ev.neqBF rfl rfl) (by decide) ?_ | refine GPW.evP (by exact Ev.neqBF rfl rfl) (by decide) ?_) | ((with_reducible apply GPW.atEv); first | refine GPW.evL (Ev.neqBF rfl rfl) (by decide) ?_ | refine GPW.evL (by exact Ev.neqBF rfl rfl) (by decide) ?_))
  repeat (first | refine runB ?_ | intro _ | ((with_reducible apply G.atDraw); first | refine G.draw (N := 220) (id := 14) plN2_4_14 mixed (by kernel_rfl) ?_ | refine G.draw (N := 220) (id := 17) plN2_4_17 mixed (by kernel_rfl) ?_ | refine G.draw (N := 220) (id := 21) plN2_4_21 mixed (by kernel_rfl) ?_))
  refine ⟨k + 1, by omega, by omega, ?_, by repeat (first | exact Ent.refl _ | exact Ent.nil _ | refine Ent.take' ?_ | refine Ent.trans Ent.drop ?_)⟩
  rw [show ((k + 1 : Nat) : Int) = (k : Int) + 1 by omega]
  exact (by repeat (first | exact EnvSub.nil _ | refine EnvSub.cons rfl ?_))
end Go.Proofs.YtclgjkeeaopppaaGreatDoor
