/- The law MoveHomes: Valid and Find return the specified results. -/
import Derived.Test.YtclgjkeeaopppaaGreatDoorL12
namespace Go.Proofs.YtclgjkeeaopppaaGreatDoor
open Go.V
attribute [local irreducible] G GO GP GPW GPK Ev Ef EfR Ent CB GB Enters

/-- Homes of the model, with where they lie. -/
structure HsV where
  ad : Option Addr
  cap : Nat
  l : List Hm
  deriving Inhabited
def encHs (x : HsV) : List Value := [.slice x.ad x.l.length x.cap]
theorem encHs_one (t : HsV) : ∀ u ∈ encHs t, u.oneCell' = true := by simp [encHs, Value.oneCell']
instance : EncC encHs := ⟨encHs_one⟩
abbrev hsP (x : HsV) : HP := isl encH 2 x.ad x.l
theorem hsP_m (x : HsV) : PersM (hsP x) := isl_persM _ _ _ _
abbrev tRHs : Nat := 23

theorem hs_ent {L : List HP} {ad1 ad2 ad3 : Option Addr} {c1 c2 c3 : Nat} {l1 l2 l3 : List Hm} : Ent (osl encH 2 tRH ad3 c3 l3 :: osl encH 2 tRH ad2 c2 l2 :: osl encH 2 tRH ad1 c1 l1 :: L) (allP hsP [⟨ad1, c1, l1⟩, ⟨ad2, c2, l2⟩, ⟨ad3, c3, l3⟩, ⟨none, 0, []⟩] :: L) := by
  refine Ent.freezeSl.trans ((Ent.consR Ent.freezeSl).trans ((Ent.consR (Ent.consR Ent.freezeSl)).trans ?_))
  refine (Ent.nilIsl encH 2 none).trans ((Ent.allP_nil hsP).trans ?_)
  refine (Ent.swap.trans (Ent.allP_cons hsP_m (x := ⟨none, 0, []⟩))).trans ?_
  refine (Ent.swap.trans (Ent.allP_cons hsP_m (x := ⟨ad3, c3, l3⟩))).trans ?_
  refine (Ent.swap.trans (Ent.allP_cons hsP_m (x := ⟨ad2, c2, l2⟩))).trans ?_
  exact Ent.swap.trans (Ent.allP_cons hsP_m (x := ⟨ad1, c1, l1⟩))
theorem errV_iff (n : Int) (l : List Hm) : (errV n l = 0) ↔ HOk n l := by
  rw [errV_eq]
  by_cases h : HOk n l <;> simp [h]
abbrev plN1_3_10 : List Stp := [.ev 0, .ev 1, .ev 2, .ev 3, .ev 4, .ev 5, .ev 6, .ev 7, .ev 11, .ev 12, .ev 13, .ev 14, .ev 15, .ev 16, .ev 17, .ev 18, .ef 8, .ef 9, .ev 10, .ef 19, .ev 20]
abbrev plN1_3_16 : List Stp := [.ev 0, .ev 1, .ev 2, .ev 3, .ev 5, .ev 6, .ev 7, .ev 8, .ef 4, .ef 9, .ev 10, .ev 11, .ev 12, .ev 13, .ev 14]
abbrev plN1_3_20 : List Stp := [.ev 0, .ev 1, .ev 2, .ev 3, .ev 4, .ev 5, .ev 6, .ev 7, .ev 8, .ev 9, .ev 10, .ev 11, .ef 12, .ev 13, .ev 14]
set_option maxHeartbeats 2000000 in
theorem moveHomes_spec {L : List HP} [hk : KR L] (ad : Option Addr) (len cap : Nat) (xs : List Int) [Rds L ad Int (encI .i64) 1 xs] (hlen : len = xs.length) (hmx0 : len ≤ 9223372036854775807) (hxb : ∀ x ∈ xs, I64 x) (sh : Int) (hsh : I64 sh) (at_ : Int) (hat : I64 at_) (n : Int) (hn : I64 n) (acc : Int) (hacc : I64 acc) :
    Tri Tryz.prog 3 #[.slice ad len cap, .int .i64 sh, .int .i64 at_, .int .i64 n, .int .i64 acc] L (fun v L' => v = .bool true ∧ L' = L) := by
  have hmx : maxAcc = 1073741824 := rfl
  have ha12 := around_bd sh (k := 12) (by decide)
  have ha14 := around_bd n (k := 14) (by decide)
  have ha14s := around_bd sh (k := 14) (by decide)
  have ha30 := around_bd acc (k := 30) (by decide)
  refine Tri.body (args := [.slice ad len cap, .int .i64 sh, .int .i64 at_, .int .i64 n, .int .i64 acc]) 134 en3 Tryz.func3 rfl rfl rfl (by simp) ?_
  repeat (first | refine runB ?_ | intro _ | ((with_reducible apply G.atDraw); first | refine G.draw (N := 134) (id := 10) plN1_3_10 mixed (by kernel_rfl) ?_ | refine G.draw (N := 134) (id := 16) plN1_3_16 mixed (by kernel_rfl) ?_ | refine G.draw (N := 134) (id := 20) plN1_3_20 mixed (by kernel_rfl) ?_))
  (first | ((with_reducible apply GO.atPlain); first | refine GO.ef (Ef.callAll (around_spec sh 12 hsh (by decide) (by decide)) rfl) (by decide) ?_ | refine GO.ef (by exact Ef.callAll (around_spec sh 12 hsh (by decide) (by decide)) rfl) (by decide) ?_) | ((with_reducible apply GPW.atEf); first | refine GPW.ef (Ef.callAll (around_spec sh 12 hsh (by decide) (by decide)) rfl) (by decide) ?_ | refine GPW.ef (by exact Ef.callAll (around_spec sh 12 hsh (by decide) (by decide)) rfl) (by decide) ?_))
  rintro _ L ⟨rfl, rfl⟩
  repeat (first | refine runB ?_ | intro _ | ((with_reducible apply G.atDraw); first | refine G.draw (N := 134) (id := 10) plN1_3_10 mixed (by kernel_rfl) ?_ | refine G.draw (N := 134) (id := 16) plN1_3_16 mixed (by kernel_rfl) ?_ | refine G.draw (N := 134) (id := 20) plN1_3_20 mixed (by kernel_rfl) ?_))
  (first | ((with_reducible apply GO.atPlain); first | refine GO.ef (Ef.callAll (rhomes_spec (1 + around sh 12) 0 ad len cap xs hlen (by omega) hxb (by omega) (by omega) (by decide)) rfl) (by decide) ?_ | refine GO.ef (by exact Ef.callAll (rhomes_spec (1 + around sh 12) 0 ad len cap xs hlen (by omega) hxb (by omega) (by omega) (by decide)) rfl) (by decide) ?_) | ((with_reducible apply GPW.atEf); first | refine GPW.ef (Ef.callAll (rhomes_spec (1 + around sh 12) 0 ad len cap xs hlen (by omega) hxb (by omega) (by omega) (by decide)) rfl) (by decide) ?_ | refine GPW.ef (by exact Ef.callAll (rhomes_spec (1 + around sh 12) 0 ad len cap xs hlen (by omega) hxb (by omega) (by omega) (by decide)) rfl) (by decide) ?_))
  rintro _ _ ⟨ad1, cap1, l1, rfl, ⟨hok1, hl1⟩, rfl⟩
  repeat (first | refine runB ?_ | intro _ | ((with_reducible apply G.atDraw); first | refine G.draw (N := 134) (id := 10) plN1_3_10 mixed (by kernel_rfl) ?_ | refine G.draw (N := 134) (id := 16) plN1_3_16 mixed (by kernel_rfl) ?_ | refine G.draw (N := 134) (id := 20) plN1_3_20 mixed (by kernel_rfl) ?_))
  (first | ((with_reducible apply GO.atPlain); first | refine GO.ef (Ef.callAll (spoilt_spec at_ n ad1 l1.length cap1 l1 rfl (by omega) hat) rfl) (by decide) ?_ | refine GO.ef (by exact Ef.callAll (spoilt_spec at_ n ad1 l1.length cap1 l1 rfl (by omega) hat) rfl) (by decide) ?_) | ((with_reducible apply GPW.atEf); first | refine GPW.ef (Ef.callAll (spoilt_spec at_ n ad1 l1.length cap1 l1 rfl (by omega) hat) rfl) (by decide) ?_ | refine GPW.ef (by exact Ef.callAll (spoilt_spec at_ n ad1 l1.length cap1 l1 rfl (by omega) hat) rfl) (by decide) ?_))
  rintro _ _ ⟨ad2, cap2, l2, rfl, hl2, rfl⟩
  repeat (first | refine runB ?_ | intro _ | ((with_reducible apply G.atDraw); first | refine G.draw (N := 134) (id := 10) plN1_3_10 mixed (by kernel_rfl) ?_ | refine G.draw (N := 134) (id := 16) plN1_3_16 mixed (by kernel_rfl) ?_ | refine G.draw (N := 134) (id := 20) plN1_3_20 mixed (by kernel_rfl) ?_))
  (first | ((with_reducible apply GO.atPlain); first | refine GO.ef (Ef.callAll (around_spec n 14 hn (by decide) (by decide)) rfl) (by decide) ?_ | refine GO.ef (by exact Ef.callAll (around_spec n 14 hn (by decide) (by decide)) rfl) (by decide) ?_) | ((with_reducible apply GPW.atEf); first | refine GPW.ef (Ef.callAll (around_spec n 14 hn (by decide) (by decide)) rfl) (by decide) ?_ | refine GPW.ef (by exact Ef.callAll (around_spec n 14 hn (by decide) (by decide)) rfl) (by decide) ?_))
  rintro _ _ ⟨rfl, rfl⟩
  repeat (first | refine runB ?_ | intro _ | ((with_reducible apply G.atDraw); first | refine G.draw (N := 134) (id := 10) plN1_3_10 mixed (by kernel_rfl) ?_ | refine G.draw (N := 134) (id := 16) plN1_3_16 mixed (by kernel_rfl) ?_ | refine G.draw (N := 134) (id := 20) plN1_3_20 mixed (by kernel_rfl) ?_))
  (first | ((with_reducible apply GO.atPlain); first | refine GO.ef (Ef.callAll (spoilt_spec at_ (around n 14 - 1) ad1 l1.length cap1 l1 rfl (by omega) hat) rfl) (by decide) ?_ | refine GO.ef (by exact Ef.callAll (spoilt_spec at_ (around n 14 - 1) ad1 l1.length cap1 l1 rfl (by omega) hat) rfl) (by decide) ?_) | ((with_reducible apply GPW.atEf); first | refine GPW.ef (Ef.callAll (spoilt_spec at_ (around n 14 - 1) ad1 l1.length cap1 l1 rfl (by omega) hat) rfl) (by decide) ?_ | refine GPW.ef (by exact Ef.callAll (spoilt_spec at_ (around n 14 - 1) ad1 l1.length cap1 l1 rfl (by omega) hat) rfl) (by decide) ?_))
  rintro _ _ ⟨ad3, cap3, l3', rfl, hl3', rfl⟩
  repeat (first | refine runB ?_ | intro _ | ((with_reducible apply G.atDraw); first | refine G.draw (N := 134) (id := 10) plN1_3_10 mixed (by kernel_rfl) ?_ | refine G.draw (N := 134) (id := 16) plN1_3_16 mixed (by kernel_rfl) ?_ | refine G.draw (N := 134) (id := 20) plN1_3_20 mixed (by kernel_rfl) ?_))
  rename_i bls
  obtain ⟨hs, hhs⟩ : ∃ hs : List HsV, hs = [⟨ad1, cap1, l1⟩, ⟨ad2, cap2, l2⟩, ⟨ad3, cap3, l3'⟩, ⟨none, 0, []⟩] := ⟨_, rfl⟩
  have hhl : hs.length = 4 := by rw [hhs]; rfl
  have hhb : ∀ x ∈ hs, x.l.length ≤ 7 := by
    intro x hx
    rw [hhs] at hx
    simp only [List.mem_cons, List.not_mem_nil, or_false] at hx
    rcases hx with rfl | rfl | rfl | rfl <;> dsimp only <;> first | omega | simp
  refine G.loop (α := Nat) (fun i => i ≤ 4) (fun i => [(1, .int .i64 sh), (4, .int .i64 acc), (12, .slice (some ⟨bls, 0, none⟩) 4 4), (13, .int .i64 (i : Int))]) (fun _ => isl encHs 1 (some ⟨bls, 0, none⟩) hs :: allP hsP hs :: L) (fun i => 4 - i) 0 (by decide) (by repeat (first | exact EnvSub.nil _ | refine EnvSub.cons rfl ?_)) ?_ ?_
  · refine (Ent.objSl (enc := encHs) (sz := 1) (xs := hs) (by rw [hhs]; rfl) hhl (by intro y _; rfl) (by decide)).trans ?_
    refine (Ent.frz (some ⟨bls, 0, none⟩)).trans (Ent.consR ?_)
    rw [hhs]
    exact hs_ent
  intro i hi
  by_cases hlt : i < 4
  case neg =>
    repeat (first | refine runB ?_ | intro _ | ((with_reducible apply G.atDraw); first | refine G.draw (N := 134) (id := 10) plN1_3_10 mixed (by kernel_rfl) ?_ | refine G.draw (N := 134) (id := 16) plN1_3_16 mixed (by kernel_rfl) ?_ | refine G.draw (N := 134) (id := 20) plN1_3_20 mixed (by kernel_rfl) ?_))
    (first | ((with_reducible apply GO.atPlain); first | refine GO.ef (Ef.callAll (lives_spec) rfl) (by decide) ?_ | refine GO.ef (by exact Ef.callAll (lives_spec) rfl) (by decide) ?_) | ((with_reducible apply GPW.atEf); first | refine GPW.ef (Ef.callAll (lives_spec) rfl) (by decide) ?_ | refine GPW.ef (by exact Ef.callAll (lives_spec) rfl) (by decide) ?_))
    rintro _ _ ⟨rfl, rfl⟩
    repeat (first | refine runB ?_ | intro _ | ((with_reducible apply G.atDraw); first | refine G.draw (N := 134) (id := 10) plN1_3_10 mixed (by kernel_rfl) ?_ | refine G.draw (N := 134) (id := 16) plN1_3_16 mixed (by kernel_rfl) ?_ | refine G.draw (N := 134) (id := 20) plN1_3_20 mixed (by kernel_rfl) ?_))
    exact KX.ends (by first | exact ResOk.tmps rfl | (repeat (first | exact ResOk.nil | apply ResOk.tmp rfl | apply ResOk.cell rfl (by rfl) | apply ResOk.cell1 rfl))) (by repeat (first | exact Ent.refl _ | exact Ent.nil _ | refine Ent.take' ?_ | refine Ent.trans Ent.drop ?_)) ⟨rfl, rfl⟩
  have hmem : hs[(i : Int).toNat]! ∈ hs := mem_get! (by omega)
  have hil := hhb _ hmem
  refine G.ent (Ent.at (A := allP hsP hs) (Ent.allP_get (x := hs[(i : Int).toNat]!) hmem)) ?_
  repeat (first | refine runB ?_ | intro _ | ((with_reducible apply G.atDraw); first | refine G.draw (N := 134) (id := 10) plN1_3_10 mixed (by kernel_rfl) ?_ | refine G.draw (N := 134) (id := 16) plN1_3_16 mixed (by kernel_rfl) ?_ | refine G.draw (N := 134) (id := 20) plN1_3_20 mixed (by kernel_rfl) ?_))
  (first | ((with_reducible apply GO.atPlain); first | refine GO.ef (Ef.callAll (around_spec sh 14 hsh (by decide) (by decide)) rfl) (by decide) ?_ | refine GO.ef (by exact Ef.callAll (around_spec sh 14 hsh (by decide) (by decide)) rfl) (by decide) ?_) | ((with_reducible apply GPW.atEf); first | refine GPW.ef (Ef.callAll (around_spec sh 14 hsh (by decide) (by decide)) rfl) (by decide) ?_ | refine GPW.ef (by exact Ef.callAll (around_spec sh 14 hsh (by decide) (by decide)) rfl) (by decide) ?_))
  rintro _ _ ⟨rfl, rfl⟩
  repeat (first | ((fail_if_success (with_reducible refine G.atSS 7 ?_)); (with_reducible apply G.seq)) | refine runBS ?_ | intro _ | ((with_reducible apply G.atDraw); first | refine G.draw (N := 134) (id := 10) plN1_3_10 mixed (by kernel_rfl) ?_ | refine G.draw (N := 134) (id := 16) plN1_3_16 mixed (by kernel_rfl) ?_ | refine G.draw (N := 134) (id := 20) plN1_3_20 mixed (by kernel_rfl) ?_))
  rename_i bn
  obtain ⟨ns, hns⟩ : ∃ ns : List Int, ns = [sh, around sh 14, 12] := ⟨_, rfl⟩
  have hnl : ns.length = 3 := by rw [hns]; rfl
  refine G.ent ((Ent.objSl (enc := encI .i64) (sz := 1) (xs := ns) (by rw [hns]; rfl) hnl (by intro y _; rfl) (by decide)).trans (Ent.frz (some ⟨bn, 0, none⟩))) ?_
  clear hns
  refine G.join (α := Unit) (fun _ => True) (fun _ => [(1, .int .i64 sh), (4, .int .i64 acc), (12, .slice (some ⟨bls, 0, none⟩) 4 4), (13, .int .i64 (i : Int))]) (fun _ => hsP hs[(i : Int).toNat]! :: allP hsP hs :: isl encHs 1 (some ⟨bls, 0, none⟩) hs :: L) ?_ ?_
  · repeat (first | refine runB ?_ | intro _ | ((with_reducible apply G.atDraw); first | refine G.draw (N := 134) (id := 10) plN1_3_10 mixed (by kernel_rfl) ?_ | refine G.draw (N := 134) (id := 16) plN1_3_16 mixed (by kernel_rfl) ?_ | refine G.draw (N := 134) (id := 20) plN1_3_20 mixed (by kernel_rfl) ?_))
    refine G.loop (α := Nat) (fun k => k ≤ 3) (fun k => [(1, .int .i64 sh), (4, .int .i64 acc), (12, .slice (some ⟨bls, 0, none⟩) 4 4), (13, .int .i64 (i : Int)), (14, .slice (some ⟨bn, 0, none⟩) 3 3), (15, .int .i64 (k : Int))]) (fun _ => isl (encI .i64) 1 (some ⟨bn, 0, none⟩) ns :: hsP hs[(i : Int).toNat]! :: allP hsP hs :: isl encHs 1 (some ⟨bls, 0, none⟩) hs :: L) (fun k => 3 - k) 0 (by decide) (by repeat (first | exact EnvSub.nil _ | refine EnvSub.cons rfl ?_)) (Ent.refl _) ?_
    intro k hk3
    by_cases hkl : k < 3
    case neg =>
      repeat (first | refine runB ?_ | intro _ | ((with_reducible apply G.atDraw); first | refine G.draw (N := 134) (id := 10) plN1_3_10 mixed (by kernel_rfl) ?_ | refine G.draw (N := 134) (id := 16) plN1_3_16 mixed (by kernel_rfl) ?_ | refine G.draw (N := 134) (id := 20) plN1_3_20 mixed (by kernel_rfl) ?_))
      exact ⟨(), trivial, (by repeat (first | exact EnvSub.nil _ | refine EnvSub.cons rfl ?_)), Ent.at (A := isl (encI .i64) 1 (some ⟨bn, 0, none⟩) ns) (Ent.drop)⟩
    repeat (first | refine runB ?_ | intro _ | ((with_reducible apply G.atDraw); first | refine G.draw (N := 134) (id := 10) plN1_3_10 mixed (by kernel_rfl) ?_ | refine G.draw (N := 134) (id := 16) plN1_3_16 mixed (by kernel_rfl) ?_ | refine G.draw (N := 134) (id := 20) plN1_3_20 mixed (by kernel_rfl) ?_))
    (first | ((with_reducible apply GO.atPlain); first | refine GO.ef (Ef.callAll (homes_spec hs[(i : Int).toNat]!.ad _ hs[(i : Int).toNat]!.cap hs[(i : Int).toNat]!.l rfl (by omega)) rfl) (by decide) ?_ | refine GO.ef (by exact Ef.callAll (homes_spec hs[(i : Int).toNat]!.ad _ hs[(i : Int).toNat]!.cap hs[(i : Int).toNat]!.l rfl (by omega)) rfl) (by decide) ?_) | ((with_reducible apply GPW.atEf); first | refine GPW.ef (Ef.callAll (homes_spec hs[(i : Int).toNat]!.ad _ hs[(i : Int).toNat]!.cap hs[(i : Int).toNat]!.l rfl (by omega)) rfl) (by decide) ?_ | refine GPW.ef (by exact Ef.callAll (homes_spec hs[(i : Int).toNat]!.ad _ hs[(i : Int).toNat]!.cap hs[(i : Int).toNat]!.l rfl (by omega)) rfl) (by decide) ?_))
    rintro _ _ ⟨ad5, cap5, rfl, rfl⟩
    repeat (first | refine runB ?_ | intro _ | ((with_reducible apply G.atDraw); first | refine G.draw (N := 134) (id := 10) plN1_3_10 mixed (by kernel_rfl) ?_ | refine G.draw (N := 134) (id := 16) plN1_3_16 mixed (by kernel_rfl) ?_ | refine G.draw (N := 134) (id := 20) plN1_3_20 mixed (by kernel_rfl) ?_))
    (first | ((with_reducible apply GO.atPlain); first | refine GO.ef (Ef.callAll (mvalid_spec _ ad5 hs[(i : Int).toNat]!.l.length cap5 hs[(i : Int).toNat]!.l rfl (by omega)) rfl) (by decide) ?_ | refine GO.ef (by exact Ef.callAll (mvalid_spec _ ad5 hs[(i : Int).toNat]!.l.length cap5 hs[(i : Int).toNat]!.l rfl (by omega)) rfl) (by decide) ?_) | ((with_reducible apply GPW.atEf); first | refine GPW.ef (Ef.callAll (mvalid_spec _ ad5 hs[(i : Int).toNat]!.l.length cap5 hs[(i : Int).toNat]!.l rfl (by omega)) rfl) (by decide) ?_ | refine GPW.ef (by exact Ef.callAll (mvalid_spec _ ad5 hs[(i : Int).toNat]!.l.length cap5 hs[(i : Int).toNat]!.l rfl (by omega)) rfl) (by decide) ?_))
    rintro _ _ ⟨rfl, rfl⟩
    repeat (first | refine runB ?_ | intro _ | ((with_reducible apply G.atDraw); first | refine G.draw (N := 134) (id := 10) plN1_3_10 mixed (by kernel_rfl) ?_ | refine G.draw (N := 134) (id := 16) plN1_3_16 mixed (by kernel_rfl) ?_ | refine G.draw (N := 134) (id := 20) plN1_3_20 mixed (by kernel_rfl) ?_))
    (first | ((with_reducible apply GO.atPlain); first | refine GO.ef (Ef.callAll (rvalid_spec _ hs[(i : Int).toNat]!.ad hs[(i : Int).toNat]!.l.length hs[(i : Int).toNat]!.cap hs[(i : Int).toNat]!.l rfl (by omega)) rfl) (by decide) ?_ | refine GO.ef (by exact Ef.callAll (rvalid_spec _ hs[(i : Int).toNat]!.ad hs[(i : Int).toNat]!.l.length hs[(i : Int).toNat]!.cap hs[(i : Int).toNat]!.l rfl (by omega)) rfl) (by decide) ?_) | ((with_reducible apply GPW.atEf); first | refine GPW.ef (Ef.callAll (rvalid_spec _ hs[(i : Int).toNat]!.ad hs[(i : Int).toNat]!.l.length hs[(i : Int).toNat]!.cap hs[(i : Int).toNat]!.l rfl (by omega)) rfl) (by decide) ?_ | refine GPW.ef (by exact Ef.callAll (rvalid_spec _ hs[(i : Int).toNat]!.ad hs[(i : Int).toNat]!.l.length hs[(i : Int).toNat]!.cap hs[(i : Int).toNat]!.l rfl (by omega)) rfl) (by decide) ?_))
    rintro _ _ ⟨rfl, rfl⟩
    repeat (first | refine runB ?_ | intro _ | ((with_reducible apply G.atDraw); first | refine G.draw (N := 134) (id := 10) plN1_3_10 mixed (by kernel_rfl) ?_ | refine G.draw (N := 134) (id := 16) plN1_3_16 mixed (by kernel_rfl) ?_ | refine G.draw (N := 134) (id := 20) plN1_3_20 mixed (by kernel_rfl) ?_))
    refine CB.neg (fun e => e (errV_iff _ _)) ?_
    repeat (first | refine runB ?_ | intro _ | ((with_reducible apply G.atDraw); first | refine G.draw (N := 134) (id := 10) plN1_3_10 mixed (by kernel_rfl) ?_ | refine G.draw (N := 134) (id := 16) plN1_3_16 mixed (by kernel_rfl) ?_ | refine G.draw (N := 134) (id := 20) plN1_3_20 mixed (by kernel_rfl) ?_))
    refine ⟨k + 1, by omega, by omega, ?_, Ent.drop⟩
    rw [show ((k + 1 : Nat) : Int) = (k : Int) + 1 by omega]
    exact (by repeat (first | exact EnvSub.nil _ | refine EnvSub.cons rfl ?_))
  rintro _ _
  repeat (first | refine runB ?_ | intro _ | ((with_reducible apply G.atDraw); first | refine G.draw (N := 134) (id := 10) plN1_3_10 mixed (by kernel_rfl) ?_ | refine G.draw (N := 134) (id := 16) plN1_3_16 mixed (by kernel_rfl) ?_ | refine G.draw (N := 134) (id := 20) plN1_3_20 mixed (by kernel_rfl) ?_))
  (first | ((with_reducible apply GO.atPlain); first | refine GO.ef (Ef.callAll (around_spec acc 30 hacc (by decide) (by decide)) rfl) (by decide) ?_ | refine GO.ef (by exact Ef.callAll (around_spec acc 30 hacc (by decide) (by decide)) rfl) (by decide) ?_) | ((with_reducible apply GPW.atEf); first | refine GPW.ef (Ef.callAll (around_spec acc 30 hacc (by decide) (by decide)) rfl) (by decide) ?_ | refine GPW.ef (by exact Ef.callAll (around_spec acc 30 hacc (by decide) (by decide)) rfl) (by decide) ?_))
  rintro _ _ ⟨rfl, rfl⟩
  repeat (first | refine runB ?_ | intro _ | ((with_reducible apply G.atDraw); first | refine G.draw (N := 134) (id := 10) plN1_3_10 mixed (by kernel_rfl) ?_ | refine G.draw (N := 134) (id := 16) plN1_3_16 mixed (by kernel_rfl) ?_ | refine G.draw (N := 134) (id := 20) plN1_3_20 mixed (by kernel_rfl) ?_))
  rename_i bac
  obtain ⟨acs, has⟩ : ∃ acs : List Int, acs = [acc, 1 + around acc 30, 1, 1073741824] := ⟨_, rfl⟩
  have hal : acs.length = 4 := by rw [has]; rfl
  refine G.loop (α := Nat) (fun k => k ≤ 4) (fun k => [(1, .int .i64 sh), (4, .int .i64 acc), (12, .slice (some ⟨bls, 0, none⟩) 4 4), (13, .int .i64 (i : Int)), (16, .slice (some ⟨bac, 0, none⟩) 4 4), (17, .int .i64 (k : Int))]) (fun _ => isl (encI .i64) 1 (some ⟨bac, 0, none⟩) acs :: hsP hs[(i : Int).toNat]! :: allP hsP hs :: isl encHs 1 (some ⟨bls, 0, none⟩) hs :: L) (fun k => 4 - k) 0 (by decide) (by repeat (first | exact EnvSub.nil _ | refine EnvSub.cons rfl ?_)) ?_ ?_
  · exact (Ent.objSl (enc := encI .i64) (sz := 1) (xs := acs) (by rw [has]; rfl) hal (by intro y _; rfl) (by decide)).trans (Ent.frz (some ⟨bac, 0, none⟩))
  clear has
  intro k hk4
  by_cases hkl : k < 4
  case neg =>
    repeat (first | refine runB ?_ | intro _ | ((with_reducible apply G.atDraw); first | refine G.draw (N := 134) (id := 10) plN1_3_10 mixed (by kernel_rfl) ?_ | refine G.draw (N := 134) (id := 16) plN1_3_16 mixed (by kernel_rfl) ?_ | refine G.draw (N := 134) (id := 20) plN1_3_20 mixed (by kernel_rfl) ?_))
    refine ⟨i + 1, by omega, by omega, ?_, Ent.drop.trans (Ent.drop.trans Ent.swap)⟩
    rw [show ((i + 1 : Nat) : Int) = (i : Int) + 1 by omega]
    exact (by repeat (first | exact EnvSub.nil _ | refine EnvSub.cons rfl ?_))
  repeat (first | refine runB ?_ | intro _ | ((with_reducible apply G.atDraw); first | refine G.draw (N := 134) (id := 10) plN1_3_10 mixed (by kernel_rfl) ?_ | refine G.draw (N := 134) (id := 16) plN1_3_16 mixed (by kernel_rfl) ?_ | refine G.draw (N := 134) (id := 20) plN1_3_20 mixed (by kernel_rfl) ?_))
  (first | ((with_reducible apply GO.atPlain); first | refine GO.ef (Ef.callAll (homes_spec hs[(i : Int).toNat]!.ad _ hs[(i : Int).toNat]!.cap hs[(i : Int).toNat]!.l rfl (by omega)) rfl) (by decide) ?_ | refine GO.ef (by exact Ef.callAll (homes_spec hs[(i : Int).toNat]!.ad _ hs[(i : Int).toNat]!.cap hs[(i : Int).toNat]!.l rfl (by omega)) rfl) (by decide) ?_) | ((with_reducible apply GPW.atEf); first | refine GPW.ef (Ef.callAll (homes_spec hs[(i : Int).toNat]!.ad _ hs[(i : Int).toNat]!.cap hs[(i : Int).toNat]!.l rfl (by omega)) rfl) (by decide) ?_ | refine GPW.ef (by exact Ef.callAll (homes_spec hs[(i : Int).toNat]!.ad _ hs[(i : Int).toNat]!.cap hs[(i : Int).toNat]!.l rfl (by omega)) rfl) (by decide) ?_))
  rintro _ _ ⟨ad5, cap5, rfl, rfl⟩
  repeat (first | refine runB ?_ | intro _ | ((with_reducible apply G.atDraw); first | refine G.draw (N := 134) (id := 10) plN1_3_10 mixed (by kernel_rfl) ?_ | refine G.draw (N := 134) (id := 16) plN1_3_16 mixed (by kernel_rfl) ?_ | refine G.draw (N := 134) (id := 20) plN1_3_20 mixed (by kernel_rfl) ?_))
  (first | ((with_reducible apply GO.atPlain); first | refine GO.ef (Ef.callAll (mFind_spec acs[(k : Int).toNat]! ad5 hs[(i : Int).toNat]!.l.length cap5 hs[(i : Int).toNat]!.l rfl (by omega)) rfl) (by decide) ?_ | refine GO.ef (by exact Ef.callAll (mFind_spec acs[(k : Int).toNat]! ad5 hs[(i : Int).toNat]!.l.length cap5 hs[(i : Int).toNat]!.l rfl (by omega)) rfl) (by decide) ?_) | ((with_reducible apply GPW.atEf); first | refine GPW.ef (Ef.callAll (mFind_spec acs[(k : Int).toNat]! ad5 hs[(i : Int).toNat]!.l.length cap5 hs[(i : Int).toNat]!.l rfl (by omega)) rfl) (by decide) ?_ | refine GPW.ef (by exact Ef.callAll (mFind_spec acs[(k : Int).toNat]! ad5 hs[(i : Int).toNat]!.l.length cap5 hs[(i : Int).toNat]!.l rfl (by omega)) rfl) (by decide) ?_))
  rintro _ _ ⟨rfl, rfl⟩
  by_cases hq : HOk 12 hs[(i : Int).toNat]!.l
  case neg =>
    rw [if_neg (fun e => hq e.1)]
    repeat (first | refine runB ?_ | intro _ | ((with_reducible apply G.atDraw); first | refine G.draw (N := 134) (id := 10) plN1_3_10 mixed (by kernel_rfl) ?_ | refine G.draw (N := 134) (id := 16) plN1_3_16 mixed (by kernel_rfl) ?_ | refine G.draw (N := 134) (id := 20) plN1_3_20 mixed (by kernel_rfl) ?_))
    (first | ((with_reducible apply GO.atPlain); first | refine GO.ef (Ef.callAll (rvalid_spec _ hs[(i : Int).toNat]!.ad hs[(i : Int).toNat]!.l.length hs[(i : Int).toNat]!.cap hs[(i : Int).toNat]!.l rfl (by omega)) rfl) (by decide) ?_ | refine GO.ef (by exact Ef.callAll (rvalid_spec _ hs[(i : Int).toNat]!.ad hs[(i : Int).toNat]!.l.length hs[(i : Int).toNat]!.cap hs[(i : Int).toNat]!.l rfl (by omega)) rfl) (by decide) ?_) | ((with_reducible apply GPW.atEf); first | refine GPW.ef (Ef.callAll (rvalid_spec _ hs[(i : Int).toNat]!.ad hs[(i : Int).toNat]!.l.length hs[(i : Int).toNat]!.cap hs[(i : Int).toNat]!.l rfl (by omega)) rfl) (by decide) ?_ | refine GPW.ef (by exact Ef.callAll (rvalid_spec _ hs[(i : Int).toNat]!.ad hs[(i : Int).toNat]!.l.length hs[(i : Int).toNat]!.cap hs[(i : Int).toNat]!.l rfl (by omega)) rfl) (by decide) ?_))
    rintro _ _ ⟨rfl, rfl⟩
    repeat (first | refine runB ?_ | intro _ | ((with_reducible apply G.atDraw); first | refine G.draw (N := 134) (id := 10) plN1_3_10 mixed (by kernel_rfl) ?_ | refine G.draw (N := 134) (id := 16) plN1_3_16 mixed (by kernel_rfl) ?_ | refine G.draw (N := 134) (id := 20) plN1_3_20 mixed (by kernel_rfl) ?_))
    refine ⟨k + 1, by omega, by omega, ?_, Ent.drop⟩
    rw [show ((k + 1 : Nat) : Int) = (k : Int) + 1 by omega]
    exact (by repeat (first | exact EnvSub.nil _ | refine EnvSub.cons rfl ?_))
  have hnq : ¬ ¬ HOk 12 hs[(i : Int).toNat]!.l := fun e => e hq
  by_cases ha1 : acs[(k : Int).toNat]! < 1
  case pos =>
    rw [if_neg (fun e => by omega)]
    repeat (first | refine runB ?_ | intro _ | ((with_reducible apply G.atDraw); first | refine G.draw (N := 134) (id := 10) plN1_3_10 mixed (by kernel_rfl) ?_ | refine G.draw (N := 134) (id := 16) plN1_3_16 mixed (by kernel_rfl) ?_ | refine G.draw (N := 134) (id := 20) plN1_3_20 mixed (by kernel_rfl) ?_))
    (first | ((with_reducible apply GO.atPlain); first | refine GO.ef (Ef.callAll (rvalid_spec _ hs[(i : Int).toNat]!.ad hs[(i : Int).toNat]!.l.length hs[(i : Int).toNat]!.cap hs[(i : Int).toNat]!.l rfl (by omega)) rfl) (by decide) ?_ | refine GO.ef (by exact Ef.callAll (rvalid_spec _ hs[(i : Int).toNat]!.ad hs[(i : Int).toNat]!.l.length hs[(i : Int).toNat]!.cap hs[(i : Int).toNat]!.l rfl (by omega)) rfl) (by decide) ?_) | ((with_reducible apply GPW.atEf); first | refine GPW.ef (Ef.callAll (rvalid_spec _ hs[(i : Int).toNat]!.ad hs[(i : Int).toNat]!.l.length hs[(i : Int).toNat]!.cap hs[(i : Int).toNat]!.l rfl (by omega)) rfl) (by decide) ?_ | refine GPW.ef (by exact Ef.callAll (rvalid_spec _ hs[(i : Int).toNat]!.ad hs[(i : Int).toNat]!.l.length hs[(i : Int).toNat]!.cap hs[(i : Int).toNat]!.l rfl (by omega)) rfl) (by decide) ?_))
    rintro _ _ ⟨rfl, rfl⟩
    repeat (first | refine runB ?_ | intro _ | ((with_reducible apply G.atDraw); first | refine G.draw (N := 134) (id := 10) plN1_3_10 mixed (by kernel_rfl) ?_ | refine G.draw (N := 134) (id := 16) plN1_3_16 mixed (by kernel_rfl) ?_ | refine G.draw (N := 134) (id := 20) plN1_3_20 mixed (by kernel_rfl) ?_))
    refine ⟨k + 1, by omega, by omega, ?_, Ent.drop⟩
    rw [show ((k + 1 : Nat) : Int) = (k : Int) + 1 by omega]
    exact (by repeat (first | exact EnvSub.nil _ | refine EnvSub.cons rfl ?_))
  by_cases ha2 : acs[(k : Int).toNat]! > 1073741824
  case pos =>
    rw [if_neg (fun e => by omega)]
    repeat (first | refine runB ?_ | intro _ | ((with_reducible apply G.atDraw); first | refine G.draw (N := 134) (id := 10) plN1_3_10 mixed (by kernel_rfl) ?_ | refine G.draw (N := 134) (id := 16) plN1_3_16 mixed (by kernel_rfl) ?_ | refine G.draw (N := 134) (id := 20) plN1_3_20 mixed (by kernel_rfl) ?_))
    (first | ((with_reducible apply GO.atPlain); first | refine GO.ef (Ef.callAll (rvalid_spec _ hs[(i : Int).toNat]!.ad hs[(i : Int).toNat]!.l.length hs[(i : Int).toNat]!.cap hs[(i : Int).toNat]!.l rfl (by omega)) rfl) (by decide) ?_ | refine GO.ef (by exact Ef.callAll (rvalid_spec _ hs[(i : Int).toNat]!.ad hs[(i : Int).toNat]!.l.length hs[(i : Int).toNat]!.cap hs[(i : Int).toNat]!.l rfl (by omega)) rfl) (by decide) ?_) | ((with_reducible apply GPW.atEf); first | refine GPW.ef (Ef.callAll (rvalid_spec _ hs[(i : Int).toNat]!.ad hs[(i : Int).toNat]!.l.length hs[(i : Int).toNat]!.cap hs[(i : Int).toNat]!.l rfl (by omega)) rfl) (by decide) ?_ | refine GPW.ef (by exact Ef.callAll (rvalid_spec _ hs[(i : Int).toNat]!.ad hs[(i : Int).toNat]!.l.length hs[(i : Int).toNat]!.cap hs[(i : Int).toNat]!.l rfl (by omega)) rfl) (by decide) ?_))
    rintro _ _ ⟨rfl, rfl⟩
    repeat (first | refine runB ?_ | intro _ | ((with_reducible apply G.atDraw); first | refine G.draw (N := 134) (id := 10) plN1_3_10 mixed (by kernel_rfl) ?_ | refine G.draw (N := 134) (id := 16) plN1_3_16 mixed (by kernel_rfl) ?_ | refine G.draw (N := 134) (id := 20) plN1_3_20 mixed (by kernel_rfl) ?_))
    refine ⟨k + 1, by omega, by omega, ?_, Ent.drop⟩
    rw [show ((k + 1 : Nat) : Int) = (k : Int) + 1 by omega]
    exact (by repeat (first | exact EnvSub.nil _ | refine EnvSub.cons rfl ?_))
  rw [if_pos ⟨hq, by omega, by omega⟩]
  repeat (first | refine runB ?_ | intro _ | ((with_reducible apply G.atDraw); first | refine G.draw (N := 134) (id := 10) plN1_3_10 mixed (by kernel_rfl) ?_ | refine G.draw (N := 134) (id := 16) plN1_3_16 mixed (by kernel_rfl) ?_ | refine G.draw (N := 134) (id := 20) plN1_3_20 mixed (by kernel_rfl) ?_))
  (first | ((with_reducible apply GO.atPlain); first | refine GO.ef (Ef.callAll (rvalid_spec _ hs[(i : Int).toNat]!.ad hs[(i : Int).toNat]!.l.length hs[(i : Int).toNat]!.cap hs[(i : Int).toNat]!.l rfl (by omega)) rfl) (by decide) ?_ | refine GO.ef (by exact Ef.callAll (rvalid_spec _ hs[(i : Int).toNat]!.ad hs[(i : Int).toNat]!.l.length hs[(i : Int).toNat]!.cap hs[(i : Int).toNat]!.l rfl (by omega)) rfl) (by decide) ?_) | ((with_reducible apply GPW.atEf); first | refine GPW.ef (Ef.callAll (rvalid_spec _ hs[(i : Int).toNat]!.ad hs[(i : Int).toNat]!.l.length hs[(i : Int).toNat]!.cap hs[(i : Int).toNat]!.l rfl (by omega)) rfl) (by decide) ?_ | refine GPW.ef (by exact Ef.callAll (rvalid_spec _ hs[(i : Int).toNat]!.ad hs[(i : Int).toNat]!.l.length hs[(i : Int).toNat]!.cap hs[(i : Int).toNat]!.l rfl (by omega)) rfl) (by decide) ?_))
  rintro _ _ ⟨rfl, rfl⟩
  repeat (first | refine runB ?_ | intro _ | ((with_reducible apply G.atDraw); first | refine G.draw (N := 134) (id := 10) plN1_3_10 mixed (by kernel_rfl) ?_ | refine G.draw (N := 134) (id := 16) plN1_3_16 mixed (by kernel_rfl) ?_ | refine G.draw (N := 134) (id := 20) plN1_3_20 mixed (by kernel_rfl) ?_))
  (first | ((with_reducible apply GO.atPlain); first | refine GO.ef (Ef.callAll (rfind_spec acs[(k : Int).toNat]! hs[(i : Int).toNat]!.ad hs[(i : Int).toNat]!.l.length hs[(i : Int).toNat]!.cap hs[(i : Int).toNat]!.l rfl (by omega)) rfl) (by decide) ?_ | refine GO.ef (by exact Ef.callAll (rfind_spec acs[(k : Int).toNat]! hs[(i : Int).toNat]!.ad hs[(i : Int).toNat]!.l.length hs[(i : Int).toNat]!.cap hs[(i : Int).toNat]!.l rfl (by omega)) rfl) (by decide) ?_) | ((with_reducible apply GPW.atEf); first | refine GPW.ef (Ef.callAll (rfind_spec acs[(k : Int).toNat]! hs[(i : Int).toNat]!.ad hs[(i : Int).toNat]!.l.length hs[(i : Int).toNat]!.cap hs[(i : Int).toNat]!.l rfl (by omega)) rfl) (by decide) ?_ | refine GPW.ef (by exact Ef.callAll (rfind_spec acs[(k : Int).toNat]! hs[(i : Int).toNat]!.ad hs[(i : Int).toNat]!.l.length hs[(i : Int).toNat]!.cap hs[(i : Int).toNat]!.l rfl (by omega)) rfl) (by decide) ?_))
  rintro _ _ ⟨rfl, rfl⟩
  repeat (first | refine runB ?_ | intro _ | ((with_reducible apply G.atDraw); first | refine G.draw (N := 134) (id := 10) plN1_3_10 mixed (by kernel_rfl) ?_ | refine G.draw (N := 134) (id := 16) plN1_3_16 mixed (by kernel_rfl) ?_ | refine G.draw (N := 134) (id := 20) plN1_3_20 mixed (by kernel_rfl) ?_))
  refine ⟨k + 1, by omega, by omega, ?_, Ent.drop⟩
  rw [show ((k + 1 : Nat) : Int) = (k : Int) + 1 by omega]
  exact (by repeat (first | exact EnvSub.nil _ | refine EnvSub.cons rfl ?_))
end Go.Proofs.YtclgjkeeaopppaaGreatDoor
