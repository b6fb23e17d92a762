/- The law MovePlans: Plan returns the legs of exactly the accounts that have something and move away from the shard. -/
import Derived.Test.YtclgjkeeaopppaaGreatDoorN8
import Derived.Test.YtclgjkeeaopppaaGreatDoorN1
namespace Go.Proofs.YtclgjkeeaopppaaGreatDoor
open Go.V
attribute [local irreducible] G GO GP GPW GPK Ev Ef EfR Ent CB GB Enters
theorem Gd.post {S : LedS} {n : Nat} (h : Gd S n) (hn : n ≤ 8) : SpOk S 268435456 0 3 ∧ (S.spawn 268435456 0 3).Ok ∧ (S.spawn 268435456 0 3).its.length = 4 ∧ StkOk (S.spawn 268435456 0 3) ∧ (S.spawn 268435456 0 3).stk.length ≤ 12 ∧ ∀ p ∈ (S.spawn 268435456 0 3).stk, p.1.1 ≤ 12 ∨ p.1.1 = 268435456 := by
  have ht := h.tot 0
  have hits : S.its.length = 4 := by rw [h.its]; rfl
  have hlen := gins_len S.stk (268435456, 0) (S.cur 268435456 0 ++ [(S.id, 0, 3)])
  have hl := h.len
  have hid : S.id = n := by unfold LedS.id; rw [h.shard, h.nfl]; simp
  have hstk : ∀ p ∈ (S.spawn 268435456 0 3).stk, ((1 ≤ p.1.1 ∧ p.1.1 ≤ maxAcc) ∧ (p.1.1 ≤ 12 ∨ p.1.1 = 268435456)) ∧ (0 ≤ p.1.2 ∧ p.1.2 < 4) ∧ p.2 ≠ [] ∧ p.2.length ≤ n + 1 ∧ ∀ l ∈ p.2, LotOk l := by
    intro p hp
    rcases List.mem_cons.1 (gins_sub p hp) with rfl | hp
    · refine ⟨⟨⟨by dsimp only; omega, by dsimp only [maxAcc]; omega⟩, .inr rfl⟩, ⟨by dsimp only; omega, by dsimp only; omega⟩, by simp, ?_, ?_⟩
      · dsimp only
        unfold LedS.cur
        cases hl : glk S.stk (268435456, 0) with
        | none => simp
        | some x => have := (h.stk _ (glookup_mem hl)).2.2.2.1; simp at this ⊢; omega
      · intro l hl
        rcases List.mem_append.1 hl with hl | hl
        · exact ((h.ok (by omega)).cur 268435456 0).2 l hl
        · simp at hl
          subst hl
          exact ⟨by dsimp only; rw [hid]; omega, by dsimp only; omega, by dsimp only; omega, by dsimp only; omega, by dsimp only; omega⟩
    · have := h.stk p hp
      have hmx : maxAcc = 1073741824 := rfl
      exact ⟨⟨⟨this.1.1, by omega⟩, .inl this.1.2⟩, this.2.1, this.2.2.1, by omega, this.2.2.2.2⟩
  have hnd : ((S.spawn 268435456 0 3).stk.map (·.1)).Nodup := gins_keys h.nodup
  have hits2 : (S.spawn 268435456 0 3).its.length = 4 := hits
  refine ⟨⟨by decide, by omega, by decide, by omega, by omega⟩, ⟨?_, ?_, ?_, ?_⟩, hits2, ⟨fun p hp => (hstk p hp).1.1, ?_⟩, ?_, fun p hp => (hstk p hp).1.2⟩
  · show 0 ≤ S.shard ∧ S.shard < 12
    rw [h.shard]; decide
  · show S.nst + 1 < 65536
    rw [h.nst]; omega
  · show S.nfl + 1 ≤ 1000000
    rw [h.nfl]; omega
  · intro p hp
    have := hstk p hp
    exact ⟨by omega, this.2.2.2.2⟩
  · intro p hp
    obtain ⟨_, ⟨i1, i2⟩, hne, _, hlo⟩ := hstk p hp
    have hcur : (S.spawn 268435456 0 3).cur p.1.1 p.1.2 = p.2 := by
      unfold LedS.cur glk
      rw [glookup_of_mem hnd (show ((p.1.1, p.1.2), p.2) ∈ (S.spawn 268435456 0 3).stk from hp)]
      rfl
    have hb : 0 < (S.spawn 268435456 0 3).bal p.1.1 (p.1.2.toNat : Nat) := by
      rw [show ((p.1.2.toNat : Nat) : Int) = p.1.2 by omega, LedS.bal, hcur]
      exact lsum_pos hlo hne
    rw [hits2]
    intro e
    have := ams_mem (S.spawn 268435456 0 3) p.1.1 hb 4 (by omega)
    rw [e] at this
    cases this
  · show (gins S.stk (268435456, 0) (S.cur 268435456 0 ++ [(S.id, 0, 3)])).length ≤ 12
    omega
abbrev plN9_7_15 : List Stp := [.ev 0, .ev 1, .ev 2, .ev 3, .ev 4, .ev 6, .ef 5, .ef 7, .ef 8, .ev 9, .ev 10, .ev 11, .ev 12, .ev 13]
abbrev plN9_7_34 : List Stp := [.ev 0, .ev 1, .ev 2, .ev 3, .ev 4, .ev 5, .ev 6, .ev 7, .ev 8, .ev 9, .ev 10, .ev 11, .ev 12, .ev 13, .ev 14, .ev 15, .ev 16, .ev 17, .ev 18, .ev 19, .ev 20, .ev 21, .ev 22, .ev 23, .ev 24, .ev 25, .ev 26, .ev 27, .ev 28, .ev 29, .ev 30, .ev 31, .ev 32]
set_option maxHeartbeats 2000000 in
theorem movePlans_spec {L : List HP} [hk : KR L] (ad : Option Addr) (len cap : Nat) (xs : List Int) [Rds L ad Int (encI .i64) 1 xs] (hlen : len = xs.length) (hmx0 : len ≤ 9223372036854775807) (hxb : ∀ x ∈ xs, I64 x)
    (ad' : Option Addr) (len' cap' : Nat) (ys : List Int) [Rds L ad' Int (encI .i64) 1 ys] (hlen' : len' = ys.length) (hmx0' : len' ≤ 9223372036854775807) (hyb : ∀ x ∈ ys, I64 x)
    (sh : Int) (hsh : I64 sh) (bad : Int) (hbad : I64 bad) (at_ : Int) (hat : I64 at_) (n : Int) (_hn : I64 n) :
    Tri Tryz.prog 7 #[.slice ad len cap, .slice ad' len' cap', .int .i64 sh, .int .i64 bad, .int .i64 at_, .int .i64 n] L (fun v L' => v = .bool true ∧ L' = L) := by
  have hmx : maxAcc = 1073741824 := rfl
  refine Tri.body (args := [.slice ad len cap, .slice ad' len' cap', .int .i64 sh, .int .i64 bad, .int .i64 at_, .int .i64 n]) 229 en7 Tryz.func7 rfl rfl rfl (by simp) ?_
  repeat (first | refine runB ?_ | intro _ | ((with_reducible apply G.atDraw); first | refine G.draw (N := 229) (id := 15) plN9_7_15 mixed (by kernel_rfl) ?_ | refine G.draw (N := 229) (id := 34) plN9_7_34 mixed (by kernel_rfl) ?_))
  (first | ((with_reducible apply GO.atPlain); first | refine GO.ef (Ef.callAll (ledgers1_spec ad len cap xs hlen hmx0 hxb) rfl) (by decide) ?_ | refine GO.ef (by exact Ef.callAll (ledgers1_spec ad len cap xs hlen hmx0 hxb) rfl) (by decide) ?_) | ((with_reducible apply GPW.atEf); first | refine GPW.ef (Ef.callAll (ledgers1_spec ad len cap xs hlen hmx0 hxb) rfl) (by decide) ?_ | refine GPW.ef (by exact Ef.callAll (ledgers1_spec ad len cap xs hlen hmx0 hxb) rfl) (by decide) ?_))
  rintro _ _ ⟨lad, lcap, bl, S0, ng, rfl, ⟨hg, hng⟩, rfl⟩
  have hS0 := hg.ok (by omega)
  obtain ⟨hsp, hS, hits, hst, hl12, hacb⟩ := hg.post hng
  have hbll : ([bl] : List Nat).length = 1 := rfl
  refine GO.ent (L' := osl encP 1 tPL lad lcap [bl] :: LedR ([bl] : List Nat)[(0 : Int).toNat]! S0 :: L) (Ent.refl _) ?_
  repeat (first | refine runB ?_ | intro _ | ((with_reducible apply G.atDraw); first | refine G.draw (N := 229) (id := 15) plN9_7_15 mixed (by kernel_rfl) ?_ | refine G.draw (N := 229) (id := 34) plN9_7_34 mixed (by kernel_rfl) ?_))
  rename_i bm
  refine GO.ent (Ent.objSl (enc := encMv) (sz := 5) (xs := [(268435456, 0, 3)]) rfl rfl (by intro y _; rfl) (by decide)) ?_
  refine GO.ent (Ent.at (A := LedR ([bl] : List Nat)[(0 : Int).toNat]! S0) (Ent.refl _)) ?_
  (first | ((with_reducible apply GO.atPlain); first | refine GO.ef (Ef.callAll (post_spec ([bl] : List Nat)[(0 : Int).toNat]! S0 hS0 (some ⟨bm, 0, none⟩) 1 hsp) rfl) (by decide) ?_ | refine GO.ef (by exact Ef.callAll (post_spec ([bl] : List Nat)[(0 : Int).toNat]! S0 hS0 (some ⟨bm, 0, none⟩) 1 hsp) rfl) (by decide) ?_) | ((with_reducible apply GPW.atEf); first | refine GPW.ef (Ef.callAll (post_spec ([bl] : List Nat)[(0 : Int).toNat]! S0 hS0 (some ⟨bm, 0, none⟩) 1 hsp) rfl) (by decide) ?_ | refine GPW.ef (by exact Ef.callAll (post_spec ([bl] : List Nat)[(0 : Int).toNat]! S0 hS0 (some ⟨bm, 0, none⟩) 1 hsp) rfl) (by decide) ?_))
  rintro _ _ ⟨rfl, rfl⟩
  generalize S0.spawn 268435456 0 3 = S at hS hits hst hl12 hacb
  repeat (first | refine runB ?_ | intro _ | ((with_reducible apply G.atDraw); first | refine G.draw (N := 229) (id := 15) plN9_7_15 mixed (by kernel_rfl) ?_ | refine G.draw (N := 229) (id := 34) plN9_7_34 mixed (by kernel_rfl) ?_))
  (first | ((with_reducible apply GO.atPlain); first | refine GO.ef (Ef.callAll (rhomes_spec 3 2 ad len cap xs hlen (by omega) hxb (by omega) (by omega) (by decide)) rfl) (by decide) ?_ | refine GO.ef (by exact Ef.callAll (rhomes_spec 3 2 ad len cap xs hlen (by omega) hxb (by omega) (by omega) (by decide)) rfl) (by decide) ?_) | ((with_reducible apply GPW.atEf); first | refine GPW.ef (Ef.callAll (rhomes_spec 3 2 ad len cap xs hlen (by omega) hxb (by omega) (by omega) (by decide)) rfl) (by decide) ?_ | refine GPW.ef (by exact Ef.callAll (rhomes_spec 3 2 ad len cap xs hlen (by omega) hxb (by omega) (by omega) (by decide)) rfl) (by decide) ?_))
  rintro _ _ ⟨ad1, cap1, l1, rfl, ⟨hok1, hl1⟩, rfl⟩
  repeat (first | refine runB ?_ | intro _ | ((with_reducible apply G.atDraw); first | refine G.draw (N := 229) (id := 15) plN9_7_15 mixed (by kernel_rfl) ?_ | refine G.draw (N := 229) (id := 34) plN9_7_34 mixed (by kernel_rfl) ?_))
  (first | ((with_reducible apply GO.atPlain); first | refine GO.ef (Ef.callAll (rhomes_spec 3 0 ad' len' cap' ys hlen' (by omega) hyb (by omega) (by omega) (by decide)) rfl) (by decide) ?_ | refine GO.ef (by exact Ef.callAll (rhomes_spec 3 0 ad' len' cap' ys hlen' (by omega) hyb (by omega) (by omega) (by decide)) rfl) (by decide) ?_) | ((with_reducible apply GPW.atEf); first | refine GPW.ef (Ef.callAll (rhomes_spec 3 0 ad' len' cap' ys hlen' (by omega) hyb (by omega) (by omega) (by decide)) rfl) (by decide) ?_ | refine GPW.ef (by exact Ef.callAll (rhomes_spec 3 0 ad' len' cap' ys hlen' (by omega) hyb (by omega) (by omega) (by decide)) rfl) (by decide) ?_))
  rintro _ _ ⟨ad2, cap2, l2, rfl, ⟨hok2, hl2⟩, rfl⟩
  refine GO.ent (L' := isl encH 2 ad2 l2 :: isl encH 2 ad1 l1 :: LedR ([bl] : List Nat)[(0 : Int).toNat]! S :: osl encP 1 tPL lad lcap [bl] :: L) (Ent.freezeSl.trans (Ent.consR (Ent.freezeSl.trans (Ent.consR (by repeat (first | exact Ent.refl _ | exact Ent.nil _ | refine Ent.take' ?_ | refine Ent.trans Ent.drop ?_)))))) ?_
  repeat (first | refine runB ?_ | intro _ | ((with_reducible apply G.atDraw); first | refine G.draw (N := 229) (id := 15) plN9_7_15 mixed (by kernel_rfl) ?_ | refine G.draw (N := 229) (id := 34) plN9_7_34 mixed (by kernel_rfl) ?_))
  (first | ((with_reducible apply GO.atPlain); first | refine GO.ef (Ef.callAll (around_spec sh 3 hsh (by decide) (by decide)) rfl) (by decide) ?_ | refine GO.ef (by exact Ef.callAll (around_spec sh 3 hsh (by decide) (by decide)) rfl) (by decide) ?_) | ((with_reducible apply GPW.atEf); first | refine GPW.ef (Ef.callAll (around_spec sh 3 hsh (by decide) (by decide)) rfl) (by decide) ?_ | refine GPW.ef (by exact Ef.callAll (around_spec sh 3 hsh (by decide) (by decide)) rfl) (by decide) ?_))
  rintro _ _ ⟨rfl, rfl⟩
  generalize around sh 3 = s0
  repeat (first | refine runB ?_ | intro _ | ((with_reducible apply G.atDraw); first | refine G.draw (N := 229) (id := 15) plN9_7_15 mixed (by kernel_rfl) ?_ | refine G.draw (N := 229) (id := 34) plN9_7_34 mixed (by kernel_rfl) ?_))
  (first | ((with_reducible apply GO.atPlain); first | refine GO.ef (Ef.callAll (around_spec bad 6 hbad (by decide) (by decide)) rfl) (by decide) ?_ | refine GO.ef (by exact Ef.callAll (around_spec bad 6 hbad (by decide) (by decide)) rfl) (by decide) ?_) | ((with_reducible apply GPW.atEf); first | refine GPW.ef (Ef.callAll (around_spec bad 6 hbad (by decide) (by decide)) rfl) (by decide) ?_ | refine GPW.ef (by exact Ef.callAll (around_spec bad 6 hbad (by decide) (by decide)) rfl) (by decide) ?_))
  rintro _ _ ⟨rfl, rfl⟩
  generalize around bad 6 = kb
  repeat (first | ((fail_if_success (with_reducible refine G.atSS 9 ?_)); (with_reducible apply G.seq)) | refine runBS ?_ | intro _ | ((with_reducible apply G.atDraw); first | refine G.draw (N := 229) (id := 15) plN9_7_15 mixed (by kernel_rfl) ?_ | refine G.draw (N := 229) (id := 34) plN9_7_34 mixed (by kernel_rfl) ?_))
  refine G.join (α := Option Addr × Nat × List Hm) (fun x => x.2.2.length ≤ 7) (fun x => [(2, .int .i64 sh), (4, .int .i64 at_), (5, .int .i64 n), (13, .slice lad 1 lcap), (15, .slice x.1 x.2.2.length x.2.1), (16, .slice ad2 l2.length cap2), (17, .int .i64 s0), (18, .int .i64 kb)])
    (fun x => LedR ([bl] : List Nat)[(0 : Int).toNat]! S :: isl encH 2 x.1 x.2.2 :: isl encH 2 ad2 l2 :: osl encP 1 tPL lad lcap [bl] :: L) ?_ ?_
  · by_cases hc : kb = 0
    · repeat (first | refine runB ?_ | intro _ | ((with_reducible apply G.atDraw); first | refine G.draw (N := 229) (id := 15) plN9_7_15 mixed (by kernel_rfl) ?_ | refine G.draw (N := 229) (id := 34) plN9_7_34 mixed (by kernel_rfl) ?_))
      (first | ((with_reducible apply GO.atPlain); first | refine GO.ef (Ef.callAll (spoilt_spec at_ n ad1 l1.length cap1 l1 rfl (by omega) hat) rfl) (by decide) ?_ | refine GO.ef (by exact Ef.callAll (spoilt_spec at_ n ad1 l1.length cap1 l1 rfl (by omega) hat) rfl) (by decide) ?_) | ((with_reducible apply GPW.atEf); first | refine GPW.ef (Ef.callAll (spoilt_spec at_ n ad1 l1.length cap1 l1 rfl (by omega) hat) rfl) (by decide) ?_ | refine GPW.ef (by exact Ef.callAll (spoilt_spec at_ n ad1 l1.length cap1 l1 rfl (by omega) hat) rfl) (by decide) ?_))
      rintro _ _ ⟨ad5, cap5, l5, rfl, hl5, rfl⟩
      repeat (first | refine runB ?_ | intro _ | ((with_reducible apply G.atDraw); first | refine G.draw (N := 229) (id := 15) plN9_7_15 mixed (by kernel_rfl) ?_ | refine G.draw (N := 229) (id := 34) plN9_7_34 mixed (by kernel_rfl) ?_))
      exact ⟨(ad5, cap5, l5), by dsimp only; omega, (by repeat (first | exact EnvSub.nil _ | refine EnvSub.cons rfl ?_)), Ent.freezeSl.trans (by repeat (first | exact Ent.refl _ | exact Ent.nil _ | refine Ent.take' ?_ | refine Ent.trans Ent.drop ?_))⟩
    · repeat (first | refine runB ?_ | intro _ | ((with_reducible apply G.atDraw); first | refine G.draw (N := 229) (id := 15) plN9_7_15 mixed (by kernel_rfl) ?_ | refine G.draw (N := 229) (id := 34) plN9_7_34 mixed (by kernel_rfl) ?_))
      exact ⟨(ad1, cap1, l1), hl1, (by repeat (first | exact EnvSub.nil _ | refine EnvSub.cons rfl ?_)), by repeat (first | exact Ent.refl _ | exact Ent.nil _ | refine Ent.take' ?_ | refine Ent.trans Ent.drop ?_)⟩
  rintro ⟨adx, capx, x⟩ hlx
  dsimp only at hlx ⊢
  repeat (first | ((fail_if_success (with_reducible refine G.atSS 11 ?_)); (with_reducible apply G.seq)) | refine runBS ?_ | intro _ | ((with_reducible apply G.atDraw); first | refine G.draw (N := 229) (id := 15) plN9_7_15 mixed (by kernel_rfl) ?_ | refine G.draw (N := 229) (id := 34) plN9_7_34 mixed (by kernel_rfl) ?_))
  refine G.join (α := Option Addr × Nat × List Hm) (fun y => y.2.2.length ≤ 7) (fun y => [(2, .int .i64 sh), (13, .slice lad 1 lcap), (15, .slice adx x.length capx), (16, .slice y.1 y.2.2.length y.2.1), (17, .int .i64 s0), (18, .int .i64 kb)])
    (fun y => LedR ([bl] : List Nat)[(0 : Int).toNat]! S :: isl encH 2 y.1 y.2.2 :: isl encH 2 adx x :: osl encP 1 tPL lad lcap [bl] :: L) ?_ ?_
  · by_cases hc : kb = 1
    · repeat (first | refine runB ?_ | intro _ | ((with_reducible apply G.atDraw); first | refine G.draw (N := 229) (id := 15) plN9_7_15 mixed (by kernel_rfl) ?_ | refine G.draw (N := 229) (id := 34) plN9_7_34 mixed (by kernel_rfl) ?_))
      (first | ((with_reducible apply GO.atPlain); first | refine GO.ef (Ef.callAll (spoilt_spec at_ n ad2 l2.length cap2 l2 rfl (by omega) hat) rfl) (by decide) ?_ | refine GO.ef (by exact Ef.callAll (spoilt_spec at_ n ad2 l2.length cap2 l2 rfl (by omega) hat) rfl) (by decide) ?_) | ((with_reducible apply GPW.atEf); first | refine GPW.ef (Ef.callAll (spoilt_spec at_ n ad2 l2.length cap2 l2 rfl (by omega) hat) rfl) (by decide) ?_ | refine GPW.ef (by exact Ef.callAll (spoilt_spec at_ n ad2 l2.length cap2 l2 rfl (by omega) hat) rfl) (by decide) ?_))
      rintro _ _ ⟨ad5, cap5, l5, rfl, hl5, rfl⟩
      repeat (first | refine runB ?_ | intro _ | ((with_reducible apply G.atDraw); first | refine G.draw (N := 229) (id := 15) plN9_7_15 mixed (by kernel_rfl) ?_ | refine G.draw (N := 229) (id := 34) plN9_7_34 mixed (by kernel_rfl) ?_))
      exact ⟨(ad5, cap5, l5), by dsimp only; omega, (by repeat (first | exact EnvSub.nil _ | refine EnvSub.cons rfl ?_)), Ent.freezeSl.trans (by repeat (first | exact Ent.refl _ | exact Ent.nil _ | refine Ent.take' ?_ | refine Ent.trans Ent.drop ?_))⟩
    · repeat (first | refine runB ?_ | intro _ | ((with_reducible apply G.atDraw); first | refine G.draw (N := 229) (id := 15) plN9_7_15 mixed (by kernel_rfl) ?_ | refine G.draw (N := 229) (id := 34) plN9_7_34 mixed (by kernel_rfl) ?_))
      exact ⟨(ad2, cap2, l2), hl2, (by repeat (first | exact EnvSub.nil _ | refine EnvSub.cons rfl ?_)), by repeat (first | exact Ent.refl _ | exact Ent.nil _ | refine Ent.take' ?_ | refine Ent.trans Ent.drop ?_)⟩
  rintro ⟨ady, capy, y⟩ hly
  dsimp only at hly ⊢
  repeat (first | ((fail_if_success (with_reducible refine G.atSS 13 ?_)); (with_reducible apply G.seq)) | refine runBS ?_ | intro _ | ((with_reducible apply G.atDraw); first | refine G.draw (N := 229) (id := 15) plN9_7_15 mixed (by kernel_rfl) ?_ | refine G.draw (N := 229) (id := 34) plN9_7_34 mixed (by kernel_rfl) ?_))
  refine G.join (α := Int) (fun _ => True) (fun s => [(13, .slice lad 1 lcap), (15, .slice adx x.length capx), (16, .slice ady y.length capy), (17, .int .i64 s)])
    (fun _ => LedR ([bl] : List Nat)[(0 : Int).toNat]! S :: isl encH 2 ady y :: isl encH 2 adx x :: osl encP 1 tPL lad lcap [bl] :: L) ?_ ?_
  · by_cases hc : kb = 2
    · repeat (first | refine runB ?_ | intro _ | ((with_reducible apply G.atDraw); first | refine G.draw (N := 229) (id := 15) plN9_7_15 mixed (by kernel_rfl) ?_ | refine G.draw (N := 229) (id := 34) plN9_7_34 mixed (by kernel_rfl) ?_))
      exact ⟨sh, trivial, (by repeat (first | exact EnvSub.nil _ | refine EnvSub.cons rfl ?_)), Ent.refl _⟩
    · repeat (first | refine runB ?_ | intro _ | ((with_reducible apply G.atDraw); first | refine G.draw (N := 229) (id := 15) plN9_7_15 mixed (by kernel_rfl) ?_ | refine G.draw (N := 229) (id := 34) plN9_7_34 mixed (by kernel_rfl) ?_))
      exact ⟨s0, trivial, (by repeat (first | exact EnvSub.nil _ | refine EnvSub.cons rfl ?_)), Ent.refl _⟩
  rintro s _
  repeat (first | refine runB ?_ | intro _ | ((with_reducible apply G.atDraw); first | refine G.draw (N := 229) (id := 15) plN9_7_15 mixed (by kernel_rfl) ?_ | refine G.draw (N := 229) (id := 34) plN9_7_34 mixed (by kernel_rfl) ?_))
  (first | ((with_reducible apply GO.atPlain); first | refine GO.ef (Ef.callAll (homes_spec adx x.length capx x rfl (by omega)) rfl) (by decide) ?_ | refine GO.ef (by exact Ef.callAll (homes_spec adx x.length capx x rfl (by omega)) rfl) (by decide) ?_) | ((with_reducible apply GPW.atEf); first | refine GPW.ef (Ef.callAll (homes_spec adx x.length capx x rfl (by omega)) rfl) (by decide) ?_ | refine GPW.ef (by exact Ef.callAll (homes_spec adx x.length capx x rfl (by omega)) rfl) (by decide) ?_))
  rintro _ _ ⟨ad5, cap5, rfl, rfl⟩
  repeat (first | refine runB ?_ | intro _ | ((with_reducible apply G.atDraw); first | refine G.draw (N := 229) (id := 15) plN9_7_15 mixed (by kernel_rfl) ?_ | refine G.draw (N := 229) (id := 34) plN9_7_34 mixed (by kernel_rfl) ?_))
  (first | ((with_reducible apply GO.atPlain); first | refine GO.ef (Ef.callAll (homes_spec ady y.length capy y rfl (by omega)) rfl) (by decide) ?_ | refine GO.ef (by exact Ef.callAll (homes_spec ady y.length capy y rfl (by omega)) rfl) (by decide) ?_) | ((with_reducible apply GPW.atEf); first | refine GPW.ef (Ef.callAll (homes_spec ady y.length capy y rfl (by omega)) rfl) (by decide) ?_ | refine GPW.ef (by exact Ef.callAll (homes_spec ady y.length capy y rfl (by omega)) rfl) (by decide) ?_))
  rintro _ _ ⟨ad6, cap6, rfl, rfl⟩
  repeat (first | refine runB ?_ | intro _ | ((with_reducible apply G.atDraw); first | refine G.draw (N := 229) (id := 15) plN9_7_15 mixed (by kernel_rfl) ?_ | refine G.draw (N := 229) (id := 34) plN9_7_34 mixed (by kernel_rfl) ?_))
  refine GPW.ent (Ent.at (A := LedR ([bl] : List Nat)[(0 : Int).toNat]! S) (Ent.refl _)) ?_
  (first | ((with_reducible apply GO.atPlain); first | refine GO.ef (Ef.callAll (plan_spec ([bl] : List Nat)[(0 : Int).toNat]! S hS (by omega) hst hl12 s ad5 ad6 x.length cap5 y.length cap6 x y rfl rfl (by omega) (by omega)) rfl) (by decide) ?_ | refine GO.ef (by exact Ef.callAll (plan_spec ([bl] : List Nat)[(0 : Int).toNat]! S hS (by omega) hst hl12 s ad5 ad6 x.length cap5 y.length cap6 x y rfl rfl (by omega) (by omega)) rfl) (by decide) ?_) | ((with_reducible apply GPW.atEf); first | refine GPW.ef (Ef.callAll (plan_spec ([bl] : List Nat)[(0 : Int).toNat]! S hS (by omega) hst hl12 s ad5 ad6 x.length cap5 y.length cap6 x y rfl rfl (by omega) (by omega)) rfl) (by decide) ?_ | refine GPW.ef (by exact Ef.callAll (plan_spec ([bl] : List Nat)[(0 : Int).toNat]! S hS (by omega) hst hl12 s ad5 ad6 x.length cap5 y.length cap6 x y rfl rfl (by omega) (by omega)) rfl) (by decide) ?_))
  rintro _ _ (⟨hnok, rfl, rfl⟩ | ⟨⟨hx, hy, hs1, hs2⟩, pad, pcap, ps, rfl, ⟨hpl, hinc, hmem, hleg⟩, rfl⟩)
  · repeat (first | refine runB ?_ | intro _ | ((with_reducible apply G.atDraw); first | refine G.draw (N := 229) (id := 15) plN9_7_15 mixed (by kernel_rfl) ?_ | refine G.draw (N := 229) (id := 34) plN9_7_34 mixed (by kernel_rfl) ?_))
    (first | ((with_reducible apply GO.atPlain); first | refine GO.ef (Ef.callAll (rvalid_spec 12 adx x.length capx x rfl (by omega)) rfl) (by decide) ?_ | refine GO.ef (by exact Ef.callAll (rvalid_spec 12 adx x.length capx x rfl (by omega)) rfl) (by decide) ?_) | ((with_reducible apply GPW.atEf); first | refine GPW.ef (Ef.callAll (rvalid_spec 12 adx x.length capx x rfl (by omega)) rfl) (by decide) ?_ | refine GPW.ef (by exact Ef.callAll (rvalid_spec 12 adx x.length capx x rfl (by omega)) rfl) (by decide) ?_))
    rintro _ _ ⟨rfl, rfl⟩
    by_cases hx : HOk 12 x
    case neg =>
      rw [dB_neg hx]
      repeat (first | refine runB ?_ | intro _ | ((with_reducible apply G.atDraw); first | refine G.draw (N := 229) (id := 15) plN9_7_15 mixed (by kernel_rfl) ?_ | refine G.draw (N := 229) (id := 34) plN9_7_34 mixed (by kernel_rfl) ?_))
      (first | ((with_reducible apply GO.atPlain); first | refine GO.ef (Ef.callAll (lives_spec) rfl) (by decide) ?_ | refine GO.ef (by exact Ef.callAll (lives_spec) rfl) (by decide) ?_) | ((with_reducible apply GPW.atEf); first | refine GPW.ef (Ef.callAll (lives_spec) rfl) (by decide) ?_ | refine GPW.ef (by exact Ef.callAll (lives_spec) rfl) (by decide) ?_))
      rintro _ _ ⟨rfl, rfl⟩
      repeat (first | refine runB ?_ | intro _ | ((with_reducible apply G.atDraw); first | refine G.draw (N := 229) (id := 15) plN9_7_15 mixed (by kernel_rfl) ?_ | refine G.draw (N := 229) (id := 34) plN9_7_34 mixed (by kernel_rfl) ?_))
      exact KX.ends (by first | exact ResOk.tmps rfl | (repeat (first | exact ResOk.nil | apply ResOk.tmp rfl | apply ResOk.cell rfl (by rfl) | apply ResOk.cell1 rfl))) (by repeat (first | exact Ent.refl _ | exact Ent.nil _ | refine Ent.take' ?_ | refine Ent.trans Ent.drop ?_)) ⟨rfl, rfl⟩
    rw [dB_pos hx]
    repeat (first | refine runB ?_ | intro _ | ((with_reducible apply G.atDraw); first | refine G.draw (N := 229) (id := 15) plN9_7_15 mixed (by kernel_rfl) ?_ | refine G.draw (N := 229) (id := 34) plN9_7_34 mixed (by kernel_rfl) ?_))
    (first | ((with_reducible apply GO.atPlain); first | refine GO.ef (Ef.callAll (rvalid_spec 12 ady y.length capy y rfl (by omega)) rfl) (by decide) ?_ | refine GO.ef (by exact Ef.callAll (rvalid_spec 12 ady y.length capy y rfl (by omega)) rfl) (by decide) ?_) | ((with_reducible apply GPW.atEf); first | refine GPW.ef (Ef.callAll (rvalid_spec 12 ady y.length capy y rfl (by omega)) rfl) (by decide) ?_ | refine GPW.ef (by exact Ef.callAll (rvalid_spec 12 ady y.length capy y rfl (by omega)) rfl) (by decide) ?_))
    rintro _ _ ⟨rfl, rfl⟩
    by_cases hy : HOk 12 y
    case neg =>
      rw [dB_neg hy]
      repeat (first | refine runB ?_ | intro _ | ((with_reducible apply G.atDraw); first | refine G.draw (N := 229) (id := 15) plN9_7_15 mixed (by kernel_rfl) ?_ | refine G.draw (N := 229) (id := 34) plN9_7_34 mixed (by kernel_rfl) ?_))
      (first | ((with_reducible apply GO.atPlain); first | refine GO.ef (Ef.callAll (lives_spec) rfl) (by decide) ?_ | refine GO.ef (by exact Ef.callAll (lives_spec) rfl) (by decide) ?_) | ((with_reducible apply GPW.atEf); first | refine GPW.ef (Ef.callAll (lives_spec) rfl) (by decide) ?_ | refine GPW.ef (by exact Ef.callAll (lives_spec) rfl) (by decide) ?_))
      rintro _ _ ⟨rfl, rfl⟩
      repeat (first | refine runB ?_ | intro _ | ((with_reducible apply G.atDraw); first | refine G.draw (N := 229) (id := 15) plN9_7_15 mixed (by kernel_rfl) ?_ | refine G.draw (N := 229) (id := 34) plN9_7_34 mixed (by kernel_rfl) ?_))
      exact KX.ends (by first | exact ResOk.tmps rfl | (repeat (first | exact ResOk.nil | apply ResOk.tmp rfl | apply ResOk.cell rfl (by rfl) | apply ResOk.cell1 rfl))) (by repeat (first | exact Ent.refl _ | exact Ent.nil _ | refine Ent.take' ?_ | refine Ent.trans Ent.drop ?_)) ⟨rfl, rfl⟩
    rw [dB_pos hy]
    by_cases hs0 : 0 ≤ s
    case neg =>
      repeat (first | refine runB ?_ | intro _ | ((with_reducible apply G.atDraw); first | refine G.draw (N := 229) (id := 15) plN9_7_15 mixed (by kernel_rfl) ?_ | refine G.draw (N := 229) (id := 34) plN9_7_34 mixed (by kernel_rfl) ?_))
      (first | ((with_reducible apply GO.atPlain); first | refine GO.ef (Ef.callAll (lives_spec) rfl) (by decide) ?_ | refine GO.ef (by exact Ef.callAll (lives_spec) rfl) (by decide) ?_) | ((with_reducible apply GPW.atEf); first | refine GPW.ef (Ef.callAll (lives_spec) rfl) (by decide) ?_ | refine GPW.ef (by exact Ef.callAll (lives_spec) rfl) (by decide) ?_))
      rintro _ _ ⟨rfl, rfl⟩
      repeat (first | refine runB ?_ | intro _ | ((with_reducible apply G.atDraw); first | refine G.draw (N := 229) (id := 15) plN9_7_15 mixed (by kernel_rfl) ?_ | refine G.draw (N := 229) (id := 34) plN9_7_34 mixed (by kernel_rfl) ?_))
      exact KX.ends (by first | exact ResOk.tmps rfl | (repeat (first | exact ResOk.nil | apply ResOk.tmp rfl | apply ResOk.cell rfl (by rfl) | apply ResOk.cell1 rfl))) (by repeat (first | exact Ent.refl _ | exact Ent.nil _ | refine Ent.take' ?_ | refine Ent.trans Ent.drop ?_)) ⟨rfl, rfl⟩
    by_cases hs12 : s < 12
    case neg =>
      repeat (first | refine runB ?_ | intro _ | ((with_reducible apply G.atDraw); first | refine G.draw (N := 229) (id := 15) plN9_7_15 mixed (by kernel_rfl) ?_ | refine G.draw (N := 229) (id := 34) plN9_7_34 mixed (by kernel_rfl) ?_))
      (first | ((with_reducible apply GO.atPlain); first | refine GO.ef (Ef.callAll (lives_spec) rfl) (by decide) ?_ | refine GO.ef (by exact Ef.callAll (lives_spec) rfl) (by decide) ?_) | ((with_reducible apply GPW.atEf); first | refine GPW.ef (Ef.callAll (lives_spec) rfl) (by decide) ?_ | refine GPW.ef (by exact Ef.callAll (lives_spec) rfl) (by decide) ?_))
      rintro _ _ ⟨rfl, rfl⟩
      repeat (first | refine runB ?_ | intro _ | ((with_reducible apply G.atDraw); first | refine G.draw (N := 229) (id := 15) plN9_7_15 mixed (by kernel_rfl) ?_ | refine G.draw (N := 229) (id := 34) plN9_7_34 mixed (by kernel_rfl) ?_))
      exact KX.ends (by first | exact ResOk.tmps rfl | (repeat (first | exact ResOk.nil | apply ResOk.tmp rfl | apply ResOk.cell rfl (by rfl) | apply ResOk.cell1 rfl))) (by repeat (first | exact Ent.refl _ | exact Ent.nil _ | refine Ent.take' ?_ | refine Ent.trans Ent.drop ?_)) ⟨rfl, rfl⟩
    exact absurd ⟨hx, hy, hs0, hs12⟩ hnok
  repeat (first | refine runB ?_ | intro _ | ((with_reducible apply G.atDraw); first | refine G.draw (N := 229) (id := 15) plN9_7_15 mixed (by kernel_rfl) ?_ | refine G.draw (N := 229) (id := 34) plN9_7_34 mixed (by kernel_rfl) ?_))
  (first | ((with_reducible apply GO.atPlain); first | refine GO.ef (Ef.callAll (rvalid_spec 12 adx x.length capx x rfl (by omega)) rfl) (by decide) ?_ | refine GO.ef (by exact Ef.callAll (rvalid_spec 12 adx x.length capx x rfl (by omega)) rfl) (by decide) ?_) | ((with_reducible apply GPW.atEf); first | refine GPW.ef (Ef.callAll (rvalid_spec 12 adx x.length capx x rfl (by omega)) rfl) (by decide) ?_ | refine GPW.ef (by exact Ef.callAll (rvalid_spec 12 adx x.length capx x rfl (by omega)) rfl) (by decide) ?_))
  rintro _ _ ⟨rfl, rfl⟩
  rw [dB_pos hx]
  repeat (first | refine runB ?_ | intro _ | ((with_reducible apply G.atDraw); first | refine G.draw (N := 229) (id := 15) plN9_7_15 mixed (by kernel_rfl) ?_ | refine G.draw (N := 229) (id := 34) plN9_7_34 mixed (by kernel_rfl) ?_))
  (first | ((with_reducible apply GO.atPlain); first | refine GO.ef (Ef.callAll (rvalid_spec 12 ady y.length capy y rfl (by omega)) rfl) (by decide) ?_ | refine GO.ef (by exact Ef.callAll (rvalid_spec 12 ady y.length capy y rfl (by omega)) rfl) (by decide) ?_) | ((with_reducible apply GPW.atEf); first | refine GPW.ef (Ef.callAll (rvalid_spec 12 ady y.length capy y rfl (by omega)) rfl) (by decide) ?_ | refine GPW.ef (by exact Ef.callAll (rvalid_spec 12 ady y.length capy y rfl (by omega)) rfl) (by decide) ?_))
  rintro _ _ ⟨rfl, rfl⟩
  rw [dB_pos hy]
  repeat (first | refine runB ?_ | intro _ | ((with_reducible apply G.atDraw); first | refine G.draw (N := 229) (id := 15) plN9_7_15 mixed (by kernel_rfl) ?_ | refine G.draw (N := 229) (id := 34) plN9_7_34 mixed (by kernel_rfl) ?_))
  refine GO.ent (Ent.at (A := LedR ([bl] : List Nat)[(0 : Int).toNat]! S) (Ent.refl _)) ?_
  (first | ((with_reducible apply GO.atPlain); first | refine GO.ef (Ef.callAll (holdings_spec ([bl] : List Nat)[(0 : Int).toNat]! S hS hl12) rfl) (by decide) ?_ | refine GO.ef (by exact Ef.callAll (holdings_spec ([bl] : List Nat)[(0 : Int).toNat]! S hS hl12) rfl) (by decide) ?_) | ((with_reducible apply GPW.atEf); first | refine GPW.ef (Ef.callAll (holdings_spec ([bl] : List Nat)[(0 : Int).toNat]! S hS hl12) rfl) (by decide) ?_ | refine GPW.ef (by exact Ef.callAll (holdings_spec ([bl] : List Nat)[(0 : Int).toNat]! S hS hl12) rfl) (by decide) ?_))
  rintro _ _ ⟨had, hcap, hs, rfl, ⟨hperm, _⟩, rfl⟩
  have hhl : hs.length = S.stk.length := by rw [hperm.length_eq]; simp
  have hhm : ∀ a, (∃ j, j < hs.length ∧ hs[j]!.1 = a) ↔ ∃ p ∈ S.stk, p.1.1 = a := by
    intro a
    constructor
    · rintro ⟨j, hj, e⟩
      have := hperm.mem_iff.1 (mem_get! hj)
      obtain ⟨p, hpm, e2⟩ := List.mem_map.1 this
      exact ⟨p, hpm, by rw [← e, ← e2]; rfl⟩
    · rintro ⟨p, hpm, e⟩
      have := hperm.mem_iff.2 (List.mem_map.2 ⟨p, hpm, rfl⟩)
      obtain ⟨j, hj, e2⟩ := List.mem_iff_getElem.1 this
      exact ⟨j, hj, by rw [getElem!_of hj, e2, ← e]; rfl⟩
  have hpm40 : ∀ a ∈ ps.map (·.l.frm), a ≤ 12 := by
    intro a ha
    obtain ⟨m1, p, hpm, e⟩ := (hmem a).1 ha
    have := hacb p hpm
    have := m1.1
    omega
  have hml : (ps.map (·.l.frm)).length = ps.length := by simp
  have hsl : (ps.map plS).length = ps.length := by simp
  repeat (first | refine runB ?_ | intro _ | ((with_reducible apply G.atDraw); first | refine G.draw (N := 229) (id := 15) plN9_7_15 mixed (by kernel_rfl) ?_ | refine G.draw (N := 229) (id := 34) plN9_7_34 mixed (by kernel_rfl) ?_))
  refine G.loop (α := Nat × Nat) (fun z => 1 ≤ z.1 ∧ z.1 ≤ 40 ∧ z.2 ≤ ps.length ∧ (∀ j, j < z.2 → (ps.map (·.l.frm))[j]! < z.1) ∧ ∀ j, z.2 ≤ j → j < ps.length → (z.1 : Int) ≤ (ps.map (·.l.frm))[j]!) (fun z => [(13, .slice lad 1 lcap), (15, .slice adx x.length capx), (16, .slice ady y.length capy), (17, .int .i64 s), (19, .slice pad ps.length pcap), (20, .int .i64 0), (22, .slice had hs.length hcap), (21, .int .i64 (z.2 : Int)), (23, .int .i64 (z.1 : Int))])
    (fun _ => osl encHd 3 tHd had hcap hs :: isl encSl 1 pad (ps.map plS) :: allP plP ps :: allP plA ps :: LedR ([bl] : List Nat)[(0 : Int).toNat]! S :: isl encH 2 ady y :: isl encH 2 adx x :: osl encP 1 tPL lad lcap [bl] :: L) (fun z => 40 - z.1) (1, 0) ⟨by decide, by decide, Nat.zero_le _, by intro j hj; omega, ?_⟩ (by repeat (first | exact EnvSub.nil _ | refine EnvSub.cons rfl ?_)) (by repeat (first | exact Ent.refl _ | exact Ent.nil _ | refine Ent.take' ?_ | refine Ent.trans Ent.drop ?_)) ?_
  · intro j _ hj
    obtain ⟨_, p, hpm, e⟩ := (hmem _).1 (mem_get! (show j < (ps.map (·.l.frm)).length by omega))
    have := (hst.acc p hpm).1
    rw [← e]
    exact this
  rintro ⟨a, nx⟩ ⟨ha1, ha2, hnx, hlo, hhi⟩
  dsimp only at ha1 ha2 hnx hlo hhi ⊢
  by_cases hlt : a < 40
  case neg =>
    have hend : nx = ps.length := by
      by_cases h : nx < ps.length
      · have h1 := hhi nx (Nat.le_refl _) h
        have h2 := hpm40 _ (mem_get! (show nx < (ps.map (·.l.frm)).length by omega))
        omega
      · omega
    repeat (first | refine runB ?_ | intro _ | ((with_reducible apply G.atDraw); first | refine G.draw (N := 229) (id := 15) plN9_7_15 mixed (by kernel_rfl) ?_ | refine G.draw (N := 229) (id := 34) plN9_7_34 mixed (by kernel_rfl) ?_))
    (first | ((with_reducible apply GO.atPlain); first | refine GO.ef (Ef.callAll (lives_spec) rfl) (by decide) ?_ | refine GO.ef (by exact Ef.callAll (lives_spec) rfl) (by decide) ?_) | ((with_reducible apply GPW.atEf); first | refine GPW.ef (Ef.callAll (lives_spec) rfl) (by decide) ?_ | refine GPW.ef (by exact Ef.callAll (lives_spec) rfl) (by decide) ?_))
    rintro _ _ ⟨rfl, rfl⟩
    repeat (first | refine runB ?_ | intro _ | ((with_reducible apply G.atDraw); first | refine G.draw (N := 229) (id := 15) plN9_7_15 mixed (by kernel_rfl) ?_ | refine G.draw (N := 229) (id := 34) plN9_7_34 mixed (by kernel_rfl) ?_))
    exact KX.ends (by first | exact ResOk.tmps rfl | (repeat (first | exact ResOk.nil | apply ResOk.tmp rfl | apply ResOk.cell rfl (by rfl) | apply ResOk.cell1 rfl))) (by repeat (first | exact Ent.refl _ | exact Ent.nil _ | refine Ent.take' ?_ | refine Ent.trans Ent.drop ?_)) ⟨rfl, rfl⟩
  repeat (first | ((fail_if_success (with_reducible refine G.atSS 24 ?_)); (with_reducible apply G.seq)) | refine runBS ?_ | intro _ | ((with_reducible apply G.atDraw); first | refine G.draw (N := 229) (id := 15) plN9_7_15 mixed (by kernel_rfl) ?_ | refine G.draw (N := 229) (id := 34) plN9_7_34 mixed (by kernel_rfl) ?_))
  refine G.join (α := Bool) (fun g => g = true ↔ ∃ p ∈ S.stk, p.1.1 = (a : Int)) (fun g => [(13, .slice lad 1 lcap), (15, .slice adx x.length capx), (16, .slice ady y.length capy), (17, .int .i64 s), (19, .slice pad ps.length pcap), (20, .int .i64 0), (22, .slice had hs.length hcap), (21, .int .i64 (nx : Int)), (23, .int .i64 (a : Int)), (24, .bool g)])
    (fun _ => osl encHd 3 tHd had hcap hs :: isl encSl 1 pad (ps.map plS) :: allP plP ps :: allP plA ps :: LedR ([bl] : List Nat)[(0 : Int).toNat]! S :: isl encH 2 ady y :: isl encH 2 adx x :: osl encP 1 tPL lad lcap [bl] :: L) ?_ ?_
  · repeat (first | refine runB ?_ | intro _ | ((with_reducible apply G.atDraw); first | refine G.draw (N := 229) (id := 15) plN9_7_15 mixed (by kernel_rfl) ?_ | refine G.draw (N := 229) (id := 34) plN9_7_34 mixed (by kernel_rfl) ?_))
    refine G.loop (α := Nat × Bool) (fun z => z.1 ≤ hs.length ∧ (z.2 = true ↔ ∃ j, j < z.1 ∧ hs[j]!.1 = (a : Int))) (fun z => [(13, .slice lad 1 lcap), (15, .slice adx x.length capx), (16, .slice ady y.length capy), (17, .int .i64 s), (19, .slice pad ps.length pcap), (20, .int .i64 0), (22, .slice had hs.length hcap), (21, .int .i64 (nx : Int)), (23, .int .i64 (a : Int)), (24, .bool z.2), (25, .int .i64 (z.1 : Int))])
      (fun _ => osl encHd 3 tHd had hcap hs :: isl encSl 1 pad (ps.map plS) :: allP plP ps :: allP plA ps :: LedR ([bl] : List Nat)[(0 : Int).toNat]! S :: isl encH 2 ady y :: isl encH 2 adx x :: osl encP 1 tPL lad lcap [bl] :: L) (fun z => hs.length - z.1) (0, false) ⟨Nat.zero_le _, by simp⟩ (by repeat (first | exact EnvSub.nil _ | refine EnvSub.cons rfl ?_)) (Ent.refl _) ?_
    rintro ⟨i, g⟩ ⟨hi, hgi⟩
    dsimp only at hi hgi ⊢
    have hii : (i : Int).toNat = i := by omega
    by_cases hil : i < hs.length
    case neg =>
      have hie : i = hs.length := by omega
      subst hie
      repeat (first | refine runB ?_ | intro _ | ((with_reducible apply G.atDraw); first | refine G.draw (N := 229) (id := 15) plN9_7_15 mixed (by kernel_rfl) ?_ | refine G.draw (N := 229) (id := 34) plN9_7_34 mixed (by kernel_rfl) ?_))
      exact ⟨g, by rw [hgi, hhm], (by repeat (first | exact EnvSub.nil _ | refine EnvSub.cons rfl ?_)), Ent.refl _⟩
    cases g with
    | true =>
      repeat (first | refine runB ?_ | intro _ | ((with_reducible apply G.atDraw); first | refine G.draw (N := 229) (id := 15) plN9_7_15 mixed (by kernel_rfl) ?_ | refine G.draw (N := 229) (id := 34) plN9_7_34 mixed (by kernel_rfl) ?_))
      refine ⟨(i + 1, true), ⟨by dsimp only; omega, ?_⟩, by dsimp only; omega, ?_, Ent.refl _⟩
      · dsimp only
        rw [ex_succ]
        simp only [true_iff] at hgi ⊢
        exact .inl hgi
      · dsimp only
        rw [show ((i + 1 : Nat) : Int) = (i : Int) + 1 by omega]
        exact (by repeat (first | exact EnvSub.nil _ | refine EnvSub.cons rfl ?_))
    | false =>
      have hno : ¬ ∃ j, j < i ∧ hs[j]!.1 = (a : Int) := fun e => by have := hgi.2 e; cases this
      by_cases he : hs[(i : Int).toNat]!.1 = (a : Int)
      · repeat (first | refine runB ?_ | intro _ | ((with_reducible apply G.atDraw); first | refine G.draw (N := 229) (id := 15) plN9_7_15 mixed (by kernel_rfl) ?_ | refine G.draw (N := 229) (id := 34) plN9_7_34 mixed (by kernel_rfl) ?_))
        rw [dB_pos he]
        rw [hii] at he
        refine ⟨(i + 1, true), ⟨by dsimp only; omega, ?_⟩, by dsimp only; omega, ?_, Ent.refl _⟩
        · dsimp only
          rw [ex_succ]
          simp only [true_iff]
          exact .inr he
        · dsimp only
          rw [show ((i + 1 : Nat) : Int) = (i : Int) + 1 by omega]
          exact (by repeat (first | exact EnvSub.nil _ | refine EnvSub.cons rfl ?_))
      · repeat (first | refine runB ?_ | intro _ | ((with_reducible apply G.atDraw); first | refine G.draw (N := 229) (id := 15) plN9_7_15 mixed (by kernel_rfl) ?_ | refine G.draw (N := 229) (id := 34) plN9_7_34 mixed (by kernel_rfl) ?_))
        rw [dB_neg he]
        rw [hii] at he
        refine ⟨(i + 1, false), ⟨by dsimp only; omega, ?_⟩, by dsimp only; omega, ?_, Ent.refl _⟩
        · dsimp only
          rw [ex_succ]
          simp only [Bool.false_eq_true, false_iff]
          rintro (h | h)
          · exact hno h
          · exact he h
        · dsimp only
          rw [show ((i + 1 : Nat) : Int) = (i : Int) + 1 by omega]
          exact (by repeat (first | exact EnvSub.nil _ | refine EnvSub.cons rfl ?_))
  rintro g hg2
  repeat (first | refine runB ?_ | intro _ | ((with_reducible apply G.atDraw); first | refine G.draw (N := 229) (id := 15) plN9_7_15 mixed (by kernel_rfl) ?_ | refine G.draw (N := 229) (id := 34) plN9_7_34 mixed (by kernel_rfl) ?_))
  (first | ((with_reducible apply GO.atPlain); first | refine GO.ef (Ef.callAll (rfind_spec (a : Int) ady y.length capy y rfl (by omega)) rfl) (by decide) ?_ | refine GO.ef (by exact Ef.callAll (rfind_spec (a : Int) ady y.length capy y rfl (by omega)) rfl) (by decide) ?_) | ((with_reducible apply GPW.atEf); first | refine GPW.ef (Ef.callAll (rfind_spec (a : Int) ady y.length capy y rfl (by omega)) rfl) (by decide) ?_ | refine GPW.ef (by exact Ef.callAll (rfind_spec (a : Int) ady y.length capy y rfl (by omega)) rfl) (by decide) ?_))
  rintro _ _ ⟨rfl, rfl⟩
  cases g with
  | false =>
    have hnot : (a : Int) ∉ ps.map (·.l.frm) := fun e => by have := hg2.2 ((hmem _).1 e).2; cases this
    repeat (first | refine runB ?_ | intro _ | ((with_reducible apply G.atDraw); first | refine G.draw (N := 229) (id := 15) plN9_7_15 mixed (by kernel_rfl) ?_ | refine G.draw (N := 229) (id := 34) plN9_7_34 mixed (by kernel_rfl) ?_))
    refine ⟨(a + 1, nx), ⟨by dsimp only; omega, by dsimp only; omega, by dsimp only; omega, ?_, ?_⟩, by dsimp only; omega, ?_, by repeat (first | exact Ent.refl _ | exact Ent.nil _ | refine Ent.take' ?_ | refine Ent.trans Ent.drop ?_)⟩
    · intro j hj
      have := hlo j hj
      dsimp only
      omega
    · intro j hj hjl
      have h1 := hhi j hj hjl
      have h2 : (ps.map (·.l.frm))[j]! ≠ (a : Int) := fun e => hnot (e ▸ mem_get! (by simpa using hjl))
      dsimp only
      omega
    · dsimp only
      rw [show ((a + 1 : Nat) : Int) = (a : Int) + 1 by omega]
      exact (by repeat (first | exact EnvSub.nil _ | refine EnvSub.cons rfl ?_))
  | true =>
    have hex := hg2.1 rfl
    repeat (first | refine runB ?_ | intro _ | ((with_reducible apply G.atDraw); first | refine G.draw (N := 229) (id := 15) plN9_7_15 mixed (by kernel_rfl) ?_ | refine G.draw (N := 229) (id := 34) plN9_7_34 mixed (by kernel_rfl) ?_))
    (first | ((with_reducible apply GO.atPlain); first | refine GO.ef (Ef.callAll (rfind_spec (a : Int) adx x.length capx x rfl (by omega)) rfl) (by decide) ?_ | refine GO.ef (by exact Ef.callAll (rfind_spec (a : Int) adx x.length capx x rfl (by omega)) rfl) (by decide) ?_) | ((with_reducible apply GPW.atEf); first | refine GPW.ef (Ef.callAll (rfind_spec (a : Int) adx x.length capx x rfl (by omega)) rfl) (by decide) ?_ | refine GPW.ef (by exact Ef.callAll (rfind_spec (a : Int) adx x.length capx x rfl (by omega)) rfl) (by decide) ?_))
    rintro _ _ ⟨rfl, rfl⟩
    by_cases hm1 : fndH x (a : Int) = s
    case neg =>
      have hnot : (a : Int) ∉ ps.map (·.l.frm) := fun e => hm1 ((hmem _).1 e).1.2.1
      repeat (first | refine runB ?_ | intro _ | ((with_reducible apply G.atDraw); first | refine G.draw (N := 229) (id := 15) plN9_7_15 mixed (by kernel_rfl) ?_ | refine G.draw (N := 229) (id := 34) plN9_7_34 mixed (by kernel_rfl) ?_))
      refine ⟨(a + 1, nx), ⟨by dsimp only; omega, by dsimp only; omega, by dsimp only; omega, ?_, ?_⟩, by dsimp only; omega, ?_, by repeat (first | exact Ent.refl _ | exact Ent.nil _ | refine Ent.take' ?_ | refine Ent.trans Ent.drop ?_)⟩
      · intro j hj
        have := hlo j hj
        dsimp only
        omega
      · intro j hj hjl
        have h1 := hhi j hj hjl
        have h2 : (ps.map (·.l.frm))[j]! ≠ (a : Int) := fun e => hnot (e ▸ mem_get! (by simpa using hjl))
        dsimp only
        omega
      · dsimp only
        rw [show ((a + 1 : Nat) : Int) = (a : Int) + 1 by omega]
        exact (by repeat (first | exact EnvSub.nil _ | refine EnvSub.cons rfl ?_))
    by_cases hm2 : fndH y (a : Int) = s
    case pos =>
      have hnot : (a : Int) ∉ ps.map (·.l.frm) := fun e => ((hmem _).1 e).1.2.2 hm2
      repeat (first | refine runB ?_ | intro _ | ((with_reducible apply G.atDraw); first | refine G.draw (N := 229) (id := 15) plN9_7_15 mixed (by kernel_rfl) ?_ | refine G.draw (N := 229) (id := 34) plN9_7_34 mixed (by kernel_rfl) ?_))
      refine ⟨(a + 1, nx), ⟨by dsimp only; omega, by dsimp only; omega, by dsimp only; omega, ?_, ?_⟩, by dsimp only; omega, ?_, by repeat (first | exact Ent.refl _ | exact Ent.nil _ | refine Ent.take' ?_ | refine Ent.trans Ent.drop ?_)⟩
      · intro j hj
        have := hlo j hj
        dsimp only
        omega
      · intro j hj hjl
        have h1 := hhi j hj hjl
        have h2 : (ps.map (·.l.frm))[j]! ≠ (a : Int) := fun e => hnot (e ▸ mem_get! (by simpa using hjl))
        dsimp only
        omega
      · dsimp only
        rw [show ((a + 1 : Nat) : Int) = (a : Int) + 1 by omega]
        exact (by repeat (first | exact EnvSub.nil _ | refine EnvSub.cons rfl ?_))
    have hin : (a : Int) ∈ ps.map (·.l.frm) := (hmem _).2 ⟨⟨by omega, hm1, hm2⟩, hex⟩
    obtain ⟨hnl, hna⟩ : nx < ps.length ∧ ps[nx]!.l.frm = (a : Int) := by
      obtain ⟨j, hj, e⟩ := List.mem_iff_getElem.1 hin
      rw [← getElem!_of hj] at e
      have hj' : j < ps.length := by omega
      have h1 : ¬ j < nx := fun h => by have := hlo j h; omega
      have h2 : j = nx := by
        by_cases h : j = nx
        · exact h
        · have h3 := hhi nx (Nat.le_refl _) (by omega)
          have h4 := List.pairwise_iff_getElem.1 hinc nx j (by omega) hj (by omega)
          rw [← getElem!_of hj, ← getElem!_of (show nx < (ps.map (·.l.frm)).length by omega)] at h4
          omega
      subst h2
      exact ⟨hj', by rw [← e, map_get! (fun p : PlV => p.l.frm) hj']⟩
    have hfb := hy.fnd_bd (a : Int)
    obtain ⟨g1, g2, g3, g4⟩ := hleg _ (mem_get! hnl)
    rw [hna] at g2 g3 g4
    have hXe : (ps.map plS)[(nx : Int).toNat]! = ⟨ps[nx]!.ad, 1, 1⟩ := by rw [show (nx : Int).toNat = nx by omega, map_get! plS hnl]; rfl
    have hXn : (ps.map plS)[(nx : Int).toNat]!.n = 1 := by rw [hXe]
    refine GO.ent (L' := isl encLeg 5 (ps.map plS)[(nx : Int).toNat]!.ad [ps[nx]!.l] :: osl encHd 3 tHd had hcap hs :: isl encSl 1 pad (ps.map plS) :: allP plP ps :: allP plA ps :: LedR ([bl] : List Nat)[(0 : Int).toNat]! S :: isl encH 2 ady y :: isl encH 2 adx x :: osl encP 1 tPL lad lcap [bl] :: L) ?_ ?_
    · refine (Ent.at (A := allP plP ps) (Ent.allP_get (x := ps[nx]!) (mem_get! hnl))).trans ?_
      rw [hXe]
      repeat (first | exact Ent.refl _ | exact Ent.nil _ | refine Ent.take' ?_ | refine Ent.trans Ent.drop ?_)
    repeat (first | refine runB ?_ | intro _ | ((with_reducible apply G.atDraw); first | refine G.draw (N := 229) (id := 15) plN9_7_15 mixed (by kernel_rfl) ?_ | refine G.draw (N := 229) (id := 34) plN9_7_34 mixed (by kernel_rfl) ?_))
    refine GO.ent (Ent.at (A := LedR ([bl] : List Nat)[(0 : Int).toNat]! S) (Ent.refl _)) ?_
    (first | ((with_reducible apply GO.atPlain); first | refine GO.ef (Ef.callAll (legs_spec ([bl] : List Nat)[(0 : Int).toNat]! S hS (by omega) s (a : Int) (fndH y (a : Int))) rfl) (by decide) ?_ | refine GO.ef (by exact Ef.callAll (legs_spec ([bl] : List Nat)[(0 : Int).toNat]! S hS (by omega) s (a : Int) (fndH y (a : Int))) rfl) (by decide) ?_) | ((with_reducible apply GPW.atEf); first | refine GPW.ef (Ef.callAll (legs_spec ([bl] : List Nat)[(0 : Int).toNat]! S hS (by omega) s (a : Int) (fndH y (a : Int))) rfl) (by decide) ?_ | refine GPW.ef (by exact Ef.callAll (legs_spec ([bl] : List Nat)[(0 : Int).toNat]! S hS (by omega) s (a : Int) (fndH y (a : Int))) rfl) (by decide) ?_))
    rintro _ _ (⟨hb, _⟩ | ⟨_, hb, _⟩ | ⟨_, _, ad7, l, rfl, ⟨e1, e2, e3, e4, e5⟩, rfl⟩)
    · exact absurd ⟨⟨by omega, by omega⟩, ⟨hs1, hs2⟩, hfb, fun e => hm2 e.symm⟩ hb
    · obtain ⟨p, hpm, e⟩ := hex
      rw [← e] at hb
      exact absurd hb (hst.some p hpm)
    have q1 : ([ps[nx]!.l] : List LegV)[(0 : Int).toNat]!.sh = s := g1
    have q2 : ([ps[nx]!.l] : List LegV)[(0 : Int).toNat]!.frm = (a : Int) := hna
    have q3 : ([ps[nx]!.l] : List LegV)[(0 : Int).toNat]!.tsh = fndH y (a : Int) := g2
    have q4 : ([ps[nx]!.l] : List LegV)[(0 : Int).toNat]!.to = (a : Int) := g3
    have q5 : ([ps[nx]!.l] : List LegV)[(0 : Int).toNat]!.ams.length = ([l] : List LegV)[(0 : Int).toNat]!.ams.length := by
      show ps[nx]!.l.ams.length = l.ams.length
      rw [g4, e5]
    have q6 : ([l] : List LegV).length = 1 := rfl
    have q7 : ([ps[nx]!.l] : List LegV).length = 1 := rfl
    repeat (first | refine runB ?_ | intro _ | ((with_reducible apply G.atDraw); first | refine G.draw (N := 229) (id := 15) plN9_7_15 mixed (by kernel_rfl) ?_ | refine G.draw (N := 229) (id := 34) plN9_7_34 mixed (by kernel_rfl) ?_))
    refine ⟨(a + 1, nx + 1), ⟨by dsimp only; omega, by dsimp only; omega, by dsimp only; omega, ?_, ?_⟩, by dsimp only; omega, ?_, by repeat (first | exact Ent.refl _ | exact Ent.nil _ | refine Ent.take' ?_ | refine Ent.trans Ent.drop ?_)⟩
    · intro j hj
      dsimp only at hj ⊢
      by_cases hjn : j = nx
      · subst hjn
        rw [map_get! (fun p : PlV => p.l.frm) hnl]
        omega
      · have := hlo j (by omega)
        omega
    · intro j hj hjl
      dsimp only at hj ⊢
      have h4 := List.pairwise_iff_getElem.1 hinc nx j (by omega) (by omega) (by omega)
      rw [← getElem!_of (show j < (ps.map (·.l.frm)).length by omega), ← getElem!_of (show nx < (ps.map (·.l.frm)).length by omega)] at h4
      rw [map_get! (fun p : PlV => p.l.frm) hnl] at h4
      omega
    · dsimp only
      rw [show ((a + 1 : Nat) : Int) = (a : Int) + 1 by omega, show ((nx + 1 : Nat) : Int) = (nx : Int) + 1 by omega]
      exact (by repeat (first | exact EnvSub.nil _ | refine EnvSub.cons rfl ?_))
end Go.Proofs.YtclgjkeeaopppaaGreatDoor
