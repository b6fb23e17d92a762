/- Contract: the plan for a ledger with a few stacks. -/
import Derived.Test.YtclgjkeeaopppaaGreatDoorN7
namespace Go.Proofs.YtclgjkeeaopppaaGreatDoor
open Go.V
attribute [local irreducible] G GO GP GPW GPK Ev Ef EfR Ent CB GB Enters

theorem ams_mem (S : LedS) (a : Int) {i : Nat} (h : 0 < S.bal a i) : ∀ k, i < k → ((i : Int), S.bal a i) ∈ S.ams a k
  | 0, hk => by omega
  | k + 1, hk => by
    simp only [LedS.ams, List.mem_append]
    by_cases hi : i = k
    · subst hi
      right
      rw [if_pos h]
      simp
    · exact .inl (ams_mem S a h k (by omega))
theorem lsum_pos {xs : List Lot} (h : ∀ l ∈ xs, LotOk l) (hne : xs ≠ []) : 0 < lsum xs := by
  have hl : 0 < xs.length := by
    cases xs with
    | nil => exact absurd rfl hne
    | cons x r => simp
  have h1 := lsum_take_succ xs (i := xs.length - 1) (by omega)
  rw [show xs.length - 1 + 1 = xs.length by omega, List.take_length] at h1
  have h2 := lsum_bd h (xs.length - 1) (by omega)
  have h3 := (h _ (mem_get! (show xs.length - 1 < xs.length by omega))).2.2.2.1
  omega
/-- A leg of a plan, with where it lies. -/
structure PlV where
  ad : Option Addr
  l : LegV
  deriving Inhabited
def plS (p : PlV) : SlV := ⟨p.ad, 1, 1⟩
abbrev plP (p : PlV) : HP := isl encLeg 5 p.ad [p.l]
abbrev plA (p : PlV) : HP := amP p.l
theorem plP_m (p : PlV) : PersM (plP p) := isl_persM _ _ _ _
theorem plA_m (p : PlV) : PersM (plA p) := isl_persM _ _ _ _
/-- What is asked of the stacks. -/
structure StkOk (S : LedS) : Prop where
  acc : ∀ p ∈ S.stk, 1 ≤ p.1.1 ∧ p.1.1 ≤ maxAcc
  some : ∀ p ∈ S.stk, S.ams p.1.1 S.its.length ≠ []
/-- The legs are those of this account. -/
structure LegOk (S : LedS) (s : Int) (now : List Hm) (p : PlV) : Prop where
  sh : p.l.sh = s
  tsh : p.l.tsh = fndH now p.l.frm
  to : p.l.to = p.l.frm
  ams : p.l.ams = S.ams p.l.frm S.its.length
def Moves (s : Int) (old now : List Hm) (a : Int) : Prop := a < 1048576 ∧ fndH old a = s ∧ fndH now a ≠ s
/-- The plan, behind the first i holdings. -/
structure PInv (S : LedS) (s : Int) (old now : List Hm) (hs : List Hd) (i : Nat) (last : Int) (ps : List PlV) : Prop where
  len : ps.length ≤ i
  inc : (ps.map (·.l.frm)).Pairwise (· < ·)
  mem : ∀ a, a ∈ ps.map (·.l.frm) ↔ Moves s old now a ∧ ∃ j, j < i ∧ hs[j]!.1 = a
  leg : ∀ p ∈ ps, LegOk S s now p
  lst : last = 0 ∨ ∃ j, j < i ∧ hs[j]!.1 = last
  top : ∀ j, j < i → hs[j]!.1 < 1048576 → hs[j]!.1 ≤ last
theorem PInv.zero (S : LedS) (s : Int) (old now : List Hm) (hs : List Hd) : PInv S s old now hs 0 0 [] :=
  ⟨Nat.le_refl _, by simp, by simp, by simp, .inl rfl, by intro j hj; omega⟩
theorem ex_succ {hs : List Hd} {i : Nat} {a : Int} : (∃ j, j < i + 1 ∧ hs[j]!.1 = a) ↔ (∃ j, j < i ∧ hs[j]!.1 = a) ∨ hs[i]!.1 = a := by
  constructor
  · rintro ⟨j, hj, e⟩
    by_cases h : j = i
    · subst h; exact .inr e
    · exact .inl ⟨j, by omega, e⟩
  · rintro (⟨j, hj, e⟩ | e)
    · exact ⟨j, by omega, e⟩
    · exact ⟨i, by omega, e⟩
/-- The holding is passed over: nothing about it. -/
theorem PInv.same {S : LedS} {s : Int} {old now : List Hm} {hs : List Hd} {i : Nat} {last : Int} {ps : List PlV} (h : PInv S s old now hs i last ps) (hpos : 1 ≤ hs[i]!.1) (hc : hs[i]!.1 = last ∨ 1048576 ≤ hs[i]!.1) : PInv S s old now hs (i + 1) last ps := by
  refine ⟨by have := h.len; omega, h.inc, fun a => ?_, h.leg, ?_, ?_⟩
  · rw [h.mem, ex_succ]
    constructor
    · rintro ⟨a1, a2⟩; exact ⟨a1, .inl a2⟩
    · rintro ⟨a1, a2 | a2⟩
      · exact ⟨a1, a2⟩
      · refine ⟨a1, ?_⟩
        have := a1.1
        rcases hc with hc | hc
        · rcases h.lst with h0 | h0
          · omega
          · rw [← a2, hc]; exact h0
        · omega
  · rcases h.lst with h0 | ⟨j, hj, e⟩
    · exact .inl h0
    · exact .inr ⟨j, by omega, e⟩
  · intro j hj hlt
    by_cases hji : j = i
    · subst hji; omega
    · exact h.top j (by omega) hlt
theorem PInv.new {S : LedS} {s : Int} {old now : List Hm} {hs : List Hd} {i : Nat} {last : Int} {ps : List PlV} (h : PInv S s old now hs i last ps) (h2 : hs[i]!.1 < 1048576) (hge : ∀ j, j < i → hs[j]!.1 ≤ hs[i]!.1) (hm : ¬ Moves s old now hs[i]!.1) : PInv S s old now hs (i + 1) hs[i]!.1 ps := by
  refine ⟨by have := h.len; omega, h.inc, fun a => ?_, h.leg, .inr ⟨i, by omega, rfl⟩, ?_⟩
  · rw [h.mem, ex_succ]
    constructor
    · rintro ⟨a1, a2⟩; exact ⟨a1, .inl a2⟩
    · rintro ⟨a1, a2 | a2⟩
      · exact ⟨a1, a2⟩
      · subst a2; exact absurd a1 hm
  · intro j hj hlt
    by_cases hji : j = i
    · subst hji; exact Int.le_refl _
    · exact hge j (by omega)
theorem PInv.add {S : LedS} {s : Int} {old now : List Hm} {hs : List Hd} {i : Nat} {last : Int} {ps : List PlV} (h : PInv S s old now hs i last ps) (h1 : hs[i]!.1 ≠ last) (h2 : hs[i]!.1 < 1048576) (hpos : 1 ≤ hs[i]!.1) (hge : ∀ j, j < i → hs[j]!.1 ≤ hs[i]!.1) (hm : Moves s old now hs[i]!.1) (p : PlV) (hp : LegOk S s now p) (hf : p.l.frm = hs[i]!.1) : PInv S s old now hs (i + 1) hs[i]!.1 (ps ++ [p]) := by
  have hll : last < hs[i]!.1 := by
    rcases h.lst with h0 | ⟨j, hj, e⟩
    · omega
    · have := hge j hj; omega
  refine ⟨by have := h.len; simp; omega, ?_, fun a => ?_, ?_, .inr ⟨i, by omega, rfl⟩, ?_⟩
  · rw [List.map_append, List.pairwise_append]
    refine ⟨h.inc, by simp, ?_⟩
    intro a ha b hb
    simp only [List.map_cons, List.map_nil, List.mem_singleton] at hb
    obtain ⟨a1, j, hj, e⟩ := (h.mem a).1 ha
    have := h.top j hj (by rw [e]; exact a1.1)
    omega
  · rw [List.map_append, List.mem_append, h.mem, ex_succ]
    simp only [List.map_cons, List.map_nil, List.mem_singleton]
    constructor
    · rintro (⟨a1, a2⟩ | a2)
      · exact ⟨a1, .inl a2⟩
      · rw [a2, hf]; exact ⟨hm, .inr rfl⟩
    · rintro ⟨a1, a2 | a2⟩
      · exact .inl ⟨a1, a2⟩
      · exact .inr (by rw [hf, a2])
  · intro q hq
    rcases List.mem_append.1 hq with hq | hq
    · exact h.leg q hq
    · rw [List.mem_singleton] at hq; subst hq; exact hp
  · intro j hj hlt
    by_cases hji : j = i
    · subst hji; exact Int.le_refl _
    · exact hge j (by omega)
abbrev tLgs : Nat := 51
def PlanOk (s : Int) (old now : List Hm) : Prop := HOk 12 old ∧ HOk 12 now ∧ 0 ≤ s ∧ s < 12
theorem isShard_spec {L : List HP} (a : Int) : Tri Tryz.prog 39 #[.int .i64 a] L (fun v L' => v = .bool (dB (0 ≤ a ∧ a < 12)) ∧ L' = L) := by
  refine Tri.body (args := [.int .i64 a]) 9 en39 Tryz.func39 rfl rfl rfl (by simp) ?_
  by_cases h1 : 0 ≤ a
  · by_cases h2 : a < 12
    · repeat (first | refine runB ?_ | intro _)
      rw [dB_pos h2]
      exact KX.ends (by first | exact ResOk.tmps rfl | (repeat (first | exact ResOk.nil | apply ResOk.tmp rfl | apply ResOk.cell rfl (by rfl) | apply ResOk.cell1 rfl))) (Ent.refl _) ⟨by rw [dB_pos ⟨h1, h2⟩]; rfl, rfl⟩
    · repeat (first | refine runB ?_ | intro _)
      rw [dB_neg h2]
      exact KX.ends (by first | exact ResOk.tmps rfl | (repeat (first | exact ResOk.nil | apply ResOk.tmp rfl | apply ResOk.cell rfl (by rfl) | apply ResOk.cell1 rfl))) (Ent.refl _) ⟨by rw [dB_neg (fun e => h2 e.2)]; rfl, rfl⟩
  · repeat (first | refine runB ?_ | intro _)
    exact KX.ends (by first | exact ResOk.tmps rfl | (repeat (first | exact ResOk.nil | apply ResOk.tmp rfl | apply ResOk.cell rfl (by rfl) | apply ResOk.cell1 rfl))) (Ent.refl _) ⟨by rw [dB_neg (fun e => h1 e.1)]; rfl, rfl⟩
set_option maxHeartbeats 1000000 in
theorem plan_spec {L : List HP} (b : Nat) (S : LedS) (hS : S.Ok) (hl : S.its.length ≤ 64) (hst : StkOk S) (hl12 : S.stk.length ≤ 12) (s : Int)
    (ad1 ad2 : Option Addr) (k1 c1 k2 c2 : Nat) (old now : List Hm) [Rds L ad1 Hm encH 2 old] [Rds L ad2 Hm encH 2 now] (hk1 : k1 = old.length) (hk2 : k2 = now.length) (hl1 : old.length ≤ 1000000) (hl2 : now.length ≤ 1000000) :
    Tri Tryz.prog 28 #[.pointer (some ⟨b, 0, none⟩), .int .i64 s, .slice ad1 k1 c1, .slice ad2 k2 c2] (LedR b S :: L) (fun v L' =>
      (¬ PlanOk s old now ∧ v = .tuple #[.slice none 0 0, .int .i64 1] ∧ L' = LedR b S :: L) ∨
      (PlanOk s old now ∧ ∃ ad cap ps, v = .tuple #[.slice ad ps.length cap, .int .i64 0] ∧ (ps.length ≤ 12 ∧ (ps.map (·.l.frm)).Pairwise (· < ·) ∧ (∀ a, a ∈ ps.map (·.l.frm) ↔ Moves s old now a ∧ ∃ p ∈ S.stk, p.1.1 = a) ∧ ∀ p ∈ ps, LegOk S s now p) ∧
        L' = isl encSl 1 ad (ps.map plS) :: allP plP ps :: allP plA ps :: LedR b S :: L)) := by
  have hmx : maxAcc = 1073741824 := rfl
  refine Tri.body (args := [.pointer (some ⟨b, 0, none⟩), .int .i64 s, .slice ad1 k1 c1, .slice ad2 k2 c2]) 80 en28 Tryz.func28 rfl rfl rfl (by simp) ?_
  repeat (first | refine runB ?_ | intro _)
  (first | ((with_reducible apply GO.atPlain); first | refine GO.ef (Ef.callAll (mpossible_spec ad1 k1 c1 old hk1 (by omega)) rfl) (by decide) ?_ | refine GO.ef (by exact Ef.callAll (mpossible_spec ad1 k1 c1 old hk1 (by omega)) rfl) (by decide) ?_) | ((with_reducible apply GPW.atEf); first | refine GPW.ef (Ef.callAll (mpossible_spec ad1 k1 c1 old hk1 (by omega)) rfl) (by decide) ?_ | refine GPW.ef (by exact Ef.callAll (mpossible_spec ad1 k1 c1 old hk1 (by omega)) rfl) (by decide) ?_))
  rintro _ _ ⟨rfl, rfl⟩
  by_cases ho : HOk 12 old
  case neg =>
    rw [dB_neg ho]
    repeat (first | refine runB ?_ | intro _)
    exact KX.ends (by first | exact ResOk.tmps rfl | (repeat (first | exact ResOk.nil | apply ResOk.tmp rfl | apply ResOk.cell rfl (by rfl) | apply ResOk.cell1 rfl))) (Ent.refl _) (.inl ⟨fun e => ho e.1, rfl, rfl⟩)
  rw [dB_pos ho]
  repeat (first | refine runB ?_ | intro _)
  (first | ((with_reducible apply GO.atPlain); first | refine GO.ef (Ef.callAll (mpossible_spec ad2 k2 c2 now hk2 (by omega)) rfl) (by decide) ?_ | refine GO.ef (by exact Ef.callAll (mpossible_spec ad2 k2 c2 now hk2 (by omega)) rfl) (by decide) ?_) | ((with_reducible apply GPW.atEf); first | refine GPW.ef (Ef.callAll (mpossible_spec ad2 k2 c2 now hk2 (by omega)) rfl) (by decide) ?_ | refine GPW.ef (by exact Ef.callAll (mpossible_spec ad2 k2 c2 now hk2 (by omega)) rfl) (by decide) ?_))
  rintro _ _ ⟨rfl, rfl⟩
  by_cases hn : HOk 12 now
  case neg =>
    rw [dB_neg hn]
    repeat (first | refine runB ?_ | intro _)
    exact KX.ends (by first | exact ResOk.tmps rfl | (repeat (first | exact ResOk.nil | apply ResOk.tmp rfl | apply ResOk.cell rfl (by rfl) | apply ResOk.cell1 rfl))) (Ent.refl _) (.inl ⟨fun e => hn e.2.1, rfl, rfl⟩)
  rw [dB_pos hn]
  repeat (first | refine runB ?_ | intro _)
  (first | ((with_reducible apply GO.atPlain); first | refine GO.ef (Ef.callAll (isShard_spec s) rfl) (by decide) ?_ | refine GO.ef (by exact Ef.callAll (isShard_spec s) rfl) (by decide) ?_) | ((with_reducible apply GPW.atEf); first | refine GPW.ef (Ef.callAll (isShard_spec s) rfl) (by decide) ?_ | refine GPW.ef (by exact Ef.callAll (isShard_spec s) rfl) (by decide) ?_))
  rintro _ _ ⟨rfl, rfl⟩
  by_cases hs : 0 ≤ s ∧ s < 12
  case neg =>
    rw [dB_neg hs]
    repeat (first | refine runB ?_ | intro _)
    exact KX.ends (by first | exact ResOk.tmps rfl | (repeat (first | exact ResOk.nil | apply ResOk.tmp rfl | apply ResOk.cell rfl (by rfl) | apply ResOk.cell1 rfl))) (Ent.refl _) (.inl ⟨fun e => hs e.2.2, rfl, rfl⟩)
  rw [dB_pos hs]
  repeat (first | refine runB ?_ | intro _)
  (first | ((with_reducible apply GO.atPlain); first | refine GO.ef (Ef.callAll (holdings_spec b S hS hl12) rfl) (by decide) ?_ | refine GO.ef (by exact Ef.callAll (holdings_spec b S hS hl12) rfl) (by decide) ?_) | ((with_reducible apply GPW.atEf); first | refine GPW.ef (Ef.callAll (holdings_spec b S hS hl12) rfl) (by decide) ?_ | refine GPW.ef (by exact Ef.callAll (holdings_spec b S hS hl12) rfl) (by decide) ?_))
  rintro _ _ ⟨had, hcap, hs', rfl, ⟨hp, hsrt⟩, rfl⟩
  have hhl : hs'.length = S.stk.length := by rw [hp.length_eq]; simp
  have hhm : ∀ a, (∃ j, j < hs'.length ∧ hs'[j]!.1 = a) ↔ ∃ p ∈ S.stk, p.1.1 = a := by
    intro a
    constructor
    · rintro ⟨j, hj, e⟩
      have := hp.mem_iff.1 (mem_get! hj)
      obtain ⟨p, hpm, e2⟩ := List.mem_map.1 this
      exact ⟨p, hpm, by rw [← e, ← e2]; rfl⟩
    · rintro ⟨p, hpm, e⟩
      have := hp.mem_iff.2 (List.mem_map.2 ⟨p, hpm, rfl⟩)
      obtain ⟨j, hj, e2⟩ := List.mem_iff_getElem.1 this
      exact ⟨j, hj, by rw [getElem!_of hj, e2, ← e]; rfl⟩
  have hacc : ∀ j, j < hs'.length → (1 ≤ hs'[j]!.1 ∧ hs'[j]!.1 ≤ maxAcc) ∧ S.ams hs'[j]!.1 S.its.length ≠ [] := by
    intro j hj
    obtain ⟨p, hpm, e⟩ := (hhm _).1 ⟨j, hj, rfl⟩
    rw [← e]
    exact ⟨hst.acc p hpm, hst.some p hpm⟩
  have hge : ∀ i j, i < j → j < hs'.length → hs'[i]!.1 ≤ hs'[j]!.1 := by
    intro i j hij hj
    have := List.pairwise_iff_getElem.1 hsrt i j (by omega) hj hij
    rw [getElem!_of (by omega), getElem!_of hj]
    unfold kle at this
    omega
  repeat (first | refine runB ?_ | intro _)
  refine G.loop (α := Nat × Int × Option Addr × Nat × List PlV) (fun z => z.1 ≤ hs'.length ∧ PInv S s old now hs' z.1 z.2.1 z.2.2.2.2) (fun z => [(0, .pointer (some ⟨b, 0, none⟩)), (1, .int .i64 s), (2, .slice ad1 k1 c1), (3, .slice ad2 k2 c2), (10, .slice z.2.2.1 (z.2.2.2.2.map plS).length z.2.2.2.1), (11, .int .i64 z.2.1), (31, .slice had hs'.length hcap), (32, .int .i64 (hs'.length : Int)), (33, .int .i64 (z.1 : Int))])
    (fun z => osl encSl 1 tLgs z.2.2.1 z.2.2.2.1 (z.2.2.2.2.map plS) :: allP plP z.2.2.2.2 :: allP plA z.2.2.2.2 :: osl encHd 3 tHd had hcap hs' :: LedR b S :: L) (fun z => hs'.length - z.1) (0, 0, none, 0, []) ⟨Nat.zero_le _, PInv.zero ..⟩ (by repeat (first | exact EnvSub.nil _ | refine EnvSub.cons rfl ?_)) ((Ent.allP_nil plA).trans ((Ent.allP_nil plP).trans (Ent.nilSl encSl 1 tLgs))) ?_
  rintro ⟨i, last, pad, pcap, ps⟩ ⟨hi, hinv⟩
  dsimp only at hi hinv ⊢
  have hml : (ps.map plS).length = ps.length := by simp
  have hpl := hinv.len
  by_cases hlt : i < hs'.length
  case neg =>
    have hie : i = hs'.length := by omega
    subst hie
    repeat (first | refine runB ?_ | intro _)
    refine KX.ends (by first | exact ResOk.tmps rfl | (repeat (first | exact ResOk.nil | apply ResOk.tmp rfl | apply ResOk.cell rfl (by rfl) | apply ResOk.cell1 rfl))) (Ent.freezeSl.trans (by repeat (first | exact Ent.refl _ | exact Ent.nil _ | refine Ent.take' ?_ | refine Ent.trans Ent.drop ?_))) (.inr ⟨⟨ho, hn, hs⟩, pad, pcap, ps, by rw [hml]; rfl, ⟨by omega, hinv.inc, ?_, hinv.leg⟩, rfl⟩)
    intro a
    rw [hinv.mem, hhm]
  have hii : (i : Int).toNat = i := by omega
  obtain ⟨⟨ha1, ha2⟩, hne⟩ := hacc i hlt
  have hgi : ∀ j, j < i → hs'[j]!.1 ≤ hs'[i]!.1 := fun j hj => hge j i hj hlt
  have hfb := hn.fnd_bd hs'[i]!.1
  rw [← hii] at ha1 ha2 hfb
  repeat (first | ((fail_if_success (with_reducible refine G.atSS 8 ?_)); (with_reducible apply G.seq)) | refine runBS ?_ | intro _)
  rename_i bh
  by_cases hc1 : hs'[(i : Int).toNat]!.1 = last
  · repeat (first | refine runB ?_ | intro _)
    refine ⟨(i + 1, last, pad, pcap, ps), ⟨by dsimp only; omega, hinv.same (by rw [hii] at ha1; exact ha1) (.inl (by rw [hii] at hc1; exact hc1))⟩, by dsimp only; omega, ?_, by repeat (first | exact Ent.refl _ | exact Ent.nil _ | refine Ent.take' ?_ | refine Ent.trans Ent.drop ?_)⟩
    dsimp only
    rw [show ((i + 1 : Nat) : Int) = (i : Int) + 1 by omega]
    exact (by repeat (first | exact EnvSub.nil _ | refine EnvSub.cons rfl ?_))
  by_cases hc2 : 1048576 ≤ hs'[(i : Int).toNat]!.1
  · repeat (first | refine runB ?_ | intro _)
    refine ⟨(i + 1, last, pad, pcap, ps), ⟨by dsimp only; omega, hinv.same (by rw [hii] at ha1; exact ha1) (.inr (by rw [hii] at hc2; exact hc2))⟩, by dsimp only; omega, ?_, by repeat (first | exact Ent.refl _ | exact Ent.nil _ | refine Ent.take' ?_ | refine Ent.trans Ent.drop ?_)⟩
    dsimp only
    rw [show ((i + 1 : Nat) : Int) = (i : Int) + 1 by omega]
    exact (by repeat (first | exact EnvSub.nil _ | refine EnvSub.cons rfl ?_))
  repeat (first | refine runB ?_ | intro _)
  (first | ((with_reducible apply GO.atPlain); first | refine GO.ef (Ef.callAll (mfind_spec hs'[(i : Int).toNat]!.1 ad2 k2 c2 now hk2 (by omega) hn ⟨ha1, ha2⟩) rfl) (by decide) ?_ | refine GO.ef (by exact Ef.callAll (mfind_spec hs'[(i : Int).toNat]!.1 ad2 k2 c2 now hk2 (by omega) hn ⟨ha1, ha2⟩) rfl) (by decide) ?_) | ((with_reducible apply GPW.atEf); first | refine GPW.ef (Ef.callAll (mfind_spec hs'[(i : Int).toNat]!.1 ad2 k2 c2 now hk2 (by omega) hn ⟨ha1, ha2⟩) rfl) (by decide) ?_ | refine GPW.ef (by exact Ef.callAll (mfind_spec hs'[(i : Int).toNat]!.1 ad2 k2 c2 now hk2 (by omega) hn ⟨ha1, ha2⟩) rfl) (by decide) ?_))
  rintro _ _ ⟨rfl, rfl⟩
  repeat (first | refine runB ?_ | intro _)
  (first | ((with_reducible apply GO.atPlain); first | refine GO.ef (Ef.callAll (mfind_spec hs'[(i : Int).toNat]!.1 ad1 k1 c1 old hk1 (by omega) ho ⟨ha1, ha2⟩) rfl) (by decide) ?_ | refine GO.ef (by exact Ef.callAll (mfind_spec hs'[(i : Int).toNat]!.1 ad1 k1 c1 old hk1 (by omega) ho ⟨ha1, ha2⟩) rfl) (by decide) ?_) | ((with_reducible apply GPW.atEf); first | refine GPW.ef (Ef.callAll (mfind_spec hs'[(i : Int).toNat]!.1 ad1 k1 c1 old hk1 (by omega) ho ⟨ha1, ha2⟩) rfl) (by decide) ?_ | refine GPW.ef (by exact Ef.callAll (mfind_spec hs'[(i : Int).toNat]!.1 ad1 k1 c1 old hk1 (by omega) ho ⟨ha1, ha2⟩) rfl) (by decide) ?_))
  rintro _ _ ⟨rfl, rfl⟩
  by_cases hm1 : fndH old hs'[(i : Int).toNat]!.1 = s
  case neg =>
    repeat (first | refine runB ?_ | intro _)
    refine ⟨(i + 1, hs'[(i : Int).toNat]!.1, pad, pcap, ps), ⟨by dsimp only; omega, ?_⟩, by dsimp only; omega, ?_, by repeat (first | exact Ent.refl _ | exact Ent.nil _ | refine Ent.take' ?_ | refine Ent.trans Ent.drop ?_)⟩
    · dsimp only
      rw [hii] at hm1 hc2 ⊢
      exact hinv.new (by omega) hgi (fun e => hm1 e.2.1)
    · dsimp only
      rw [show ((i + 1 : Nat) : Int) = (i : Int) + 1 by omega]
      exact (by repeat (first | exact EnvSub.nil _ | refine EnvSub.cons rfl ?_))
  by_cases hm2 : fndH now hs'[(i : Int).toNat]!.1 = s
  case pos =>
    repeat (first | refine runB ?_ | intro _)
    refine ⟨(i + 1, hs'[(i : Int).toNat]!.1, pad, pcap, ps), ⟨by dsimp only; omega, ?_⟩, by dsimp only; omega, ?_, by repeat (first | exact Ent.refl _ | exact Ent.nil _ | refine Ent.take' ?_ | refine Ent.trans Ent.drop ?_)⟩
    · dsimp only
      rw [hii] at hm2 hc2 ⊢
      exact hinv.new (by omega) hgi (fun e => e.2.2 hm2)
    · dsimp only
      rw [show ((i + 1 : Nat) : Int) = (i : Int) + 1 by omega]
      exact (by repeat (first | exact EnvSub.nil _ | refine EnvSub.cons rfl ?_))
  repeat (first | refine runB ?_ | intro _)
  refine GO.ent (Ent.at (A := LedR b S) (Ent.refl _)) ?_
  (first | ((with_reducible apply GO.atPlain); first | refine GO.ef (Ef.callAll (legs_spec b S hS hl s hs'[(i : Int).toNat]!.1 (fndH now hs'[(i : Int).toNat]!.1)) rfl) (by decide) ?_ | refine GO.ef (by exact Ef.callAll (legs_spec b S hS hl s hs'[(i : Int).toNat]!.1 (fndH now hs'[(i : Int).toNat]!.1)) rfl) (by decide) ?_) | ((with_reducible apply GPW.atEf); first | refine GPW.ef (Ef.callAll (legs_spec b S hS hl s hs'[(i : Int).toNat]!.1 (fndH now hs'[(i : Int).toNat]!.1)) rfl) (by decide) ?_ | refine GPW.ef (by exact Ef.callAll (legs_spec b S hS hl s hs'[(i : Int).toNat]!.1 (fndH now hs'[(i : Int).toNat]!.1)) rfl) (by decide) ?_))
  rintro _ _ (⟨hb, _⟩ | ⟨_, hb, _⟩ | ⟨_, _, ad', l, rfl, ⟨e1, e2, e3, e4, e5⟩, rfl⟩)
  · exact absurd ⟨⟨ha1, ha2⟩, hs, hfb, fun e => hm2 e.symm⟩ hb
  · rw [hii] at hb
    exact absurd hb hne
  repeat (first | refine runB ?_ | intro _)
  (first | ((with_reducible apply GO.atPlain); first | refine GO.ef (Ef.append1 (enc := encSl) (e := plS ⟨ad', l⟩) rfl rfl rfl rfl rfl (by rfl) (encSl_one _) (by omega) (by omega)) (by decide) ?_ | refine GO.ef (by exact Ef.append1 (enc := encSl) (e := plS ⟨ad', l⟩) rfl rfl rfl rfl rfl (by rfl) (encSl_one _) (by omega) (by omega)) (by decide) ?_) | ((with_reducible apply GPW.atEf); first | refine GPW.ef (Ef.append1 (enc := encSl) (e := plS ⟨ad', l⟩) rfl rfl rfl rfl rfl (by rfl) (encSl_one _) (by omega) (by omega)) (by decide) ?_ | refine GPW.ef (by exact Ef.append1 (enc := encSl) (e := plS ⟨ad', l⟩) rfl rfl rfl rfl rfl (by rfl) (encSl_one _) (by omega) (by omega)) (by decide) ?_) | ((with_reducible apply GO.atUnit); first | refine GO.efu (Ef.append1 (enc := encSl) (e := plS ⟨ad', l⟩) rfl rfl rfl rfl rfl (by rfl) (encSl_one _) (by omega) (by omega)) ?_ | refine GO.efu (by exact Ef.append1 (enc := encSl) (e := plS ⟨ad', l⟩) rfl rfl rfl rfl rfl (by rfl) (encSl_one _) (by omega) (by omega)) ?_) | ((with_reducible apply GPW.atEfu); first | refine GPW.efu (Ef.append1 (enc := encSl) (e := plS ⟨ad', l⟩) rfl rfl rfl rfl rfl (by rfl) (encSl_one _) (by omega) (by omega)) ?_ | refine GPW.efu (by exact Ef.append1 (enc := encSl) (e := plS ⟨ad', l⟩) rfl rfl rfl rfl rfl (by rfl) (encSl_one _) (by omega) (by omega)) ?_))
  rintro _ _ ⟨pad2, pcap2, rfl, rfl⟩
  repeat (first | refine runB ?_ | intro _)
  refine ⟨(i + 1, hs'[(i : Int).toNat]!.1, pad2, pcap2, ps ++ [⟨ad', l⟩]), ⟨by dsimp only; omega, ?_⟩, by dsimp only; omega, ?_, ?_⟩
  · dsimp only
    rw [hii] at *
    exact hinv.add hc1 (by omega) ha1 hgi ⟨by omega, hm1, hm2⟩ ⟨ad', l⟩ ⟨e1, by dsimp only; rw [e3, e2], by dsimp only; rw [e4, e2], by dsimp only; rw [e5, e2]⟩ e2
  · dsimp only
    rw [show ((i + 1 : Nat) : Int) = (i : Int) + 1 by omega, List.map_append]
    exact (by repeat (first | exact EnvSub.nil _ | refine EnvSub.cons rfl ?_))
  · dsimp only
    rw [List.map_append, show List.map plS [⟨ad', l⟩] = [plS ⟨ad', l⟩] from rfl]
    refine Ent.consR ?_
    refine Ent.trans (B := plP ⟨ad', l⟩ :: allP plP ps :: plA ⟨ad', l⟩ :: allP plA ps :: osl encHd 3 tHd had hcap hs' :: LedR b S :: L) (by repeat (first | exact Ent.refl _ | exact Ent.nil _ | refine Ent.take' ?_ | refine Ent.trans Ent.drop ?_)) ?_
    refine (Ent.trans (Ent.allP_one plP_m) (Ent.swap.trans (Ent.allP_app plP_m))).trans (Ent.consR ?_)
    exact (Ent.allP_one plA_m).trans (Ent.swap.trans (Ent.allP_app plA_m))
end Go.Proofs.YtclgjkeeaopppaaGreatDoor
