/- Contracts: the steps with which a shard begins; the ledgers of a generated world of one shard. -/
import Derived.Test.YtclgjkeeaopppaaGreatDoorL12
namespace Go.Proofs.YtclgjkeeaopppaaGreatDoor
open Go.V
attribute [local irreducible] G GO GP GPW GPK Ev Ef EfR Ent CB GB Enters

/-- A step that spawns units, with where its move lies. -/
structure SpV where
  mad : Option Addr
  to : Int
  item : Int
  n : Int
  deriving Inhabited
def spSt (p : SpV) : StpV := ⟨0, 0, 0, 0, -1, 0, p.mad, 1, 1⟩
def spM (p : SpV) : HP := osl encMv 5 tMv p.mad 1 [(p.to, p.item, p.n)]
def SpV.Ok (p : SpV) : Prop := (1 ≤ p.to ∧ p.to ≤ 3) ∧ (0 ≤ p.item ∧ p.item < 4) ∧ 1 ≤ p.n ∧ p.n < 40

theorem spawns_spec {L : List HP} (ad : Option Addr) (len cap : Nat) (xs : List Int) [Rds L ad Int (encI .i64) 1 xs] (hlen : len = xs.length) (hmx0 : xs.length ≤ 9223372036854775807) (hxb : ∀ x ∈ xs, I64 x) :
    Tri Tryz.prog 43 #[.slice ad len cap] L (fun v L' => ∃ ad2 cap2 sp, v = .slice ad2 sp.length cap2 ∧ (sp.length ≤ 8 ∧ ∀ p ∈ sp, SpV.Ok p) ∧ L' = osl encSt 7 tStep ad2 cap2 (sp.map spSt) :: bigO spM sp :: L) := by
  refine Tri.body (args := [.slice ad len cap]) 32 en43 Tryz.func43 rfl rfl rfl (by simp) ?_
  repeat (first | refine runB ?_ | intro _)
  refine G.loop (α := Nat × Option Addr × Nat × List SpV) (fun x => x.1 ≤ 8 ∧ x.2.2.2.length ≤ x.1 ∧ ∀ p ∈ x.2.2.2, SpV.Ok p) (fun x => [(0, .slice ad len cap), (3, .slice x.2.1 (x.2.2.2.map spSt).length x.2.2.1), (4, .int .i64 (x.1 : Int))]) (fun x => osl encSt 7 tStep x.2.1 x.2.2.1 (x.2.2.2.map spSt) :: bigO spM x.2.2.2 :: L) (fun x => 8 - x.1) (0, none, 0, []) ⟨by simp, by simp, by simp⟩ (by repeat (first | exact EnvSub.nil _ | refine EnvSub.cons rfl ?_)) ((Ent.bigO_nil spM).trans (Ent.nilSl encSt 7 tStep)) ?_
  rintro ⟨i, ad1, cap1, sp⟩ ⟨h1, h2, h3⟩
  dsimp only at h1 h2 h3 ⊢
  by_cases hlt : i < 8
  case neg =>
    repeat (first | refine runB ?_ | intro _)
    exact KX.ends (by first | exact ResOk.tmps rfl | (repeat (first | exact ResOk.nil | apply ResOk.tmp rfl | apply ResOk.cell rfl (by rfl) | apply ResOk.cell1 rfl))) (Ent.refl _) ⟨ad1, cap1, sp, by simp [resV], ⟨by omega, h3⟩, rfl⟩
  have hp1 := pickM_bd xs (2 * (i : Int)) (most := 40) (by decide)
  have hp2 := pickM_bd xs (2 * (i : Int) + 1) (most := 4) (by decide)
  have hml : (sp.map spSt).length = sp.length := by simp
  repeat (first | refine runB ?_ | intro _)
  (first | ((with_reducible apply GO.atPlain); first | refine GO.ef (Ef.callAll (pick_spec ad len cap xs (2 * (i : Int)) 40 hlen hmx0 hxb (by decide) (by decide)) rfl) (by decide) ?_ | refine GO.ef (by exact Ef.callAll (pick_spec ad len cap xs (2 * (i : Int)) 40 hlen hmx0 hxb (by decide) (by decide)) rfl) (by decide) ?_) | ((with_reducible apply GPW.atEf); first | refine GPW.ef (Ef.callAll (pick_spec ad len cap xs (2 * (i : Int)) 40 hlen hmx0 hxb (by decide) (by decide)) rfl) (by decide) ?_ | refine GPW.ef (by exact Ef.callAll (pick_spec ad len cap xs (2 * (i : Int)) 40 hlen hmx0 hxb (by decide) (by decide)) rfl) (by decide) ?_))
  rintro _ _ ⟨rfl, rfl⟩
  repeat (first | refine runB ?_ | intro _)
  generalize pickM xs (2 * (i : Int)) 40 = n at hp1
  by_cases hn : 0 < n
  case neg =>
    repeat (first | refine runB ?_ | intro _)
    refine ⟨(i + 1, ad1, cap1, sp), ⟨by dsimp only; omega, by dsimp only; omega, h3⟩, by dsimp only; omega, ?_, Ent.refl _⟩
    dsimp only
    rw [show ((i + 1 : Nat) : Int) = (i : Int) + 1 by omega]
    exact (by repeat (first | exact EnvSub.nil _ | refine EnvSub.cons rfl ?_))
  repeat (first | refine runB ?_ | intro _)
  (first | ((with_reducible apply GO.atPlain); first | refine GO.ef (Ef.callAll (pick_spec ad len cap xs (2 * (i : Int) + 1) 4 hlen hmx0 hxb (by decide) (by decide)) rfl) (by decide) ?_ | refine GO.ef (by exact Ef.callAll (pick_spec ad len cap xs (2 * (i : Int) + 1) 4 hlen hmx0 hxb (by decide) (by decide)) rfl) (by decide) ?_) | ((with_reducible apply GPW.atEf); first | refine GPW.ef (Ef.callAll (pick_spec ad len cap xs (2 * (i : Int) + 1) 4 hlen hmx0 hxb (by decide) (by decide)) rfl) (by decide) ?_ | refine GPW.ef (by exact Ef.callAll (pick_spec ad len cap xs (2 * (i : Int) + 1) 4 hlen hmx0 hxb (by decide) (by decide)) rfl) (by decide) ?_))
  rintro _ _ ⟨rfl, rfl⟩
  generalize pickM xs (2 * (i : Int) + 1) 4 = it at hp2
  repeat (first | refine runB ?_ | intro _)
  rename_i bm bst
  (first | ((with_reducible apply GO.atPlain); first | refine GO.ef (Ef.append1 (enc := encSt) (e := spSt ⟨some ⟨bm, 0, none⟩, 1 + (i : Int) % 3, it, n⟩) rfl rfl rfl rfl rfl (by rfl) (encSt_one _) (by omega) (by omega)) (by decide) ?_ | refine GO.ef (by exact Ef.append1 (enc := encSt) (e := spSt ⟨some ⟨bm, 0, none⟩, 1 + (i : Int) % 3, it, n⟩) rfl rfl rfl rfl rfl (by rfl) (encSt_one _) (by omega) (by omega)) (by decide) ?_) | ((with_reducible apply GPW.atEf); first | refine GPW.ef (Ef.append1 (enc := encSt) (e := spSt ⟨some ⟨bm, 0, none⟩, 1 + (i : Int) % 3, it, n⟩) rfl rfl rfl rfl rfl (by rfl) (encSt_one _) (by omega) (by omega)) (by decide) ?_ | refine GPW.ef (by exact Ef.append1 (enc := encSt) (e := spSt ⟨some ⟨bm, 0, none⟩, 1 + (i : Int) % 3, it, n⟩) rfl rfl rfl rfl rfl (by rfl) (encSt_one _) (by omega) (by omega)) (by decide) ?_) | ((with_reducible apply GO.atUnit); first | refine GO.efu (Ef.append1 (enc := encSt) (e := spSt ⟨some ⟨bm, 0, none⟩, 1 + (i : Int) % 3, it, n⟩) rfl rfl rfl rfl rfl (by rfl) (encSt_one _) (by omega) (by omega)) ?_ | refine GO.efu (by exact Ef.append1 (enc := encSt) (e := spSt ⟨some ⟨bm, 0, none⟩, 1 + (i : Int) % 3, it, n⟩) rfl rfl rfl rfl rfl (by rfl) (encSt_one _) (by omega) (by omega)) ?_) | ((with_reducible apply GPW.atEfu); first | refine GPW.efu (Ef.append1 (enc := encSt) (e := spSt ⟨some ⟨bm, 0, none⟩, 1 + (i : Int) % 3, it, n⟩) rfl rfl rfl rfl rfl (by rfl) (encSt_one _) (by omega) (by omega)) ?_ | refine GPW.efu (by exact Ef.append1 (enc := encSt) (e := spSt ⟨some ⟨bm, 0, none⟩, 1 + (i : Int) % 3, it, n⟩) rfl rfl rfl rfl rfl (by rfl) (encSt_one _) (by omega) (by omega)) ?_))
  rintro _ _ ⟨ad2, cap2, rfl, rfl⟩
  repeat (first | refine runB ?_ | intro _)
  refine ⟨(i + 1, ad2, cap2, sp ++ [⟨some ⟨bm, 0, none⟩, 1 + (i : Int) % 3, it, n⟩]), ⟨by dsimp only; omega, by dsimp only; simp; omega, ?_⟩, by dsimp only; omega, ?_, ?_⟩
  · intro p hp
    rcases List.mem_append.1 hp with hp | hp
    · exact h3 p hp
    · simp at hp
      subst hp
      exact ⟨⟨by dsimp only; omega, by dsimp only; omega⟩, hp2, by dsimp only; omega, hp1.2⟩
  · dsimp only
    rw [show ((i + 1 : Nat) : Int) = (i : Int) + 1 by omega, List.map_append]
    exact (by repeat (first | exact EnvSub.nil _ | refine EnvSub.cons rfl ?_))
  · dsimp only
    rw [List.map_append]
    refine Ent.consR ?_
    refine (Ent.objSl (enc := encMv) (sz := 5) (xs := [(1 + (i : Int) % 3, it, n)]) rfl rfl (by intro y _; rfl) (Nat.le_of_ble_eq_true rfl)).trans ?_
    exact Ent.bigO_snoc (f := spM) (x := ⟨some ⟨bm, 0, none⟩, 1 + (i : Int) % 3, it, n⟩)

/-- What holds of a ledger behind n spawns. -/
structure Gd (S : LedS) (n : Nat) : Prop where
  shard : S.shard = 0
  its : S.its = its4
  nst : S.nst = n
  nfl : S.nfl = n
  len : S.stk.length ≤ n
  tot : ∀ item, 0 ≤ S.total item ∧ S.total item ≤ 40 * n
  stk : ∀ p ∈ S.stk, (1 ≤ p.1.1 ∧ p.1.1 ≤ 12) ∧ (0 ≤ p.1.2 ∧ p.1.2 < 4) ∧ p.2 ≠ [] ∧ p.2.length ≤ n ∧ ∀ l ∈ p.2, LotOk l
  nodup : (S.stk.map (·.1)).Nodup
theorem gd0 : Gd ⟨0, its4, [], [], 0, 0⟩ 0 := ⟨rfl, rfl, rfl, rfl, Nat.le_refl _, fun _ => ⟨Int.le_refl _, Int.le_refl _⟩, fun _ hp => (nomatch hp), List.nodup_nil⟩
theorem Gd.ok {S : LedS} {n : Nat} (h : Gd S n) (hn : n ≤ 4000) : S.Ok :=
  ⟨by rw [h.shard]; decide, by rw [h.nst]; omega, by rw [h.nfl]; omega, fun p hp => ⟨by have := (h.stk p hp).2.2.2.1; omega, (h.stk p hp).2.2.2.2⟩⟩
theorem gins_len {κ α : Type} [DecidableEq κ] (m : List (κ × α)) (k : κ) (a : α) : (gins m k a).length ≤ m.length + 1 := by
  unfold gins
  split <;> simp
theorem spawn_total (S : LedS) (to item n it : Int) : (S.spawn to item n).total it = if it = item then S.total item + n else S.total it := by
  show (glk (gins S.tot item (S.total item + n)) it).getD 0 = _
  unfold glk
  rw [lookup_gins]
  split
  · rfl
  · rfl
theorem Gd.spawn {S : LedS} {n : Nat} (h : Gd S n) (hn : n ≤ 100) {to item m : Int} (hto : 1 ≤ to ∧ to ≤ 12) (hit : 0 ≤ item ∧ item < 4) (hm : 1 ≤ m ∧ m < 40) : SpOk S to item m ∧ Gd (S.spawn to item m) (n + 1) := by
  have ht := h.tot item
  refine ⟨⟨⟨by omega, by omega⟩, by rw [h.its]; exact hit, ⟨by omega, by omega⟩, by omega, by omega⟩, ⟨h.shard, h.its, ?_, ?_, ?_, ?_, ?_, gins_keys h.nodup⟩⟩
  · show S.nst + 1 = n + 1
    rw [h.nst]
  · show S.nfl + 1 = n + 1
    rw [h.nfl]
  · have := gins_len S.stk (to, item) (S.cur to item ++ [(S.id, 0, m)])
    have := h.len
    show (gins S.stk (to, item) (S.cur to item ++ [(S.id, 0, m)])).length ≤ n + 1
    omega
  · intro it
    rw [spawn_total]
    have := h.tot it
    split <;> omega
  · intro p hp
    rcases List.mem_cons.1 (gins_sub p hp) with rfl | hp
    · dsimp only
      refine ⟨hto, hit, by simp, ?_, ?_⟩
      · unfold LedS.cur
        cases hl : glk S.stk (to, item) with
        | none => simp
        | some x => have := (h.stk _ (glookup_mem hl)).2.2.2.1; simp at this ⊢; omega
      · intro l hl
        rcases List.mem_append.1 hl with hl | hl
        · exact ((h.ok (by omega)).cur to item).2 l hl
        · simp at hl
          subst hl
          have e : S.id = n := by unfold LedS.id; rw [h.shard, h.nfl]; simp
          exact ⟨by dsimp only; rw [e]; omega, by dsimp only; omega, by dsimp only; omega, by dsimp only; omega, by dsimp only; omega⟩
    · have := h.stk p hp
      exact ⟨this.1, this.2.1, this.2.2.1, by omega, this.2.2.2.2⟩

theorem advA_zero (ad : Option Addr) (cap sz : Nat) : advA ad cap sz 0 = ad := by
  unfold advA
  split
  · rfl
  · cases ad with
    | none => rfl
    | some a => simp [Addr_add_zero]
theorem drop_cons! {α : Type} [Inhabited α] {l : List α} {k : Nat} (h : k < l.length) : l.drop k = l[k]! :: l.drop (k + 1) := by
  rw [List.drop_eq_getElem_cons h, getElem!_of h]
theorem map_get! {α β : Type} [Inhabited α] [Inhabited β] (f : α → β) {l : List α} {k : Nat} (h : k < l.length) : (l.map f)[k]! = f l[k]! := by
  rw [getElem!_of (by simpa using h), getElem!_of h]
  simp
theorem encP_one (b : Nat) : ∀ u ∈ encP b, u.oneCell' = true := by simp [encP, Value.oneCell']
instance : EncC encP := ⟨encP_one⟩
abbrev tPL : Nat := 54
abbrev plN4_24_15 : List Stp := [.ev 0, .ev 1, .ev 2, .ev 3, .ev 4, .ev 5, .ev 6, .ev 7, .ev 8, .ev 9, .ev 10, .ev 11, .ev 12, .ev 13, .ev 14, .ev 15, .ev 16, .ev 17, .ev 18, .ev 19, .ev 20, .ev 21, .ef 22]
set_option maxHeartbeats 1000000 in
theorem ledgers1_spec {L : List HP} [hk : KR L] (ad : Option Addr) (len cap : Nat) (xs : List Int) [hrd : Rds L ad Int (encI .i64) 1 xs] (hlen : len = xs.length) (hmx0 : len ≤ 9223372036854775807) (hxb : ∀ x ∈ xs, I64 x) :
    Tri Tryz.prog 24 #[.int .i64 1, .slice ad len cap] L (fun v L' => ∃ ad2 cap2 bl S n, v = .tuple #[.slice ad2 1 cap2, .bool true] ∧ (Gd S n ∧ n ≤ 8) ∧ L' = osl encP 1 tPL ad2 cap2 [bl] :: LedR bl S :: L) := by
  refine Tri.body (args := [.int .i64 1, .slice ad len cap]) 94 en24 Tryz.func24 rfl rfl rfl (by simp) ?_
  repeat (first | refine runB ?_ | intro _ | ((with_reducible apply G.atDraw); first | refine G.draw (N := 94) (id := 15) plN4_24_15 mixed (by kernel_rfl) ?_))
  refine G.unroll 2 (GR.step ?_)
  repeat (first | refine runB ?_ | intro _ | ((with_reducible apply G.atDraw); first | refine G.draw (N := 94) (id := 15) plN4_24_15 mixed (by kernel_rfl) ?_))
  (first | ((with_reducible apply GO.atPlain); first | refine GO.ef (Ef.callAll (refCatalog_spec) rfl) (by decide) ?_ | refine GO.ef (by exact Ef.callAll (refCatalog_spec) rfl) (by decide) ?_) | ((with_reducible apply GPW.atEf); first | refine GPW.ef (Ef.callAll (refCatalog_spec) rfl) (by decide) ?_ | refine GPW.ef (by exact Ef.callAll (refCatalog_spec) rfl) (by decide) ?_))
  rintro _ _ ⟨ad3, cap3, rfl, rfl⟩
  (first | ((with_reducible apply GO.atPlain); first | refine GO.ef (Ef.callAll (lnew_spec 0 (by decide) ad3 cap3 its4 its4_ok) rfl) (by decide) ?_ | refine GO.ef (by exact Ef.callAll (lnew_spec 0 (by decide) ad3 cap3 its4 its4_ok) rfl) (by decide) ?_) | ((with_reducible apply GPW.atEf); first | refine GPW.ef (Ef.callAll (lnew_spec 0 (by decide) ad3 cap3 its4 its4_ok) rfl) (by decide) ?_ | refine GPW.ef (by exact Ef.callAll (lnew_spec 0 (by decide) ad3 cap3 its4 its4_ok) rfl) (by decide) ?_))
  rintro _ _ ⟨bl, rfl, rfl⟩
  repeat (first | refine runB ?_ | intro _ | ((with_reducible apply G.atDraw); first | refine G.draw (N := 94) (id := 15) plN4_24_15 mixed (by kernel_rfl) ?_))
  have hz : (min (len : Int) (16 * 0)).toNat = 0 := by omega
  rw [hz, advA_zero, Nat.sub_zero, Nat.sub_zero]
  (first | ((with_reducible apply GO.atPlain); first | refine GO.ef (Ef.callAll (spawns_spec ad len cap xs hlen (by omega) hxb) rfl) (by decide) ?_ | refine GO.ef (by exact Ef.callAll (spawns_spec ad len cap xs hlen (by omega) hxb) rfl) (by decide) ?_) | ((with_reducible apply GPW.atEf); first | refine GPW.ef (Ef.callAll (spawns_spec ad len cap xs hlen (by omega) hxb) rfl) (by decide) ?_ | refine GPW.ef (by exact Ef.callAll (spawns_spec ad len cap xs hlen (by omega) hxb) rfl) (by decide) ?_))
  rintro _ _ ⟨sad, scap, sp, rfl, ⟨hsl, hsp⟩, rfl⟩
  obtain ⟨sts, hsts⟩ : ∃ sts, sts = sp.map spSt := ⟨_, rfl⟩
  have hstl : sts.length = sp.length := by rw [hsts]; simp
  rw [← hsts]
  repeat (first | refine runB ?_ | intro _ | ((with_reducible apply G.atDraw); first | refine G.draw (N := 94) (id := 15) plN4_24_15 mixed (by kernel_rfl) ?_))
  refine G.loop (α := Nat × LedS) (fun x => x.1 ≤ sp.length ∧ Gd x.2 x.1) (fun x => [(0, .int .i64 1), (6, .slice none 0 0), (7, .int .i64 0), (8, .pointer (some ⟨bl, 0, none⟩)), (10, .slice sad sp.length scap), (11, .int .i64 (x.1 : Int))])
    (fun x => osl encSt 7 tStep sad scap sts :: LedR bl x.2 :: bigO spM (sp.drop x.1) :: L) (fun x => sp.length - x.1) (0, ⟨0, its4, [], [], 0, 0⟩) ⟨Nat.zero_le _, gd0⟩ (by repeat (first | exact EnvSub.nil _ | refine EnvSub.cons rfl ?_)) (by rw [List.drop_zero]; repeat (first | exact Ent.refl _ | exact Ent.nil _ | refine Ent.take' ?_ | refine Ent.trans Ent.drop ?_)) ?_
  rintro ⟨k, S⟩ ⟨hk1, hg⟩
  dsimp only at hk1 hg ⊢
  by_cases hlt : k < sp.length
  case neg =>
    repeat (first | refine runB ?_ | intro _ | ((with_reducible apply G.atDraw); first | refine G.draw (N := 94) (id := 15) plN4_24_15 mixed (by kernel_rfl) ?_))
    refine GO.ent (Ent.nilSl encP 1 tPL) ?_
    (first | ((with_reducible apply GO.atPlain); first | refine GO.ef (Ef.append1 (enc := encP) (e := bl) rfl rfl rfl rfl rfl (by rfl) (encP_one _) (by simp) (by simp)) (by decide) ?_ | refine GO.ef (by exact Ef.append1 (enc := encP) (e := bl) rfl rfl rfl rfl rfl (by rfl) (encP_one _) (by simp) (by simp)) (by decide) ?_) | ((with_reducible apply GPW.atEf); first | refine GPW.ef (Ef.append1 (enc := encP) (e := bl) rfl rfl rfl rfl rfl (by rfl) (encP_one _) (by simp) (by simp)) (by decide) ?_ | refine GPW.ef (by exact Ef.append1 (enc := encP) (e := bl) rfl rfl rfl rfl rfl (by rfl) (encP_one _) (by simp) (by simp)) (by decide) ?_) | ((with_reducible apply GO.atUnit); first | refine GO.efu (Ef.append1 (enc := encP) (e := bl) rfl rfl rfl rfl rfl (by rfl) (encP_one _) (by simp) (by simp)) ?_ | refine GO.efu (by exact Ef.append1 (enc := encP) (e := bl) rfl rfl rfl rfl rfl (by rfl) (encP_one _) (by simp) (by simp)) ?_) | ((with_reducible apply GPW.atEfu); first | refine GPW.efu (Ef.append1 (enc := encP) (e := bl) rfl rfl rfl rfl rfl (by rfl) (encP_one _) (by simp) (by simp)) ?_ | refine GPW.efu (by exact Ef.append1 (enc := encP) (e := bl) rfl rfl rfl rfl rfl (by rfl) (encP_one _) (by simp) (by simp)) ?_))
    rintro _ _ ⟨ad2, cap2, rfl, rfl⟩
    repeat (first | refine runB ?_ | intro _ | ((with_reducible apply G.atDraw); first | refine G.draw (N := 94) (id := 15) plN4_24_15 mixed (by kernel_rfl) ?_))
    refine GR.step ?_
    repeat (first | refine runB ?_ | intro _ | ((with_reducible apply G.atDraw); first | refine G.draw (N := 94) (id := 15) plN4_24_15 mixed (by kernel_rfl) ?_))
    refine KX.ends (by first | exact ResOk.tmps rfl | (repeat (first | exact ResOk.nil | apply ResOk.tmp rfl | apply ResOk.cell rfl (by rfl) | apply ResOk.cell1 rfl))) ?_ ⟨ad2, cap2, bl, S, k, rfl, ⟨hg, by omega⟩, rfl⟩
    simp only [List.nil_append]
    repeat (first | exact Ent.refl _ | exact Ent.nil _ | refine Ent.take' ?_ | refine Ent.trans Ent.drop ?_)
  have hii : (k : Int).toNat = k := by omega
  obtain ⟨p, hp⟩ : ∃ p, p = sp[k]! := ⟨_, rfl⟩
  have hpo : p.Ok := hp ▸ hsp _ (mem_get! hlt)
  have hX : sts[(k : Int).toNat]! = ⟨0, 0, 0, 0, -1, 0, p.mad, 1, 1⟩ := by rw [hsts, hii, map_get! _ hlt, ← hp]; rfl
  obtain ⟨⟨ho1, ho2⟩, ⟨ho3, ho4⟩, ho5, ho6⟩ := hpo
  have hmn : sts[(k : Int).toNat]!.mn = 1 := by rw [hX]
  refine G.ent (L' := osl encMv 5 tMv sts[(k : Int).toNat]!.mad 1 [(p.to, p.item, p.n)] :: bigO spM (sp.drop (k + 1)) :: osl encSt 7 tStep sad scap sts :: LedR bl S :: L) ?_ ?_
  · refine (Ent.at (A := bigO spM (sp.drop k)) (Ent.refl _)).trans ?_
    rw [drop_cons! hlt, ← hp, hX]
    exact Ent.bigO_uncons
  have hml : ([(p.to, p.item, p.n)] : List (Int × Int × Int)).length = 1 := rfl
  have hm1 : ([(p.to, p.item, p.n)] : List (Int × Int × Int))[(0 : Int).toNat]!.1 = p.to := rfl
  have hm0 : ([(p.to, p.item, p.n)] : List (Int × Int × Int))[(0 : Int).toNat]! = (p.to, p.item, p.n) := rfl
  repeat (first | refine runB ?_ | intro _ | ((with_reducible apply G.atDraw); first | refine G.draw (N := 94) (id := 15) plN4_24_15 mixed (by kernel_rfl) ?_))
  refine G.unroll 2 (GR.step ?_)
  repeat (first | refine runB ?_ | intro _ | ((with_reducible apply G.atDraw); first | refine G.draw (N := 94) (id := 15) plN4_24_15 mixed (by kernel_rfl) ?_))
  (first | ((with_reducible apply GO.atPlain); first | refine GO.ef (Ef.storeEl (e := ((1 + (([(p.to, p.item, p.n)] : List (Int × Int × Int))[(0 : Int).toNat]!.1 + 5 * (k : Int)) % 12, p.item, p.n) : Int × Int × Int)) rfl rfl (by rfl) rfl (by simp) (by decide)) (by decide) ?_ | refine GO.ef (by exact Ef.storeEl (e := ((1 + (([(p.to, p.item, p.n)] : List (Int × Int × Int))[(0 : Int).toNat]!.1 + 5 * (k : Int)) % 12, p.item, p.n) : Int × Int × Int)) rfl rfl (by rfl) rfl (by simp) (by decide)) (by decide) ?_) | ((with_reducible apply GPW.atEf); first | refine GPW.ef (Ef.storeEl (e := ((1 + (([(p.to, p.item, p.n)] : List (Int × Int × Int))[(0 : Int).toNat]!.1 + 5 * (k : Int)) % 12, p.item, p.n) : Int × Int × Int)) rfl rfl (by rfl) rfl (by simp) (by decide)) (by decide) ?_ | refine GPW.ef (by exact Ef.storeEl (e := ((1 + (([(p.to, p.item, p.n)] : List (Int × Int × Int))[(0 : Int).toNat]!.1 + 5 * (k : Int)) % 12, p.item, p.n) : Int × Int × Int)) rfl rfl (by rfl) rfl (by simp) (by decide)) (by decide) ?_) | ((with_reducible apply GO.atUnit); first | refine GO.efu (Ef.storeEl (e := ((1 + (([(p.to, p.item, p.n)] : List (Int × Int × Int))[(0 : Int).toNat]!.1 + 5 * (k : Int)) % 12, p.item, p.n) : Int × Int × Int)) rfl rfl (by rfl) rfl (by simp) (by decide)) ?_ | refine GO.efu (by exact Ef.storeEl (e := ((1 + (([(p.to, p.item, p.n)] : List (Int × Int × Int))[(0 : Int).toNat]!.1 + 5 * (k : Int)) % 12, p.item, p.n) : Int × Int × Int)) rfl rfl (by rfl) rfl (by simp) (by decide)) ?_) | ((with_reducible apply GPW.atEfu); first | refine GPW.efu (Ef.storeEl (e := ((1 + (([(p.to, p.item, p.n)] : List (Int × Int × Int))[(0 : Int).toNat]!.1 + 5 * (k : Int)) % 12, p.item, p.n) : Int × Int × Int)) rfl rfl (by rfl) rfl (by simp) (by decide)) ?_ | refine GPW.efu (by exact Ef.storeEl (e := ((1 + (([(p.to, p.item, p.n)] : List (Int × Int × Int))[(0 : Int).toNat]!.1 + 5 * (k : Int)) % 12, p.item, p.n) : Int × Int × Int)) rfl rfl (by rfl) rfl (by simp) (by decide)) ?_))
  rintro _ _ rfl
  repeat (first | refine runB ?_ | intro _ | ((with_reducible apply G.atDraw); first | refine G.draw (N := 94) (id := 15) plN4_24_15 mixed (by kernel_rfl) ?_))
  refine GR.step ?_
  repeat (first | refine runB ?_ | intro _ | ((with_reducible apply G.atDraw); first | refine G.draw (N := 94) (id := 15) plN4_24_15 mixed (by kernel_rfl) ?_))
  simp only [hX, encSt]
  obtain ⟨hspo, hgd⟩ := hg.spawn (by omega) (to := 1 + (p.to + 5 * (k : Int)) % 12) (item := p.item) (m := p.n) ⟨by omega, by omega⟩ ⟨ho3, ho4⟩ ⟨ho5, ho6⟩
  refine GO.ent (L' := LedR bl S :: osl encMv 5 tMv p.mad 1 [(1 + (p.to + 5 * (k : Int)) % 12, p.item, p.n)] :: bigO spM (sp.drop (k + 1)) :: osl encSt 7 tStep sad scap sts :: L) (by repeat (first | exact Ent.refl _ | exact Ent.nil _ | refine Ent.take' ?_ | refine Ent.trans Ent.drop ?_)) ?_
  (first | ((with_reducible apply GO.atPlain); first | refine GO.ef (Ef.callAll (post_spec bl S (hg.ok (by omega)) p.mad 1 hspo) rfl) (by decide) ?_ | refine GO.ef (by exact Ef.callAll (post_spec bl S (hg.ok (by omega)) p.mad 1 hspo) rfl) (by decide) ?_) | ((with_reducible apply GPW.atEf); first | refine GPW.ef (Ef.callAll (post_spec bl S (hg.ok (by omega)) p.mad 1 hspo) rfl) (by decide) ?_ | refine GPW.ef (by exact Ef.callAll (post_spec bl S (hg.ok (by omega)) p.mad 1 hspo) rfl) (by decide) ?_))
  rintro _ _ ⟨rfl, rfl⟩
  repeat (first | refine runB ?_ | intro _ | ((with_reducible apply G.atDraw); first | refine G.draw (N := 94) (id := 15) plN4_24_15 mixed (by kernel_rfl) ?_))
  refine ⟨(k + 1, S.spawn (1 + (p.to + 5 * (k : Int)) % 12) p.item p.n), ⟨by dsimp only; omega, hgd⟩, by dsimp only; omega, ?_, by repeat (first | exact Ent.refl _ | exact Ent.nil _ | refine Ent.take' ?_ | refine Ent.trans Ent.drop ?_)⟩
  dsimp only
  rw [show ((k + 1 : Nat) : Int) = (k : Int) + 1 by omega]
  exact (by repeat (first | exact EnvSub.nil _ | refine EnvSub.cons rfl ?_))
end Go.Proofs.YtclgjkeeaopppaaGreatDoor
