/- Contracts of package lexer, for a single word. -/
import Derived.Test.YtclgjkeeaopppaaGreatDoorM9
namespace Go.Proofs.YtclgjkeeaopppaaGreatDoor
open Go.V
attribute [local irreducible] G GO GP GPW GPK Ev Ef EfR Ent CB GB Enters

/-- The kinds of the bytes, as package lexer lays them. -/
def kindsL : List Int := [0, 0, 0, 0, 0, 0, 0, 0, 0, 1, 1, 0, 0, 0, 0, 0, 0, 0, 0, 0, 0, 0, 0, 0, 0, 0, 0, 0, 0, 0, 0, 0, 1, 0, 0, 2, 0, 0, 0, 0, 7, 7, 0, 7, 7, 6, 7, 0, 4, 4, 4, 4, 4, 4, 4, 4, 4, 4, 7, 7, 7, 7, 7, 0, 0, 0, 0, 0, 0, 0, 0, 0, 0, 0, 0, 0, 0, 0, 0, 0, 0, 0, 0, 0, 0, 0, 0, 0, 0, 0, 0, 0, 0, 0, 0, 5, 0, 3, 3, 3, 3, 3, 3, 3, 3, 3, 3, 3, 3, 3, 3, 3, 3, 3, 3, 3, 3, 3, 3, 3, 3, 3, 3, 7, 0, 7, 0, 0]
/-- The table lies where the program has it. -/
abbrev kindsP : HP := isl (encI .u8) 1 (some ⟨0, 0, none⟩) kindsL
theorem kindsP_pers : Pers kindsP := isl_pers _ _ _ _
theorem kindsL_len : kindsL.length = 128 := by kernel_rfl
def kindM (s : ByteArray) (i : Int) : Int := if i < s.size ∧ (numsOf s)[i.toNat]! < 128 then kindsL[((numsOf s)[i.toNat]!).toNat]! else 0
theorem kindAt_spec {L : List HP} (s : ByteArray) (i : Int) (h0 : 0 ≤ i) (hs : s.size ≤ 1000000) [Rds L (some ⟨0, 0, none⟩) Int (encI .u8) 1 kindsL] :
    Tri Tryz.prog 221 #[.string s, .int .i64 i] L (fun v L' => v = .int .u8 (kindM s i) ∧ L' = L) := by
  have hkl := kindsL_len
  refine Tri.body (args := [.string s, .int .i64 i]) 20 en221 Tryz.func221 rfl rfl rfl (by simp) ?_
  by_cases h1 : i < s.size
  case neg =>
    have e : kindM s i = 0 := if_neg fun h => h1 h.1
    rw [e]
    repeat (first | refine run ?_ | intro _)
    exact KX.ends (by first | exact ResOk.tmps rfl | (repeat (first | exact ResOk.nil | apply ResOk.tmp rfl | apply ResOk.cell rfl (by rfl) | apply ResOk.cell1 rfl))) (Ent.refl _) ⟨rfl, rfl⟩
  have hb := numsOf_bd s _ (mem_get! (show i.toNat < (numsOf s).length by rw [numsOf_len]; omega))
  by_cases h2 : (numsOf s)[i.toNat]! < 128
  case neg =>
    have e : kindM s i = 0 := if_neg fun h => h2 h.2
    rw [e]
    repeat (first | refine run ?_ | intro _)
    exact KX.ends (by first | exact ResOk.tmps rfl | (repeat (first | exact ResOk.nil | apply ResOk.tmp rfl | apply ResOk.cell rfl (by rfl) | apply ResOk.cell1 rfl))) (Ent.refl _) ⟨rfl, rfl⟩
  have e : kindM s i = kindsL[((numsOf s)[i.toNat]!).toNat]! := if_pos ⟨h1, h2⟩
  rw [e]
  obtain ⟨c, hc⟩ : ∃ c, (numsOf s)[i.toNat]! = c := ⟨_, rfl⟩
  rw [hc] at hb h2 ⊢
  have hm : ((numsOf s)[i.toNat]!).toNat * 1 = c.toNat * 1 + 0 := by rw [hc]; omega
  have hm2 : 0 + ((numsOf s)[i.toNat]!).toNat * 1 = c.toNat * 1 + 0 := by rw [hc]; omega
  repeat (first | refine run ?_ | intro _)
  (first | ((with_reducible apply GO.atPlain); first | refine GO.ev (Ev.loadRaw (j := c.toNat) (o := 0) rfl hm2 (by omega) (by decide) rfl) (by decide) ?_ | refine GO.ev (by exact Ev.loadRaw (j := c.toNat) (o := 0) rfl hm2 (by omega) (by decide) rfl) (by decide) ?_) | ((with_reducible apply GPW.atEv); first | refine GPW.evP (Ev.loadRaw (j := c.toNat) (o := 0) rfl hm2 (by omega) (by decide) rfl) (by decide) ?_ | refine GPW.evP (by exact Ev.loadRaw (j := c.toNat) (o := 0) rfl hm2 (by omega) (by decide) rfl) (by decide) ?_) | ((with_reducible apply GPW.atEv); first | refine GPW.evL (Ev.loadRaw (j := c.toNat) (o := 0) rfl hm2 (by omega) (by decide) rfl) (by decide) ?_ | refine GPW.evL (by exact Ev.loadRaw (j := c.toNat) (o := 0) rfl hm2 (by omega) (by decide) rfl) (by decide) ?_))
  repeat (first | refine run ?_ | intro _)
  exact KX.ends (by first | exact ResOk.tmps rfl | (repeat (first | exact ResOk.nil | apply ResOk.tmp rfl | apply ResOk.cell rfl (by rfl) | apply ResOk.cell1 rfl))) (Ent.refl _) ⟨rfl, rfl⟩

/-- A single word. -/
structure IsWord (s : ByteArray) : Prop where
  size : 1 ≤ s.size ∧ s.size ≤ 16
  first : kindM s 0 = 3
  rest : ∀ i : Nat, i < s.size → kindM s i = 3 ∨ kindM s i = 4 ∨ kindM s i = 5
theorem kindM_end (s : ByteArray) : kindM s s.size = 0 := if_neg fun h => absurd h.1 (by omega)

theorem skip_spec {L : List HP} (s : ByteArray) (i : Int) (h0 : 0 ≤ i) (hs : s.size ≤ 1000000) (hk : i < s.size → kindM s i ≠ 1 ∧ kindM s i ≠ 2) [Rds L (some ⟨0, 0, none⟩) Int (encI .u8) 1 kindsL] :
    Tri Tryz.prog 201 #[.string s, .int .i64 i] L (fun v L' => v = .int .i64 i ∧ L' = L) := by
  refine Tri.body (args := [.string s, .int .i64 i]) 32 en201 Tryz.func201 rfl rfl rfl (by simp) ?_
  repeat (first | refine run ?_ | intro _)
  refine G.unroll 1 (GR.step ?_)
  by_cases h1 : i < s.size
  case neg =>
    repeat (first | refine run ?_ | intro _)
    exact KX.ends (by first | exact ResOk.tmps rfl | (repeat (first | exact ResOk.nil | apply ResOk.tmp rfl | apply ResOk.cell rfl (by rfl) | apply ResOk.cell1 rfl))) (Ent.refl _) ⟨rfl, rfl⟩
  obtain ⟨hk1, hk2⟩ := hk h1
  repeat (first | refine run ?_ | intro _)
  (first | ((with_reducible apply GO.atPlain); first | refine GO.ef (Ef.callAll (kindAt_spec s i h0 hs) rfl) (by decide) ?_ | refine GO.ef (by exact Ef.callAll (kindAt_spec s i h0 hs) rfl) (by decide) ?_) | ((with_reducible apply GPW.atEf); first | refine GPW.ef (Ef.callAll (kindAt_spec s i h0 hs) rfl) (by decide) ?_ | refine GPW.ef (by exact Ef.callAll (kindAt_spec s i h0 hs) rfl) (by decide) ?_))
  rintro _ _ ⟨rfl, rfl⟩
  repeat (first | refine run ?_ | intro _)
  exact KX.ends (by first | exact ResOk.tmps rfl | (repeat (first | exact ResOk.nil | apply ResOk.tmp rfl | apply ResOk.cell rfl (by rfl) | apply ResOk.cell1 rfl))) (Ent.refl _) ⟨rfl, rfl⟩

structure Tok where
  kind : Int
  text : ByteArray
  n : Int
  pos : Int
  deriving Inhabited
def encT (t : Tok) : List Value := [.int .i64 t.kind, .string t.text, .int .i64 t.n, .int .i64 t.pos]
theorem encT_one (t : Tok) : ∀ u ∈ encT t, u.oneCell' = true := by simp [encT, Value.oneCell']
instance : EncC encT := ⟨encT_one⟩
def wordT (s : ByteArray) : Tok := ⟨0, s, 0, 0⟩
abbrev tTok : Nat := 241
abbrev plL1_202_20 : List Stp := [.ev 0, .ev 1, .ev 2, .ev 3, .ev 4, .ev 5, .ev 6, .ev 7, .ev 8, .ev 9, .ef 10]
theorem next_spec {L : List HP} (s : ByteArray) (hw : IsWord s) [Rds L (some ⟨0, 0, none⟩) Int (encI .u8) 1 kindsL] :
    Tri Tryz.prog 202 #[.string s, .int .i64 0] L (fun v L' => v = .tuple #[.agg (encT (wordT s)).toArray, .int .i64 0] ∧ L' = L) := by
  have hsz := hw.size
  refine Tri.body (args := [.string s, .int .i64 0]) 99 en202 Tryz.func202 rfl rfl rfl (by simp) ?_
  repeat (first | refine run ?_ | intro _ | ((with_reducible apply G.atDraw); first | refine G.draw (N := 99) (id := 20) plL1_202_20 mixed (by kernel_rfl) ?_))
  rename_i b4 b6
  (first | ((with_reducible apply GO.atPlain); first | refine GO.ef (Ef.callAll (kindAt_spec s 0 (by decide) (by omega)) rfl) (by decide) ?_ | refine GO.ef (by exact Ef.callAll (kindAt_spec s 0 (by decide) (by omega)) rfl) (by decide) ?_) | ((with_reducible apply GPW.atEf); first | refine GPW.ef (Ef.callAll (kindAt_spec s 0 (by decide) (by omega)) rfl) (by decide) ?_ | refine GPW.ef (by exact Ef.callAll (kindAt_spec s 0 (by decide) (by omega)) rfl) (by decide) ?_))
  rintro _ _ ⟨rfl, rfl⟩
  rw [hw.first]
  repeat (first | refine run ?_ | intro _ | ((with_reducible apply G.atDraw); first | refine G.draw (N := 99) (id := 20) plL1_202_20 mixed (by kernel_rfl) ?_))
  (first | ((with_reducible apply GO.atPlain); first | refine GO.ef (Ef.callAll (kindAt_spec s (0 + 1) (by decide) (by omega)) rfl) (by decide) ?_ | refine GO.ef (by exact Ef.callAll (kindAt_spec s (0 + 1) (by decide) (by omega)) rfl) (by decide) ?_) | ((with_reducible apply GPW.atEf); first | refine GPW.ef (Ef.callAll (kindAt_spec s (0 + 1) (by decide) (by omega)) rfl) (by decide) ?_ | refine GPW.ef (by exact Ef.callAll (kindAt_spec s (0 + 1) (by decide) (by omega)) rfl) (by decide) ?_))
  rintro _ _ ⟨rfl, rfl⟩
  repeat (first | refine run ?_ | intro _ | ((with_reducible apply G.atDraw); first | refine G.draw (N := 99) (id := 20) plL1_202_20 mixed (by kernel_rfl) ?_))
  refine G.loop (α := Nat) (fun e => 1 ≤ e ∧ e ≤ s.size) (fun e => [(0, .string s), (1, .int .i64 0), (4, .pointer (some ⟨b4, 0, none⟩)), (6, .pointer (some ⟨b6, 0, none⟩)), (7, .int .i64 (e : Int)), (8, .int .u8 (kindM s (e : Int)))])
    (fun _ => obj b6 tTok [.int .i64 0, .string ⟨#[]⟩, .int .i64 0, .int .i64 0] :: obj b4 tTok [.int .i64 0, .string ⟨#[]⟩, .int .i64 0, .int .i64 0] :: L) (fun e => s.size - e) 1 ⟨by omega, by omega⟩ (by repeat (first | exact EnvSub.nil _ | refine EnvSub.cons rfl ?_)) (Ent.refl _) ?_
  rintro e ⟨he1, he2⟩
  by_cases hlt : e < s.size
  case neg =>
    have hes : e = s.size := by omega
    subst hes
    rw [kindM_end]
    repeat (first | refine run ?_ | intro _ | ((with_reducible apply G.atDraw); first | refine G.draw (N := 99) (id := 20) plL1_202_20 mixed (by kernel_rfl) ?_))
    rw [Int.toNat_zero, Int.toNat_natCast, extract_all]
    exact KX.ends (by first | exact ResOk.cell rfl (by rfl) (ResOk.tmp rfl (ResOk.nil)) | exact ResOk.cell1 rfl (ResOk.tmp rfl (ResOk.nil))) (Ent.trans Ent.drop Ent.drop) ⟨rfl, rfl⟩
  have hr := hw.rest e hlt
  have hgo : ∀ {q : Prop}, (kindM s (e : Int) = 3 → q) → (kindM s (e : Int) ≠ 3 → kindM s (e : Int) = 4 → q) → (kindM s (e : Int) ≠ 3 → kindM s (e : Int) ≠ 4 → kindM s (e : Int) = 5 → q) → q := by
    intro q a b c
    rcases hr with h | h | h
    · exact a h
    · exact b (by omega) h
    · exact c (by omega) (by omega) h
  refine hgo ?_ ?_ ?_ <;> intros
  all_goals
    repeat (first | refine run ?_ | intro _ | ((with_reducible apply G.atDraw); first | refine G.draw (N := 99) (id := 20) plL1_202_20 mixed (by kernel_rfl) ?_))
    (first | ((with_reducible apply GO.atPlain); first | refine GO.ef (Ef.callAll (kindAt_spec s ((e : Int) + 1) (by omega) (by omega)) rfl) (by decide) ?_ | refine GO.ef (by exact Ef.callAll (kindAt_spec s ((e : Int) + 1) (by omega) (by omega)) rfl) (by decide) ?_) | ((with_reducible apply GPW.atEf); first | refine GPW.ef (Ef.callAll (kindAt_spec s ((e : Int) + 1) (by omega) (by omega)) rfl) (by decide) ?_ | refine GPW.ef (by exact Ef.callAll (kindAt_spec s ((e : Int) + 1) (by omega) (by omega)) rfl) (by decide) ?_))
    rintro _ _ ⟨rfl, rfl⟩
    repeat (first | refine run ?_ | intro _ | ((with_reducible apply G.atDraw); first | refine G.draw (N := 99) (id := 20) plL1_202_20 mixed (by kernel_rfl) ?_))
    refine ⟨e + 1, ⟨by omega, by omega⟩, by omega, ?_, Ent.refl _⟩
    rw [show ((e + 1 : Nat) : Int) = (e : Int) + 1 by omega]
    exact (by repeat (first | exact EnvSub.nil _ | refine EnvSub.cons rfl ?_))

theorem all_iter {L0 : List HP} (bx : Nat) (s : ByteArray) (hw : IsWord s) [hrd : Rds L0 (some ⟨0, 0, none⟩) Int (encI .u8) 1 kindsL] :
    Iter Tryz.prog 200 [.pointer (some ⟨bx, 0, none⟩)] [[.agg (encT (wordT s)).toArray, .int .i64 0]] (obj bx 9 [.string s] :: L0) := by
  have hsz := hw.size
  have hk0 := hw.first
  have hts : (wordT s).text.size = s.size := rfl
  intro l J Jx hy
  have hy0 := hy 0 (by simp)
  simp only [List.getElem_cons_zero] at hy0
  show Tri _ _ _ _ (fun _ L' => L' = J 1 :: _ ∨ _)
  refine Tri.body (args := [.func (.yield l) #[] #[], .pointer (some ⟨bx, 0, none⟩)]) 34 en200 Tryz.func200 rfl rfl rfl (by simp) ?_
  repeat (first | refine run ?_ | intro _)
  (first | ((with_reducible apply GO.atPlain); first | refine GO.ef (Ef.callAll (skip_spec s 0 (by decide) (by omega) (fun _ => by rw [hk0]; decide)) rfl) (by decide) ?_ | refine GO.ef (by exact Ef.callAll (skip_spec s 0 (by decide) (by omega) (fun _ => by rw [hk0]; decide)) rfl) (by decide) ?_) | ((with_reducible apply GPW.atEf); first | refine GPW.ef (Ef.callAll (skip_spec s 0 (by decide) (by omega) (fun _ => by rw [hk0]; decide)) rfl) (by decide) ?_ | refine GPW.ef (by exact Ef.callAll (skip_spec s 0 (by decide) (by omega) (fun _ => by rw [hk0]; decide)) rfl) (by decide) ?_))
  rintro _ _ ⟨rfl, rfl⟩
  repeat (first | refine run ?_ | intro _)
  refine G.unroll 2 (GR.step ?_)
  repeat (first | refine run ?_ | intro _)
  (first | ((with_reducible apply GO.atPlain); first | refine GO.ef (Ef.callAll (next_spec s hw) rfl) (by decide) ?_ | refine GO.ef (by exact Ef.callAll (next_spec s hw) rfl) (by decide) ?_) | ((with_reducible apply GPW.atEf); first | refine GPW.ef (Ef.callAll (next_spec s hw) rfl) (by decide) ?_ | refine GPW.ef (by exact Ef.callAll (next_spec s hw) rfl) (by decide) ?_))
  rintro _ _ ⟨rfl, rfl⟩
  repeat (first | refine run ?_ | intro _)
  ((with_reducible apply GO.atPlain); refine GO.efR (EfR.yield (hy0) rfl rfl (by repeat (first | exact Ent.refl _ | apply Ent.take))) (by decide) ?_)
  rintro _ _ ⟨_, (⟨rfl, rfl⟩ | ⟨rfl, rfl⟩), hL⟩
  · simp only [List.cons_append, List.nil_append] at hL; subst hL
    repeat (first | refine run ?_ | intro _)
    (first | ((with_reducible apply GO.atPlain); first | refine GO.ef (Ef.callAll (skip_spec s (0 + ((wordT s).text.size : Int)) (by omega) (by omega) (fun h => absurd h (by omega))) rfl) (by decide) ?_ | refine GO.ef (by exact Ef.callAll (skip_spec s (0 + ((wordT s).text.size : Int)) (by omega) (by omega) (fun h => absurd h (by omega))) rfl) (by decide) ?_) | ((with_reducible apply GPW.atEf); first | refine GPW.ef (Ef.callAll (skip_spec s (0 + ((wordT s).text.size : Int)) (by omega) (by omega) (fun h => absurd h (by omega))) rfl) (by decide) ?_ | refine GPW.ef (by exact Ef.callAll (skip_spec s (0 + ((wordT s).text.size : Int)) (by omega) (by omega) (fun h => absurd h (by omega))) rfl) (by decide) ?_))
    rintro _ _ ⟨rfl, rfl⟩
    repeat (first | refine run ?_ | intro _)
    refine GR.step ?_
    repeat (first | refine run ?_ | intro _)
    exact KX.endsN (by first | exact ResOk.tmps rfl | (repeat (first | exact ResOk.nil | apply ResOk.tmp rfl | apply ResOk.cell rfl (by rfl) | apply ResOk.cell1 rfl))) (Ent.consR Ent.drop) (.inl rfl)
  · simp only [List.cons_append, List.nil_append] at hL; subst hL
    repeat (first | refine run ?_ | intro _)
    exact KX.ends (by first | exact ResOk.tmps rfl | (repeat (first | exact ResOk.nil | apply ResOk.tmp rfl | apply ResOk.cell rfl (by rfl) | apply ResOk.cell1 rfl))) (Ent.consR Ent.drop) (.inr ⟨0, rfl⟩)

abbrev plL1_175_8 : List Stp := [.ev 0, .ev 1, .ev 2, .ef 3, .ef 4, .ef 5]
theorem tokens_spec {L : List HP} (s : ByteArray) (hw : IsWord s) [Rds L (some ⟨0, 0, none⟩) Int (encI .u8) 1 kindsL] :
    Tri Tryz.prog 175 #[.string s] L (fun v L' => ∃ ad cap, v = .tuple #[.slice ad 1 cap, .int .i64 0, .int .i64 0] ∧ L' = osl encT 4 tTok ad cap [wordT s] :: L) := by
  have hsz := hw.size
  refine Tri.body (args := [.string s]) 25 en175 Tryz.func175 rfl rfl rfl (by simp) ?_
  repeat (first | refine run ?_ | intro _ | ((with_reducible apply G.atDraw); first | refine G.draw (N := 25) (id := 8) plL1_175_8 mixed (by kernel_rfl) ?_) | ((with_reducible apply GO.atPlain); refine GO.callIn en191 Tryz.func191 rfl rfl rfl rfl (by simp) (by decide) ?_) | ((with_reducible apply GPW.atEf); refine GPW.callIn en191 Tryz.func191 rfl rfl rfl rfl (by simp) (by decide) ?_) | ((with_reducible apply GO.atPlain); refine GO.callFnIn rfl en191 Tryz.func191 rfl rfl rfl rfl (by simp) (by decide) ?_) | ((with_reducible apply GPW.atEf); refine GPW.callFnIn rfl en191 Tryz.func191 rfl rfl rfl rfl (by simp) (by decide) ?_) | ((with_reducible apply KX.atIn); first | refine KX.in0 (.inl rfl) ?_ | refine KX.in0 (.inr rfl) ?_ | refine KX.in1 (.inl rfl) rfl ?_ | refine KX.in2 (.inl rfl) rfl rfl ?_ | refine KX.in3 (.inl rfl) rfl rfl rfl ?_ | refine KX.inC (.inl rfl) rfl (by rfl) ?_ | refine KX.inC1 (.inl rfl) rfl (by rfl) rfl ?_))
  rename_i b2 b3 b4 b5 bx
  refine G.rangeFunc (all_iter (L0 := L) bx s hw) rfl en200 (by decide) (by simp) (fun k => if k = 0 then [obj b5 237 [.slice none 0 0], obj b2 237 [.slice none 0 0], obj b3 3 [.int .i64 0], obj b4 28 [.int .i64 0]] else [hex fun x : Option Addr × Nat => hstars [obj b5 237 [.slice x.1 1 x.2], osl encT 4 tTok x.1 x.2 [wordT s]], obj b2 237 [.slice none 0 0], obj b3 3 [.int .i64 0], obj b4 28 [.int .i64 0]]) ?_ ?_ ?_
  · simp only [if_true, List.cons_append, List.nil_append]
    repeat (first | exact Ent.refl _ | exact Ent.nil _ | refine Ent.take' ?_ | refine Ent.trans Ent.drop ?_)
  · intro k hk
    have hk0 : k = 0 := by simpa using hk
    subst hk0
    simp only [if_true, List.getElem_cons_zero, Nat.zero_add, Nat.one_ne_zero, if_false]
    show G _ _ _ ((14, .int .i64 0) :: (13, .agg (encT (wordT s)).toArray) :: _) _ _
    repeat (first | refine run ?_ | intro _ | ((with_reducible apply G.atDraw); first | refine G.draw (N := 25) (id := 8) plL1_175_8 mixed (by kernel_rfl) ?_) | ((with_reducible apply GO.atPlain); refine GO.callIn en191 Tryz.func191 rfl rfl rfl rfl (by simp) (by decide) ?_) | ((with_reducible apply GPW.atEf); refine GPW.callIn en191 Tryz.func191 rfl rfl rfl rfl (by simp) (by decide) ?_) | ((with_reducible apply GO.atPlain); refine GO.callFnIn rfl en191 Tryz.func191 rfl rfl rfl rfl (by simp) (by decide) ?_) | ((with_reducible apply GPW.atEf); refine GPW.callFnIn rfl en191 Tryz.func191 rfl rfl rfl rfl (by simp) (by decide) ?_) | ((with_reducible apply KX.atIn); first | refine KX.in0 (.inl rfl) ?_ | refine KX.in0 (.inr rfl) ?_ | refine KX.in1 (.inl rfl) rfl ?_ | refine KX.in2 (.inl rfl) rfl rfl ?_ | refine KX.in3 (.inl rfl) rfl rfl rfl ?_ | refine KX.inC (.inl rfl) rfl (by rfl) ?_ | refine KX.inC1 (.inl rfl) rfl (by rfl) rfl ?_))
    refine GO.ent (Ent.nilSl encT 4 tTok) ?_
    (first | ((with_reducible apply GO.atPlain); first | refine GO.ef (Ef.append1 (enc := encT) (e := wordT s) rfl rfl rfl rfl rfl (by rfl) (encT_one _) (by simp) (by simp)) (by decide) ?_ | refine GO.ef (by exact Ef.append1 (enc := encT) (e := wordT s) rfl rfl rfl rfl rfl (by rfl) (encT_one _) (by simp) (by simp)) (by decide) ?_) | ((with_reducible apply GPW.atEf); first | refine GPW.ef (Ef.append1 (enc := encT) (e := wordT s) rfl rfl rfl rfl rfl (by rfl) (encT_one _) (by simp) (by simp)) (by decide) ?_ | refine GPW.ef (by exact Ef.append1 (enc := encT) (e := wordT s) rfl rfl rfl rfl rfl (by rfl) (encT_one _) (by simp) (by simp)) (by decide) ?_) | ((with_reducible apply GO.atUnit); first | refine GO.efu (Ef.append1 (enc := encT) (e := wordT s) rfl rfl rfl rfl rfl (by rfl) (encT_one _) (by simp) (by simp)) ?_ | refine GO.efu (by exact Ef.append1 (enc := encT) (e := wordT s) rfl rfl rfl rfl rfl (by rfl) (encT_one _) (by simp) (by simp)) ?_) | ((with_reducible apply GPW.atEfu); first | refine GPW.efu (Ef.append1 (enc := encT) (e := wordT s) rfl rfl rfl rfl rfl (by rfl) (encT_one _) (by simp) (by simp)) ?_ | refine GPW.efu (by exact Ef.append1 (enc := encT) (e := wordT s) rfl rfl rfl rfl rfl (by rfl) (encT_one _) (by simp) (by simp)) ?_))
    rintro _ _ ⟨ad2, cap2, rfl, rfl⟩
    repeat (first | refine run ?_ | intro _ | ((with_reducible apply G.atDraw); first | refine G.draw (N := 25) (id := 8) plL1_175_8 mixed (by kernel_rfl) ?_) | ((with_reducible apply GO.atPlain); refine GO.callIn en191 Tryz.func191 rfl rfl rfl rfl (by simp) (by decide) ?_) | ((with_reducible apply GPW.atEf); refine GPW.callIn en191 Tryz.func191 rfl rfl rfl rfl (by simp) (by decide) ?_) | ((with_reducible apply GO.atPlain); refine GO.callFnIn rfl en191 Tryz.func191 rfl rfl rfl rfl (by simp) (by decide) ?_) | ((with_reducible apply GPW.atEf); refine GPW.callFnIn rfl en191 Tryz.func191 rfl rfl rfl rfl (by simp) (by decide) ?_) | ((with_reducible apply KX.atIn); first | refine KX.in0 (.inl rfl) ?_ | refine KX.in0 (.inr rfl) ?_ | refine KX.in1 (.inl rfl) rfl ?_ | refine KX.in2 (.inl rfl) rfl rfl ?_ | refine KX.in3 (.inl rfl) rfl rfl rfl ?_ | refine KX.inC (.inl rfl) rfl (by rfl) ?_ | refine KX.inC1 (.inl rfl) rfl (by rfl) rfl ?_))
    refine KX.round ?_
    refine Ent.trans ?_ (Ent.closeX (ad2, cap2) (Ent.refl _))
    simp only [List.cons_append, List.nil_append]
    repeat (first | exact Ent.refl _ | exact Ent.nil _ | refine Ent.take' ?_ | refine Ent.trans Ent.drop ?_)
  simp only [List.length_cons, List.length_nil, Nat.zero_add, Nat.one_ne_zero, if_false, List.cons_append, List.nil_append]
  refine KX.block_normal ?_
  repeat (first | refine run ?_ | intro _ | ((with_reducible apply G.atDraw); first | refine G.draw (N := 25) (id := 8) plL1_175_8 mixed (by kernel_rfl) ?_) | ((with_reducible apply GO.atPlain); refine GO.callIn en191 Tryz.func191 rfl rfl rfl rfl (by simp) (by decide) ?_) | ((with_reducible apply GPW.atEf); refine GPW.callIn en191 Tryz.func191 rfl rfl rfl rfl (by simp) (by decide) ?_) | ((with_reducible apply GO.atPlain); refine GO.callFnIn rfl en191 Tryz.func191 rfl rfl rfl rfl (by simp) (by decide) ?_) | ((with_reducible apply GPW.atEf); refine GPW.callFnIn rfl en191 Tryz.func191 rfl rfl rfl rfl (by simp) (by decide) ?_) | ((with_reducible apply KX.atIn); first | refine KX.in0 (.inl rfl) ?_ | refine KX.in0 (.inr rfl) ?_ | refine KX.in1 (.inl rfl) rfl ?_ | refine KX.in2 (.inl rfl) rfl rfl ?_ | refine KX.in3 (.inl rfl) rfl rfl rfl ?_ | refine KX.inC (.inl rfl) rfl (by rfl) ?_ | refine KX.inC1 (.inl rfl) rfl (by rfl) rfl ?_))
  refine GO.openX (f := fun x : Option Addr × Nat => [obj b5 237 [.slice x.1 1 x.2], osl encT 4 tTok x.1 x.2 [wordT s]]) ?_
  rintro ⟨ad2, cap2⟩
  simp only [List.cons_append, List.nil_append]
  repeat (first | refine run ?_ | intro _ | ((with_reducible apply G.atDraw); first | refine G.draw (N := 25) (id := 8) plL1_175_8 mixed (by kernel_rfl) ?_) | ((with_reducible apply GO.atPlain); refine GO.callIn en191 Tryz.func191 rfl rfl rfl rfl (by simp) (by decide) ?_) | ((with_reducible apply GPW.atEf); refine GPW.callIn en191 Tryz.func191 rfl rfl rfl rfl (by simp) (by decide) ?_) | ((with_reducible apply GO.atPlain); refine GO.callFnIn rfl en191 Tryz.func191 rfl rfl rfl rfl (by simp) (by decide) ?_) | ((with_reducible apply GPW.atEf); refine GPW.callFnIn rfl en191 Tryz.func191 rfl rfl rfl rfl (by simp) (by decide) ?_) | ((with_reducible apply KX.atIn); first | refine KX.in0 (.inl rfl) ?_ | refine KX.in0 (.inr rfl) ?_ | refine KX.in1 (.inl rfl) rfl ?_ | refine KX.in2 (.inl rfl) rfl rfl ?_ | refine KX.in3 (.inl rfl) rfl rfl rfl ?_ | refine KX.inC (.inl rfl) rfl (by rfl) ?_ | refine KX.inC1 (.inl rfl) rfl (by rfl) rfl ?_))
  refine KX.ends (by first | exact ResOk.cell rfl (by rfl) (ResOk.cell rfl (by rfl) (ResOk.cell rfl (by rfl) (ResOk.nil))) | exact ResOk.cell rfl (by rfl) (ResOk.cell rfl (by rfl) (ResOk.cell1 rfl (ResOk.nil))) | exact ResOk.cell rfl (by rfl) (ResOk.cell1 rfl (ResOk.cell rfl (by rfl) (ResOk.nil))) | exact ResOk.cell rfl (by rfl) (ResOk.cell1 rfl (ResOk.cell1 rfl (ResOk.nil))) | exact ResOk.cell1 rfl (ResOk.cell rfl (by rfl) (ResOk.cell rfl (by rfl) (ResOk.nil))) | exact ResOk.cell1 rfl (ResOk.cell rfl (by rfl) (ResOk.cell1 rfl (ResOk.nil))) | exact ResOk.cell1 rfl (ResOk.cell1 rfl (ResOk.cell rfl (by rfl) (ResOk.nil))) | exact ResOk.cell1 rfl (ResOk.cell1 rfl (ResOk.cell1 rfl (ResOk.nil)))) ?_ ⟨ad2, cap2, rfl, rfl⟩
  repeat (first | exact Ent.refl _ | exact Ent.nil _ | refine Ent.take' ?_ | refine Ent.trans Ent.drop ?_)

theorem fits_spec {L : List HP} (s : ByteArray) (hw : IsWord s) [Rds L (some ⟨0, 0, none⟩) Int (encI .u8) 1 kindsL] :
    Tri Tryz.prog 117 #[.string s] L (fun v L' => v = .bool true ∧ L' = L) := by
  have hl1 : ([wordT s]).length = 1 := rfl
  refine Tri.body (args := [.string s]) 34 en117 Tryz.func117 rfl rfl rfl (by simp) ?_
  repeat (first | refine run ?_ | intro _)
  (first | ((with_reducible apply GO.atPlain); first | refine GO.ef (Ef.callAll (tokens_spec s hw) rfl) (by decide) ?_ | refine GO.ef (by exact Ef.callAll (tokens_spec s hw) rfl) (by decide) ?_) | ((with_reducible apply GPW.atEf); first | refine GPW.ef (Ef.callAll (tokens_spec s hw) rfl) (by decide) ?_ | refine GPW.ef (by exact Ef.callAll (tokens_spec s hw) rfl) (by decide) ?_))
  rintro _ _ ⟨ad, cap, rfl, rfl⟩
  have h00 : ([wordT s] : List Tok)[(0 : Int).toNat]! = wordT s := rfl
  have hkd : (wordT s).kind = 0 := rfl
  repeat (first | refine run ?_ | intro _)
  rw [h00]
  repeat (first | refine run ?_ | intro _)
  refine KX.ends (by first | exact ResOk.tmps rfl | (repeat (first | exact ResOk.nil | apply ResOk.tmp rfl | apply ResOk.cell rfl (by rfl) | apply ResOk.cell1 rfl))) Ent.drop ⟨?_, rfl⟩
  rw [dB_pos (show (wordT s).text = s from rfl)]
  rfl
end Go.Proofs.YtclgjkeeaopppaaGreatDoor
