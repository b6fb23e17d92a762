/- Contracts: the legs of an account that moves. -/
import Derived.Test.YtclgjkeeaopppaaGreatDoorL8
namespace Go.Proofs.YtclgjkeeaopppaaGreatDoor
open Go.V
attribute [local irreducible] G GO GP GPW GPK Ev Ef EfR Ent CB GB Enters

theorem Ev.fieldV {P : Program} {L : List HP} {env : Env} {ty : TypeId} {t f off : Nat} {x : Operand} {cs : List Value} {v : Value} {fs : Array Field} {fd : Field} (h1 : P.underlying t = some (.struct fs)) (h2 : fs[f]? = some fd) (h3 : fd.offset = off) (h4 : ∀ w, (isAgg fd.type).run P w = .ok false w)
    (hx : evE env x = some (.agg cs.toArray)) (hv : cs[off]? = some v) : Ev P L env (.field t x f) ty v :=
  Ev.mk (fun θ R _ w ea s _ _ _ _ => by
    simp [execOp, evE_ok ea hx, Instr.field, run_underlying h1, h2, h3, asAgg, part, h4, hv])
def encAm (a : Int × Int) : List Value := [.int .i64 a.1, .int .i64 a.2]
theorem encAm_one (t : Int × Int) : ∀ u ∈ encAm t, u.oneCell' = true := by simp [encAm, Value.oneCell']
instance : EncC encAm := ⟨encAm_one⟩
instance (h : Int × Int) : IntsOf (encAm h) [h.1, h.2] := ⟨rfl⟩
/-- A leg, with where its amounts lie. -/
structure LegV where
  sh : Int
  frm : Int
  tsh : Int
  to : Int
  ad : Option Addr
  cap : Nat
  ams : List (Int × Int)
  deriving Inhabited
def encLeg (l : LegV) : List Value := [.int .i64 l.sh, .int .i64 l.frm, .int .i64 l.tsh, .int .i64 l.to, .slice l.ad l.ams.length l.cap]
theorem encLeg_one (t : LegV) : ∀ u ∈ encLeg t, u.oneCell' = true := by simp [encLeg, Value.oneCell']
instance : EncC encLeg := ⟨encLeg_one⟩
abbrev amP (l : LegV) : HP := isl encAm 2 l.ad l.ams
theorem amP_m (l : LegV) : PersM (amP l) := isl_persM _ _ _ _
abbrev tAm : Nat := 57
abbrev tLeg : Nat := 59
/-- What an account has of the first items. -/
def LedS.ams (S : LedS) (a : Int) : Nat → List (Int × Int)
  | 0 => []
  | k + 1 => S.ams a k ++ (if 0 < S.bal a k then [((k : Int), S.bal a k)] else [])
theorem LedS.ams_len (S : LedS) (a : Int) : ∀ k, (S.ams a k).length ≤ k
  | 0 => by simp [LedS.ams]
  | k + 1 => by
    have := S.ams_len a k
    simp only [LedS.ams, List.length_append]
    split <;> simp <;> omega

theorem lcat_spec {L : List HP} (b : Nat) (S : LedS) (hl : S.its.length ≤ 64) :
    Tri Tryz.prog 44 #[.pointer (some ⟨b, 0, none⟩)] (LedR b S :: L) (fun v L' => ∃ ad cap, v = catV ad S.its.length cap ∧ L' = LedR b S :: L) := by
  refine Tri.body (args := [.pointer (some ⟨b, 0, none⟩)]) 8 en44 Tryz.func44 rfl rfl rfl (by simp) ?_
  refine G.openX (f := ledA b S) ?_
  intro x
  simp only [ledA, ledL, ledCells, List.cons_append, List.nil_append]
  refine G.pureE ?_
  intro hF
  repeat (first | refine runB ?_ | intro _)
  (first | ((with_reducible apply GO.atPlain); first | refine GO.ef (Ef.callAll (copyCat_spec x.iad x.icap S.its hl) rfl) (by decide) ?_ | refine GO.ef (by exact Ef.callAll (copyCat_spec x.iad x.icap S.its hl) rfl) (by decide) ?_) | ((with_reducible apply GPW.atEf); first | refine GPW.ef (Ef.callAll (copyCat_spec x.iad x.icap S.its hl) rfl) (by decide) ?_ | refine GPW.ef (by exact Ef.callAll (copyCat_spec x.iad x.icap S.its hl) rfl) (by decide) ?_))
  rintro _ _ ⟨ad, cap, rfl, rfl⟩
  repeat (first | refine runB ?_ | intro _)
  refine KX.ends (by first | exact ResOk.cell rfl (by rfl) (ResOk.nil) | exact ResOk.cell1 rfl (ResOk.nil)) ?_ ⟨ad, cap, rfl, rfl⟩
  refine Ent.trans ?_ (ledClose x hF)
  repeat (first | exact Ent.refl _ | exact Ent.nil _ | refine Ent.take' ?_ | refine Ent.trans Ent.drop ?_)

/-- What Legs returns. -/
def legsBad (a s t : Int) : Prop := ¬ ((1 ≤ a ∧ a ≤ maxAcc) ∧ (0 ≤ s ∧ s < 12) ∧ (0 ≤ t ∧ t < 12) ∧ s ≠ t)
instance (a s t : Int) : Decidable (legsBad a s t) := by unfold legsBad; infer_instance
theorem legs_spec {L : List HP} (b : Nat) (S : LedS) (hS : S.Ok) (hl : S.its.length ≤ 64) (s a t : Int) :
    Tri Tryz.prog 25 #[.pointer (some ⟨b, 0, none⟩), .int .i64 s, .int .i64 a, .int .i64 t] (LedR b S :: L) (fun v L' =>
      (legsBad a s t ∧ v = .tuple #[.slice none 0 0, .int .i64 1] ∧ L' = LedR b S :: L) ∨
      (¬ legsBad a s t ∧ S.ams a S.its.length = [] ∧ v = .tuple #[.slice none 0 0, .int .i64 7] ∧ L' = LedR b S :: L) ∨
      (¬ legsBad a s t ∧ S.ams a S.its.length ≠ [] ∧ ∃ ad l, v = .tuple #[.slice ad 1 1, .int .i64 0] ∧ (l.sh = s ∧ l.frm = a ∧ l.tsh = t ∧ l.to = a ∧ l.ams = S.ams a S.its.length) ∧ L' = isl encLeg 5 ad [l] :: amP l :: LedR b S :: L)) := by
  have hmx : maxAcc = 1073741824 := rfl
  refine Tri.body (args := [.pointer (some ⟨b, 0, none⟩), .int .i64 s, .int .i64 a, .int .i64 t]) 61 en25 Tryz.func25 rfl rfl rfl (by simp) ?_
  by_cases hbad : legsBad a s t
  · have hb' := hbad
    unfold legsBad at hb'
    repeat' (first | refine runB ?_ | intro _ | ((with_reducible apply GO.atPlain); refine GO.callIn en35 Tryz.func35 rfl rfl rfl rfl (by simp) (by decide) ?_) | ((with_reducible apply GPW.atEf); refine GPW.callIn en35 Tryz.func35 rfl rfl rfl rfl (by simp) (by decide) ?_) | ((with_reducible apply GO.atPlain); refine GO.callFnIn rfl en35 Tryz.func35 rfl rfl rfl rfl (by simp) (by decide) ?_) | ((with_reducible apply GPW.atEf); refine GPW.callFnIn rfl en35 Tryz.func35 rfl rfl rfl rfl (by simp) (by decide) ?_) | ((with_reducible apply GO.atPlain); refine GO.callIn en39 Tryz.func39 rfl rfl rfl rfl (by simp) (by decide) ?_) | ((with_reducible apply GPW.atEf); refine GPW.callIn en39 Tryz.func39 rfl rfl rfl rfl (by simp) (by decide) ?_) | ((with_reducible apply GO.atPlain); refine GO.callFnIn rfl en39 Tryz.func39 rfl rfl rfl rfl (by simp) (by decide) ?_) | ((with_reducible apply GPW.atEf); refine GPW.callFnIn rfl en39 Tryz.func39 rfl rfl rfl rfl (by simp) (by decide) ?_) | ((with_reducible apply KX.atIn); first | refine KX.in0 (.inl rfl) ?_ | refine KX.in0 (.inr rfl) ?_ | refine KX.in1 (.inl rfl) rfl ?_ | refine KX.in2 (.inl rfl) rfl rfl ?_ | refine KX.in3 (.inl rfl) rfl rfl rfl ?_ | refine KX.inC (.inl rfl) rfl (by rfl) ?_ | refine KX.inC1 (.inl rfl) rfl (by rfl) rfl ?_) | with_reducible refine CB.dec (fun _ => ?_) (fun _ => ?_) | with_reducible refine GB.dec (fun _ => ?_) (fun _ => ?_) | with_reducible refine CB.bool (fun _ => ?_) (fun _ => ?_) | with_reducible refine GB.bool (fun _ => ?_) (fun _ => ?_))
    all_goals first
      | exact absurd ⟨⟨by omega, by omega⟩, ⟨by omega, by omega⟩, ⟨by omega, by omega⟩, by omega⟩ hb'
      | exact KX.ends (by first | exact ResOk.tmps rfl | (repeat (first | exact ResOk.nil | apply ResOk.tmp rfl | apply ResOk.cell rfl (by rfl) | apply ResOk.cell1 rfl))) (Ent.refl _) (.inl ⟨hbad, rfl, rfl⟩)
  have hgd : (1 ≤ a ∧ a ≤ maxAcc) ∧ (0 ≤ s ∧ s < 12) ∧ (0 ≤ t ∧ t < 12) ∧ s ≠ t := Decidable.of_not_not hbad
  obtain ⟨⟨h1, h2⟩, ⟨h3, h4⟩, ⟨h5, h6⟩, h7⟩ := hgd
  repeat (first | refine runB ?_ | intro _ | ((with_reducible apply GO.atPlain); refine GO.callIn en35 Tryz.func35 rfl rfl rfl rfl (by simp) (by decide) ?_) | ((with_reducible apply GPW.atEf); refine GPW.callIn en35 Tryz.func35 rfl rfl rfl rfl (by simp) (by decide) ?_) | ((with_reducible apply GO.atPlain); refine GO.callFnIn rfl en35 Tryz.func35 rfl rfl rfl rfl (by simp) (by decide) ?_) | ((with_reducible apply GPW.atEf); refine GPW.callFnIn rfl en35 Tryz.func35 rfl rfl rfl rfl (by simp) (by decide) ?_) | ((with_reducible apply GO.atPlain); refine GO.callIn en39 Tryz.func39 rfl rfl rfl rfl (by simp) (by decide) ?_) | ((with_reducible apply GPW.atEf); refine GPW.callIn en39 Tryz.func39 rfl rfl rfl rfl (by simp) (by decide) ?_) | ((with_reducible apply GO.atPlain); refine GO.callFnIn rfl en39 Tryz.func39 rfl rfl rfl rfl (by simp) (by decide) ?_) | ((with_reducible apply GPW.atEf); refine GPW.callFnIn rfl en39 Tryz.func39 rfl rfl rfl rfl (by simp) (by decide) ?_) | ((with_reducible apply KX.atIn); first | refine KX.in0 (.inl rfl) ?_ | refine KX.in0 (.inr rfl) ?_ | refine KX.in1 (.inl rfl) rfl ?_ | refine KX.in2 (.inl rfl) rfl rfl ?_ | refine KX.in3 (.inl rfl) rfl rfl rfl ?_ | refine KX.inC (.inl rfl) rfl (by rfl) ?_ | refine KX.inC1 (.inl rfl) rfl (by rfl) rfl ?_))
  (first | ((with_reducible apply GO.atPlain); first | refine GO.ef (Ef.callAll (lcat_spec b S hl) rfl) (by decide) ?_ | refine GO.ef (by exact Ef.callAll (lcat_spec b S hl) rfl) (by decide) ?_) | ((with_reducible apply GPW.atEf); first | refine GPW.ef (Ef.callAll (lcat_spec b S hl) rfl) (by decide) ?_ | refine GPW.ef (by exact Ef.callAll (lcat_spec b S hl) rfl) (by decide) ?_))
  rintro _ _ ⟨iad, icap, rfl, rfl⟩
  (first | ((with_reducible apply GO.atPlain); first | refine GO.ev (Ev.fieldV (off := 0) (fs := Tryz.prog.fieldsOf 95) (fd := (Tryz.prog.fieldsOf 95)[0]!) (by kernel_rfl) (by kernel_rfl) (by kernel_rfl) (fun _ => by kernel_rfl) rfl rfl) (by decide) ?_ | refine GO.ev (by exact Ev.fieldV (off := 0) (fs := Tryz.prog.fieldsOf 95) (fd := (Tryz.prog.fieldsOf 95)[0]!) (by kernel_rfl) (by kernel_rfl) (by kernel_rfl) (fun _ => by kernel_rfl) rfl rfl) (by decide) ?_) | ((with_reducible apply GPW.atEv); first | refine GPW.evP (Ev.fieldV (off := 0) (fs := Tryz.prog.fieldsOf 95) (fd := (Tryz.prog.fieldsOf 95)[0]!) (by kernel_rfl) (by kernel_rfl) (by kernel_rfl) (fun _ => by kernel_rfl) rfl rfl) (by decide) ?_ | refine GPW.evP (by exact Ev.fieldV (off := 0) (fs := Tryz.prog.fieldsOf 95) (fd := (Tryz.prog.fieldsOf 95)[0]!) (by kernel_rfl) (by kernel_rfl) (by kernel_rfl) (fun _ => by kernel_rfl) rfl rfl) (by decide) ?_) | ((with_reducible apply GPW.atEv); first | refine GPW.evL (Ev.fieldV (off := 0) (fs := Tryz.prog.fieldsOf 95) (fd := (Tryz.prog.fieldsOf 95)[0]!) (by kernel_rfl) (by kernel_rfl) (by kernel_rfl) (fun _ => by kernel_rfl) rfl rfl) (by decide) ?_ | refine GPW.evL (by exact Ev.fieldV (off := 0) (fs := Tryz.prog.fieldsOf 95) (fd := (Tryz.prog.fieldsOf 95)[0]!) (by kernel_rfl) (by kernel_rfl) (by kernel_rfl) (fun _ => by kernel_rfl) rfl rfl) (by decide) ?_))
  repeat (first | refine runB ?_ | intro _ | ((with_reducible apply GO.atPlain); refine GO.callIn en35 Tryz.func35 rfl rfl rfl rfl (by simp) (by decide) ?_) | ((with_reducible apply GPW.atEf); refine GPW.callIn en35 Tryz.func35 rfl rfl rfl rfl (by simp) (by decide) ?_) | ((with_reducible apply GO.atPlain); refine GO.callFnIn rfl en35 Tryz.func35 rfl rfl rfl rfl (by simp) (by decide) ?_) | ((with_reducible apply GPW.atEf); refine GPW.callFnIn rfl en35 Tryz.func35 rfl rfl rfl rfl (by simp) (by decide) ?_) | ((with_reducible apply GO.atPlain); refine GO.callIn en39 Tryz.func39 rfl rfl rfl rfl (by simp) (by decide) ?_) | ((with_reducible apply GPW.atEf); refine GPW.callIn en39 Tryz.func39 rfl rfl rfl rfl (by simp) (by decide) ?_) | ((with_reducible apply GO.atPlain); refine GO.callFnIn rfl en39 Tryz.func39 rfl rfl rfl rfl (by simp) (by decide) ?_) | ((with_reducible apply GPW.atEf); refine GPW.callFnIn rfl en39 Tryz.func39 rfl rfl rfl rfl (by simp) (by decide) ?_) | ((with_reducible apply KX.atIn); first | refine KX.in0 (.inl rfl) ?_ | refine KX.in0 (.inr rfl) ?_ | refine KX.in1 (.inl rfl) rfl ?_ | refine KX.in2 (.inl rfl) rfl rfl ?_ | refine KX.in3 (.inl rfl) rfl rfl rfl ?_ | refine KX.inC (.inl rfl) rfl (by rfl) ?_ | refine KX.inC1 (.inl rfl) rfl (by rfl) rfl ?_))
  refine G.loop (α := Nat × Option Addr × Nat × List (Int × Int)) (fun x => x.1 ≤ S.its.length ∧ x.2.2.2 = S.ams a x.1) (fun x => [(0, .pointer (some ⟨b, 0, none⟩)), (1, .int .i64 s), (2, .int .i64 a), (3, .int .i64 t), (10, .slice x.2.1 x.2.2.2.length x.2.2.1), (34, .int .i64 S.its.length), (35, .int .i64 (x.1 : Int))]) (fun x => osl encAm 2 tAm x.2.1 x.2.2.1 x.2.2.2 :: LedR b S :: L) (fun x => S.its.length - x.1) (0, none, 0, []) ⟨Nat.zero_le _, rfl⟩ (by repeat (first | exact EnvSub.nil _ | refine EnvSub.cons rfl ?_)) (Ent.nilSl encAm 2 tAm) ?_
  rintro ⟨i, ad1, cap1, out⟩ ⟨hi, ho⟩
  dsimp only at hi ho ⊢
  have hol := S.ams_len a i
  by_cases hlt : i < S.its.length
  case neg =>
    have hie : i = S.its.length := by omega
    subst hie
    by_cases h0 : out.length = 0
    · have h0' : out = [] := List.eq_nil_of_length_eq_zero h0
      rw [h0'] at ho
      repeat (first | refine runB ?_ | intro _ | ((with_reducible apply GO.atPlain); refine GO.callIn en35 Tryz.func35 rfl rfl rfl rfl (by simp) (by decide) ?_) | ((with_reducible apply GPW.atEf); refine GPW.callIn en35 Tryz.func35 rfl rfl rfl rfl (by simp) (by decide) ?_) | ((with_reducible apply GO.atPlain); refine GO.callFnIn rfl en35 Tryz.func35 rfl rfl rfl rfl (by simp) (by decide) ?_) | ((with_reducible apply GPW.atEf); refine GPW.callFnIn rfl en35 Tryz.func35 rfl rfl rfl rfl (by simp) (by decide) ?_) | ((with_reducible apply GO.atPlain); refine GO.callIn en39 Tryz.func39 rfl rfl rfl rfl (by simp) (by decide) ?_) | ((with_reducible apply GPW.atEf); refine GPW.callIn en39 Tryz.func39 rfl rfl rfl rfl (by simp) (by decide) ?_) | ((with_reducible apply GO.atPlain); refine GO.callFnIn rfl en39 Tryz.func39 rfl rfl rfl rfl (by simp) (by decide) ?_) | ((with_reducible apply GPW.atEf); refine GPW.callFnIn rfl en39 Tryz.func39 rfl rfl rfl rfl (by simp) (by decide) ?_) | ((with_reducible apply KX.atIn); first | refine KX.in0 (.inl rfl) ?_ | refine KX.in0 (.inr rfl) ?_ | refine KX.in1 (.inl rfl) rfl ?_ | refine KX.in2 (.inl rfl) rfl rfl ?_ | refine KX.in3 (.inl rfl) rfl rfl rfl ?_ | refine KX.inC (.inl rfl) rfl (by rfl) ?_ | refine KX.inC1 (.inl rfl) rfl (by rfl) rfl ?_))
      exact KX.ends (by first | exact ResOk.tmps rfl | (repeat (first | exact ResOk.nil | apply ResOk.tmp rfl | apply ResOk.cell rfl (by rfl) | apply ResOk.cell1 rfl))) Ent.drop (.inr (.inl ⟨hbad, ho.symm, rfl, rfl⟩))
    · repeat (first | refine runB ?_ | intro _ | ((with_reducible apply GO.atPlain); refine GO.callIn en35 Tryz.func35 rfl rfl rfl rfl (by simp) (by decide) ?_) | ((with_reducible apply GPW.atEf); refine GPW.callIn en35 Tryz.func35 rfl rfl rfl rfl (by simp) (by decide) ?_) | ((with_reducible apply GO.atPlain); refine GO.callFnIn rfl en35 Tryz.func35 rfl rfl rfl rfl (by simp) (by decide) ?_) | ((with_reducible apply GPW.atEf); refine GPW.callFnIn rfl en35 Tryz.func35 rfl rfl rfl rfl (by simp) (by decide) ?_) | ((with_reducible apply GO.atPlain); refine GO.callIn en39 Tryz.func39 rfl rfl rfl rfl (by simp) (by decide) ?_) | ((with_reducible apply GPW.atEf); refine GPW.callIn en39 Tryz.func39 rfl rfl rfl rfl (by simp) (by decide) ?_) | ((with_reducible apply GO.atPlain); refine GO.callFnIn rfl en39 Tryz.func39 rfl rfl rfl rfl (by simp) (by decide) ?_) | ((with_reducible apply GPW.atEf); refine GPW.callFnIn rfl en39 Tryz.func39 rfl rfl rfl rfl (by simp) (by decide) ?_) | ((with_reducible apply KX.atIn); first | refine KX.in0 (.inl rfl) ?_ | refine KX.in0 (.inr rfl) ?_ | refine KX.in1 (.inl rfl) rfl ?_ | refine KX.in2 (.inl rfl) rfl rfl ?_ | refine KX.in3 (.inl rfl) rfl rfl rfl ?_ | refine KX.inC (.inl rfl) rfl (by rfl) ?_ | refine KX.inC1 (.inl rfl) rfl (by rfl) rfl ?_))
      rename_i bl
      refine KX.ends (by first | exact ResOk.tmps rfl | (repeat (first | exact ResOk.nil | apply ResOk.tmp rfl | apply ResOk.cell rfl (by rfl) | apply ResOk.cell1 rfl))) ?_ (.inr (.inr ⟨hbad, fun e => h0 (by rw [ho, e]; rfl), some ⟨bl, 0, none⟩, ⟨s, a, t, a, ad1, cap1, out⟩, rfl, ⟨rfl, rfl, rfl, rfl, ho⟩, rfl⟩))
      refine (Ent.objSl (enc := encLeg) (sz := 5) (xs := [⟨s, a, t, a, ad1, cap1, out⟩]) rfl rfl (by intro y _; rfl) (by simp)).trans ?_
      refine (Ent.frz (some ⟨bl, 0, none⟩)).trans ?_
      refine (Ent.consR (Ent.frz ad1)).trans ?_
      exact Ent.refl _
  have hbl := hS.bal a (i : Int)
  have hams : S.ams a (i + 1) = S.ams a i ++ (if 0 < S.bal a i then [((i : Int), S.bal a i)] else []) := rfl
  repeat (first | refine runB ?_ | intro _ | ((with_reducible apply GO.atPlain); refine GO.callIn en35 Tryz.func35 rfl rfl rfl rfl (by simp) (by decide) ?_) | ((with_reducible apply GPW.atEf); refine GPW.callIn en35 Tryz.func35 rfl rfl rfl rfl (by simp) (by decide) ?_) | ((with_reducible apply GO.atPlain); refine GO.callFnIn rfl en35 Tryz.func35 rfl rfl rfl rfl (by simp) (by decide) ?_) | ((with_reducible apply GPW.atEf); refine GPW.callFnIn rfl en35 Tryz.func35 rfl rfl rfl rfl (by simp) (by decide) ?_) | ((with_reducible apply GO.atPlain); refine GO.callIn en39 Tryz.func39 rfl rfl rfl rfl (by simp) (by decide) ?_) | ((with_reducible apply GPW.atEf); refine GPW.callIn en39 Tryz.func39 rfl rfl rfl rfl (by simp) (by decide) ?_) | ((with_reducible apply GO.atPlain); refine GO.callFnIn rfl en39 Tryz.func39 rfl rfl rfl rfl (by simp) (by decide) ?_) | ((with_reducible apply GPW.atEf); refine GPW.callFnIn rfl en39 Tryz.func39 rfl rfl rfl rfl (by simp) (by decide) ?_) | ((with_reducible apply KX.atIn); first | refine KX.in0 (.inl rfl) ?_ | refine KX.in0 (.inr rfl) ?_ | refine KX.in1 (.inl rfl) rfl ?_ | refine KX.in2 (.inl rfl) rfl rfl ?_ | refine KX.in3 (.inl rfl) rfl rfl rfl ?_ | refine KX.inC (.inl rfl) rfl (by rfl) ?_ | refine KX.inC1 (.inl rfl) rfl (by rfl) rfl ?_))
  refine GO.ent Ent.swap ?_
  (first | ((with_reducible apply GO.atPlain); first | refine GO.ef (Ef.callAll (balance_spec b S hS a (i : Int)) rfl) (by decide) ?_ | refine GO.ef (by exact Ef.callAll (balance_spec b S hS a (i : Int)) rfl) (by decide) ?_) | ((with_reducible apply GPW.atEf); first | refine GPW.ef (Ef.callAll (balance_spec b S hS a (i : Int)) rfl) (by decide) ?_ | refine GPW.ef (by exact Ef.callAll (balance_spec b S hS a (i : Int)) rfl) (by decide) ?_))
  rintro _ _ ⟨rfl, rfl⟩
  by_cases hp : 0 < S.bal a (i : Int)
  · rw [if_pos hp] at hams
    repeat (first | refine runB ?_ | intro _ | ((with_reducible apply GO.atPlain); refine GO.callIn en35 Tryz.func35 rfl rfl rfl rfl (by simp) (by decide) ?_) | ((with_reducible apply GPW.atEf); refine GPW.callIn en35 Tryz.func35 rfl rfl rfl rfl (by simp) (by decide) ?_) | ((with_reducible apply GO.atPlain); refine GO.callFnIn rfl en35 Tryz.func35 rfl rfl rfl rfl (by simp) (by decide) ?_) | ((with_reducible apply GPW.atEf); refine GPW.callFnIn rfl en35 Tryz.func35 rfl rfl rfl rfl (by simp) (by decide) ?_) | ((with_reducible apply GO.atPlain); refine GO.callIn en39 Tryz.func39 rfl rfl rfl rfl (by simp) (by decide) ?_) | ((with_reducible apply GPW.atEf); refine GPW.callIn en39 Tryz.func39 rfl rfl rfl rfl (by simp) (by decide) ?_) | ((with_reducible apply GO.atPlain); refine GO.callFnIn rfl en39 Tryz.func39 rfl rfl rfl rfl (by simp) (by decide) ?_) | ((with_reducible apply GPW.atEf); refine GPW.callFnIn rfl en39 Tryz.func39 rfl rfl rfl rfl (by simp) (by decide) ?_) | ((with_reducible apply KX.atIn); first | refine KX.in0 (.inl rfl) ?_ | refine KX.in0 (.inr rfl) ?_ | refine KX.in1 (.inl rfl) rfl ?_ | refine KX.in2 (.inl rfl) rfl rfl ?_ | refine KX.in3 (.inl rfl) rfl rfl rfl ?_ | refine KX.inC (.inl rfl) rfl (by rfl) ?_ | refine KX.inC1 (.inl rfl) rfl (by rfl) rfl ?_))
    (first | ((with_reducible apply GO.atPlain); first | refine GO.ef (Ef.append1 (enc := encAm) (e := (((i : Int), S.bal a i) : Int × Int)) rfl rfl rfl rfl rfl (by rfl) (encAm_one _) (by rw [ho]; omega) (by rw [ho]; omega)) (by decide) ?_ | refine GO.ef (by exact Ef.append1 (enc := encAm) (e := (((i : Int), S.bal a i) : Int × Int)) rfl rfl rfl rfl rfl (by rfl) (encAm_one _) (by rw [ho]; omega) (by rw [ho]; omega)) (by decide) ?_) | ((with_reducible apply GPW.atEf); first | refine GPW.ef (Ef.append1 (enc := encAm) (e := (((i : Int), S.bal a i) : Int × Int)) rfl rfl rfl rfl rfl (by rfl) (encAm_one _) (by rw [ho]; omega) (by rw [ho]; omega)) (by decide) ?_ | refine GPW.ef (by exact Ef.append1 (enc := encAm) (e := (((i : Int), S.bal a i) : Int × Int)) rfl rfl rfl rfl rfl (by rfl) (encAm_one _) (by rw [ho]; omega) (by rw [ho]; omega)) (by decide) ?_) | ((with_reducible apply GO.atUnit); first | refine GO.efu (Ef.append1 (enc := encAm) (e := (((i : Int), S.bal a i) : Int × Int)) rfl rfl rfl rfl rfl (by rfl) (encAm_one _) (by rw [ho]; omega) (by rw [ho]; omega)) ?_ | refine GO.efu (by exact Ef.append1 (enc := encAm) (e := (((i : Int), S.bal a i) : Int × Int)) rfl rfl rfl rfl rfl (by rfl) (encAm_one _) (by rw [ho]; omega) (by rw [ho]; omega)) ?_) | ((with_reducible apply GPW.atEfu); first | refine GPW.efu (Ef.append1 (enc := encAm) (e := (((i : Int), S.bal a i) : Int × Int)) rfl rfl rfl rfl rfl (by rfl) (encAm_one _) (by rw [ho]; omega) (by rw [ho]; omega)) ?_ | refine GPW.efu (by exact Ef.append1 (enc := encAm) (e := (((i : Int), S.bal a i) : Int × Int)) rfl rfl rfl rfl rfl (by rfl) (encAm_one _) (by rw [ho]; omega) (by rw [ho]; omega)) ?_))
    rintro _ _ ⟨ad2, cap2, rfl, rfl⟩
    repeat (first | refine runB ?_ | intro _ | ((with_reducible apply GO.atPlain); refine GO.callIn en35 Tryz.func35 rfl rfl rfl rfl (by simp) (by decide) ?_) | ((with_reducible apply GPW.atEf); refine GPW.callIn en35 Tryz.func35 rfl rfl rfl rfl (by simp) (by decide) ?_) | ((with_reducible apply GO.atPlain); refine GO.callFnIn rfl en35 Tryz.func35 rfl rfl rfl rfl (by simp) (by decide) ?_) | ((with_reducible apply GPW.atEf); refine GPW.callFnIn rfl en35 Tryz.func35 rfl rfl rfl rfl (by simp) (by decide) ?_) | ((with_reducible apply GO.atPlain); refine GO.callIn en39 Tryz.func39 rfl rfl rfl rfl (by simp) (by decide) ?_) | ((with_reducible apply GPW.atEf); refine GPW.callIn en39 Tryz.func39 rfl rfl rfl rfl (by simp) (by decide) ?_) | ((with_reducible apply GO.atPlain); refine GO.callFnIn rfl en39 Tryz.func39 rfl rfl rfl rfl (by simp) (by decide) ?_) | ((with_reducible apply GPW.atEf); refine GPW.callFnIn rfl en39 Tryz.func39 rfl rfl rfl rfl (by simp) (by decide) ?_) | ((with_reducible apply KX.atIn); first | refine KX.in0 (.inl rfl) ?_ | refine KX.in0 (.inr rfl) ?_ | refine KX.in1 (.inl rfl) rfl ?_ | refine KX.in2 (.inl rfl) rfl rfl ?_ | refine KX.in3 (.inl rfl) rfl rfl rfl ?_ | refine KX.inC (.inl rfl) rfl (by rfl) ?_ | refine KX.inC1 (.inl rfl) rfl (by rfl) rfl ?_))
    refine ⟨(i + 1, ad2, cap2, out ++ [((i : Int), S.bal a i)]), ⟨by dsimp only; omega, ?_⟩, by dsimp only; omega, ?_, ?_⟩
    · dsimp only; rw [hams, ho]
    · dsimp only
      rw [show ((i + 1 : Nat) : Int) = (i : Int) + 1 by omega]
      exact (by repeat (first | exact EnvSub.nil _ | refine EnvSub.cons rfl ?_))
    · repeat (first | exact Ent.refl _ | exact Ent.nil _ | refine Ent.take' ?_ | refine Ent.trans Ent.drop ?_)
  · rw [if_neg hp, List.append_nil] at hams
    repeat (first | refine runB ?_ | intro _ | ((with_reducible apply GO.atPlain); refine GO.callIn en35 Tryz.func35 rfl rfl rfl rfl (by simp) (by decide) ?_) | ((with_reducible apply GPW.atEf); refine GPW.callIn en35 Tryz.func35 rfl rfl rfl rfl (by simp) (by decide) ?_) | ((with_reducible apply GO.atPlain); refine GO.callFnIn rfl en35 Tryz.func35 rfl rfl rfl rfl (by simp) (by decide) ?_) | ((with_reducible apply GPW.atEf); refine GPW.callFnIn rfl en35 Tryz.func35 rfl rfl rfl rfl (by simp) (by decide) ?_) | ((with_reducible apply GO.atPlain); refine GO.callIn en39 Tryz.func39 rfl rfl rfl rfl (by simp) (by decide) ?_) | ((with_reducible apply GPW.atEf); refine GPW.callIn en39 Tryz.func39 rfl rfl rfl rfl (by simp) (by decide) ?_) | ((with_reducible apply GO.atPlain); refine GO.callFnIn rfl en39 Tryz.func39 rfl rfl rfl rfl (by simp) (by decide) ?_) | ((with_reducible apply GPW.atEf); refine GPW.callFnIn rfl en39 Tryz.func39 rfl rfl rfl rfl (by simp) (by decide) ?_) | ((with_reducible apply KX.atIn); first | refine KX.in0 (.inl rfl) ?_ | refine KX.in0 (.inr rfl) ?_ | refine KX.in1 (.inl rfl) rfl ?_ | refine KX.in2 (.inl rfl) rfl rfl ?_ | refine KX.in3 (.inl rfl) rfl rfl rfl ?_ | refine KX.inC (.inl rfl) rfl (by rfl) ?_ | refine KX.inC1 (.inl rfl) rfl (by rfl) rfl ?_))
    refine ⟨(i + 1, ad1, cap1, out), ⟨by dsimp only; omega, ?_⟩, by dsimp only; omega, ?_, ?_⟩
    · dsimp only; rw [hams, ho]
    · dsimp only
      rw [show ((i + 1 : Nat) : Int) = (i : Int) + 1 by omega]
      exact (by repeat (first | exact EnvSub.nil _ | refine EnvSub.cons rfl ?_))
    · repeat (first | exact Ent.refl _ | exact Ent.nil _ | refine Ent.take' ?_ | refine Ent.trans Ent.drop ?_)
end Go.Proofs.YtclgjkeeaopppaaGreatDoor
