/- Contracts of the model of package channel. -/
import Derived.Test.YtnpienjfapjjoaaC8
namespace Go.Proofs.Ytnpienjfapjjoaa
open Go.V

abbrev tRP : Nat := 40
def encH (p : Int × Msg) : List Value := [.int .i64 p.1, .slice p.2.ad p.2.bs.length p.2.cap]
theorem encH_one (p : Int × Msg) : ∀ u ∈ encH p, u.oneCell' = true := by simp [encH, Value.oneCell']
structure RefX where
  ad : Option Addr
  cap : Nat
  ms : List Msg
  had : Option Addr
  hcap : Nat
  hs : List (Int × Msg)
abbrev refCells (msgs : List Bytes) (E : EndS) (x : RefX) : List Value := [.int .i64 E.window, .slice x.ad x.ms.length x.cap, .int .i64 ((msgs.length : Int) - E.waiting.length), .int .i64 E.delivered, .slice x.had x.hs.length x.hcap, .bool E.owing]
abbrev refOk (msgs : List Bytes) (E : EndS) (x : RefX) : Prop := x.ms.map (·.bs) = msgs ∧ x.hs.map (fun p => (p.1, p.2.bs)) = E.held
abbrev refL (b : Nat) (msgs : List Bytes) (E : EndS) (x : RefX) (L : List HP) : List HP :=
  obj b 50 (refCells msgs E x) :: osl encM 1 31 x.ad x.cap x.ms :: osl encH 2 92 x.had x.hcap x.hs :: allP msgP x.ms :: allP (fun p : Int × Msg => msgP p.2) x.hs :: L
def refAtoms (b : Nat) (msgs : List Bytes) (E : EndS) (x : RefX) : List HP := hpure (refOk msgs E x) :: refL b msgs E x []
/-- Variable b is a model of an end that has sent msgs and is in state E. -/
def RefR (b : Nat) (msgs : List Bytes) (E : EndS) : HP := hex fun x => hstars (refAtoms b msgs E x)
theorem refClose {b : Nat} {msgs : List Bytes} {E : EndS} {L : List HP} (x : RefX) (h : refOk msgs E x) : Ent (refL b msgs E x L) (RefR b msgs E :: L) :=
  Ent.closeX (f := refAtoms b msgs E) x (Ent.pure h (Ent.refl _))
/-- The state fits what was sent. -/
structure Fit (msgs : List Bytes) (E : EndS) : Prop where
  sent : E.sent = msgs.length
  le : E.waiting.length ≤ msgs.length
  wait : E.waiting = msgs.drop (msgs.length - E.waiting.length)
/-- What is held: each number once, and not the next. -/
structure HeldOk (E : EndS) : Prop where
  nd : (E.held.map (·.1)).Nodup
  next : E.held.lookup (E.delivered + 1) = none
def findI (hs : List (Int × Msg)) (s : Int) : Int := match hs.findIdx? (fun p => p.1 == s) with
  | some j => j
  | none => -1
theorem findI_some {hs : List (Int × Msg)} {s : Int} {j : Nat} (h : hs.findIdx? (fun p => p.1 == s) = some j) : findI hs s = j := by simp [findI, h]
theorem findI_none {hs : List (Int × Msg)} {s : Int} (h : hs.findIdx? (fun p => p.1 == s) = none) : findI hs s = -1 := by simp [findI, h]
theorem lookup_of_find {hs : List (Int × Msg)} {s : Int} : (hs.map (fun p => (p.1, p.2.bs))).lookup s = (hs.findIdx? (fun p => p.1 == s)).bind (fun j => hs[j]?.map (·.2.bs)) := by
  rw [lookup_map (fun m : Msg => m.bs), ← lookup_of_idx]
  cases hs.findIdx? (fun p => p.1 == s) with
  | none => rfl
  | some j => simp [Function.comp_def]

attribute [local irreducible] G GO GP GPW GPK Ev Ef Ent CB GB validB
theorem rnew_spec (n : Int) (h1 : 1 ≤ n) (h2 : n ≤ 16) :
    Tri Try.prog 11 #[.int .i64 n] [] (fun v L => ∃ b, v = .tuple #[.pointer (some ⟨b, 0, none⟩), .bool true] ∧ L = [RefR b [] (EndS.new n)]) := by
  refine Tri.body (args := [.int .i64 n]) 13 en11 Try.func11 rfl rfl rfl (by simp) ?_
  repeat (first | refine run ?_ | intro _)
  rename_i b
  refine KX.ends (by first | exact ResOk.tmps rfl | (repeat (first | exact ResOk.nil | refine ResOk.tmp rfl ?_ | refine ResOk.cell rfl (by rfl) ?_ | refine ResOk.cell1 rfl ?_))) ?_ ⟨b, by simp [resV, dB_pos h2], rfl⟩
  refine Ent.trans ?_ (refClose ⟨none, 0, [], none, 0, []⟩ ⟨rfl, rfl⟩)
  refine (Ent.nilSl encM 1 31).trans ((Ent.nilSl encH 2 92).trans ((Ent.allP_nil msgP).trans ((Ent.allP_nil (fun p : Int × Msg => msgP p.2)).trans ?_)))
  simp only [refL, refCells, EndS.new, List.length_nil, Int.sub_self, show ((0 : Nat) : Int) - ((0 : Nat) : Int) = 0 from rfl]
  repeat (first | exact Ent.refl _ | exact Ent.nil _ | refine Ent.take' ?_ | refine Ent.trans Ent.drop ?_)
abbrev plC14_14_1 : List Stp := [.ev 0, .ev 1, .ev 2, .ev 3, .ev 4, .ev 5, .ev 6, .ev 7, .ev 8, .ev 9, .ev 10, .ev 11, .ev 12, .ev 13, .ev 14, .ev 15]
theorem rsend_spec {L : List HP} (b : Nat) (msgs : List Bytes) (E : EndS) (m : Msg) (hE : E.Ok) (hF : Fit msgs E) (hx : m.bs.length ≤ 65536) (hw : E.waiting.length < 1000) :
    Tri Try.prog 14 #[.pointer (some ⟨b, 0, none⟩), .slice m.ad m.bs.length m.cap] (RefR b msgs E :: msgP m :: L) (fun v L' => v = .int .i64 0 ∧ L' = RefR b (msgs ++ [m.bs]) (E.send m.bs) :: msgP m :: L) := by
  refine Tri.body (args := [.pointer (some ⟨b, 0, none⟩), .slice m.ad m.bs.length m.cap]) 31 en14 Try.func14 rfl rfl rfl (by simp) ?_
  refine G.openX (f := refAtoms b msgs E) ?_
  intro x
  simp only [refAtoms, List.cons_append, List.nil_append]
  refine G.pureE ?_
  rintro ⟨hms, hhs⟩
  have hlen : x.ms.length = msgs.length := by rw [← hms]; simp
  have h1 := hE.sent
  have h2 := hF.sent
  have h3 := hF.le
  repeat (first | refine run ?_ | intro _ | ((with_reducible apply G.atDraw); first | refine G.draw (id := 1) plC14_14_1 mixed (by kernel_rfl) ?_))
  (first | ((with_reducible apply GO.atPlain); first | refine GO.ef (Ef.append1 (e := m) rfl rfl rfl rfl rfl (by rfl) (encM_one _) (by omega) (by omega)) (by decide) ?_ | refine GO.ef (by exact Ef.append1 (e := m) rfl rfl rfl rfl rfl (by rfl) (encM_one _) (by omega) (by omega)) (by decide) ?_) | ((with_reducible apply GPW.atEf); first | refine GPW.ef (Ef.append1 (e := m) rfl rfl rfl rfl rfl (by rfl) (encM_one _) (by omega) (by omega)) (by decide) ?_ | refine GPW.ef (by exact Ef.append1 (e := m) rfl rfl rfl rfl rfl (by rfl) (encM_one _) (by omega) (by omega)) (by decide) ?_) | ((with_reducible apply GO.atUnit); first | refine GO.efu (Ef.append1 (e := m) rfl rfl rfl rfl rfl (by rfl) (encM_one _) (by omega) (by omega)) ?_ | refine GO.efu (by exact Ef.append1 (e := m) rfl rfl rfl rfl rfl (by rfl) (encM_one _) (by omega) (by omega)) ?_) | ((with_reducible apply GPW.atEfu); first | refine GPW.efu (Ef.append1 (e := m) rfl rfl rfl rfl rfl (by rfl) (encM_one _) (by omega) (by omega)) ?_ | refine GPW.efu (by exact Ef.append1 (e := m) rfl rfl rfl rfl rfl (by rfl) (encM_one _) (by omega) (by omega)) ?_))
  rintro _ _ ⟨ad2, cap2, rfl, rfl⟩
  repeat (first | refine run ?_ | intro _ | ((with_reducible apply G.atDraw); first | refine G.draw (id := 1) plC14_14_1 mixed (by kernel_rfl) ?_))
  refine KX.ends (by first | exact ResOk.tmps rfl | (repeat (first | exact ResOk.nil | refine ResOk.tmp rfl ?_ | refine ResOk.cell rfl (by rfl) ?_ | refine ResOk.cell1 rfl ?_))) ?_ ⟨rfl, rfl⟩
  refine (Ent.at (A := msgP m) (Ent.dup (isl_pers _ _ _ _))).trans ?_
  refine (Ent.allP_one (f := msgP) (x := m) msgP_m).trans ?_
  refine (Ent.at (A := allP msgP x.ms) (Ent.consR (Ent.at (A := allP msgP [m]) (Ent.refl _)))).trans ?_
  refine (Ent.allP_app msgP_m).trans ?_
  refine Ent.trans ?_ (refClose ⟨ad2, cap2, x.ms ++ [m], x.had, x.hcap, x.hs⟩ ⟨by simp [hms], hhs⟩)
  have e : (((msgs ++ [m.bs]).length : Int) - ((E.send m.bs).waiting.length : Int)) = (msgs.length : Int) - E.waiting.length := by simp [EndS.send]; omega
  simp only [refL, refCells, e]
  simp only [EndS.send]
  repeat (first | exact Ent.refl _ | exact Ent.nil _ | refine Ent.take' ?_ | refine Ent.trans Ent.drop ?_)
theorem rvalid_spec (s k : Int) (ad : Option Addr) (n c : Nat) :
    Tri Try.prog 45 #[.agg #[.int .i64 s, .int .i64 k, .slice ad n c]] [] (fun v L => v = .bool (validB s k n) ∧ L = []) := by
  refine Tri.body (args := [.agg #[.int .i64 s, .int .i64 k, .slice ad n c]]) 28 en45 Try.func45 rfl rfl rfl (by simp) ?_
  repeat' (first | refine run ?_ | intro _ | with_reducible refine CB.dec (fun _ => ?_) (fun _ => ?_) | with_reducible refine GB.dec (fun _ => ?_) (fun _ => ?_) | with_reducible refine CB.bool (fun _ => ?_) (fun _ => ?_) | with_reducible refine GB.bool (fun _ => ?_) (fun _ => ?_))
  all_goals refine KX.ends (by first | exact ResOk.tmps rfl | (repeat (first | exact ResOk.nil | refine ResOk.tmp rfl ?_ | refine ResOk.cell rfl (by rfl) ?_ | refine ResOk.cell1 rfl ?_))) (Ent.nil _) ⟨?_, rfl⟩
  all_goals simp only [resV, validB, dB_eq]
  all_goals (congr 1; rw [Bool.eq_iff_iff]; simp; omega)
theorem find_spec (b : Nat) (v0 v1 v2 v3 v5 : Value) (had : Option Addr) (hcap : Nat) (hs : List (Int × Msg)) (s : Int) (hl : hs.length ≤ 1000000001) :
    Tri Try.prog 46 #[.pointer (some ⟨b, 0, none⟩), .int .i64 s] [obj b 50 [v0, v1, v2, v3, .slice had hs.length hcap, v5], osl encH 2 92 had hcap hs]
      (fun v L' => v = .int .i64 (findI hs s) ∧ L' = [obj b 50 [v0, v1, v2, v3, .slice had hs.length hcap, v5], osl encH 2 92 had hcap hs]) := by
  refine Tri.body (args := [.pointer (some ⟨b, 0, none⟩), .int .i64 s]) 26 en46 Try.func46 rfl rfl rfl (by simp) ?_
  repeat (first | ((fail_if_success (with_reducible refine G.atSS 1 ?_)); (with_reducible apply G.seq)) | refine runS ?_ | intro _)
  refine G.join (α := Unit) (fun _ => hs.findIdx? (fun p => p.1 == s) = none) (fun _ => []) (fun _ => [obj b 50 [v0, v1, v2, v3, .slice had hs.length hcap, v5], osl encH 2 92 had hcap hs]) ?_ ?_
  · repeat (first | refine run ?_ | intro _)
    refine G.loop (α := Int) (fun i => 0 ≤ i ∧ i ≤ hs.length ∧ ∀ j, j < i.toNat → (hs[j]!).1 ≠ s) (fun i => [(0, .pointer (some ⟨b, 0, none⟩)), (1, .int .i64 s), (5, .int .i64 i)]) (fun _ => [obj b 50 [v0, v1, v2, v3, .slice had hs.length hcap, v5], osl encH 2 92 had hcap hs]) (fun i => (hs.length - i).toNat) 0 ⟨by omega, by omega, by simp⟩ (by repeat (first | exact EnvSub.nil _ | refine EnvSub.cons rfl ?_)) (Ent.refl _) ?_
    rintro i ⟨hi0, hi1, hi2⟩
    repeat (first | refine run ?_ | intro _)
    (first | with_reducible refine CB.dec (fun _ => ?_) (fun _ => ?_) | with_reducible refine GB.dec (fun _ => ?_) (fun _ => ?_) | with_reducible refine CB.bool (fun _ => ?_) (fun _ => ?_) | with_reducible refine GB.bool (fun _ => ?_) (fun _ => ?_))
    case refine_2 =>
      repeat (first | refine run ?_ | intro _)
      refine ⟨(), ?_, (by repeat (first | exact EnvSub.nil _ | refine EnvSub.cons rfl ?_)), Ent.refl _⟩
      rw [List.findIdx?_eq_none_iff]
      intro p hp
      obtain ⟨j, hj, rfl⟩ := List.getElem_of_mem hp
      have := hi2 j (by omega)
      rw [List.getElem!_eq_getElem?_getD, List.getElem?_eq_getElem hj] at this
      simpa using this
    rename_i hi3
    repeat (first | refine run ?_ | intro _)
    (first | with_reducible refine CB.dec (fun _ => ?_) (fun _ => ?_) | with_reducible refine GB.dec (fun _ => ?_) (fun _ => ?_) | with_reducible refine CB.bool (fun _ => ?_) (fun _ => ?_) | with_reducible refine GB.bool (fun _ => ?_) (fun _ => ?_))
    · rename_i he
      repeat (first | refine run ?_ | intro _)
      refine KX.ends (by first | exact ResOk.tmps rfl | (repeat (first | exact ResOk.nil | refine ResOk.tmp rfl ?_ | refine ResOk.cell rfl (by rfl) ?_ | refine ResOk.cell1 rfl ?_))) (Ent.refl _) ⟨?_, rfl⟩
      have hf : hs.findIdx? (fun p => p.1 == s) = some i.toNat := by
        rw [List.findIdx?_eq_some_iff_getElem]
        refine ⟨by omega, ?_, ?_⟩
        · rw [List.getElem!_eq_getElem?_getD, List.getElem?_eq_getElem (by omega)] at he
          simpa using he
        · intro j hj
          have := hi2 j hj
          rw [List.getElem!_eq_getElem?_getD, List.getElem?_eq_getElem (by omega)] at this
          simpa using this
      rw [findI_some hf]
      simp only [resV]
      congr 1
      omega
    · rename_i he
      repeat (first | refine run ?_ | intro _)
      refine ⟨i + 1, ⟨by omega, by omega, ?_⟩, by omega, (by repeat (first | exact EnvSub.nil _ | refine EnvSub.cons rfl ?_)), Ent.refl _⟩
      intro j hj
      by_cases h : j < i.toNat
      · exact hi2 j h
      · have : j = i.toNat := by omega
        subst this
        exact he
  rintro _ hf
  repeat (first | refine run ?_ | intro _)
  exact KX.ends (by first | exact ResOk.tmps rfl | (repeat (first | exact ResOk.nil | refine ResOk.tmp rfl ?_ | refine ResOk.cell rfl (by rfl) ?_ | refine ResOk.cell1 rfl ?_))) (Ent.refl _) ⟨by rw [findI_none hf]; rfl, rfl⟩
abbrev plC14_16_3 : List Stp := [.ev 0, .ev 1, .ev 2, .ev 3, .ev 4, .ev 5, .ev 6, .ev 7, .ev 8, .ev 9, .ev 10, .ev 11, .ev 12, .ev 13, .ev 14, .ev 15, .ev 16, .ev 17, .ev 18, .ev 19]
abbrev plC14_16_5 : List Stp := [.ev 0, .ev 1, .ev 2, .ev 3, .ev 4, .ev 5, .ev 6, .ev 7, .ev 8, .ev 9, .ev 10, .ev 11, .ev 12, .ev 13, .ev 14, .ef 15, .ef 16, .ev 17]
theorem rout_spec {L : List HP} (b : Nat) (msgs : List Bytes) (E : EndS) (hE : E.Ok) (hF : Fit msgs E) (hs : E.sent ≤ 1000) :
    Tri Try.prog 16 #[.pointer (some ⟨b, 0, none⟩)] (RefR b msgs E :: L) (fun v L' => ∃ ad cap ps, v = .slice ad ps.length cap ∧ ps.map Pkt.abs = E.out ∧ L' = osl encPk 3 40 ad cap ps :: allP (fun p : Pkt => msgP p.m) ps :: RefR b msgs { E with owing := false } :: L) := by
  refine Tri.body (args := [.pointer (some ⟨b, 0, none⟩)]) 69 en16 Try.func16 rfl rfl rfl (by simp) ?_
  refine G.openX (f := refAtoms b msgs E) ?_
  intro x
  simp only [refAtoms, List.cons_append, List.nil_append]
  refine G.pureE ?_
  rintro ⟨hms, hhs⟩
  have hlen : x.ms.length = msgs.length := by rw [← hms]; simp
  have h1 := hE.win
  have h2 := hF.sent
  have h3 := hF.le
  have h4 := hE.wait
  obtain ⟨n, hn⟩ : ∃ n : Nat, n = min E.window.toNat E.waiting.length := ⟨_, rfl⟩
  obtain ⟨a, ha⟩ : ∃ a : Nat, a = msgs.length - E.waiting.length := ⟨_, rfl⟩
  have ha2 : (msgs.length : Int) - E.waiting.length = a := by omega
  simp only [refL, refCells, ha2]
  repeat (first | ((fail_if_success (with_reducible refine G.atSS 2 ?_)); (with_reducible apply G.seq)) | refine runS ?_ | intro _ | ((with_reducible apply G.atDraw); first | refine G.draw (id := 3) plC14_16_3 mixed (by kernel_rfl) ?_ | refine G.draw (id := 5) plC14_16_5 mixed (by kernel_rfl) ?_))
  refine G.join (α := Option Addr × Nat × List Pkt) (fun g => g.2.2.map Pkt.abs = E.firsts n) (fun g => [(0, .pointer (some ⟨b, 0, none⟩)), (3, .slice g.1 g.2.2.length g.2.1)])
    (fun g => osl encPk 3 40 g.1 g.2.1 g.2.2 :: allP (fun p : Pkt => msgP p.m) g.2.2 :: refL b msgs E x L) ?_ ?_
  · repeat (first | refine run ?_ | intro _ | ((with_reducible apply G.atDraw); first | refine G.draw (id := 3) plC14_16_3 mixed (by kernel_rfl) ?_ | refine G.draw (id := 5) plC14_16_5 mixed (by kernel_rfl) ?_))
    refine G.loop (α := Int × Option Addr × Nat × List Pkt) (fun g => a ≤ g.1 ∧ g.1 ≤ a + n ∧ g.2.2.2.map Pkt.abs = E.firsts (g.1.toNat - a))
      (fun g => [(0, .pointer (some ⟨b, 0, none⟩)), (3, .slice g.2.1 g.2.2.2.length g.2.2.1), (4, .int .i64 g.1)])
      (fun g => osl encPk 3 40 g.2.1 g.2.2.1 g.2.2.2 :: allP (fun p : Pkt => msgP p.m) g.2.2.2 :: refL b msgs E x L) (fun g => a + n - g.1.toNat) (a, none, 0, [])
      ⟨by simp only []; omega, by simp only []; omega, by simp [EndS.firsts]⟩ (by repeat (first | exact EnvSub.nil _ | refine EnvSub.cons rfl ?_)) ?_ ?_
    · simp only [refL, refCells, ha2]
      exact (Ent.allP_nil (fun p : Pkt => msgP p.m)).trans (Ent.nilSl encPk 3 _)
    rintro ⟨i, ad, cap, ps⟩ ⟨hi0, hi1, hps⟩
    simp only [refL, refCells, ha2] at hi0 hi1 hps ⊢
    have hpl : ps.length ≤ 16 := by
      have := congrArg List.length hps
      simp [EndS.firsts] at this
      omega
    by_cases hc : i < a + n
    case neg =>
      have hi : i.toNat - a = n := by omega
      rw [hi] at hps
      by_cases hc2 : i < x.ms.length
      · repeat (first | refine run ?_ | intro _ | ((with_reducible apply G.atDraw); first | refine G.draw (id := 3) plC14_16_3 mixed (by kernel_rfl) ?_ | refine G.draw (id := 5) plC14_16_5 mixed (by kernel_rfl) ?_))
        refine ⟨(ad, cap, ps), hps, (by repeat (first | exact EnvSub.nil _ | refine EnvSub.cons rfl ?_)), ?_⟩
        simp only [refL, refCells, ha2]
        repeat (first | exact Ent.refl _ | exact Ent.nil _ | refine Ent.take' ?_ | refine Ent.trans Ent.drop ?_)
      · repeat (first | refine run ?_ | intro _ | ((with_reducible apply G.atDraw); first | refine G.draw (id := 3) plC14_16_3 mixed (by kernel_rfl) ?_ | refine G.draw (id := 5) plC14_16_5 mixed (by kernel_rfl) ?_))
        refine ⟨(ad, cap, ps), hps, (by repeat (first | exact EnvSub.nil _ | refine EnvSub.cons rfl ?_)), ?_⟩
        simp only [refL, refCells, ha2]
        repeat (first | exact Ent.refl _ | exact Ent.nil _ | refine Ent.take' ?_ | refine Ent.trans Ent.drop ?_)
    have hmem : x.ms[i.toNat]! ∈ x.ms := by
      rw [List.getElem!_eq_getElem?_getD, List.getElem?_eq_getElem (by omega)]
      exact List.getElem_mem _
    repeat (first | refine run ?_ | intro _ | ((with_reducible apply G.atDraw); first | refine G.draw (id := 3) plC14_16_3 mixed (by kernel_rfl) ?_ | refine G.draw (id := 5) plC14_16_5 mixed (by kernel_rfl) ?_))
    (first | ((with_reducible apply GO.atPlain); first | refine GO.ef (Ef.append1 (e := (⟨i + 1, E.delivered, x.ms[i.toNat]!⟩ : Pkt)) rfl rfl rfl rfl rfl (by rfl) (encPk_one _) (by omega) (by omega)) (by decide) ?_ | refine GO.ef (by exact Ef.append1 (e := (⟨i + 1, E.delivered, x.ms[i.toNat]!⟩ : Pkt)) rfl rfl rfl rfl rfl (by rfl) (encPk_one _) (by omega) (by omega)) (by decide) ?_) | ((with_reducible apply GPW.atEf); first | refine GPW.ef (Ef.append1 (e := (⟨i + 1, E.delivered, x.ms[i.toNat]!⟩ : Pkt)) rfl rfl rfl rfl rfl (by rfl) (encPk_one _) (by omega) (by omega)) (by decide) ?_ | refine GPW.ef (by exact Ef.append1 (e := (⟨i + 1, E.delivered, x.ms[i.toNat]!⟩ : Pkt)) rfl rfl rfl rfl rfl (by rfl) (encPk_one _) (by omega) (by omega)) (by decide) ?_) | ((with_reducible apply GO.atUnit); first | refine GO.efu (Ef.append1 (e := (⟨i + 1, E.delivered, x.ms[i.toNat]!⟩ : Pkt)) rfl rfl rfl rfl rfl (by rfl) (encPk_one _) (by omega) (by omega)) ?_ | refine GO.efu (by exact Ef.append1 (e := (⟨i + 1, E.delivered, x.ms[i.toNat]!⟩ : Pkt)) rfl rfl rfl rfl rfl (by rfl) (encPk_one _) (by omega) (by omega)) ?_) | ((with_reducible apply GPW.atEfu); first | refine GPW.efu (Ef.append1 (e := (⟨i + 1, E.delivered, x.ms[i.toNat]!⟩ : Pkt)) rfl rfl rfl rfl rfl (by rfl) (encPk_one _) (by omega) (by omega)) ?_ | refine GPW.efu (by exact Ef.append1 (e := (⟨i + 1, E.delivered, x.ms[i.toNat]!⟩ : Pkt)) rfl rfl rfl rfl rfl (by rfl) (encPk_one _) (by omega) (by omega)) ?_))
    rintro _ _ ⟨ad2, cap2, rfl, rfl⟩
    repeat (first | refine run ?_ | intro _ | ((with_reducible apply G.atDraw); first | refine G.draw (id := 3) plC14_16_3 mixed (by kernel_rfl) ?_ | refine G.draw (id := 5) plC14_16_5 mixed (by kernel_rfl) ?_))
    refine ⟨(i + 1, ad2, cap2, ps ++ [⟨i + 1, E.delivered, x.ms[i.toNat]!⟩]), ⟨by simp only []; omega, by simp only []; omega, ?_⟩, ?_, (by repeat (first | exact EnvSub.nil _ | refine EnvSub.cons rfl ?_)), ?_⟩
    · have e2 : (x.ms[i.toNat]!).bs = E.waiting[i.toNat - a]'(by omega) := by
        have hw := hF.wait
        have e3 : E.waiting[i.toNat - a]? = (msgs.drop a)[i.toNat - a]? := by rw [hw, ← ha]
        rw [List.getElem?_eq_getElem (by omega), List.getElem?_drop, show a + (i.toNat - a) = i.toNat by omega, List.getElem?_eq_getElem (by omega)] at e3
        have e4 := Option.some.inj e3
        rw [e4]
        simp only [← hms]
        rw [List.getElem!_eq_getElem?_getD, List.getElem?_eq_getElem (by omega)]
        simp
      simp only [show (i + 1).toNat - a = i.toNat - a + 1 by omega]
      rw [firsts_succ E (i.toNat - a) (by omega), List.map_append, hps]
      have e5 : E.sent - (E.waiting.length : Int) + 1 + ((i.toNat - a : Nat) : Int) = i + 1 := by omega
      simp only [List.map_cons, List.map_nil, Pkt.abs, e2, e5]
    · simp only []
      omega
    · simp only [refL, refCells, ha2]
      refine (Ent.at (A := allP msgP x.ms) (Ent.allP_get (x := x.ms[i.toNat]!) hmem)).trans ?_
      refine (Ent.allP_one (f := fun p : Pkt => msgP p.m) (x := ⟨i + 1, E.delivered, x.ms[i.toNat]!⟩) (fun _ => msgP_m _)).trans ?_
      refine (Ent.at (A := allP (fun p : Pkt => msgP p.m) ps) (Ent.consR (Ent.at (A := allP (fun p : Pkt => msgP p.m) [⟨i + 1, E.delivered, x.ms[i.toNat]!⟩]) (Ent.refl _)))).trans ?_
      refine (Ent.allP_app (fun _ => msgP_m _)).trans ?_
      repeat (first | exact Ent.refl _ | exact Ent.nil _ | refine Ent.take' ?_ | refine Ent.trans Ent.drop ?_)
  rintro ⟨ad, cap, ps⟩ hps
  simp only [refL, refCells, ha2] at hps ⊢
  have hpn : ps.length = n := by
    have := congrArg List.length hps
    simp [EndS.firsts] at this
    omega
  repeat' (first | refine run ?_ | intro _ | ((with_reducible apply G.atDraw); first | refine G.draw (id := 3) plC14_16_3 mixed (by kernel_rfl) ?_ | refine G.draw (id := 5) plC14_16_5 mixed (by kernel_rfl) ?_) | with_reducible refine CB.dec (fun _ => ?_) (fun _ => ?_) | with_reducible refine GB.dec (fun _ => ?_) (fun _ => ?_) | with_reducible refine CB.bool (fun _ => ?_) (fun _ => ?_) | with_reducible refine GB.bool (fun _ => ?_) (fun _ => ?_))
  · have hz : n = 0 := by omega
    have ho : E.owing = true := by assumption
    have hp0 : ps = [] := List.eq_nil_of_length_eq_zero (by omega)
    subst hp0
    (first | ((with_reducible apply GO.atPlain); first | refine GO.ef (Ef.append1 (e := (⟨0, E.delivered, ⟨none, 0, []⟩⟩ : Pkt)) rfl rfl rfl rfl rfl (by rfl) (encPk_one _) (by decide) (by decide)) (by decide) ?_ | refine GO.ef (by exact Ef.append1 (e := (⟨0, E.delivered, ⟨none, 0, []⟩⟩ : Pkt)) rfl rfl rfl rfl rfl (by rfl) (encPk_one _) (by decide) (by decide)) (by decide) ?_) | ((with_reducible apply GPW.atEf); first | refine GPW.ef (Ef.append1 (e := (⟨0, E.delivered, ⟨none, 0, []⟩⟩ : Pkt)) rfl rfl rfl rfl rfl (by rfl) (encPk_one _) (by decide) (by decide)) (by decide) ?_ | refine GPW.ef (by exact Ef.append1 (e := (⟨0, E.delivered, ⟨none, 0, []⟩⟩ : Pkt)) rfl rfl rfl rfl rfl (by rfl) (encPk_one _) (by decide) (by decide)) (by decide) ?_) | ((with_reducible apply GO.atUnit); first | refine GO.efu (Ef.append1 (e := (⟨0, E.delivered, ⟨none, 0, []⟩⟩ : Pkt)) rfl rfl rfl rfl rfl (by rfl) (encPk_one _) (by decide) (by decide)) ?_ | refine GO.efu (by exact Ef.append1 (e := (⟨0, E.delivered, ⟨none, 0, []⟩⟩ : Pkt)) rfl rfl rfl rfl rfl (by rfl) (encPk_one _) (by decide) (by decide)) ?_) | ((with_reducible apply GPW.atEfu); first | refine GPW.efu (Ef.append1 (e := (⟨0, E.delivered, ⟨none, 0, []⟩⟩ : Pkt)) rfl rfl rfl rfl rfl (by rfl) (encPk_one _) (by decide) (by decide)) ?_ | refine GPW.efu (by exact Ef.append1 (e := (⟨0, E.delivered, ⟨none, 0, []⟩⟩ : Pkt)) rfl rfl rfl rfl rfl (by rfl) (encPk_one _) (by decide) (by decide)) ?_))
    rintro _ _ ⟨ad2, cap2, rfl, rfl⟩
    repeat (first | refine run ?_ | intro _ | ((with_reducible apply G.atDraw); first | refine G.draw (id := 3) plC14_16_3 mixed (by kernel_rfl) ?_ | refine G.draw (id := 5) plC14_16_5 mixed (by kernel_rfl) ?_))
    refine KX.ends (by first | exact ResOk.tmps rfl | (repeat (first | exact ResOk.nil | refine ResOk.tmp rfl ?_ | refine ResOk.cell rfl (by rfl) ?_ | refine ResOk.cell1 rfl ?_))) ?_ ⟨ad2, cap2, _, rfl, ?_, rfl⟩
    · simp only [List.nil_append]
      refine (Ent.nilIsl (encI .u8) 1 none).trans ?_
      refine (Ent.allP_one (f := fun p : Pkt => msgP p.m) (x := ⟨0, E.delivered, ⟨none, 0, []⟩⟩) (fun _ => msgP_m _)).trans ?_
      refine Ent.take' (Ent.take' (Ent.trans ?_ (refClose x ⟨hms, hhs⟩)))
      simp only [refL, refCells, ha2]
      repeat (first | exact Ent.refl _ | exact Ent.nil _ | refine Ent.take' ?_ | refine Ent.trans Ent.drop ?_)
    · simp [EndS.out, ← hn, hz, ho, Pkt.abs]
  · have hz : n = 0 := by omega
    have ho : E.owing = false := by assumption
    refine KX.ends (by first | exact ResOk.tmps rfl | (repeat (first | exact ResOk.nil | refine ResOk.tmp rfl ?_ | refine ResOk.cell rfl (by rfl) ?_ | refine ResOk.cell1 rfl ?_))) ?_ ⟨ad, cap, ps, rfl, ?_, rfl⟩
    · refine Ent.take' (Ent.take' (Ent.trans ?_ (refClose x ⟨hms, hhs⟩)))
      simp only [refL, refCells, ha2]
      repeat (first | exact Ent.refl _ | exact Ent.nil _ | refine Ent.take' ?_ | refine Ent.trans Ent.drop ?_)
    · simp [EndS.out, ← hn, hz, ho, hps, EndS.firsts]
  · refine KX.ends (by first | exact ResOk.tmps rfl | (repeat (first | exact ResOk.nil | refine ResOk.tmp rfl ?_ | refine ResOk.cell rfl (by rfl) ?_ | refine ResOk.cell1 rfl ?_))) ?_ ⟨ad, cap, ps, rfl, ?_, rfl⟩
    · refine Ent.take' (Ent.take' (Ent.trans ?_ (refClose x ⟨hms, hhs⟩)))
      simp only [refL, refCells, ha2]
      repeat (first | exact Ent.refl _ | exact Ent.nil _ | refine Ent.take' ?_ | refine Ent.trans Ent.drop ?_)
    · have hz : ¬ n = 0 := by omega
      simp [EndS.out, ← hn, hz, hps]
end Go.Proofs.Ytnpienjfapjjoaa
