/- Contracts of package channel: cloning, sending. -/
import Derived.Test.YtnpienjfapjjoaaC0
namespace Go.Proofs.Ytnpienjfapjjoaa
open Go.V
attribute [local irreducible] G GO GP GPW GPK Ev Ef Ent CB GB

abbrev Bytes := List Int
/-- A message: where it lies, and its bytes. -/
structure Msg where
  ad : Option Addr
  cap : Nat
  bs : Bytes
  deriving Inhabited
def Msg.v (m : Msg) : Value := .slice m.ad m.bs.length m.cap
def encM (m : Msg) : List Value := [.slice m.ad m.bs.length m.cap]
abbrev msgP (m : Msg) : HP := isl (encI .u8) 1 m.ad m.bs
theorem msgP_m (m : Msg) : PersM (msgP m) := isl_persM _ _ _ _
abbrev tB : Nat := 31
abbrev tU8 : Nat := 5
abbrev tEnd : Nat := 85

structure EndS where
  window : Int
  sent : Int
  waiting : List Bytes
  delivered : Int
  held : List (Int × Bytes)
  owing : Bool
structure EndX where
  ad : Option Addr
  cap : Nat
  mb : Nat
  ms : List Msg
  hs : List (Int × Msg)
def endAtoms (b : Nat) (E : EndS) (x : EndX) : List HP :=
  [hpure (x.ms.map (·.bs) = E.waiting ∧ x.hs.map (fun p => (p.1, p.2.bs)) = E.held),
   obj b 85 [.int .i64 E.window, .int .i64 E.sent, .slice x.ad x.ms.length x.cap, .int .i64 E.delivered, .map (some x.mb), .bool E.owing],
   osl encM 1 31 x.ad x.cap x.ms, omap Msg.v x.mb x.hs, allP msgP x.ms, allP (fun p : Int × Msg => msgP p.2) x.hs]
/-- Variable b is an end in state E. -/
def EndR (b : Nat) (E : EndS) : HP := hex fun x => hstars (endAtoms b E x)

/-- The same, spelt out, before other assertions. -/
abbrev endL (b : Nat) (E : EndS) (x : EndX) (L : List HP) : List HP :=
  obj b 85 [.int .i64 E.window, .int .i64 E.sent, .slice x.ad x.ms.length x.cap, .int .i64 E.delivered, .map (some x.mb), .bool E.owing] ::
  osl encM 1 31 x.ad x.cap x.ms :: omap Msg.v x.mb x.hs :: allP msgP x.ms :: allP (fun p : Int × Msg => msgP p.2) x.hs :: L

theorem endClose {b : Nat} {E : EndS} {L : List HP} (x : EndX) (h : x.ms.map (·.bs) = E.waiting ∧ x.hs.map (fun p => (p.1, p.2.bs)) = E.held) : Ent (endL b E x L) (EndR b E :: L) :=
  Ent.closeX (f := endAtoms b E) x (Ent.pure h (Ent.refl _))

theorem cloneB_spec {L : List HP} (ad : Option Addr) (n c : Nat) (xs : Bytes) [Rds L ad Int (encI .u8) 1 xs] (hn : n = xs.length) (hb : n ≤ 1000000000) :
    Tri Try.prog 42 #[.slice ad n c] L (fun v L' => ∃ ad' cap', v = .slice ad' xs.length cap' ∧ L' = osl (encI .u8) 1 5 ad' cap' xs :: L) := by
  refine Tri.body (args := [.slice ad n c]) 8 en42 Try.func42 rfl rfl rfl (by simp) ?_
  repeat' (first | refine run ?_ | intro _ | with_reducible refine CB.dec (fun _ => ?_) (fun _ => ?_) | with_reducible refine GB.dec (fun _ => ?_) (fun _ => ?_) | with_reducible refine CB.bool (fun _ => ?_) (fun _ => ?_) | with_reducible refine GB.bool (fun _ => ?_) (fun _ => ?_))
  · have h : ad = none := by assumption
    subst h
    refine KX.fact (.inl rfl) (rds_nil (L := L) (xs := xs)) ?_
    intro hx
    subst hx
    refine KX.ends (by first | exact ResOk.tmps rfl | (repeat (first | exact ResOk.nil | refine ResOk.tmp rfl ?_ | refine ResOk.cell rfl (by rfl) ?_ | refine ResOk.cell1 rfl ?_))) (Ent.nilSl (encI .u8) 1 5) ⟨_, _, rfl, rfl⟩
  · refine GO.ent (Ent.objSl (enc := encI .u8) (sz := 1) (xs := []) rfl rfl (by simp) (by simp)) ?_
    (first | ((with_reducible apply GO.atPlain); first | refine GO.ef (Ef.appendS rfl rfl rfl rfl hn (fun e _ => encI_one _ e) (by simp; omega) (by simp; omega)) (by decide) ?_ | refine GO.ef (by exact Ef.appendS rfl rfl rfl rfl hn (fun e _ => encI_one _ e) (by simp; omega) (by simp; omega)) (by decide) ?_) | ((with_reducible apply GPW.atEf); first | refine GPW.ef (Ef.appendS rfl rfl rfl rfl hn (fun e _ => encI_one _ e) (by simp; omega) (by simp; omega)) (by decide) ?_ | refine GPW.ef (by exact Ef.appendS rfl rfl rfl rfl hn (fun e _ => encI_one _ e) (by simp; omega) (by simp; omega)) (by decide) ?_) | ((with_reducible apply GO.atUnit); first | refine GO.efu (Ef.appendS rfl rfl rfl rfl hn (fun e _ => encI_one _ e) (by simp; omega) (by simp; omega)) ?_ | refine GO.efu (by exact Ef.appendS rfl rfl rfl rfl hn (fun e _ => encI_one _ e) (by simp; omega) (by simp; omega)) ?_) | ((with_reducible apply GPW.atEfu); first | refine GPW.efu (Ef.appendS rfl rfl rfl rfl hn (fun e _ => encI_one _ e) (by simp; omega) (by simp; omega)) ?_ | refine GPW.efu (by exact Ef.appendS rfl rfl rfl rfl hn (fun e _ => encI_one _ e) (by simp; omega) (by simp; omega)) ?_))
    rintro _ _ ⟨ad', cap', rfl, rfl⟩
    repeat (first | refine run ?_ | intro _)
    refine KX.ends (by first | exact ResOk.tmps rfl | (repeat (first | exact ResOk.nil | refine ResOk.tmp rfl ?_ | refine ResOk.cell rfl (by rfl) ?_ | refine ResOk.cell1 rfl ?_))) (Ent.refl _) ⟨ad', cap', rfl, rfl⟩

theorem encM_one (m : Msg) : ∀ u ∈ encM m, u.oneCell' = true := by simp [encM, Value.oneCell']
theorem cloneM_spec {L : List HP} (ad : Option Addr) (n c : Nat) (xs : List Msg) [Rds L ad Msg encM 1 xs] (hn : n = xs.length) (hb : n ≤ 1000000000) :
    Tri Try.prog 44 #[.slice ad n c] L (fun v L' => ∃ ad' cap', v = .slice ad' xs.length cap' ∧ L' = osl encM 1 31 ad' cap' xs :: L) := by
  refine Tri.body (args := [.slice ad n c]) 8 en44 Try.func44 rfl rfl rfl (by simp) ?_
  repeat' (first | refine run ?_ | intro _ | with_reducible refine CB.dec (fun _ => ?_) (fun _ => ?_) | with_reducible refine GB.dec (fun _ => ?_) (fun _ => ?_) | with_reducible refine CB.bool (fun _ => ?_) (fun _ => ?_) | with_reducible refine GB.bool (fun _ => ?_) (fun _ => ?_))
  · have h : ad = none := by assumption
    subst h
    refine KX.fact (.inl rfl) (rds_nil (L := L) (xs := xs)) ?_
    intro hx
    subst hx
    refine KX.ends (by first | exact ResOk.tmps rfl | (repeat (first | exact ResOk.nil | refine ResOk.tmp rfl ?_ | refine ResOk.cell rfl (by rfl) ?_ | refine ResOk.cell1 rfl ?_))) (Ent.nilSl encM 1 31) ⟨_, _, rfl, rfl⟩
  · refine GO.ent (Ent.objSl (enc := encM) (sz := 1) (xs := []) rfl rfl (by simp) (by simp)) ?_
    (first | ((with_reducible apply GO.atPlain); first | refine GO.ef (Ef.appendS rfl rfl rfl rfl hn (fun e _ => encM_one e) (by simp; omega) (by simp; omega)) (by decide) ?_ | refine GO.ef (by exact Ef.appendS rfl rfl rfl rfl hn (fun e _ => encM_one e) (by simp; omega) (by simp; omega)) (by decide) ?_) | ((with_reducible apply GPW.atEf); first | refine GPW.ef (Ef.appendS rfl rfl rfl rfl hn (fun e _ => encM_one e) (by simp; omega) (by simp; omega)) (by decide) ?_ | refine GPW.ef (by exact Ef.appendS rfl rfl rfl rfl hn (fun e _ => encM_one e) (by simp; omega) (by simp; omega)) (by decide) ?_) | ((with_reducible apply GO.atUnit); first | refine GO.efu (Ef.appendS rfl rfl rfl rfl hn (fun e _ => encM_one e) (by simp; omega) (by simp; omega)) ?_ | refine GO.efu (by exact Ef.appendS rfl rfl rfl rfl hn (fun e _ => encM_one e) (by simp; omega) (by simp; omega)) ?_) | ((with_reducible apply GPW.atEfu); first | refine GPW.efu (Ef.appendS rfl rfl rfl rfl hn (fun e _ => encM_one e) (by simp; omega) (by simp; omega)) ?_ | refine GPW.efu (by exact Ef.appendS rfl rfl rfl rfl hn (fun e _ => encM_one e) (by simp; omega) (by simp; omega)) ?_))
    rintro _ _ ⟨ad', cap', rfl, rfl⟩
    repeat (first | refine run ?_ | intro _)
    refine KX.ends (by first | exact ResOk.tmps rfl | (repeat (first | exact ResOk.nil | refine ResOk.tmp rfl ?_ | refine ResOk.cell rfl (by rfl) ?_ | refine ResOk.cell1 rfl ?_))) (Ent.refl _) ⟨ad', cap', rfl, rfl⟩

def EndS.send (E : EndS) (xs : Bytes) : EndS := { E with waiting := E.waiting ++ [xs], sent := E.sent + 1 }
/-- What holds of the numbers of an end. -/
structure EndS.Ok (E : EndS) : Prop where
  win : 1 ≤ E.window ∧ E.window ≤ 16
  sent : (E.waiting.length : Int) ≤ E.sent ∧ E.sent ≤ 1000000000
  wait : E.waiting.length ≤ 1000
  del : 0 ≤ E.delivered ∧ E.delivered + E.held.length ≤ 1000000000

abbrev plC1_13_3 : List Stp := [.ev 0, .ev 1, .ev 2, .ev 3, .ev 4, .ev 5, .ef 6, .ef 7, .ef 8, .ev 9, .ev 10, .ef 11]
theorem send_spec {L : List HP} (b : Nat) (E : EndS) (ad : Option Addr) (n c : Nat) (xs : Bytes) [Rds L ad Int (encI .u8) 1 xs] (hn : n = xs.length) (hE : E.Ok) (hx : n ≤ 65536) (hw : E.waiting.length < 1000) :
    Tri Try.prog 13 #[.pointer (some ⟨b, 0, none⟩), .slice ad n c] (EndR b E :: L) (fun v L' => v = .int .i64 0 ∧ L' = EndR b (E.send xs) :: L) := by
  refine Tri.body (args := [.pointer (some ⟨b, 0, none⟩), .slice ad n c]) 34 en13 Try.func13 rfl rfl rfl (by simp) ?_
  refine G.openX (f := endAtoms b E) ?_
  intro x
  simp only [endAtoms, List.cons_append, List.nil_append]
  refine G.pureE ?_
  rintro ⟨hms, hhs⟩
  have hlen : x.ms.length = E.waiting.length := by rw [← hms]; simp
  have h1 := hE.sent
  repeat (first | refine run ?_ | intro _ | ((with_reducible apply G.atDraw); first | refine G.draw (id := 3) plC1_13_3 mixed (by kernel_rfl) ?_))
  (first | ((with_reducible apply GO.atPlain); first | refine GO.ef (Ef.callAll (cloneB_spec ad n c xs hn (by omega)) rfl) (by decide) ?_ | refine GO.ef (by exact Ef.callAll (cloneB_spec ad n c xs hn (by omega)) rfl) (by decide) ?_) | ((with_reducible apply GPW.atEf); first | refine GPW.ef (Ef.callAll (cloneB_spec ad n c xs hn (by omega)) rfl) (by decide) ?_ | refine GPW.ef (by exact Ef.callAll (cloneB_spec ad n c xs hn (by omega)) rfl) (by decide) ?_))
  rintro _ _ ⟨ad1, cap1, rfl, rfl⟩
  repeat (first | refine run ?_ | intro _ | ((with_reducible apply G.atDraw); first | refine G.draw (id := 3) plC1_13_3 mixed (by kernel_rfl) ?_))
  (first | ((with_reducible apply GO.atPlain); first | refine GO.ef (Ef.append1 (e := (⟨ad1, cap1, xs⟩ : Msg)) rfl rfl rfl rfl rfl (by rfl) (encM_one _) (by omega) (by omega)) (by decide) ?_ | refine GO.ef (by exact Ef.append1 (e := (⟨ad1, cap1, xs⟩ : Msg)) rfl rfl rfl rfl rfl (by rfl) (encM_one _) (by omega) (by omega)) (by decide) ?_) | ((with_reducible apply GPW.atEf); first | refine GPW.ef (Ef.append1 (e := (⟨ad1, cap1, xs⟩ : Msg)) rfl rfl rfl rfl rfl (by rfl) (encM_one _) (by omega) (by omega)) (by decide) ?_ | refine GPW.ef (by exact Ef.append1 (e := (⟨ad1, cap1, xs⟩ : Msg)) rfl rfl rfl rfl rfl (by rfl) (encM_one _) (by omega) (by omega)) (by decide) ?_) | ((with_reducible apply GO.atUnit); first | refine GO.efu (Ef.append1 (e := (⟨ad1, cap1, xs⟩ : Msg)) rfl rfl rfl rfl rfl (by rfl) (encM_one _) (by omega) (by omega)) ?_ | refine GO.efu (by exact Ef.append1 (e := (⟨ad1, cap1, xs⟩ : Msg)) rfl rfl rfl rfl rfl (by rfl) (encM_one _) (by omega) (by omega)) ?_) | ((with_reducible apply GPW.atEfu); first | refine GPW.efu (Ef.append1 (e := (⟨ad1, cap1, xs⟩ : Msg)) rfl rfl rfl rfl rfl (by rfl) (encM_one _) (by omega) (by omega)) ?_ | refine GPW.efu (by exact Ef.append1 (e := (⟨ad1, cap1, xs⟩ : Msg)) rfl rfl rfl rfl rfl (by rfl) (encM_one _) (by omega) (by omega)) ?_))
  rintro _ _ ⟨ad2, cap2, rfl, rfl⟩
  repeat (first | refine run ?_ | intro _ | ((with_reducible apply G.atDraw); first | refine G.draw (id := 3) plC1_13_3 mixed (by kernel_rfl) ?_))
  refine KX.ends (by first | exact ResOk.tmps rfl | (repeat (first | exact ResOk.nil | refine ResOk.tmp rfl ?_ | refine ResOk.cell rfl (by rfl) ?_ | refine ResOk.cell1 rfl ?_))) ?_ ⟨rfl, rfl⟩
  refine (Ent.frz ad1).trans ?_
  refine (Ent.allP_one (f := msgP) (x := ⟨ad1, cap1, xs⟩) msgP_m).trans ?_
  refine (Ent.at (A := allP msgP x.ms) (Ent.allP_app msgP_m)).trans ?_
  refine Ent.closeX ⟨ad2, cap2, x.mb, x.ms ++ [⟨ad1, cap1, xs⟩], x.hs⟩ ?_
  simp only [endAtoms, EndS.send, List.cons_append, List.nil_append]
  refine Ent.pure ⟨by simp [hms], hhs⟩ ?_
  repeat (first | exact Ent.refl _ | exact Ent.nil _ | refine Ent.take' ?_ | refine Ent.trans Ent.drop ?_)
end Go.Proofs.Ytnpienjfapjjoaa
