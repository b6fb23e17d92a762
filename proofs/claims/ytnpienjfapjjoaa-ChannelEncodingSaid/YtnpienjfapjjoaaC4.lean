/- Contracts of package channel: a new end, sending in all cases, how many wait. -/
import Derived.Test.YtnpienjfapjjoaaC3
namespace Go.Proofs.Ytnpienjfapjjoaa
open Go.V
attribute [local irreducible] G GO GP GPW GPK Ev Ef Ent CB GB validB

def EndS.new (n : Int) : EndS := ⟨n, 0, [], 0, [], false⟩
theorem EndS.new_ok (n : Int) (h1 : 1 ≤ n) (h2 : n ≤ 16) : (EndS.new n).Ok := ⟨⟨h1, h2⟩, by simp [EndS.new], by simp [EndS.new], by simp [EndS.new]⟩
theorem new_spec (n : Int) (h1 : 1 ≤ n) (h2 : n ≤ 16) :
    Tri Try.prog 25 #[.int .i64 n] [] (fun v L => ∃ b, v = .tuple #[.pointer (some ⟨b, 0, none⟩), .int .i64 0] ∧ L = [EndR b (EndS.new n)]) := by
  refine Tri.body (args := [.int .i64 n]) 14 en25 Try.func25 rfl rfl rfl (by simp) ?_
  repeat (first | refine run ?_ | intro _)
  (first | ((with_reducible apply GO.atPlain); first | refine GO.ef (Ef.makeMap Msg.v) (by decide) ?_ | refine GO.ef (by exact Ef.makeMap Msg.v) (by decide) ?_) | ((with_reducible apply GPW.atEf); first | refine GPW.ef (Ef.makeMap Msg.v) (by decide) ?_ | refine GPW.ef (by exact Ef.makeMap Msg.v) (by decide) ?_) | ((with_reducible apply GO.atUnit); first | refine GO.efu (Ef.makeMap Msg.v) ?_ | refine GO.efu (by exact Ef.makeMap Msg.v) ?_) | ((with_reducible apply GPW.atEfu); first | refine GPW.efu (Ef.makeMap Msg.v) ?_ | refine GPW.efu (by exact Ef.makeMap Msg.v) ?_))
  rintro _ _ ⟨m, rfl, rfl⟩
  repeat (first | refine run ?_ | intro _)
  refine KX.ends (by first | exact ResOk.tmps rfl | (repeat (first | exact ResOk.nil | refine ResOk.tmp rfl ?_ | refine ResOk.cell rfl (by rfl) ?_ | refine ResOk.cell1 rfl ?_))) ?_ ⟨_, rfl, rfl⟩
  refine Ent.trans ?_ (endClose ⟨none, 0, m, [], []⟩ ⟨rfl, rfl⟩)
  refine (Ent.nilSl encM 1 31).trans ((Ent.allP_nil msgP).trans ((Ent.allP_nil (fun p : Int × Msg => msgP p.2)).trans ?_))
  simp only [EndS.new, List.length_nil]
  repeat (first | exact Ent.refl _ | exact Ent.nil _ | refine Ent.take' ?_ | refine Ent.trans Ent.drop ?_)
theorem new_err (n : Int) (h1 : ¬ (1 ≤ n ∧ n ≤ 16)) :
    Tri Try.prog 25 #[.int .i64 n] [] (fun v L => v = .tuple #[.pointer none, .int .i64 1] ∧ L = []) := by
  refine Tri.body (args := [.int .i64 n]) 14 en25 Try.func25 rfl rfl rfl (by simp) ?_
  repeat' (first | refine run ?_ | intro _ | with_reducible refine CB.dec (fun _ => ?_) (fun _ => ?_) | with_reducible refine GB.dec (fun _ => ?_) (fun _ => ?_) | with_reducible refine CB.bool (fun _ => ?_) (fun _ => ?_) | with_reducible refine GB.bool (fun _ => ?_) (fun _ => ?_))
  all_goals exact KX.ends (by first | exact ResOk.tmps rfl | (repeat (first | exact ResOk.nil | refine ResOk.tmp rfl ?_ | refine ResOk.cell rfl (by rfl) ?_ | refine ResOk.cell1 rfl ?_))) (Ent.refl _) ⟨rfl, rfl⟩
theorem waiting_spec {L : List HP} (b : Nat) (E : EndS) :
    Tri Try.prog 22 #[.pointer (some ⟨b, 0, none⟩)] (EndR b E :: L) (fun v L' => v = .int .i64 E.waiting.length ∧ L' = EndR b E :: L) := by
  refine Tri.body (args := [.pointer (some ⟨b, 0, none⟩)]) 8 en22 Try.func22 rfl rfl rfl (by simp) ?_
  refine G.openX (f := endAtoms b E) ?_
  intro x
  simp only [endAtoms, List.cons_append, List.nil_append]
  refine G.pureE ?_
  rintro ⟨hms, hhs⟩
  have hlen : x.ms.length = E.waiting.length := by rw [← hms]; simp
  repeat (first | refine run ?_ | intro _)
  exact KX.ends (by first | exact ResOk.tmps rfl | (repeat (first | exact ResOk.nil | refine ResOk.tmp rfl ?_ | refine ResOk.cell rfl (by rfl) ?_ | refine ResOk.cell1 rfl ?_))) (endClose x ⟨hms, hhs⟩) ⟨by rw [hlen]; rfl, rfl⟩
abbrev plC4_13_3 : List Stp := [.ev 0, .ev 1, .ev 2, .ev 3, .ev 4, .ev 5, .ef 6, .ef 7, .ef 8, .ev 9, .ev 10, .ef 11]
theorem send_err {L : List HP} (b : Nat) (E : EndS) (ad : Option Addr) (n c : Nat) (h : 65536 < n ∨ 1000 ≤ E.waiting.length) :
    Tri Try.prog 13 #[.pointer (some ⟨b, 0, none⟩), .slice ad n c] (EndR b E :: L) (fun v L' => v = .int .i64 4 ∧ L' = EndR b E :: L) := by
  refine Tri.body (args := [.pointer (some ⟨b, 0, none⟩), .slice ad n c]) 34 en13 Try.func13 rfl rfl rfl (by simp) ?_
  refine G.openX (f := endAtoms b E) ?_
  intro x
  simp only [endAtoms, List.cons_append, List.nil_append]
  refine G.pureE ?_
  rintro ⟨hms, hhs⟩
  have hlen : x.ms.length = E.waiting.length := by rw [← hms]; simp
  repeat' (first | refine run ?_ | intro _ | ((with_reducible apply G.atDraw); first | refine G.draw (id := 3) plC4_13_3 mixed (by kernel_rfl) ?_) | with_reducible refine CB.dec (fun _ => ?_) (fun _ => ?_) | with_reducible refine GB.dec (fun _ => ?_) (fun _ => ?_) | with_reducible refine CB.bool (fun _ => ?_) (fun _ => ?_) | with_reducible refine GB.bool (fun _ => ?_) (fun _ => ?_))
  all_goals exact KX.ends (by first | exact ResOk.tmps rfl | (repeat (first | exact ResOk.nil | refine ResOk.tmp rfl ?_ | refine ResOk.cell rfl (by rfl) ?_ | refine ResOk.cell1 rfl ?_))) (endClose x ⟨hms, hhs⟩) ⟨rfl, rfl⟩
theorem EndS.Ok.send {E : EndS} (h : E.Ok) (hs : E.sent < 1000000000) (hw : E.waiting.length < 1000) (xs : Bytes) : (E.send xs).Ok :=
  ⟨h.win, by have := h.sent; simp [EndS.send]; omega, by simp [EndS.send]; omega, h.del⟩
theorem EndS.Ok.quiet {E : EndS} (h : E.Ok) : EndS.Ok { E with owing := false } := ⟨h.win, h.sent, h.wait, h.del⟩
end Go.Proofs.Ytnpienjfapjjoaa
