/- Closed runs: loops walked round by round, calls walked in place. Holds for any program. -/
import Derived.Test.YtclgjkeeaopppaaGreatDoorV14
import Derived.Test.YtclgjkeeaopppaaGreatDoorV13
import Derived.LoopNIn
namespace Go.V
section closed
variable {P : Program} {N : Nat} {env : Env} {L : List HP} {K : Post}
/-- At most m rounds of a loop. -/
def GR (P : Program) (N : Nat) (c : Code) : Nat → Env → List HP → Post → Prop
  | 0, _, _, _ => False
  | m + 1, env, L, K => G P N c env L (K.seq fun env' L' => GR P N c m env' L' K)
theorem GR.step {c : Code} {m : Nat} (h : G P N c env L (K.seq fun env' L' => GR P N c m env' L' K)) : GR P N c (m + 1) env L K := h
theorem G.unroll {c : Code} (m : Nat) (h : GR P N c m env L K) : G P N (.loop c) env L K := by
  intro r θ Y a w hr i
  refine wpIn_loop_rounds m ?_
  induction m generalizing env L a w with
  | zero => exact h.elim
  | succ m ih =>
    rw [roundsIn_succ]
    refine wpIn_mono (h r θ Y a w hr i) ?_
    rintro ex a' w' ⟨env', L', i', hk⟩
    cases ex with
    | normal => exact ih hk a' w' i'
    | exit id => exact ⟨env', L', i', hk⟩
    | goto l => exact ⟨env', L', i', hk⟩
    | ret => exact ⟨env', L', i', hk⟩
    | panic ch => exact ⟨env', L', i', hk⟩
    | outgrown => exact ⟨env', L', i', hk⟩
/-- A function's body, found by its number. -/
class FnOf (P : Program) (f : FuncId) (N : outParam Nat) (c : outParam Code) (rs : outParam (List ResultVar)) : Prop where
  enters : Enters P f
  fn : ∃ fn : Func, P.funcs[f]? = some fn ∧ fn.body = some c ∧ fn.results = rs.toArray ∧ fn.ntmps = N
theorem Tri.inPlace {f : FuncId} {N : Nat} {c : Code} {rs : List ResultVar} {args : List Value} {post : Value → List HP → Prop} [h : FnOf P f N c rs] (hN : args.length ≤ N) (hg : G P N c (env0 args 0) L (Ends P N rs post)) : Tri P f args.toArray L post := by
  obtain ⟨fn, h1, h2, h3, h4⟩ := h.fn
  exact Tri.body N h.enters h1 h2 h3 h4 hN hg
end closed
end Go.V
