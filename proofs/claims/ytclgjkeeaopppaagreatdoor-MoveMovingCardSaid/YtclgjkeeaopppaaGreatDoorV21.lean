/- Building a pair of integers that is an array. -/
import Derived.Test.YtclgjkeeaopppaaGreatDoorV20
import Derived.Test.YtclgjkeeaopppaaGreatDoorU
namespace Go.V
section
variable {P : Program} {N : Nat} {env : Env} {L : List HP} {ty : TypeId} {v : Value}
theorem Ev.buildI2 {t E : TypeId} {x y : Operand} {a b : Int} [ht : TyArr P t 2 E 1] [hz : ZeroT P t [.int .i64 0, .int .i64 0]] (hx : evE env x = some (.int .i64 a)) (hy : evE env y = some (.int .i64 b)) :
    Ev P L env (.build t #[(0, x), (1, y)]) ty (.agg #[.int .i64 a, .int .i64 b]) :=
  Ev.mk (fun θ R ρ w ea s _ _ _ _ => by
    obtain ⟨z0, h1, h2⟩ := hz.run w
    have c1 : (Value.int .i64 a).cells = #[.int .i64 a] := rfl
    have c2 : (Value.int .i64 b).cells = #[.int .i64 b] := rfl
    simp [execOp, evE_ok ea hx, evE_ok ea hy, Instr.build, Sem.run_bind, h1, Result.andThen_ok, run_underlying ht.under, ht.sizeOf_run, h2, Instr.fill, c1, c2])
theorem Ev.neqBT {t yt : TypeId} {x y : Operand} {ψ : Prop} [Decidable ψ] [ht : TyBool P t] (hx : evE env x = some (.bool true)) (hy : evE env y = some (.bool (dB ψ))) : Ev P L env (.binOp .neq t x y yt) ty (.bool (dB (¬ ψ))) := by
  have e : dB (¬ (True ↔ ψ)) = dB (¬ ψ) := by
    rw [dB_eq, dB_eq]
    by_cases h : ψ <;> simp [h]
  rw [← e]
  exact Ev.neqB (φ := True) (by rw [dB_pos trivial]; exact hx) hy
theorem Ev.neqBF {t yt : TypeId} {x y : Operand} {ψ : Prop} [Decidable ψ] [ht : TyBool P t] (hx : evE env x = some (.bool false)) (hy : evE env y = some (.bool (dB ψ))) : Ev P L env (.binOp .neq t x y yt) ty (.bool (dB ψ)) := by
  have e : dB (¬ (False ↔ ψ)) = dB ψ := by
    rw [dB_eq, dB_eq]
    by_cases h : ψ <;> simp [h]
  rw [← e]
  exact Ev.neqB (φ := False) (by rw [dB_neg id]; exact hx) hy
end
end Go.V
