/- Callees walked in place. Holds for any program. -/
import Derived.Test.YtclgjkeeaopppaaGreatDoorV16
namespace Go.V
/-- What a body that is walked in place must end in. -/
def EndsIn (P : Program) (N : Nat) (rs : List ResultVar) (post : Value → List HP → Prop) : Post := Ends P N rs post
instance {P : Program} {N : Nat} {rs : List ResultVar} {post : Value → List HP → Prop} : NoP (EndsIn P N rs post) := inferInstanceAs (NoP (Ends P N rs post))
section inp
variable {P : Program} {N M : Nat} {env : Env} {L : List HP} {K : Post} {post : Value → List HP → Prop} {ops : Array Oper} {rest : List Oper} {d : Nat} {ty : TypeId} {pos : String} {af : Array Edge}
theorem KX.atIn {e : Exit} {rs : List ResultVar} (h : EndsIn P N rs post e env L) : EndsIn P N rs post e env L := h
theorem KX.in0 {e : Exit} (he : e = .ret ∨ e = .normal) (h : post (.tuple #[]) L) : EndsIn P N [] post e env L := ⟨he, fun _ _ _ s => ⟨[], L, ResOk.nil, s, h⟩⟩
theorem KX.in1 {e : Exit} {t : Nat} {v : Value} (he : e = .ret ∨ e = .normal) (h1 : env.lookup t = some v) (h : post v L) : EndsIn P N [.tmp t] post e env L := ⟨he, fun _ _ _ s => ⟨[v], L, ResOk.tmp h1 ResOk.nil, s, h⟩⟩
theorem KX.in2 {e : Exit} {t u : Nat} {v w : Value} (he : e = .ret ∨ e = .normal) (h1 : env.lookup t = some v) (h2 : env.lookup u = some w) (h : post (.tuple #[v, w]) L) : EndsIn P N [.tmp t, .tmp u] post e env L := ⟨he, fun _ _ _ s => ⟨[v, w], L, ResOk.tmp h1 (ResOk.tmp h2 ResOk.nil), s, h⟩⟩
theorem KX.in3 {e : Exit} {t u x : Nat} {v w y : Value} (he : e = .ret ∨ e = .normal) (h1 : env.lookup t = some v) (h2 : env.lookup u = some w) (h3 : env.lookup x = some y) (h : post (.tuple #[v, w, y]) L) : EndsIn P N [.tmp t, .tmp u, .tmp x] post e env L := ⟨he, fun _ _ _ s => ⟨[v, w, y], L, ResOk.tmp h1 (ResOk.tmp h2 (ResOk.tmp h3 ResOk.nil)), s, h⟩⟩
/-- A result that is a variable of its own. -/
theorem KX.inC {e : Exit} {x b T n : Nat} {t : TypeId} {cs : List Value} {Rest : List HP} [ht : TyAgg P t n] [hp : PickObj L b T cs Rest] (he : e = .ret ∨ e = .normal) (h1 : env.lookup x = some (.pointer (some ⟨b, 0, none⟩))) (hn : cs.length = n) (h : post (.agg cs.toArray) L) : EndsIn P N [.cell x t] post e env L :=
  ⟨he, fun _ _ _ s => ⟨[.agg cs.toArray], L, ResOk.cell h1 hn ResOk.nil, s, h⟩⟩
theorem KX.inC1 {e : Exit} {x b T n u : Nat} {t : TypeId} {cs : List Value} {w : Value} {Rest : List HP} [ht : TyAgg P t n] [hp : PickObj L b T cs Rest] (he : e = .ret ∨ e = .normal) (h1 : env.lookup x = some (.pointer (some ⟨b, 0, none⟩))) (hn : cs.length = n) (h2 : env.lookup u = some w) (h : post (.tuple #[.agg cs.toArray, w]) L) : EndsIn P N [.cell x t, .tmp u] post e env L :=
  ⟨he, fun _ _ _ s => ⟨[.agg cs.toArray, w], L, ResOk.cell h1 hn (ResOk.tmp h2 ResOk.nil), s, h⟩⟩
variable {f : FuncId} {fn : Func} {c : Code} {rs : List ResultVar} {xs : Array Operand} {ats : Array TypeId} {vs : List Value}
theorem GO.callIn (he : Enters P f) (hf : P.funcs[f]? = some fn) (hb : fn.body = some c) (hr : fn.results = rs.toArray) (hN : fn.ntmps = M) (hv : evArgs env xs.toList = some vs) (hN' : vs.length ≤ M) (hd : d < N)
    (h : G P M c (env0 vs 0) L (EndsIn P M rs (fun v L' => GO P N ops rest ((d, v) :: env) L' K))) : GO P N ops (⟨some d, .call { callee := .value (.func f), args := xs, argTypes := ats }, ty, pos, af, none⟩ :: rest) env L K :=
  GO.ef (Ef.callAll (Tri.body (args := vs) M he hf hb hr hN hN' h) hv) hd fun _ _ h => h
theorem GPW.callIn {done : List Nat} {plan : List Stp} {pend : List PE} {i : Nat} (he : Enters P f) (hf : P.funcs[f]? = some fn) (hb : fn.body = some c) (hr : fn.results = rs.toArray) (hN : fn.ntmps = M) (hv : evArgs env xs.toList = some vs) (hN' : vs.length ≤ M) (hd : d < N)
    (h : G P M c (env0 vs 0) L (EndsIn P M rs (fun v L' => GPK P N ops done i plan pend [] ((d, v) :: env) L' K))) : GPW P N ops done (.ef i) plan (some d) (.call { callee := .value (.func f), args := xs, argTypes := ats }) ty pend env L K :=
  GPW.ef (Ef.callAll (Tri.body (args := vs) M he hf hb hr hN hN' h) hv) hd fun _ _ h => h
theorem Ef.callFnA {x : Operand} {first cap : List Value} {post : Value → List HP → Prop} (c : Tri P f (first ++ vs ++ cap).toArray L post) (hx : evE env x = some (.func (.func f) first.toArray cap.toArray)) (hv : evArgs env xs.toList = some vs) :
    Ef P L env (.call { callee := .value x, args := xs, argTypes := ats }) ty post := by
  have h := Ef.callFn (R' := []) (ats := ats) (ty := ty) c hx hv (by rw [List.append_nil]; exact Ent.refl _)
  intro θ R a w o next Q ha s h1 h2 hn
  exact h θ R a w o next Q ha s h1 h2 (fun v L' w' ⟨L₁, hp, he⟩ s' => hn v L₁ w' hp (by rw [he, List.append_nil] at s'; exact s'))
theorem GO.callFnIn {x : Operand} {first cap : List Value} (hx : evE env x = some (.func (.func f) first.toArray cap.toArray)) (he : Enters P f) (hf : P.funcs[f]? = some fn) (hb : fn.body = some c) (hr : fn.results = rs.toArray) (hN : fn.ntmps = M) (hv : evArgs env xs.toList = some vs) (hN' : (first ++ vs ++ cap).length ≤ M) (hd : d < N)
    (h : G P M c (env0 (first ++ vs ++ cap) 0) L (EndsIn P M rs (fun v L' => GO P N ops rest ((d, v) :: env) L' K))) : GO P N ops (⟨some d, .call { callee := .value x, args := xs, argTypes := ats }, ty, pos, af, none⟩ :: rest) env L K :=
  GO.ef (Ef.callFnA (Tri.body (args := first ++ vs ++ cap) M he hf hb hr hN hN' h) hx hv) hd fun _ _ h => h
theorem GPW.callFnIn {done : List Nat} {plan : List Stp} {pend : List PE} {i : Nat} {x : Operand} {first cap : List Value} (hx : evE env x = some (.func (.func f) first.toArray cap.toArray)) (he : Enters P f) (hf : P.funcs[f]? = some fn) (hb : fn.body = some c) (hr : fn.results = rs.toArray) (hN : fn.ntmps = M) (hv : evArgs env xs.toList = some vs) (hN' : (first ++ vs ++ cap).length ≤ M) (hd : d < N)
    (h : G P M c (env0 (first ++ vs ++ cap) 0) L (EndsIn P M rs (fun v L' => GPK P N ops done i plan pend [] ((d, v) :: env) L' K))) : GPW P N ops done (.ef i) plan (some d) (.call { callee := .value x, args := xs, argTypes := ats }) ty pend env L K :=
  GPW.ef (Ef.callFnA (Tri.body (args := first ++ vs ++ cap) M he hf hb hr hN hN' h) hx hv) hd fun _ _ h => h
theorem Ef.callFnW {x : Operand} {first cap : List Value} {post : Value → List HP → Prop} (hx : evE env x = some (.func (.func f) first.toArray cap.toArray)) (hv : evArgs env xs.toList = some vs) (c : Tri P f (first ++ vs ++ cap).toArray L post) :
    Ef P L env (.call { callee := .value x, args := xs, argTypes := ats }) ty post := Ef.callFnA c hx hv
/-- A call through a function value, by a contract. -/
theorem Ef.callFnT {x : Operand} {first cap : List Value} {pre R' : List HP} {post : Value → List HP → Prop} (hx : evE env x = some (.func (.func f) first.toArray cap.toArray)) (hv : evArgs env xs.toList = some vs) (c : Tri P f (first ++ vs ++ cap).toArray pre post) (hL : Ent L (pre ++ R')) :
    Ef P L env (.call { callee := .value x, args := xs, argTypes := ats }) ty (fun v L' => ∃ L₁, post v L₁ ∧ L' = L₁ ++ R') := Ef.callFn c hx hv hL
end inp
end Go.V
