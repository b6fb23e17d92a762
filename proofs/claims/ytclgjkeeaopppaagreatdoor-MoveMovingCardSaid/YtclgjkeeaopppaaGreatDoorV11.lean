/- Function values; ranges over functions. Holds for any program. -/
import Derived.Test.YtclgjkeeaopppaaGreatDoorV10
namespace Go.V
section fv
variable {P : Program} {N : Nat} {env : Env} {L : List HP} {K : Post} {ty : TypeId}
theorem Ev.makeFunc {fn : Fn} {fs cs : Array Operand} {vs us : List Value} (h1 : evArgs env fs.toList = some vs) (h2 : evArgs env cs.toList = some us) : Ev P L env (.makeFunc fn fs cs) ty (.func fn vs.toArray us.toArray) :=
  Ev.mk (fun _ _ ρ w ea _ _ _ _ _ => by
    have e1 : fs.map ρ = vs.toArray := by apply Array.ext'; simpa using ea.list fs.toList vs h1
    have e2 : cs.map ρ = us.toArray := by apply Array.ext'; simpa using ea.list cs.toList us h2
    simp [execOp, Instr.makeFunc, e1, e2])
/-- A call through a function value. -/
theorem Ef.callFn {x : Operand} {f : FuncId} {xs : Array Operand} {ats : Array TypeId} {vs first cap : List Value} {pre R' : List HP} {post : Value → List HP → Prop}
    (c : Tri P f (first ++ vs ++ cap).toArray pre post) (hx : evE env x = some (.func (.func f) first.toArray cap.toArray)) (hv : evArgs env xs.toList = some vs) (hL : Ent L (pre ++ R')) :
    Ef P L env (.call { callee := .value x, args := xs, argTypes := ats }) ty (fun v L' => ∃ L₁, post v L₁ ∧ L' = L₁ ++ R') := by
  rintro θ R a w ⟨dst, op', ty', pos, af, g⟩ next Q ha s rfl rfl hn
  have hargs : xs.map a.eval = vs.toArray := by
    apply Array.ext'
    simpa using ha.list xs.toList vs hv
  have hrun : (execOp a.eval ⟨dst, .call { callee := .value x, args := xs, argTypes := ats }, ty', pos, af, g⟩).run P w = .ok (.enter f (first ++ vs ++ cap).toArray) w := by
    simp [execOp, resolve, Deferred.ofValue, evE_ok ha hx, invoke, hargs]
    have := c.enters (first ++ vs ++ cap).toArray w
    simpa using this
  rw [Oper.wp, hrun, Oper.upon_enter]
  refine (c.calls θ (R' ++ R) w (by rw [← List.append_assoc]; exact hL θ R w s)).mono ?_
  rintro e w' ⟨v, L', rfl, hp, s'⟩
  exact hn v _ w' ⟨L', hp, rfl⟩ (by rw [List.append_assoc]; exact s')

theorem run_getObj' {l : Nat} {rec : Loop} {w : World} (h : w.heap[l]? = some (.loop rec)) : (getObj l).run P w = .ok (.loop rec) w := by simp [getObj, Sem.run, h]
theorem run_getLoop {l : Nat} {rec : Loop} {w : World} (h : w.heap[l]? = some (.loop rec)) : (Instr.getLoop l).run P w = .ok rec w := by
  unfold Instr.getLoop
  rw [Sem.run_bind, run_getObj' h]
  simp
theorem run_setLoop {l : Nat} {rec rec' : Loop} {w : World} (h : w.heap[l]? = some (.loop rec)) : (setObj l (.loop rec')).run P w = .ok () { w with heap := w.heap.setIfInBounds l (.loop rec') } := by simp [setObj, Sem.run, h]
/-! ### Yield -/
/-- From state L an operation leads to a value and a state; a round may be run for it. -/
def EfR (P : Program) (L : List HP) (env : Env) (op : Op) (ty : TypeId) (post : Value → List HP → Prop) : Prop :=
  ∀ r θ R a w o next Q, Agr env a.eval → Sat θ (L ++ R) w → o.op = op → o.type = ty → (∀ v L' w', post v L' → Sat θ (L' ++ R) w' → next (a.put o.dst v) w') → Oper.wpIn (FW r) 0 P o a w next Q
theorem GO.efR {ops : Array Oper} {rest : List Oper} {d : Nat} {op : Op} {pos : String} {af : Array Edge} {post : Value → List HP → Prop} (he : EfR P L env op ty post) (hd : d < N)
    (h : ∀ v L', post v L' → GO P N ops rest ((d, v) :: env) L' K) : GO P N ops (⟨some d, op, ty, pos, af, none⟩ :: rest) env L K := by
  intro r θ Y a w hr i
  refine wpListIn_plain rfl fun K' hK => ?_
  obtain ⟨M, ea, hm, s⟩ := i
  exact he r θ _ a w _ K' _ ea.agr s rfl rfl fun v L' w' hp s' => hK _ _ (h v L' hp r θ Y _ _ hr ⟨M, ea.put hd _, by rw [defers_put]; exact hm, s'⟩)
/-- The temporaries of a round. -/
def setPs (tmps : Array Value) (ps : Array Tmp) (vs : Array Value) : Array Value := (ps.zip vs).foldl (fun t (p, v) => t.setIfInBounds p v) tmps
/-- A contract of yield. -/
structure YTri (P : Program) (l : Nat) (args : List Value) (L : List HP) (post : Value → List HP → Prop) : Prop where
  run : ∀ θ R w, Sat θ (L ++ R) w → ∃ rec, w.heap[l]? = some (.loop rec) ∧ args.length = rec.params.size ∧ ∀ r, RoundIn (FW r) 0 P l rec.fn (setPs rec.tmps rec.params args.toArray) rec.assign rec.body w (fun e w' => ∃ v L', e = .returned v ∧ post v L' ∧ Sat θ (L' ++ R) w')
theorem EfR.yield {x : Operand} {l : Nat} {xs : Array Operand} {ats : Array TypeId} {vs : List Value} {pre R' : List HP} {post : Value → List HP → Prop}
    (c : YTri P l vs pre post) (hx : evE env x = some (.func (.yield l) #[] #[])) (hv : evArgs env xs.toList = some vs) (hL : Ent L (pre ++ R')) :
    EfR P L env (.call { callee := .value x, args := xs, argTypes := ats }) ty (fun v L' => ∃ L₁, post v L₁ ∧ L' = L₁ ++ R') := by
  rintro r θ R a w ⟨dst, op', ty', pos, af, g⟩ next Q ha s rfl rfl hn
  have hargs : xs.map a.eval = vs.toArray := by
    apply Array.ext'
    simpa using ha.list xs.toList vs hv
  obtain ⟨rec, h1, h2, h3⟩ := c.run θ (R' ++ R) w (by rw [← List.append_assoc]; exact hL θ R w s)
  have hrun : (execOp a.eval ⟨dst, .call { callee := .value x, args := xs, argTypes := ats }, ty', pos, af, g⟩).run P w = .ok (.round l rec.fn (setPs rec.tmps rec.params vs.toArray) rec.assign rec.body) w := by
    have hsz : ¬ (vs.length ≠ rec.params.size) := fun h => h h2
    have hy : (Instr.yield l vs.toArray).run P w = .ok (.round l rec.fn (setPs rec.tmps rec.params vs.toArray) rec.assign rec.body) w := by
      unfold Instr.yield
      rw [Sem.run_bind, run_getLoop h1]
      simp only [Result.andThen_ok]
      rw [if_neg (by simpa using hsz)]
      simp [setPs]
    simp only [execOp, resolve, Deferred.ofValue, evE_ok ha hx, invoke, hargs]
    simpa using hy
  refine ⟨fun _ _ => trivial, ?_⟩
  rw [Oper.semAt_eq _ _ _ (by intro c h; cases h), hrun, Oper.uponIn_round]
  refine ⟨(fun h => by cases h), (h3 r).mono ?_⟩
  rintro e w' ⟨v, L', rfl, hp, s'⟩
  exact hn v _ w' ⟨L', hp, rfl⟩ (by rw [List.append_assoc]; exact s')

/-! ### The statement -/
/-- An iterator: it hands yield these values, in this order, until yield says no. -/
def Iter (P : Program) (gf : FuncId) (cap : List Value) (vals : List (List Value)) (Lg : List HP) : Prop :=
  ∀ (l : Nat) (J Jx : Nat → HP), (∀ k (hk : k < vals.length), YTri P l vals[k] [J k] (fun v L' => (v = .bool true ∧ L' = [J (k + 1)]) ∨ (v = .bool false ∧ L' = [Jx k]))) →
    Tri P gf (.func (.yield l) #[] #[] :: cap).toArray (J 0 :: Lg) (fun _ L' => L' = J vals.length :: Lg ∨ ∃ k, L' = Jx k :: Lg)
def penv (env : Env) : List (Nat × Value) → Env
  | [] => env
  | p :: r => penv (p :: env) r
theorem EnvOk.sets {ds ds' : List Deferred} : ∀ (l : List (Nat × Value)) {env : Env} {t : Array Value}, (∀ p ∈ l, p.1 < N) → EnvOk N env ⟨t, ds⟩ → EnvOk N (penv env l) ⟨l.foldl (fun t p => t.setIfInBounds p.1 p.2) t, ds'⟩
  | [], _, _, _, h => ⟨h.size, h.at_⟩
  | (p, v) :: l, _, _, hp, h => EnvOk.sets l (fun q hq => hp q (List.mem_cons_of_mem _ hq)) (h.put (hp (p, v) List.mem_cons_self) v)
/-- How a round's body may be left. -/
def RPost (K : Post) (env : Env) (Lg : List HP) (next : List HP) : Post := fun e _ L' => match e with
  | .normal => Ent L' next
  | .ret => K .ret env (L' ++ Lg)
  | .exit id => K (.exit id) env (L' ++ Lg)
  | _ => False
instance {K : Post} {env : Env} {Lg next : List HP} : NoP (RPost K env Lg next) := ⟨fun _ _ _ h => h, fun _ _ h => h⟩
instance : NoP (fun _ _ _ => False) := ⟨fun _ _ _ h => h, fun _ _ h => h⟩
theorem KX.round {K : Post} {env env' : Env} {Lg next L' : List HP} (h : Ent L' next) : RPost K env Lg next .normal env' L' := h
theorem KX.roundRet {K : Post} {env env' : Env} {Lg next L' : List HP} (h : K .ret env (L' ++ Lg)) : RPost K env Lg next .ret env' L' := h
theorem KX.roundExit {K : Post} {env env' : Env} {Lg next L' : List HP} {id : Nat} (h : K (.exit id) env (L' ++ Lg)) : RPost K env Lg next (.exit id) env' L' := h
theorem Sat.setLoop {θ : Th} {l : Nat} {rec rec' : Loop} {L : List HP} {w : World} (s : Sat θ (own l (.loop rec) :: L) w) : Sat θ (own l (.loop rec') :: L) { w with heap := w.heap.setIfInBounds l (.loop rec') } := Sat.setMap s
/-- What is asked of the jump that a round left behind. -/
def JumpOk (K : Post) (env : Env) (Lg : List HP) : Code → List HP → Prop := fun c L' => match c with
  | .ret => K .ret env (L' ++ Lg)
  | .exit id => K (.exit id) env (L' ++ Lg)
  | _ => False
theorem perm_front {A B C : List HP} : (A ++ (B ++ C)).Perm (B ++ (A ++ C)) := by
  rw [← List.append_assoc, ← List.append_assoc]
  exact List.perm_append_comm.append_right C
/-- A round, by its body. -/
theorem round_ytri {l : Nat} {rec : Loop} {vs : List Value} {I I' : List HP} {env0 : Env} {Lg : List HP} (hst : rec.state = .ready) (hpe : rec.pending = none) (hlen : vs.length = rec.params.size) (hps : ∀ p ∈ rec.params, p < N)
    (ht : EnvOk N env ⟨rec.tmps, []⟩) (h : G P N rec.assign (penv env (rec.params.toList.zip vs)) I (Post.seq (fun env' L' => G P N rec.body env' L' (RPost K env0 Lg I')) (fun _ _ _ => False))) :
    YTri P l vs [hstars (own l (.loop rec) :: I)] (fun v L' => (v = .bool true ∧ L' = [hstars (own l (.loop rec) :: I')]) ∨ (v = .bool false ∧ L' = [hex fun x : Code × List HP => hstars (hpure (JumpOk K env0 Lg x.1 x.2) :: own l (.loop { rec with state := .done, pending := some x.1 }) :: x.2)])) := by
  refine ⟨fun θ R w s => ?_⟩
  have s1 : Sat θ (own l (.loop rec) :: (I ++ R)) w := Sat.ofStars (A := own l (.loop rec) :: I) s
  refine ⟨rec, s1.own_heap, hlen, fun r => ?_⟩
  refine roundIn_of_wpIn trivial ?_
  show rec.assign.wpIn (FW (some l)) 0 P _ _ w
  have hz : setPs rec.tmps rec.params vs.toArray = (rec.params.toList.zip vs).foldl (fun t p => t.setIfInBounds p.1 p.2) rec.tmps := by
    unfold setPs
    rw [← Array.foldl_toList]
    simp
  have hat : At N (penv env (rec.params.toList.zip vs)) I θ (own l (.loop rec) :: R) ⟨setPs rec.tmps rec.params vs.toArray, []⟩ w := by
    refine ⟨[], ?_, rfl, s1.perm List.perm_middle.symm⟩
    rw [hz]
    exact EnvOk.sets (t := rec.tmps) _ (fun p hp => hps p.1 (by have := List.of_mem_zip hp; simpa using this.1)) ht
  refine wpIn_mono (h (some l) θ (own l (.loop rec) :: R) _ w (fun l' hl' => by cases hl'; exact ⟨rec, R, List.Perm.refl _⟩) hat) ?_
  rintro e a' w' ⟨env', L', ⟨M, ea, hm, s2⟩, hk⟩
  cases e with
  | normal =>
    have s3 : Sat θ (own l (.loop rec) :: (L' ++ (mkH M ++ R))) w' := s2.perm (by
      rw [← List.append_assoc, ← List.append_assoc L']
      exact List.perm_middle)
    have hl3 := s3.own_heap
    have s4 := Sat.setLoop (rec' := { rec with state := .busy }) s3
    refine ⟨{ w' with heap := w'.heap.setIfInBounds l (.loop { rec with state := .busy }) }, ?_, ?_⟩
    · unfold Instr.beginRound
      rw [Sem.run_bind, run_getLoop hl3]
      simp only [Result.andThen_ok]
      rw [Sem.run_bind, run_setLoop hl3]
      simp [hst]
    have hat2 : At N env' L' θ (own l (.loop { rec with state := .busy }) :: R) a' { w' with heap := w'.heap.setIfInBounds l (.loop { rec with state := .busy }) } := by
      refine ⟨M, ea, hm, s4.perm ?_⟩
      rw [← List.append_assoc, ← List.append_assoc L']
      exact List.perm_middle.symm
    refine wpIn_mono (hk (some l) θ (own l (.loop { rec with state := .busy }) :: R) a' _ (fun l' hl' => by cases hl'; exact ⟨_, R, List.Perm.refl _⟩) hat2) ?_
    rintro e2 a2 w2 ⟨env2, L2, ⟨M2, ea2, hm2, s5⟩, hk2⟩
    have s6 : Sat θ (own l (.loop { rec with state := .busy }) :: (L2 ++ (mkH M2 ++ R))) w2 := s5.perm (by
      rw [← List.append_assoc, ← List.append_assoc L2]
      exact List.perm_middle)
    have hl6 := s6.own_heap
    have hdrop : ∀ {A : HP} {w : World}, Sat θ (A :: (L2 ++ (mkH M2 ++ R))) w → Sat θ (A :: (L2 ++ R)) w := by
      intro A w s
      have s' : Sat θ (mkH M2 ++ (A :: (L2 ++ R))) w := s.perm ((List.Perm.cons A perm_front).trans List.perm_middle.symm)
      exact Ent.nil (mkH M2) θ _ w s'
    cases e2 with
    | normal =>
      have s7 := Sat.setLoop (rec' := rec) s6
      refine ⟨.bool true, { w2 with heap := w2.heap.setIfInBounds l (.loop rec) }, ?_, ?_⟩
      · unfold Instr.endRound
        rw [Sem.run_bind, run_getLoop hl6]
        simp only [Result.andThen_ok]
        rw [Sem.run_bind]
        have e : ({ ({ rec with state := .busy } : Loop) with state := if (none : Option Code).isNone then .ready else .done, pending := none } : Loop) = rec := by
          cases rec
          simp only [] at hst hpe
          subst hst hpe
          rfl
        rw [e, run_setLoop hl6]
        simp
      · refine ⟨.bool true, _, rfl, .inl ⟨rfl, rfl⟩, ?_⟩
        have s8 := hdrop s7
        have s9 : Sat θ (I' ++ (own l (.loop rec) :: R)) { w2 with heap := w2.heap.setIfInBounds l (.loop rec) } := hk2 θ _ _ (s8.perm List.perm_middle.symm)
        exact Sat.toStars (A := own l (.loop rec) :: I') (s9.perm List.perm_middle)
    | ret =>
      have s7 := Sat.setLoop (rec' := { rec with state := .done, pending := some .ret }) s6
      refine ⟨.bool false, _, ?_, ⟨.bool false, _, rfl, .inr ⟨rfl, rfl⟩, Sat.toHex (f := fun x : Code × List HP => hstars (hpure (JumpOk K env0 Lg x.1 x.2) :: own l (.loop { rec with state := .done, pending := some x.1 }) :: x.2)) (.ret, L2) (Sat.toStars (A := hpure (JumpOk K env0 Lg .ret L2) :: own l (.loop { rec with state := .done, pending := some .ret }) :: L2) (Sat.addPure (hdrop s7) hk2))⟩⟩
      unfold Instr.endRound
      rw [Sem.run_bind, run_getLoop hl6]
      simp only [Result.andThen_ok]
      rw [Sem.run_bind]
      have e : ({ ({ rec with state := .busy } : Loop) with state := if (some Code.ret : Option Code).isNone then .ready else .done, pending := some .ret } : Loop) = { rec with state := .done, pending := some .ret } := rfl
      rw [e, run_setLoop hl6]
      simp
    | exit id =>
      have s7 := Sat.setLoop (rec' := { rec with state := .done, pending := some (.exit id) }) s6
      refine ⟨.bool false, _, ?_, ⟨.bool false, _, rfl, .inr ⟨rfl, rfl⟩, Sat.toHex (f := fun x : Code × List HP => hstars (hpure (JumpOk K env0 Lg x.1 x.2) :: own l (.loop { rec with state := .done, pending := some x.1 }) :: x.2)) (.exit id, L2) (Sat.toStars (A := hpure (JumpOk K env0 Lg (.exit id) L2) :: own l (.loop { rec with state := .done, pending := some (.exit id) }) :: L2) (Sat.addPure (hdrop s7) hk2))⟩⟩
      unfold Instr.endRound
      rw [Sem.run_bind, run_getLoop hl6]
      simp only [Result.andThen_ok]
      rw [Sem.run_bind]
      have e : ({ ({ rec with state := .busy } : Loop) with state := if (some (Code.exit id) : Option Code).isNone then .ready else .done, pending := some (.exit id) } : Loop) = { rec with state := .done, pending := some (.exit id) } := rfl
      rw [e, run_setLoop hl6]
      simp
    | goto t => exact hk2.elim
    | panic c => exact hk2.elim
    | outgrown => exact hk2.elim
  | exit id => exact hk.elim
  | goto t => exact hk.elim
  | ret => exact hk.elim
  | panic c => exact hk.elim
  | outgrown => exact hk.elim
theorem endLoop_run {l : Nat} {rec : Loop} {w : World} (h : w.heap[l]? = some (.loop rec)) (hs : rec.state ≠ .busy) : (Instr.endLoop l).run P w = .ok rec.pending { w with heap := w.heap.setIfInBounds l (.loop { rec with state := .exhausted }) } := by
  unfold Instr.endLoop
  rw [Sem.run_bind, run_getLoop h]
  simp only [Result.andThen_ok]
  have hb : (rec.state == LoopState.busy) = false := by
    cases hr : rec.state <;> first | rfl | exact absurd hr hs
  rw [hb]
  simp only [Bool.false_eq_true, if_false]
  rw [Sem.run_bind]
  simp only [Sem.run_pure]
  rw [run_setLoop h]
  simp
theorem run_enterLoop_none {fn : FuncId} {tmps : Array Value} {ps : Array Tmp} {assign body : Code} {w : World} :
    (Instr.enterLoop fn tmps ps assign body none).run P w = .ok (w.heap.size + 1, [{ target := .collected w.heap.size, args := #[] }]) ((w.alloc (.deferred (some []))).alloc (.loop { state := .ready, pending := none, fn, tmps, params := ps, assign, body, defers := w.heap.size })) := by
  unfold Instr.enterLoop
  simp [go_sem]
theorem run_enterLoop_some {fn : FuncId} {tmps : Array Value} {ps : Array Tmp} {assign body : Code} {w : World} {l : Nat} {rec : Loop} (h : w.heap[l]? = some (.loop rec)) :
    (Instr.enterLoop fn tmps ps assign body (some l)).run P w = .ok (w.heap.size, []) (w.alloc (.loop { state := .ready, pending := none, fn, tmps, params := ps, assign, body, defers := rec.defers })) := by
  unfold Instr.enterLoop
  simp only []
  rw [Sem.run_bind, run_getLoop h]
  simp [go_sem]
/-- 'for .. := range g { .. }'. -/
theorem G.rangeFunc {g : Operand} {ps : Array Tmp} {assign body : Code} {gf : FuncId} {cap : List Value} {vals : List (List Value)} {Lg : List HP} (it : Iter P gf cap vals Lg) (hg : evE env g = some (.func (.func gf) #[] cap.toArray))
    (hen : Enters P gf) (hps : ∀ p ∈ ps, p < N) (hlen : ∀ vs ∈ vals, vs.length = ps.size) (I : Nat → List HP) (hl : Ent L (I 0 ++ Lg))
    (hbody : ∀ k (hk : k < vals.length), G P N assign (penv env (ps.toList.zip vals[k])) (I k) (Post.seq (fun env' L' => G P N body env' L' (RPost K env Lg (I (k + 1)))) (fun _ _ _ => False)))
    (hdone : K .normal env (I vals.length ++ Lg)) : G P N (.rangeFunc g ps assign body) env L K := by
  intro r θ Y a w hr i
  obtain ⟨M, ea, hm, s⟩ := i
  have s0 : Sat θ (I 0 ++ Lg ++ (mkH M ++ Y)) w := hl θ _ w s
  -- what is the same in both cases
  have main : ∀ (fn : FuncId) (l D : Nat) (mark : List Nat) (w₁ : World), (Instr.enterLoop fn a.tmps ps assign body r).run P w = .ok (l, mkD mark) w₁ →
      Sat θ (own l (.loop { state := .ready, pending := none, fn, tmps := a.tmps, params := ps, assign, body, defers := D }) :: (mkH mark ++ (I 0 ++ Lg ++ (mkH M ++ Y)))) w₁ →
      ∃ (l : Nat) (mark : List Deferred) (w₁ : World) (d : Deferred) (w₁' : World) (f : FuncId) (args : Array Value) (w₂ : World),
      (Instr.enterLoop fn a.tmps ps assign body (FW r).round).run P w = .ok (l, mark) w₁ ∧
      (resolve a.eval (rangeCall g l) 0).run P w₁ = .ok d w₁' ∧
      (∀ f', Target.leads P w₁' d.target d.args = some f' → (FW r).fn f') ∧
      (invoke d.target d.args).run P w₁' = .ok (.enter f args) w₂ ∧
      ((FW r).depth.isSome = true → 1 ≤ 0) ∧
      CallsIn (FW r) (0 - 1) P f args w₂ (rangePost (FW r) 0 P l (QK θ Y N K) { a with defers := mark ++ a.defers }) := by
    intro fn l D mark w₁ he s1
    obtain ⟨rec, hrec⟩ : ∃ rec : Loop, rec = { state := .ready, pending := none, fn, tmps := a.tmps, params := ps, assign, body, defers := D } := ⟨_, rfl⟩
    rw [← hrec] at s1
    have hst : rec.state = .ready := by rw [hrec]
    have hpe : rec.pending = none := by rw [hrec]
    have hy : ∀ k (hk : k < vals.length), YTri P l vals[k] [hstars (own l (.loop rec) :: I k)] (fun v L' => (v = .bool true ∧ L' = [hstars (own l (.loop rec) :: I (k + 1))]) ∨ (v = .bool false ∧ L' = [hex fun x : Code × List HP => hstars (hpure (JumpOk K env Lg x.1 x.2) :: own l (.loop { rec with state := .done, pending := some x.1 }) :: x.2)])) := by
      intro k hk
      refine round_ytri hst hpe (by rw [hrec]; exact hlen _ (List.getElem_mem _)) (by rw [hrec]; exact hps) (env := env) ?_ ?_
      · rw [hrec]; exact ⟨ea.size, ea.at_⟩
      · rw [hrec]; exact hbody k hk
    have ht := it l (fun k => hstars (own l (.loop rec) :: I k)) (fun _ => hex fun x : Code × List HP => hstars (hpure (JumpOk K env Lg x.1 x.2) :: own l (.loop { rec with state := .done, pending := some x.1 }) :: x.2)) hy
    have hga : a.eval g = .func (.func gf) #[] cap.toArray := evE_ok ea.agr hg
    refine ⟨l, mkD mark, w₁, { target := .fn (.func gf) cap.toArray, args := #[.func (.yield l) #[] #[]] }, w₁, gf, (.func (.yield l) #[] #[] :: cap).toArray, w₁, he, ?_, fun _ _ => trivial, ?_, (fun h => by cases h), callsIn_FW ?_⟩
    · simp only [resolve, Deferred.ofValue, hga]
      simp [Act.eval]
    · have := hen (.func (.yield l) #[] #[] :: cap).toArray w₁
      simpa [invoke] using this
    have s2 : Sat θ (hstars (own l (.loop rec) :: I 0) :: Lg ++ (mkH mark ++ (mkH M ++ Y))) w₁ := by
      refine Sat.toStars (A := own l (.loop rec) :: I 0) (s1.perm ?_)
      simp only [List.cons_append]
      refine List.Perm.cons _ ?_
      rw [List.append_assoc]
      refine perm_front.trans ?_
      refine List.Perm.append_left _ ?_
      exact perm_front
    refine (ht.calls θ _ w₁ s2).mono ?_
    rintro e w₂ ⟨v, L', rfl, hL', s3⟩
    rcases hL' with rfl | ⟨k, rfl⟩
    · have s4 : Sat θ (own l (.loop rec) :: (I vals.length ++ (Lg ++ (mkH mark ++ (mkH M ++ Y))))) w₂ := Sat.ofStars (A := own l (.loop rec) :: I vals.length) s3
      have hh := s4.own_heap
      refine ⟨none, _, (by rw [← hpe]; exact endLoop_run hh (by rw [hst]; simp)), ?_⟩
      have s5 := (Sat.setLoop (rec' := { rec with state := .exhausted }) s4).tail
      refine ⟨env, I vals.length ++ Lg, ⟨mark ++ M, ⟨ea.size, ea.at_⟩, by simp [mkD, hm], ?_⟩, hdone⟩
      have e : mkH (mark ++ M) ++ Y = mkH mark ++ (mkH M ++ Y) := by simp [mkH]
      rw [e, List.append_assoc]
      exact s5
    · obtain ⟨⟨c, L₂⟩, s4⟩ := Sat.ofHex (L := Lg ++ (mkH mark ++ (mkH M ++ Y))) s3
      have s5 : Sat θ (hpure (JumpOk K env Lg c L₂) :: (own l (.loop { rec with state := .done, pending := some c }) :: (L₂ ++ (Lg ++ (mkH mark ++ (mkH M ++ Y)))))) w₂ := Sat.ofStars (A := hpure (JumpOk K env Lg c L₂) :: own l (.loop { rec with state := .done, pending := some c }) :: L₂) s4
      have hj := s5.ofPure
      have s6 := s5.tail
      have hh := s6.own_heap
      have s7 := (Sat.setLoop (rec' := { ({ rec with state := .done, pending := some c } : Loop) with state := .exhausted }) s6).tail
      refine ⟨some c, _, endLoop_run hh (by simp), ?_⟩
      have hat : At N env (L₂ ++ Lg) θ Y { a with defers := mkD mark ++ a.defers } { w₂ with heap := w₂.heap.setIfInBounds l (.loop { ({ rec with state := .done, pending := some c } : Loop) with state := .exhausted }) } := by
        refine ⟨mark ++ M, ⟨ea.size, ea.at_⟩, by simp [mkD, hm], ?_⟩
        have e : mkH (mark ++ M) ++ Y = mkH mark ++ (mkH M ++ Y) := by simp [mkH]
        rw [e, List.append_assoc]
        exact s7
      cases c with
      | ret => exact wpIn_ret ⟨env, _, hat, hj⟩
      | exit id => exact wpIn_exit ⟨env, _, hat, hj⟩
      | _ => exact hj.elim
  refine wpIn_rangeFunc fun fn _ => ?_
  cases r with
  | none =>
    have s1 := s0.alloc (o := .deferred (some []))
    have s2 := s1.alloc (o := .loop { state := .ready, pending := none, fn, tmps := a.tmps, params := ps, assign, body, defers := w.heap.size })
    refine main fn (w.heap.size + 1) w.heap.size [w.heap.size] _ run_enterLoop_none ?_
    rw [World.size_alloc] at s2
    exact s2
  | some l =>
    obtain ⟨rec, Y', hY⟩ := hr l rfl
    have hl0 : w.heap[l]? = some (.loop rec) := by
      have s1 : Sat θ (own l (.loop rec) :: (I 0 ++ Lg ++ (mkH M ++ Y'))) w := s0.perm (by
        have h1 : (I 0 ++ Lg ++ (mkH M ++ Y)).Perm (I 0 ++ Lg ++ (mkH M ++ (own l (.loop rec) :: Y'))) := (hY.append_left _).append_left _
        refine h1.trans ?_
        rw [← List.append_assoc, ← List.append_assoc (I 0 ++ Lg)]
        exact List.perm_middle)
      exact s1.own_heap
    exact main fn w.heap.size rec.defers [] _ (run_enterLoop_some hl0) s0.alloc
end fv
end Go.V
