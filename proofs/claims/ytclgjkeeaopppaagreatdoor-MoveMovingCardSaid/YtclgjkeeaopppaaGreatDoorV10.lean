/- Maps held against nil, in interfaces, cloned. -/
import Derived.Test.YtclgjkeeaopppaaGreatDoorV9
import Derived.Laws.Externs
import Derived.MapKept
namespace Go.V
section
variable {P : Program} {env : Env} {L : List HP} {ty : TypeId}
theorem run_eqIn_map {t k e : TypeId} {p : Option Nat} {w : World} {n : Nat} (h : P.underlying t = some (.map k e)) : (Op.equalIn (n + 1) t (.map p) (.map none)).run P w = .ok p.isNone w := by
  cases p <;> simp [Op.equalIn, run_underlying h]
theorem Ev.mapNil {t yt K E : TypeId} {x y : Operand} {b : Nat} [ht : TyMap P t K E] (hx : evE env x = some (.map (some b))) (hy : evE env y = some (.map none)) : Ev P L env (.binOp .eql t x y yt) ty (.bool false) :=
  Ev.mk (fun _ _ _ w ea _ _ _ _ _ => by
    have h1 := run_eq_of (P := P) (w := w) (fun n => run_eqIn_map (n := n) (p := some b) ht.under)
    simp [execOp, evE_ok ea hx, evE_ok ea hy, eqGuard, binOp, h1])
theorem Ev.mapIface {t K E : TypeId} {x : Operand} {v : Value} [ht : TyMap P t K E] (hx : evE env x = some v) : Ev P L env (.makeInterface t x) ty (.iface t v) :=
  Ev.mk (fun _ _ _ w ea _ _ _ _ _ => by simp [execOp, evE_ok ea hx, Instr.makeInterface, run_underlying ht.under])
theorem Ev.mapOf {t xT K E : TypeId} {x : Operand} {v : Value} [ht : TyMap P t K E] (hx : evE env x = some (.iface t v)) : Ev P L env (.typeAssert x xT t false) ty v :=
  Ev.mk (fun _ _ _ w ea _ _ _ _ _ => by simp [execOp, evE_ok ea hx, Instr.typeAssert, run_underlying ht.under, go_sem, Result.andThen])
theorem Ev.nilneNil {t yt : TypeId} {x y : Operand} [ht : TyPtr P t] (hx : evE env x = some (.pointer none)) (hy : evE env y = some (.pointer none)) : Ev P L env (.binOp .neq t x y yt) ty (.bool false) :=
  Ev.mk (fun _ _ _ w ea _ _ _ _ _ => by
    obtain ⟨e, he⟩ := ht.under
    have h1 := run_eq_of (P := P) (w := w) (fun n => run_eqIn_ptr (n := n) (p := none) (q := none) he (.inl rfl))
    simp [execOp, evE_ok ea hx, evE_ok ea hy, eqGuard, binOp, h1])
/-- maps.clone, which the model stands in for. -/
structure IsMapClone (P : Program) (f : FuncId) : Prop where
  run : ∀ args w, (callFunc f args).run P w = ((Extern.MapsClone.clone args).run P w).andThen fun v w' => .ok (.value v) w'
theorem run_maps_clone {r : Nat} {es : Array MapEntry} {clock : Nat} {w : World} (t : TypeId) (hb : w.heap[r]? = some (.map es clock)) :
    (Extern.MapsClone.clone #[.iface t (.map (some r))]).run P w = .ok (.iface t (.map (some w.heap.size))) (w.alloc (.map es clock)) := by
  have e : Extern.MapsClone.clone #[.iface t (.map (some r))] = (getObj r >>= fun o => match o with
      | .map entries clock => (newObj (.map entries clock) >>= fun n => pure (.iface t (.map (some n))))
      | _ => stuck "maps.clone: a map expected") := rfl
  rw [e]
  simp [MapKept.run_getObj_map hb, Result.andThen, go_sem]
theorem Ef.mapClone {f : FuncId} {x : Operand} {ats : Array TypeId} {t : TypeId} {b : Nat} {α : Type} {enc : α → Value} {m : List (Int × α)} {Rest : List HP} (hf : IsMapClone P f) [hp : PickMap L b α enc m Rest] (hx : evE env x = some (.iface t (.map (some b)))) :
    Ef P L env (.call { callee := .value (.func f), args := #[x], argTypes := ats }) ty (fun v L' => ∃ b', v = .iface t (.map (some b')) ∧ L' = omap enc b' m :: omap enc b m :: Rest) :=
  Ef.val (fun θ R ρ w ea s dst pos af g => by
    have s1 : Sat θ (omap enc b m :: (Rest ++ R)) w := s.perm (hp.perm.append_right R)
    obtain ⟨es, clock, h1, h2, h3, h4, h5, s2⟩ := Sat.omap_parts s1
    have hb := s2.own_heap
    refine ⟨_, w.alloc (.map es clock), _, ?_, ⟨w.heap.size, rfl, rfl⟩, ?_⟩
    · have hargs : #[x].map ρ = #[.iface t (.map (some b))] := by simp [evE_ok ea hx]
      have hfn : ρ (.func f) = .func (.func f) #[] #[] := ea _ _ rfl
      simp [execOp, resolve, Deferred.ofValue, invoke, hfn, evE_ok ea hx, hf.run, run_maps_clone t hb, Result.andThen]
    · have s3 := s2.alloc (o := .map es clock)
      have s4 := Sat.omap_mk s3 h1 h2 h3 h4 h5
      have s5 := s4.perm (List.Perm.swap _ _ _)
      have s6 := Sat.omap_mk s5 h1 h2 h3 h4 h5
      exact s6.perm (List.Perm.swap _ _ _))
end
end Go.V
