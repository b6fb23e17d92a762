/- Regions whose order is open and in which several effects may be ready at once. Holds for any program. -/
import Derived.Test.YtclgjkeeaopppaaGreatDoorV12
namespace Go.V
section gf
variable {P : Program} {N : Nat} {ops : Array Oper} {done : List Nat} {n : Nat} {pend : List PE} {env : Env} {L : List HP} {K : Post}
/-- The judgement on the rest of a region, n operations long, in any order. -/
def GF (P : Program) (N : Nat) (ops : Array Oper) (done : List Nat) (n : Nat) (pend : List PE) (env : Env) (L : List HP) (K : Post) : Prop :=
  NoP K → Region.noSelect ops = true → Closed .any ops (listedOf ops.size done) →
  ∀ θ Y a w S, At N env L θ Y a w → PendOk P pend S → (∀ p ∈ S, p.2 w) →
    wpAnyP P .any ops (QK θ Y N K) (dpB ops) n (listedOf ops.size done) S a w
theorem GF.plan (plan : List Stp) (hp : planOk ops done plan = true) (hn : plan.length = n) (h : GP P N ops done plan pend env L K) : GF P N ops done n pend env L K :=
  fun hK hs hcl θ Y a w S i hpo hpw => hn ▸ h hK hp hs hcl θ Y a w S i hpo hpw
theorem G.drawF {id : Nat} {l : List Oper} [hK : NoP K] (hm : P.follows .mixedOrders = true) (hp : (Region.noSelect l.toArray && noDefer l.toArray) = true) (h : GF P N l.toArray [] l.toArray.size [] env L K) : G P N (.region id l.toArray true) env L K := by
  intro r θ Y a w hr i
  simp only [Bool.and_eq_true] at hp
  obtain ⟨h3, h4⟩ := hp
  refine wpIn_region_any hm (wpAnyIn_of h4 (by rintro ⟨a', w', env, L, _, h⟩; exact hK.out env L h) _ _ _ _ (wpAnyP.sound (dep := dpB l.toArray) _ _ [] _ _ ?_))
  obtain ⟨M, ea, hmk, s⟩ := i
  exact h hK h3 (Closed.start _) θ Y a { w with drawn := w.drawn + 1 } [] ⟨M, ea, hmk, s.drew⟩ (by intro p hp; cases hp) (by simp)
theorem GF.take_aux {i d : Nat} {op : Op} {ty : TypeId} {pos : String} {af : Array Edge} {g : Option (Nat × Bool)} {v : Value} {pend' : List PE} (hi : ops[i]? = some ⟨some d, op, ty, pos, af, g⟩) (hd : d < N)
    (hr : ((Region.ready .any ops (listedOf ops.size done)).contains i && Region.free .any ops (listedOf ops.size done) i) = true)
    (hy : ∀ θ R a w, EnvOk N env a → Sat θ (L ++ R) w → ∃ Si, YieldsIf P ops Si ⟨some d, op, ty, pos, af, g⟩ v a ∧ Si w ∧ ∀ S, PendOk P pend S → PendOk P pend' ((i, Si) :: S))
    (h : GF P N ops (i :: done) n pend' ((d, v) :: env) L K) : GF P N ops done (n + 1) pend env L K := by
  intro hK hs hcl θ Y a w S i0 hpo hpw
  simp only [Bool.and_eq_true, List.contains_iff_mem] at hr
  obtain ⟨h1, h2⟩ := hr
  obtain ⟨M, ea, hmk, s⟩ := i0
  obtain ⟨Si, hy1, hy2, hy3⟩ := hy θ _ a w ea s
  have hall : ∀ p ∈ (i, Si) :: S, p.2 w := fun p hp => by
    rcases List.mem_cons.1 hp with rfl | hp
    · exact hy2
    · exact hpw p hp
  refine wpAnyP.first hi (Region.noSelect_spec hs) (fun c a w q => (QK_panic hK c _ w q).elim) (fun j hj => depB_dep _ j i hj) _ _ S a w hcl (Region.free_spec hi h2) h1 hy1 hy2 hpw ?_
  exact h hK hs (hcl.set h1) θ Y (a.put (some d) v) w _ ⟨M, ea.put hd v, by rw [defers_put]; exact hmk, s⟩ (hy3 S hpo) hall
/-- A value is taken first. -/
theorem GF.evP {i d : Nat} {op : Op} {ty : TypeId} {pos : String} {af : Array Edge} {v : Value} (hi : ops[i]? = some ⟨some d, op, ty, pos, af, none⟩)
    (hr : ((Region.ready .any ops (listedOf ops.size done)).contains i && Region.free .any ops (listedOf ops.size done) i) = true) (he : Ev P [] env op ty v) (hd : d < N) (h : GF P N ops (i :: done) n pend ((d, v) :: env) L K) : GF P N ops done (n + 1) pend env L K := by
  refine GF.take_aux hi hd hr (fun θ R a w ea s => ⟨fun _ => True, .inl ⟨rfl, ?_⟩, trivial, fun S hS p hp => ?_⟩) h
  · intro w' _
    exact he ⟨w'.tape, w'.os, w'.output⟩ [] a.eval w' _ ea.agr ⟨⟨rfl, rfl, rfl⟩, Hp.emp, Hp.emp, Hp.emp_disj _, Hp.emp_sub _, Hp.emp_sub _, trivial⟩ rfl rfl
  · rcases List.mem_cons.1 hp with rfl | hp
    · exact .inl fun _ => trivial
    · exact hS p hp
theorem GF.evL {i d : Nat} {op : Op} {ty : TypeId} {pos : String} {af : Array Edge} {v : Value} (hi : ops[i]? = some ⟨some d, op, ty, pos, af, none⟩)
    (hr : ((Region.ready .any ops (listedOf ops.size done)).contains i && Region.free .any ops (listedOf ops.size done) i) = true) (he : Ev P L env op ty v) (hd : d < N) (h : GF P N ops (i :: done) n (⟨i, op, ty, env, v⟩ :: pend) ((d, v) :: env) L K) : GF P N ops done (n + 1) pend env L K := by
  refine GF.take_aux hi hd hr (fun θ R a w ea s => ⟨fun w' => (execOp a.eval ⟨some d, op, ty, pos, af, none⟩).run P w' = .ok (.value v) w', .inl ⟨rfl, fun w' h => h⟩, he θ R a.eval w _ ea.agr s rfl rfl, fun S hS p hp => ?_⟩) h
  rcases List.mem_cons.1 hp with rfl | hp
  · exact .inr ⟨_, List.mem_cons_self, rfl, a.eval, _, ea.agr, rfl, rfl, fun w h => h⟩
  · rcases hS p hp with h | ⟨pe, h1, h2⟩
    · exact .inl h
    · exact .inr ⟨pe, List.mem_cons_of_mem _ h1, h2⟩
/-- This effect comes up next. -/
def GE (P : Program) (N : Nat) (ops : Array Oper) (done : List Nat) (j n : Nat) (pend : List PE) (env : Env) (L : List HP) (K : Post) : Prop :=
  NoP K → Region.noSelect ops = true → Closed .any ops (listedOf ops.size done) → j ∈ Region.ready .any ops (listedOf ops.size done) →
  ∀ θ Y a w S, At N env L θ Y a w → PendOk P pend S → (∀ p ∈ S, p.2 w) →
    wpOp P ops (QK θ Y N K) j (fun a' w' => (∀ p ∈ kp (dpB ops) j S, p.2 w') ∧ wpAnyP P .any ops (QK θ Y N K) (dpB ops) n ((listedOf ops.size done).setIfInBounds j true) (kp (dpB ops) j S) a' w') a w
theorem GF.fork2 (i j : Nat) (hr : (Region.ready .any ops (listedOf ops.size done) == [i, j]) = true) (h1 : GE P N ops done i n pend env L K) (h2 : GE P N ops done j n pend env L K) : GF P N ops done (n + 1) pend env L K := by
  intro hK hs hcl θ Y a w S i0 hpo hpw
  have hr' := eq_of_beq hr
  refine ⟨fun h0 => (by rw [h0] at hr'; cases hr'), fun k hk => ?_⟩
  have hk' := hk
  rw [hr'] at hk'
  rcases List.mem_cons.1 hk' with rfl | hk'
  · exact h1 hK hs hcl hk θ Y a w S i0 hpo hpw
  · obtain rfl := List.mem_singleton.1 hk'
    exact h2 hK hs hcl hk θ Y a w S i0 hpo hpw
theorem GE.ef {j d : Nat} {op : Op} {ty : TypeId} {pos : String} {af : Array Edge} {post : Value → List HP → Prop} (hi : ops[j]? = some ⟨some d, op, ty, pos, af, none⟩) (he : Ef P L env op ty post) (hd : d < N)
    (h : ∀ v L', post v L' → (∀ pe ∈ pend, Ev P L' pe.env pe.op pe.ty pe.v) ∧ GF P N ops (j :: done) n pend ((d, v) :: env) L' K) : GE P N ops done j n pend env L K := by
  intro hK hs hcl hir θ Y a w S i0 hpo hpw
  obtain ⟨M, ea, hmk, s⟩ := i0
  unfold wpOp
  have hw : Region.wanted ⟨some d, op, ty, pos, af, none⟩ (yielded ops a.tmps) = true := rfl
  simp only [hi, hw, if_true]
  refine .inl (he θ _ a w _ _ _ ea.agr s rfl rfl fun v L' w' hpost s' => ?_)
  obtain ⟨k1, k3⟩ := h v L' hpost
  have hkk : ∀ p ∈ kp (dpB ops) j S, p.2 w' ∧ ((∀ w, p.2 w) ∨ ∃ pe ∈ pend, pe.idx = p.1 ∧ ∃ ρ o, Agr pe.env ρ ∧ o.op = pe.op ∧ o.type = pe.ty ∧ ∀ w, (execOp ρ o).run P w = .ok (.value pe.v) w → p.2 w) := by
    intro p hp
    obtain ⟨hp1, hp2⟩ := List.mem_filter.1 hp
    rcases hpo p hp1 with h | ⟨pe, h1, h2, ρ, o, h4, h5, h6, h7⟩
    · exact ⟨h w', .inl h⟩
    · exact ⟨h7 w' (k1 pe h1 θ _ ρ w' o h4 s' h5 h6), .inr ⟨pe, h1, h2, ρ, o, h4, h5, h6, h7⟩⟩
  exact ⟨fun p hp => (hkk p hp).1, k3 hK hs (hcl.set hir) θ Y _ w' _ ⟨M, ea.put hd v, by rw [defers_put]; exact hmk, s'⟩ (fun p hp => (hkk p hp).2) (fun p hp => (hkk p hp).1)⟩
end gf
end Go.V
