/- Further words of the logic: facts out of a state, opening and closing of named assertions, slices of integers. -/
import Derived.Test.YtclgjkeeaopppaaGreatDoorV4
namespace Go.V
section
variable {P : Program} {N : Nat} {env : Env} {L : List HP} {K : Post}

theorem G.fact {c : Code} {φ : Prop} (h : ∀ θ R w, Sat θ (L ++ R) w → φ) (k : φ → G P N c env L K) : G P N c env L K := fun r θ Y a w hr i => let ⟨_, _, _, s⟩ := i; k (h θ _ w s) r θ Y a w hr i
theorem GO.fact {ops : Array Oper} {l : List Oper} {φ : Prop} (h : ∀ θ R w, Sat θ (L ++ R) w → φ) (k : φ → GO P N ops l env L K) : GO P N ops l env L K := fun r θ Y a w hr i => let ⟨_, _, _, s⟩ := i; k (h θ _ w s) r θ Y a w hr i
theorem G.ent {c : Code} {L' : List HP} (hl : Ent L L') (h : G P N c env L' K) : G P N c env L K := h.conseq (EnvSub.refl _) hl
theorem GO.ent {ops : Array Oper} {l : List Oper} {L' : List HP} (hl : Ent L L') (h : GO P N ops l env L' K) : GO P N ops l env L K := h.conseq (EnvSub.refl _) hl
theorem GP.ent {ops : Array Oper} {done : List Nat} {plan : List Stp} {pend : List PE} {L' : List HP} (hl : Ent L L') (h : GP P N ops done plan pend env L' K) : GP P N ops done plan pend env L K := fun hK hp hs hcl θ Y a w S i hpo hpw => h hK hp hs hcl θ Y a w S (i.less (EnvSub.refl _) hl) hpo hpw
theorem GPW.ent {ops : Array Oper} {done : List Nat} {plan : List Stp} {pend : List PE} {L' : List HP} {s : Stp} {dst : Option Tmp} {op : Op} {ty : TypeId} (hl : Ent L L') (h : GPW P N ops done s plan dst op ty pend env L' K) : GPW P N ops done s plan dst op ty pend env L K := fun pos af g h1 h2 => GP.ent hl (h pos af g h1 h2)
/-- Roads that meet: what holds behind x, with a ghost. -/
theorem G.join {α : Type} {x y : Code} (Inv : α → Prop) (e : α → Env) (l : α → List HP) (h : G P N x env L (K.seq fun env' L' => ∃ g, Inv g ∧ EnvSub env' (e g) ∧ Ent L' (l g))) (h' : ∀ g, Inv g → G P N y (e g) (l g) K) : G P N (.seq x y) env L K :=
  G.mid _ h (by rintro env' L' ⟨g, h1, h2, h3⟩; exact (h' g h1).conseq h2 h3)
theorem G.less {c : Code} {env' : Env} (he : EnvSub env env') (h : G P N c env' L K) : G P N c env L K := h.conseq he (Ent.refl _)
theorem G.openX {α : Type} {c : Code} {f : α → List HP} (h : ∀ x, G P N c env (f x ++ L) K) : G P N c env (hex (fun x => hstars (f x)) :: L) K := G.open_ (φ := fun _ => True) (L' := fun x => f x ++ L) (fun θ R w s =>
  let ⟨x, s1⟩ := Sat.ofHex (show Sat θ (hex (fun x => hstars (f x)) :: (L ++ R)) w from s); ⟨x, trivial, by rw [List.append_assoc]; exact s1.ofStars⟩) (fun x _ => h x)
theorem GO.openX {α : Type} {ops : Array Oper} {l : List Oper} {f : α → List HP} (h : ∀ x, GO P N ops l env (f x ++ L) K) : GO P N ops l env (hex (fun x => hstars (f x)) :: L) K := GO.open_ (φ := fun _ => True) (L' := fun x => f x ++ L) (fun θ R w s =>
  let ⟨x, s1⟩ := Sat.ofHex (show Sat θ (hex (fun x => hstars (f x)) :: (L ++ R)) w from s); ⟨x, trivial, by rw [List.append_assoc]; exact s1.ofStars⟩) (fun x _ => h x)
theorem Ent.closeX {α : Type} {f : α → List HP} {R : List HP} (x : α) (h : Ent L (f x ++ R)) : Ent L (hex (fun x => hstars (f x)) :: R) := fun θ R' w s => by
  have s1 := h θ R' w s
  rw [List.append_assoc] at s1
  exact Sat.toHex (f := fun x => hstars (f x)) x (Sat.toStars s1)
theorem Ent.pure {φ : Prop} {L' : List HP} (hφ : φ) (h : Ent L L') : Ent L (hpure φ :: L') := fun θ R w s => Sat.addPure (h θ R w s) hφ
theorem G.pureE {c : Code} {φ : Prop} (h : φ → G P N c env L K) : G P N c env (hpure φ :: L) K := G.open_ (φ := fun _ : Unit => φ) (L' := fun _ => L) (fun θ R w s => ⟨(), Sat.ofPure (show Sat θ (hpure φ :: (L ++ R)) w from s), s.tail⟩) (fun _ => h)
theorem GO.pureE {ops : Array Oper} {l : List Oper} {φ : Prop} (h : φ → GO P N ops l env L K) : GO P N ops l env (hpure φ :: L) K := GO.open_ (φ := fun _ : Unit => φ) (L' := fun _ => L) (fun θ R w s => ⟨(), Sat.ofPure (show Sat θ (hpure φ :: (L ++ R)) w from s), s.tail⟩) (fun _ => h)
theorem Ent.dup {A : HP} (hA : Pers A) : Ent (A :: L) (A :: A :: L) := fun _ _ _ s => Sat.dup hA s
theorem Ent.freezeSl {α : Type} {enc : α → List Value} {sz E : Nat} {ad : Option Addr} {cap : Nat} {xs : List α} : Ent (osl enc sz E ad cap xs :: L) (isl enc sz ad xs :: L) := fun _ _ _ s => Sat.freezeSl s
/-- A variable is an owned slice, full. -/
theorem Ent.objSl {α : Type} {enc : α → List Value} {sz E b : Nat} {cs : List Value} {xs : List α} {n : Nat} (hc : cs = xs.flatMap enc) (hn : xs.length = n) (hs : ∀ x ∈ xs, (enc x).length = sz) (hm : n ≤ 9223372036854775807) : Ent (obj b E cs :: L) (osl enc sz E (some ⟨b, 0, none⟩) n xs :: L) := fun θ R w s => by
  subst hc hn
  exact Sat.osl_mk (show Sat θ (own b (.cells (xs.flatMap enc).toArray E (0, 0)) :: (L ++ R)) w from s) hs (Nat.le_refl _) (by simp only [maxLen]; omega) (by simp [flat_length hs]) (List.take_of_length_le (by rw [flat_length hs]; exact Nat.le_refl _))
theorem Ent.nilSl {α : Type} (enc : α → List Value) (sz E : Nat) : Ent L (osl enc sz E none 0 [] :: L) := fun _ _ _ s => Sat.osl_nil enc sz E s
theorem Ent.nilIsl {α : Type} (enc : α → List Value) (sz : Nat) (ad : Option Addr) : Ent L (isl enc sz ad [] :: L) := fun θ R w s => by
  obtain ⟨ok, ι, h', a, b1, c, d⟩ := s
  exact ⟨ok, ι, h', a, b1, c, Hp.emp, Hp.emp, h', Hp.emp_sub _, Hp.emp_disj _, Hp.emp_sub _, Hp.sub.refl _, ⟨by simp, .inl rfl⟩, d⟩
theorem rds_nil {α : Type} {enc : α → List Value} {sz : Nat} {xs : List α} [h : Rds L none α enc sz xs] : ∀ θ R w, Sat θ (L ++ R) w → xs = [] := fun θ R w s => by
  rcases (h.rd θ R w s).2 with h | ⟨a, ha, _⟩
  · exact h
  · cases ha
theorem osl_cap {α : Type} {enc : α → List Value} {sz E : Nat} {ad : Option Addr} {cap : Nat} {xs : List α} {R' : List HP} [h : PickOsl L ad α enc sz E cap xs R'] : ∀ θ R w, Sat θ (L ++ R) w → xs.length ≤ cap ∧ cap ≤ 9223372036854775807 := fun θ R w s => by
  have := (s.perm (h.perm.append_right R)).osl_parts
  simp only [maxLen] at this
  exact ⟨this.2.1, by omega⟩
instance oslDrop {α : Type} {enc : α → List Value} {sz E : Nat} {ad : Option Addr} {cap : Nat} {xs : List α} {R' : List HP} [h : PickOsl L ad α enc sz E cap xs R'] (k : Nat) : Rds L (advA ad cap sz k) α enc sz (xs.drop k) := ⟨fun _ R _ s =>
  have s1 := s.perm (h.perm.append_right R)
  RdSl.drop (Sat.osl_rd s1) s1.osl_parts.2.1 k⟩
/-- Persistent assertions about all elements of a list. -/
def allP {α : Type} (f : α → HP) (l : List α) : HP := fun ι _ => ∀ x ∈ l, f x ι Hp.emp
theorem allP_pers {α : Type} (f : α → HP) (l : List α) : Pers (allP f l) := fun _ _ h => h
theorem Ent.allP_nil {α : Type} (f : α → HP) : Ent L (allP f [] :: L) := fun θ R w s => by
  obtain ⟨ok, ι, h', a, b1, c, d⟩ := s
  exact ⟨ok, ι, h', a, b1, c, Hp.emp, Hp.emp, h', Hp.emp_sub _, Hp.emp_disj _, Hp.emp_sub _, Hp.sub.refl _, (by intro x hx; cases hx), d⟩
/-- Persistent, and what it says stays true where more is immutable. -/
structure PersM (A : HP) : Prop where
  pers : Pers A
  mono : ∀ ι ι' h, Hp.sub ι ι' → A ι h → A ι' h
theorem isl_persM {α : Type} (enc : α → List Value) (sz : Nat) (ad : Option Addr) (xs : List α) : PersM (isl enc sz ad xs) := ⟨isl_pers enc sz ad xs, fun ι ι' h hs hi => by
  obtain ⟨h1, h2⟩ := hi
  refine ⟨h1, ?_⟩
  rcases h2 with h2 | ⟨g, off, cur, E, fz, f1, f2, f3⟩
  · exact .inl h2
  · exact .inr ⟨g, off, cur, E, fz, f1, hs _ _ f2, f3⟩⟩
theorem Ent.allP_sub {α : Type} {f : α → HP} {l l' : List α} (h : ∀ x ∈ l', x ∈ l) : Ent (allP f l :: L) (allP f l' :: L) := fun θ R w s => by
  obtain ⟨ok, ι, h', a, b1, c, ι₀, h₁, h₂, d1, d2, d3, d4, d5, d6⟩ := s
  exact ⟨ok, ι, h', a, b1, c, ι₀, h₁, h₂, d1, d2, d3, d4, fun x hx => d5 x (h x hx), d6⟩
theorem Ent.allP_cons {α : Type} {f : α → HP} (hf : ∀ x, PersM (f x)) {x : α} {l : List α} : Ent (f x :: allP f l :: L) (allP f (x :: l) :: L) := fun θ R w s => by
  obtain ⟨ok, ι, h', a, b1, c, ι₁, h₁, h₂, d1, d2, d3, d4, d5, ι₂, h₃, h₄, e1, e2, e3, e4, e5, e6⟩ := s
  refine ⟨ok, ι, h', a, b1, c, ι, Hp.emp, h₄, Hp.sub.refl _, Hp.emp_disj _, Hp.emp_sub _, e4.trans d4, ?_, e6⟩
  intro y hy
  rcases List.mem_cons.1 hy with rfl | hy
  · exact (hf _).mono _ _ _ d1 ((hf _).pers _ _ d5)
  · exact (hf _).mono _ _ _ e1 (e5 y hy)
theorem Ent.allP_app {α : Type} {f : α → HP} (hf : ∀ x, PersM (f x)) {l l' : List α} : Ent (allP f l :: allP f l' :: L) (allP f (l ++ l') :: L) := fun θ R w s => by
  obtain ⟨ok, ι, h', a, b1, c, ι₁, h₁, h₂, d1, d2, d3, d4, d5, ι₂, h₃, h₄, e1, e2, e3, e4, e5, e6⟩ := s
  refine ⟨ok, ι, h', a, b1, c, ι, Hp.emp, h₄, Hp.sub.refl _, Hp.emp_disj _, Hp.emp_sub _, e4.trans d4, ?_, e6⟩
  intro y hy
  rcases List.mem_append.1 hy with hy | hy
  · exact (hf _).mono _ _ _ d1 (d5 y hy)
  · exact (hf _).mono _ _ _ e1 (e5 y hy)
theorem Ent.allP_one {α : Type} {f : α → HP} (hf : ∀ x, PersM (f x)) {x : α} : Ent (f x :: L) (allP f [x] :: L) := fun θ R w s => by
  obtain ⟨ok, ι, h', a, b1, c, ι₁, h₁, h₂, d1, d2, d3, d4, d5, d6⟩ := s
  refine ⟨ok, ι, h', a, b1, c, ι₁, h₁, h₂, d1, d2, d3, d4, ?_, d6⟩
  intro y hy
  simp at hy
  subst hy
  exact (hf _).pers _ _ d5
theorem Ent.allP_get {α : Type} {f : α → HP} {l : List α} {x : α} (h : x ∈ l) : Ent (allP f l :: L) (f x :: allP f l :: L) := fun θ R w s => by
  obtain ⟨ok, ι, h', a, b1, c, ι₁, h₁, h₂, d1, d2, d3, d4, d5, d6⟩ := s
  exact ⟨ok, ι, h', a, b1, c, ι₁, Hp.emp, h', d1, Hp.emp_disj _, Hp.emp_sub _, Hp.sub.refl _, d5 x h, ι₁, h₁, h₂, d1, d2, d3, d4, d5, d6⟩
/-- An owned slice anywhere in the list becomes immutable. -/
theorem Ent.frz {α : Type} {enc : α → List Value} {sz E : Nat} (ad : Option Addr) {cap : Nat} {xs : List α} {R : List HP} [h : PickOsl L ad α enc sz E cap xs R] : Ent L (isl enc sz ad xs :: R) := (Ent.perm h.perm).trans Ent.freezeSl
/-- Entailment deeper in the list. -/
theorem Ent.at {A : HP} {R L' : List HP} [h : PickHP L A R] (hr : Ent (A :: R) L') : Ent L L' := (Ent.perm h.perm).trans hr
theorem Ent.swap {A B : HP} : Ent (A :: B :: L) (B :: A :: L) := Ent.perm (List.Perm.swap _ _ _)
theorem Ent.consR {A : HP} {L' : List HP} (h : Ent L L') : Ent (A :: L) (A :: L') := h.cons
end

/-- A result that lies in a variable. -/
theorem ResOk.cell {P : Program} {N : Nat} {env : Env} {L Rest : List HP} {rs : List ResultVar} {vs cs : List Value} {x b T n : Nat} {t : TypeId} [ht : TyAgg P t n] [hp : PickObj L b T cs Rest] (h : env.lookup x = some (.pointer (some ⟨b, 0, none⟩))) (hn : cs.length = n) (hr : ResOk P N env L rs vs) : ResOk P N env L (.cell x t :: rs) (.agg cs.toArray :: vs) := by
  intro θ R a w ea s g h1 h2
  have h3 := ea.at_ x _ h
  have hb := s.obj_heap hp.perm
  have hl := run_loadCells_list (P := P) w ⟨b, 0, none⟩ cs (fun j v hv => by rw [Addr_add_lit, cell_of_block hb]; simpa using hv)
  rw [hn] at hl
  simp [List.mapM_cons, hr θ R a w ea s g h1 h2, h2, h3, asAddr, loadVar, ht.run, TyAgg.sizeOf_run, hl]
theorem ResOk.cell1 {P : Program} {N : Nat} {env : Env} {L Rest : List HP} {rs : List ResultVar} {vs : List Value} {v : Value} {x b T : Nat} {t : TypeId} [ht : TyOne P t] [hp : PickObj L b T [v] Rest] (h : env.lookup x = some (.pointer (some ⟨b, 0, none⟩))) (hr : ResOk P N env L rs vs) : ResOk P N env L (.cell x t :: rs) (v :: vs) := by
  intro θ R a w ea s g h1 h2
  have h3 := ea.at_ x _ h
  have hb := s.obj_heap hp.perm
  simp [List.mapM_cons, hr θ R a w ea s g h1 h2, h2, h3, asAddr, loadVar, ht.run, cell_of_block hb]

/-- Owned assertions about all elements of a list. -/
def bigO {α : Type} (f : α → HP) (l : List α) : HP := hstars (l.map f)
theorem Ent.bigO_nil {α : Type} (f : α → HP) {L : List HP} : Ent L (bigO f [] :: L) := fun _ _ _ s => Sat.toStars (A := []) s
theorem Ent.bigO_snoc {α : Type} {f : α → HP} {x : α} {l : List α} {L : List HP} : Ent (f x :: bigO f l :: L) (bigO f (l ++ [x]) :: L) := fun θ R w s => by
  have s1 : Sat θ (bigO f l :: f x :: (L ++ R)) w := s.perm (List.Perm.swap _ _ _)
  have s2 := Sat.ofStars s1
  refine Sat.toStars (A := (l ++ [x]).map f) ?_
  simpa using s2
theorem Ent.bigO_cons {α : Type} {f : α → HP} {x : α} {l : List α} {L : List HP} : Ent (f x :: bigO f l :: L) (bigO f (x :: l) :: L) := fun θ R w s => by
  have s1 : Sat θ (bigO f l :: f x :: (L ++ R)) w := s.perm (List.Perm.swap _ _ _)
  have s2 := Sat.ofStars s1
  refine Sat.toStars (A := (x :: l).map f) ?_
  exact s2.perm List.perm_middle
theorem Ent.bigO_uncons {α : Type} {f : α → HP} {x : α} {l : List α} {L : List HP} : Ent (bigO f (x :: l) :: L) (f x :: bigO f l :: L) := fun θ R w s => by
  have s2 : Sat θ (f x :: (l.map f ++ (L ++ R))) w := Sat.ofStars (A := (x :: l).map f) s
  have s3 : Sat θ (l.map f ++ (f x :: (L ++ R))) w := s2.perm List.perm_middle.symm
  exact (Sat.toStars (A := l.map f) s3).perm (List.Perm.swap _ _ _)
theorem Ent.bigO_app {α : Type} {f : α → HP} {l l' : List α} {L : List HP} : Ent (bigO f l :: bigO f l' :: L) (bigO f (l ++ l') :: L) := fun θ R w s => by
  have s1 := Sat.ofStars (A := l.map f) s
  have s2 : Sat θ (bigO f l' :: (l.map f ++ (L ++ R))) w := s1.perm List.perm_middle
  have s3 := Sat.ofStars (A := l'.map f) s2
  refine Sat.toStars (A := (l ++ l').map f) ?_
  rw [List.map_append, List.append_assoc]
  refine s3.perm ?_
  have e : ∀ A B C : List HP, (A ++ (B ++ C)).Perm (B ++ (A ++ C)) := fun A B C => by
    rw [← List.append_assoc, ← List.append_assoc]
    exact List.perm_append_comm.append_right _
  exact e _ _ _
theorem Ent.bigO_all {α : Type} {f g : α → HP} (hg : ∀ x, PersM (g x)) (h : ∀ x L, Ent (f x :: L) (g x :: L)) : ∀ (l : List α) (L : List HP), Ent (bigO f l :: L) (allP g l :: L)
  | [], _ => (Ent.drop).trans (Ent.allP_nil g)
  | x :: l, L => (Ent.bigO_uncons).trans ((h x _).trans ((Ent.consR (Ent.bigO_all hg h l L)).trans (Ent.allP_cons hg)))

theorem lookup_map {α β : Type} (g : α → β) (k : Int) : ∀ m : List (Int × α), (m.map (fun p => (p.1, g p.2))).lookup k = (m.lookup k).map g
  | [] => rfl
  | (k', v) :: m => by
    simp only [List.map_cons, List.lookup_cons]
    cases h : k == k' with
    | true => rfl
    | false => simpa using lookup_map g k m
theorem aera_map {α β : Type} (g : α → β) (m : List (Int × α)) (k : Int) : aera (m.map (fun p => (p.1, g p.2))) k = (aera m k).map (fun p => (p.1, g p.2)) := by simp [aera, List.filter_map, Function.comp_def]
theorem ains_map {α β : Type} (g : α → β) (m : List (Int × α)) (k : Int) (a : α) : ains (m.map (fun p => (p.1, g p.2))) k (g a) = (ains m k a).map (fun p => (p.1, g p.2)) := by
  simp only [ains, List.any_map, Function.comp_def]
  split
  · simp only [List.map_map, Function.comp_def]
    refine List.map_congr_left ?_
    intro p _
    split <;> rfl
  · simp
theorem ains_new {α : Type} {m : List (Int × α)} {k : Int} {a : α} (h : m.lookup k = none) : ains m k a = m ++ [(k, a)] := by
  have : m.any (fun p => p.1 == k) = false := by
    induction m with
    | nil => rfl
    | cons p m ih =>
      obtain ⟨k', v⟩ := p
      simp only [List.lookup_cons] at h
      cases hk : k == k' with
      | true => rw [hk] at h; cases h
      | false =>
        rw [hk] at h
        have : (k' == k) = false := by
          rw [beq_eq_false_iff_ne] at hk ⊢
          exact fun e => hk e.symm
        simp [this, ih h]
  simp [ains, this]
theorem lookup_mem {α : Type} {m : List (Int × α)} {k : Int} {a : α} (h : m.lookup k = some a) : (k, a) ∈ m := by
  induction m with
  | nil => cases h
  | cons p m ih =>
    obtain ⟨k', v⟩ := p
    simp only [List.lookup_cons] at h
    cases hk : k == k' with
    | true =>
      rw [hk] at h
      have e1 : k = k' := by simpa using hk
      have e2 : v = a := by simpa using h
      rw [e1, ← e2]
      exact List.mem_cons_self
    | false => rw [hk] at h; exact List.mem_cons_of_mem _ (ih h)
theorem aera_lt {α : Type} {m : List (Int × α)} {k : Int} {a : α} (h : m.lookup k = some a) : (aera m k).length < m.length := by
  have := lookup_mem h
  unfold aera
  exact List.length_filter_lt_length_iff_exists.2 ⟨_, this, by simp⟩
theorem aera_sub {α : Type} {m : List (Int × α)} {k : Int} : ∀ p ∈ aera m k, p ∈ m := fun _ hp => (List.mem_filter.1 hp).1

/-- Integers of a kind, as elements. -/
def encI (k : IntKind) (x : Int) : List Value := [.int k x]
theorem encI_len (k : IntKind) (x : Int) : (encI k x).length = 1 := rfl
theorem encI_one (k : IntKind) (x : Int) : ∀ u ∈ encI k x, u.oneCell' = true := by simp [encI, Value.oneCell']
instance (k : IntKind) : EncC (encI k) := ⟨encI_one k⟩
/-- Values of one cell, as elements. -/
theorem flat_single {α : Type} (f : α → Value) (xs : List α) : xs.flatMap (fun x => [f x]) = xs.map f := by
  induction xs with
  | nil => rfl
  | cons x xs ih => simp [ih]
end Go.V
