/- The plain law of homes (lists of first accounts and shards): two normal lists in which each account lives on the same shard are equal; what splitting and joining do. Holds for all lists; no condition. -/
import Derived.Test.YtclgjkeeaopppaaGreatDoorV1
namespace Go.Proofs.YtclgjkeeaopppaaGreatDoor

abbrev Hm := Int × Int
abbrev maxAcc : Int := 1073741824
/-- The shard of an account, from a shard s on. -/
def fnd (s : Int) : List Hm → Int → Int
  | [], _ => s
  | (f, t) :: l, a => fnd (if f ≤ a then t else s) l a
/-- Strictly increasing above f. -/
def Inc (f : Int) : List Hm → Prop
  | [] => True
  | (g, _) :: l => f < g ∧ Inc g l
/-- Neighbours live on different shards. -/
def Nrm (s : Int) : List Hm → Prop
  | [] => True
  | (_, t) :: l => t ≠ s ∧ Nrm t l
def Bnd (l : List Hm) : Prop := ∀ h ∈ l, h.1 ≤ maxAcc

theorem Inc.weak {l : List Hm} {f g : Int} (h : Inc f l) (hg : g ≤ f) : Inc g l := by
  cases l with
  | nil => trivial
  | cons p l => exact ⟨by have := h.1; omega, h.2⟩
theorem Inc.mem {l : List Hm} : ∀ {f : Int}, Inc f l → ∀ p ∈ l, f < p.1 := by
  induction l with
  | nil => intro f _ p hp; cases hp
  | cons q l ih =>
    intro f h p hp
    have h1 := h.1
    rcases List.mem_cons.1 hp with rfl | hp
    · exact h1
    · have := ih h.2 p hp; omega
theorem fnd_lt {l : List Hm} : ∀ {f s a : Int}, Inc f l → a ≤ f → fnd s l a = s := by
  induction l with
  | nil => intro f s a _ _; rfl
  | cons p l ih =>
    intro f s a h ha
    have h1 := h.1
    simp only [fnd]
    rw [if_neg (by omega)]
    exact ih h.2 (by omega)
/-- The same, where all begin behind a. -/
theorem fnd_all_gt {l : List Hm} {s a : Int} (h : ∀ p ∈ l, a < p.1) : fnd s l a = s := by
  induction l with
  | nil => rfl
  | cons p l ih =>
    simp only [fnd]
    have := h p (List.mem_cons_self ..)
    rw [if_neg (by omega)]
    exact ih fun q hq => h q (List.mem_cons_of_mem _ hq)
theorem fnd_app {l m : List Hm} {a : Int} : ∀ {s : Int}, fnd s (l ++ m) a = fnd (fnd s l a) m a := by
  induction l with
  | nil => intro s; rfl
  | cons p l ih => intro s; simp only [List.cons_append, fnd]; exact ih

/-- Normal lists with the same shards are equal. -/
theorem homes_unique : ∀ {l l' : List Hm} {f s : Int}, Inc f l → Inc f l' → Nrm s l → Nrm s l' → Bnd l → Bnd l' →
    (∀ a, f < a → a ≤ maxAcc → fnd s l a = fnd s l' a) → l = l' := by
  intro l
  induction l with
  | nil =>
    intro l' f s _ h2 _ h4 _ h6 he
    cases l' with
    | nil => rfl
    | cons p l' =>
      obtain ⟨g, t⟩ := p
      have h := he g h2.1 (h6 (g, t) (List.mem_cons_self ..))
      simp only [fnd, Int.le_refl, if_true] at h
      rw [fnd_lt h2.2 (Int.le_refl g)] at h
      exact absurd h.symm h4.1
  | cons p l ih =>
    obtain ⟨g, t⟩ := p
    intro l' f s h1 h2 h3 h4 h5 h6 he
    have hg := h5 (g, t) (List.mem_cons_self ..)
    have hl : ∀ x, fnd x ((g, t) :: l) g = t := fun x => by
      simp only [fnd, Int.le_refl, if_true]; exact fnd_lt h1.2 (Int.le_refl g)
    cases l' with
    | nil =>
      have h := he g h1.1 hg
      rw [hl] at h
      exact absurd h h3.1
    | cons p' l' =>
      obtain ⟨g', t'⟩ := p'
      have hg' := h6 (g', t') (List.mem_cons_self ..)
      have hl' : ∀ x, fnd x ((g', t') :: l') g' = t' := fun x => by
        simp only [fnd, Int.le_refl, if_true]; exact fnd_lt h2.2 (Int.le_refl g')
      have hgg : g = g' := by
        rcases Int.lt_trichotomy g g' with h | h | h
        · have e := he g h1.1 hg
          rw [hl, fnd_lt (f := g) (l := (g', t') :: l') ⟨h, h2.2⟩ (Int.le_refl _)] at e
          exact absurd e h3.1
        · exact h
        · have e := he g' h2.1 hg'
          rw [hl', fnd_lt (f := g') (l := (g, t) :: l) ⟨h, h1.2⟩ (Int.le_refl _)] at e
          exact absurd e.symm h4.1
      subst hgg
      have htt : t = t' := by
        have e := he g h1.1 hg
        rw [hl, hl'] at e
        exact e
      subst htt
      rw [ih h1.2 h2.2 h3.2 h4.2 (fun h hh => h5 h (List.mem_cons_of_mem _ hh)) (fun h hh => h6 h (List.mem_cons_of_mem _ hh)) ?_]
      intro a ha hm
      have e := he a (by have := h1.1; omega) hm
      simp only [fnd] at e
      rw [if_pos (by omega)] at e
      exact e

/-! ### Normal lists -/
def nrm : Option Int → List Hm → List Hm
  | _, [] => []
  | s, (f, t) :: l => if s = some t then nrm s l else (f, t) :: nrm (some t) l
def push (out : List Hm) (p : Hm) : List Hm := if out.getLast?.map (·.2) = some p.2 then out else out ++ [p]
def normalM (l : List Hm) : List Hm := l.foldl push []
theorem foldl_push {l : List Hm} : ∀ (out : List Hm), l.foldl push out = out ++ nrm (out.getLast?.map (·.2)) l := by
  induction l with
  | nil => intro out; simp [nrm]
  | cons p l ih =>
    intro out
    obtain ⟨f, t⟩ := p
    simp only [List.foldl_cons, nrm]
    rw [ih]
    unfold push
    split
    · rfl
    · simp
theorem normalM_eq (l : List Hm) : normalM l = nrm none l := by
  unfold normalM
  rw [foldl_push]
  simp
theorem nrm_sub {l : List Hm} : ∀ {s : Option Int} {p : Hm}, p ∈ nrm s l → p ∈ l := by
  induction l with
  | nil => intro s p h; cases h
  | cons q l ih =>
    obtain ⟨f, t⟩ := q
    intro s p h
    simp only [nrm] at h
    split at h
    · exact List.mem_cons_of_mem _ (ih h)
    · rcases List.mem_cons.1 h with rfl | h
      · exact List.mem_cons_self ..
      · exact List.mem_cons_of_mem _ (ih h)
theorem nrm_inc {l : List Hm} : ∀ {s : Option Int} {f : Int}, Inc f l → Inc f (nrm s l) := by
  induction l with
  | nil => intro s f _; trivial
  | cons q l ih =>
    obtain ⟨g, t⟩ := q
    intro s f h
    simp only [nrm]
    split
    · exact (ih h.2).weak (by have := h.1; omega)
    · exact ⟨h.1, ih h.2⟩
theorem nrm_nrm {l : List Hm} : ∀ {s : Int}, Nrm s (nrm (some s) l) := by
  induction l with
  | nil => intro s; trivial
  | cons q l ih =>
    obtain ⟨g, t⟩ := q
    intro s
    simp only [nrm]
    split
    · exact ih
    · rename_i h
      exact ⟨fun e => h (by rw [e]), ih⟩
theorem nrm_fnd {l : List Hm} : ∀ {f s a : Int}, Inc f l → fnd s (nrm (some s) l) a = fnd s l a := by
  induction l with
  | nil => intro f s a _; rfl
  | cons q l ih =>
    obtain ⟨g, t⟩ := q
    intro f s a h
    simp only [nrm]
    split
    · rename_i e
      have e' : s = t := by simpa using e
      subst e'
      rw [ih h.2]
      simp only [fnd]
      congr 1
      split <;> rfl
    · simp only [fnd]
      by_cases hga : g ≤ a
      · rw [if_pos hga]; exact ih h.2
      · rw [if_neg hga, fnd_lt (nrm_inc h.2) (by omega), fnd_lt h.2 (by omega)]

/-! ### Valid homes -/
/-- The homes are valid for n shards. -/
structure HOk (n : Int) (l : List Hm) : Prop where
  n1 : 1 ≤ n
  n2 : n ≤ 12
  ne : ∃ s tl, l = (1, s) :: tl ∧ Inc 1 tl ∧ Nrm s tl
  bd : ∀ h ∈ l, h.1 ≤ maxAcc ∧ 0 ≤ h.2 ∧ h.2 < n
def fndH (l : List Hm) (a : Int) : Int := fnd 0 l a
theorem HOk.mono {n m : Int} {l : List Hm} (h : HOk n l) (hm : n ≤ m) (h12 : m ≤ 12) : HOk m l :=
  ⟨by have := h.n1; omega, h12, h.ne, fun x hx => by have := h.bd x hx; omega⟩
theorem fnd_mem {l : List Hm} {a : Int} : ∀ {s : Int}, fnd s l a = s ∨ ∃ p ∈ l, p.1 ≤ a ∧ fnd s l a = p.2 := by
  induction l with
  | nil => intro s; exact .inl rfl
  | cons q l ih =>
    obtain ⟨g, t⟩ := q
    intro s
    simp only [fnd]
    rcases ih (s := if g ≤ a then t else s) with h | ⟨p, hp, h1, h2⟩
    · by_cases hga : g ≤ a
      · rw [if_pos hga] at h ⊢; exact .inr ⟨(g, t), List.mem_cons_self .., hga, h⟩
      · rw [if_neg hga] at h ⊢; exact .inl h
    · exact .inr ⟨p, List.mem_cons_of_mem _ hp, h1, h2⟩
theorem HOk.fnd_bd {n : Int} {l : List Hm} (h : HOk n l) (a : Int) : 0 ≤ fndH l a ∧ fndH l a < n := by
  rcases fnd_mem (l := l) (a := a) (s := 0) with e | ⟨p, hp, _, e⟩
  · unfold fndH; rw [e]; have := h.n1; omega
  · unfold fndH; rw [e]; exact (h.bd p hp).2
theorem HOk.unique {n m : Int} {l l' : List Hm} (h : HOk n l) (h' : HOk m l') (he : ∀ a, 1 ≤ a → a ≤ maxAcc → fndH l a = fndH l' a) : l = l' := by
  obtain ⟨s, tl, rfl, h1, h2⟩ := h.ne
  obtain ⟨s', tl', rfl, h1', h2'⟩ := h'.ne
  have e := he 1 (Int.le_refl _) (by decide)
  simp only [fndH, fnd, Int.le_refl, if_true] at e
  rw [fnd_lt h1 (Int.le_refl _), fnd_lt h1' (Int.le_refl _)] at e
  subst e
  rw [homes_unique h1 h1' h2 h2' (fun x hx => (h.bd x (List.mem_cons_of_mem _ hx)).1) (fun x hx => (h'.bd x (List.mem_cons_of_mem _ hx)).1) ?_]
  intro a ha hm
  have e := he a (by omega) hm
  simp only [fndH, fnd] at e
  rw [if_pos (by omega)] at e
  exact e
/-- Points that begin at 1 and increase, made normal. -/
theorem normal_ok {n s : Int} {tl : List Hm} (h1 : 1 ≤ n) (h2 : n ≤ 12) (hi : Inc 1 tl) (hb : ∀ h ∈ (1, s) :: tl, h.1 ≤ maxAcc ∧ 0 ≤ h.2 ∧ h.2 < n) :
    HOk n (normalM ((1, s) :: tl)) ∧ ∀ a, 1 ≤ a → fndH (normalM ((1, s) :: tl)) a = fndH ((1, s) :: tl) a := by
  have e : normalM ((1, s) :: tl) = (1, s) :: nrm (some s) tl := by rw [normalM_eq]; simp [nrm]
  rw [e]
  refine ⟨⟨h1, h2, ⟨s, _, rfl, nrm_inc hi, nrm_nrm⟩, ?_⟩, ?_⟩
  · intro h hh
    rcases List.mem_cons.1 hh with rfl | hh
    · exact hb _ (List.mem_cons_self ..)
    · exact hb _ (List.mem_cons_of_mem _ (nrm_sub hh))
  · intro a ha
    simp only [fndH, fnd, if_pos ha]
    exact nrm_fnd hi

/-! ### Joining -/
def ren (sh into s : Int) : Int := if s = sh then into else s
def joinP (l : List Hm) (sh into : Int) : List Hm := l.map fun p => (p.1, ren sh into p.2)
def joinH (l : List Hm) (sh into : Int) : List Hm := normalM (joinP l sh into)
theorem joinP_inc {l : List Hm} {sh into : Int} : ∀ {f : Int}, Inc f l → Inc f (joinP l sh into) := by
  induction l with
  | nil => intro f _; trivial
  | cons p l ih => intro f h; exact ⟨h.1, ih h.2⟩
theorem joinP_fnd {l : List Hm} {sh into a : Int} : ∀ {s : Int}, fnd (ren sh into s) (joinP l sh into) a = ren sh into (fnd s l a) := by
  induction l with
  | nil => intro s; rfl
  | cons p l ih =>
    obtain ⟨g, t⟩ := p
    intro s
    simp only [joinP, List.map_cons, fnd] at ih ⊢
    by_cases hga : g ≤ a
    · rw [if_pos hga, if_pos hga]; exact ih
    · rw [if_neg hga, if_neg hga]; exact ih
theorem joinH_ok {n sh into : Int} {l : List Hm} (h : HOk n l) (hi : 0 ≤ into ∧ into < n) :
    HOk n (joinH l sh into) ∧ ∀ a, 1 ≤ a → fndH (joinH l sh into) a = ren sh into (fndH l a) := by
  obtain ⟨s, tl, rfl, h1, h2⟩ := h.ne
  have hb := h.bd
  have hj : joinP ((1, s) :: tl) sh into = (1, ren sh into s) :: joinP tl sh into := rfl
  unfold joinH
  rw [hj]
  have hok := normal_ok (n := n) (s := ren sh into s) (tl := joinP tl sh into) h.n1 h.n2 (joinP_inc h1) (by
    intro x hx
    rw [← hj] at hx
    obtain ⟨p, hp, rfl⟩ := List.mem_map.1 hx
    have hq := hb p hp
    dsimp only [ren]
    split <;> omega)
  refine ⟨hok.1, fun a ha => ?_⟩
  rw [hok.2 a ha]
  simp only [fndH, fnd, if_pos ha]
  exact joinP_fnd

/-! ### Splitting -/
def rngs : List Hm → List (Int × Int × Int)
  | [] => []
  | [(g, h)] => [(g, maxAcc, h)]
  | (g, h) :: (g', h') :: l => (g, g' - 1, h) :: rngs ((g', h') :: l)
def piecesH (f t s : Int) (r : Int × Int × Int) : List Hm :=
  (if r.1 < f then [(r.1, r.2.2)] else []) ++ ((if r.1 ≤ t ∧ f ≤ r.2.1 then [(max r.1 f, s)] else []) ++ (if t < r.2.1 then [(max r.1 (t + 1), r.2.2)] else []))
def splitP (l : List Hm) (f t s : Int) : List Hm := (rngs l).flatMap (piecesH f t s)
def splitH (l : List Hm) (f t s : Int) : List Hm := normalM (splitP l f t s)
theorem rngs_len : ∀ l : List Hm, (rngs l).length = l.length
  | [] => rfl
  | [_] => rfl
  | (g, h) :: (g', h') :: l => by simp only [rngs, List.length_cons, rngs_len ((g', h') :: l)]
theorem rngs_get : ∀ (l : List Hm) (i : Nat) (hi : i < l.length), (rngs l)[i]? = some (l[i].1, (if h : i + 1 < l.length then l[i + 1].1 - 1 else maxAcc), l[i].2)
  | [], i, hi => by simp at hi
  | [(g, h)], i, hi => by
    have : i = 0 := by simpa using hi
    subst this
    simp [rngs]
  | (g, h) :: (g', h') :: l, 0, _ => by simp [rngs]
  | (g, h) :: (g', h') :: l, i + 1, hi => by
    have := rngs_get ((g', h') :: l) i (by simpa using hi)
    simp only [rngs, List.getElem?_cons_succ, this]
    simp
theorem Inc.app {l m : List Hm} {e : Int} : ∀ {f : Int}, Inc f l → (∀ p ∈ l, p.1 ≤ e) → f ≤ e → Inc e m → Inc f (l ++ m) := by
  induction l with
  | nil => intro f _ _ hf hm; exact hm.weak hf
  | cons p l ih =>
    intro f h1 h2 h3 h4
    exact ⟨h1.1, ih h1.2 (fun q hq => h2 q (List.mem_cons_of_mem _ hq)) (h2 p (List.mem_cons_self ..)) h4⟩
theorem pieces_inc {f t s g b h : Int} (h1 : f ≤ t) (h2 : g ≤ b) : Inc (g - 1) (piecesH f t s (g, b, h)) ∧ ∀ p ∈ piecesH f t s (g, b, h), g ≤ p.1 ∧ p.1 ≤ b := by
  unfold piecesH
  dsimp only
  split <;> split <;> split <;> simp only [List.nil_append, List.cons_append, Inc, List.mem_cons, List.not_mem_nil, or_false, forall_eq_or_imp, forall_eq, and_true, false_imp_iff, implies_true] <;> (repeat' (refine And.intro ?_ ?_)) <;> first | trivial | omega
theorem pieces_fnd {f t s g b h x a : Int} (h1 : f ≤ t) (h2 : g ≤ a) (h3 : a ≤ b) : fnd x (piecesH f t s (g, b, h)) a = if f ≤ a ∧ a ≤ t then s else h := by
  unfold piecesH
  dsimp only
  split <;> split <;> split <;> simp only [List.nil_append, List.cons_append, fnd] <;> (repeat' split) <;> first | rfl | omega
theorem split_aux {f t s : Int} (h1 : f ≤ t) (_hf : 1 ≤ f) : ∀ (l : List Hm) (g h : Int), Inc g l → g ≤ maxAcc → Bnd l →
    Inc (g - 1) (splitP ((g, h) :: l) f t s) ∧ (∀ p ∈ splitP ((g, h) :: l) f t s, p.1 ≤ maxAcc) ∧ ∀ a x, g ≤ a → a ≤ maxAcc → fnd x (splitP ((g, h) :: l) f t s) a = if f ≤ a ∧ a ≤ t then s else fnd h l a := by
  intro l
  induction l with
  | nil =>
    intro g h _ hg _
    have hp := pieces_inc (s := s) (h := h) h1 hg
    simp only [splitP, rngs, List.flatMap_cons, List.flatMap_nil, List.append_nil]
    exact ⟨hp.1, fun p hpm => (hp.2 p hpm).2, fun a x ha hm => by rw [pieces_fnd h1 ha hm]; rfl⟩
  | cons q l ih =>
    obtain ⟨g', h'⟩ := q
    intro g h hi hg hb
    have hgg := hi.1
    have hgm := hb (g', h') (List.mem_cons_self ..)
    obtain ⟨i1, i2, i3⟩ := ih g' h' hi.2 hgm (fun p hp => hb p (List.mem_cons_of_mem _ hp))
    have hp := pieces_inc (s := s) (h := h) (g := g) (b := g' - 1) h1 (by omega)
    have he : splitP ((g, h) :: (g', h') :: l) f t s = piecesH f t s (g, g' - 1, h) ++ splitP ((g', h') :: l) f t s := by simp [splitP, rngs]
    rw [he]
    refine ⟨Inc.app hp.1 (fun p hpm => (hp.2 p hpm).2) (by omega) i1, ?_, ?_⟩
    · intro p hpm
      rcases List.mem_append.1 hpm with hpm | hpm
      · have := (hp.2 p hpm).2; dsimp only at hgm; omega
      · exact i2 p hpm
    · intro a x ha hm
      rw [fnd_app]
      by_cases hag : g' ≤ a
      · rw [i3 a _ hag hm]
        simp only [fnd, if_pos hag]
      · rw [pieces_fnd h1 ha (by omega), fnd_lt i1 (by omega)]
        rw [fnd_lt (f := a) (l := (g', h') :: l) ⟨by omega, hi.2⟩ (Int.le_refl _)]
theorem split_head {f t s : Int} (h1 : f ≤ t) (hf : 1 ≤ f) (h : Int) (l : List Hm) (hl : Inc 1 l) : ∃ s' tl, splitP ((1, h) :: l) f t s = (1, s') :: tl := by
  have : ∃ b r, rngs ((1, h) :: l) = (1, b, h) :: r ∧ 1 ≤ b := by
    cases l with
    | nil => exact ⟨_, _, rfl, by decide⟩
    | cons q l => obtain ⟨g', h'⟩ := q; exact ⟨_, _, rfl, by have := hl.1; omega⟩
  obtain ⟨b, r, hr, hb⟩ := this
  unfold splitP
  rw [hr]
  simp only [List.flatMap_cons, piecesH]
  by_cases h2 : 1 < f
  · rw [if_pos h2]; exact ⟨_, _, rfl⟩
  · have hf1 : f = 1 := by omega
    subst hf1
    rw [if_neg h2, if_pos ⟨h1, hb⟩]
    exact ⟨_, _, rfl⟩
theorem splitP_shards {f t s n : Int} {l : List Hm} (hs : 0 ≤ s ∧ s < n) (hb : ∀ h ∈ l, 0 ≤ h.2 ∧ h.2 < n) : ∀ p ∈ splitP l f t s, 0 ≤ p.2 ∧ p.2 < n := by
  have hr : ∀ (l : List Hm), (∀ h ∈ l, 0 ≤ h.2 ∧ h.2 < n) → ∀ r ∈ rngs l, 0 ≤ r.2.2 ∧ r.2.2 < n := by
    intro l
    induction l with
    | nil => intro _ r h; cases h
    | cons p l ih =>
      intro hb r hrm
      obtain ⟨g, h⟩ := p
      cases l with
      | nil =>
        simp only [rngs, List.mem_singleton] at hrm
        subst hrm
        exact hb (g, h) (List.mem_cons_self ..)
      | cons q l =>
        obtain ⟨g', h'⟩ := q
        simp only [rngs] at hrm
        rcases List.mem_cons.1 hrm with rfl | hrm
        · exact hb (g, h) (List.mem_cons_self ..)
        · exact ih (fun x hx => hb x (List.mem_cons_of_mem _ hx)) r hrm
  intro p hp
  obtain ⟨r, hrm, hpm⟩ := List.mem_flatMap.1 hp
  have h1 := hr l hb r hrm
  unfold piecesH at hpm
  simp only [List.mem_append] at hpm
  rcases hpm with hpm | hpm | hpm <;> split at hpm <;> simp at hpm <;> subst hpm <;> assumption
theorem splitH_ok {n f t s : Int} {l : List Hm} (h : HOk n l) (hs : 0 ≤ s ∧ s < n) (h1 : f ≤ t) (hf : 1 ≤ f) :
    HOk n (splitH l f t s) ∧ ∀ a, 1 ≤ a → a ≤ maxAcc → fndH (splitH l f t s) a = (if f ≤ a ∧ a ≤ t then s else fndH l a) := by
  obtain ⟨s0, tl, rfl, hi, hn⟩ := h.ne
  have hb := h.bd
  obtain ⟨a1, a2, a3⟩ := split_aux (s := s) h1 hf tl 1 s0 hi (by decide) (fun x hx => (hb x (List.mem_cons_of_mem _ hx)).1)
  obtain ⟨s', tl', he⟩ := split_head (s := s) h1 hf s0 tl hi
  have hsh := splitP_shards (f := f) (t := t) hs (fun x hx => (hb x hx).2)
  unfold splitH
  rw [he] at a1 a2 a3 hsh ⊢
  have hok := normal_ok (n := n) (s := s') (tl := tl') h.n1 h.n2 a1.2 (fun x hx => ⟨a2 x hx, hsh x hx⟩)
  refine ⟨hok.1, fun a ha hm => ?_⟩
  rw [hok.2 a ha, fndH, a3 a 0 ha hm]
  simp only [fndH, fnd, if_pos ha]

/-! ### Splitting, by the model -/
def putL : List Int → Int → List Int
  | [], n => [n]
  | x :: l, n => if x < n then x :: putL l n else if x = n then x :: l else n :: x :: l
def IncI (f : Int) : List Int → Prop
  | [] => True
  | g :: l => f < g ∧ IncI g l
theorem putL_inc {l : List Int} {n : Int} : ∀ {f : Int}, IncI f l → f < n → IncI f (putL l n) := by
  induction l with
  | nil => intro f _ h; exact ⟨h, trivial⟩
  | cons x l ih =>
    intro f h hn
    simp only [putL]
    split
    · exact ⟨h.1, ih h.2 (by assumption)⟩
    · split
      · exact h
      · exact ⟨hn, by omega, h.2⟩
theorem putL_mem {l : List Int} {n x : Int} : x ∈ putL l n ↔ x ∈ l ∨ x = n := by
  induction l with
  | nil => simp [putL]
  | cons y l ih =>
    simp only [putL]
    split
    · simp only [List.mem_cons, ih]
      constructor
      · rintro (h | h | h) <;> simp [h]
      · rintro ((h | h) | h) <;> simp [h]
    · split
      · rename_i h; subst h
        constructor
        · intro h; exact .inl h
        · rintro (h | h)
          · exact h
          · subst h; exact List.mem_cons_self ..
      · simp only [List.mem_cons]
        constructor
        · rintro (h | h | h) <;> simp [h]
        · rintro ((h | h) | h) <;> simp [h]
def refPts (l : List Hm) (f t : Int) : List Int :=
  let a := putL (l.foldl (fun a h => putL a h.1) []) f
  if t < maxAcc then putL a (t + 1) else a
def refSplit (l : List Hm) (f t s : Int) : List Hm := normalM ((refPts l f t).map fun p => (p, if f ≤ p ∧ p ≤ t then s else fndH l p))
theorem fold_put {l : List Hm} : ∀ {a : List Int}, (∀ x ∈ a, 1 ≤ x) → IncI 0 a → (∀ h ∈ l, 1 ≤ h.1) → IncI 0 (l.foldl (fun a h => putL a h.1) a) ∧ ∀ x, x ∈ l.foldl (fun a h => putL a h.1) a ↔ x ∈ a ∨ ∃ h ∈ l, h.1 = x := by
  induction l with
  | nil => intro a _ h _; exact ⟨h, by simp⟩
  | cons p l ih =>
    intro a ha hi hl
    have hp := hl p (List.mem_cons_self ..)
    obtain ⟨i1, i2⟩ := ih (a := putL a p.1) (by intro x hx; rcases putL_mem.1 hx with h | h; exact ha x h; omega) (putL_inc hi (by omega)) (fun h hh => hl h (List.mem_cons_of_mem _ hh))
    refine ⟨i1, fun x => ?_⟩
    rw [List.foldl_cons, i2, putL_mem]
    constructor
    · rintro ((h | h) | ⟨q, hq, e⟩)
      · exact .inl h
      · exact .inr ⟨p, List.mem_cons_self .., h.symm⟩
      · exact .inr ⟨q, List.mem_cons_of_mem _ hq, e⟩
    · rintro (h | ⟨q, hq, e⟩)
      · exact .inl (.inl h)
      · rcases List.mem_cons.1 hq with rfl | hq
        · exact .inl (.inr e.symm)
        · exact .inr ⟨q, hq, e⟩
theorem const_between {g : Int → Int} {p : Int} : ∀ (k : Nat), (∀ b, p < b → b ≤ p + k → g b = g (b - 1)) → g (p + k) = g p := by
  intro k
  induction k with
  | zero => intro _; simp
  | succ k ih =>
    intro h
    have h1 := h (p + (k + 1 : Nat)) (by omega) (Int.le_refl _)
    rw [h1, show p + ((k + 1 : Nat) : Int) - 1 = p + (k : Int) by omega]
    exact ih fun b h2 h3 => h b h2 (by omega)
theorem pts_fnd {g : Int → Int} {pts : List Int} : ∀ {p a x : Int}, IncI p pts → p ≤ a → (∀ b, p < b → b ≤ a → g b ≠ g (b - 1) → b ∈ pts) → x = g p → fnd x (pts.map fun q => (q, g q)) a = g a := by
  induction pts with
  | nil =>
    intro p a x _ ha h hx
    simp only [List.map_nil, fnd]
    have := const_between (g := g) (p := p) (a - p).toNat (fun b h1 h2 => Classical.byContradiction fun hne => by cases h b h1 (by omega) hne)
    rw [show p + ((a - p).toNat : Int) = a by omega] at this
    rw [this, hx]
  | cons q pts ih =>
    intro p a x hi ha h hx
    simp only [List.map_cons, fnd]
    by_cases hqa : q ≤ a
    · rw [if_pos hqa]
      refine ih (p := q) hi.2 hqa (fun b h1 h2 h3 => ?_) rfl
      rcases List.mem_cons.1 (h b (by have := hi.1; omega) h2 h3) with e | e
      · omega
      · exact e
    · rw [if_neg hqa]
      have hgt : ∀ y ∈ pts.map (fun q => (q, g q)), a < y.1 := by
        have aux : ∀ (pts : List Int) (q : Int), IncI q pts → ∀ y ∈ pts, q < y := by
          intro pts
          induction pts with
          | nil => intro q _ y hy; cases hy
          | cons z pts ih => intro q h y hy; rcases List.mem_cons.1 hy with rfl | hy; exact h.1; have := ih z h.2 y hy; have := h.1; omega
        intro y hy
        obtain ⟨z, hz, rfl⟩ := List.mem_map.1 hy
        have := aux pts q hi.2 z hz
        dsimp only
        omega
      rw [fnd_all_gt hgt]
      have := const_between (g := g) (p := p) (a - p).toNat (fun b h1 h2 => Classical.byContradiction fun hne => by
        rcases List.mem_cons.1 (h b h1 (by omega) hne) with e | e
        · omega
        · have := hgt (b, g b) (List.mem_map.2 ⟨b, e, rfl⟩)
          dsimp only at this
          omega)
      rw [show p + ((a - p).toNat : Int) = a by omega] at this
      rw [this, hx]
theorem fnd_change {l : List Hm} {b : Int} : ∀ {s : Int}, fnd s l b ≠ fnd s l (b - 1) → ∃ h ∈ l, h.1 = b := by
  induction l with
  | nil => intro s h; exact absurd rfl h
  | cons p l ih =>
    obtain ⟨g, t⟩ := p
    intro s h
    by_cases e : g = b
    · exact ⟨(g, t), List.mem_cons_self .., e⟩
    · simp only [fnd] at h
      have : (if g ≤ b then t else s) = (if g ≤ b - 1 then t else s) := by
        by_cases h1 : g ≤ b
        · rw [if_pos h1, if_pos (by omega)]
        · rw [if_neg h1, if_neg (by omega)]
      rw [this] at h
      obtain ⟨q, hq, e⟩ := ih h
      exact ⟨q, List.mem_cons_of_mem _ hq, e⟩
theorem IncI.pts {l : List Int} {g : Int → Int} : ∀ {f : Int}, IncI f l → Inc f (l.map fun p => (p, g p)) := by
  induction l with
  | nil => intro f _; trivial
  | cons x l ih => intro f h; exact ⟨h.1, ih h.2⟩
theorem refSplit_eq {n f t s : Int} {l : List Hm} (h : HOk n l) (hs : 0 ≤ s ∧ s < n) (h1 : f ≤ t) (hf : 1 ≤ f) (ht : t ≤ maxAcc) : refSplit l f t s = splitH l f t s := by
  obtain ⟨s0, tl, rfl, hi, hn⟩ := h.ne
  have hb := h.bd
  have hge : ∀ x ∈ (1, s0) :: tl, (1 : Int) ≤ x.1 := by
    intro x hx
    rcases List.mem_cons.1 hx with rfl | hx
    · exact Int.le_refl _
    · have := hi.mem x hx; omega
  obtain ⟨p1, p2⟩ := fold_put (l := (1, s0) :: tl) (a := []) (by simp) trivial hge
  have hpi : IncI 0 (refPts ((1, s0) :: tl) f t) ∧ (∀ x, x ∈ refPts ((1, s0) :: tl) f t ↔ ((∃ h ∈ (1, s0) :: tl, h.1 = x) ∨ x = f) ∨ (t < maxAcc ∧ x = t + 1)) := by
    unfold refPts
    dsimp only
    by_cases htm : t < maxAcc
    · rw [if_pos htm]
      refine ⟨putL_inc (putL_inc p1 (by omega)) (by omega), fun x => ?_⟩
      rw [putL_mem, putL_mem, p2]
      simp [htm]
    · rw [if_neg htm]
      refine ⟨putL_inc p1 (by omega), fun x => ?_⟩
      rw [putL_mem, p2]
      simp [htm]
  obtain ⟨q1, q2⟩ := hpi
  obtain ⟨r, hr⟩ : ∃ r, refPts ((1, s0) :: tl) f t = r := ⟨_, rfl⟩
  have h1m : (1 : Int) ∈ r := by rw [← hr, q2]; exact .inl (.inl ⟨(1, s0), List.mem_cons_self .., rfl⟩)
  have hmax : ∀ x ∈ r, x ≤ maxAcc := by
    intro x hx
    rw [← hr, q2] at hx
    rcases hx with (⟨y, hy, rfl⟩ | rfl) | ⟨_, rfl⟩
    · exact (hb y hy).1
    · omega
    · omega
  rw [hr] at q1 q2
  cases r with
  | nil => cases h1m
  | cons p r =>
    have hp1 : p = 1 := by
      have := q1.1
      rcases List.mem_cons.1 h1m with e | e
      · exact e.symm
      · have aux : ∀ (pts : List Int) (q : Int), IncI q pts → ∀ y ∈ pts, q < y := by
          intro pts
          induction pts with
          | nil => intro q _ y hy; cases hy
          | cons z pts ih => intro q h y hy; rcases List.mem_cons.1 hy with rfl | hy; exact h.1; have := ih z h.2 y hy; have := h.1; omega
        have := aux r p q1.2 1 e
        omega
    subst hp1
    have hso := splitH_ok (f := f) (t := t) h hs h1 hf
    have hro := normal_ok (n := n) (s := if f ≤ 1 ∧ 1 ≤ t then s else fndH ((1, s0) :: tl) 1) (tl := r.map fun p => (p, if f ≤ p ∧ p ≤ t then s else fndH ((1, s0) :: tl) p)) h.n1 h.n2
      (IncI.pts q1.2) (by
        intro x hx
        have hx' : x ∈ ((1 : Int) :: r).map fun p => (p, if f ≤ p ∧ p ≤ t then s else fndH ((1, s0) :: tl) p) := hx
        obtain ⟨y, hy, rfl⟩ := List.mem_map.1 hx'
        refine ⟨hmax y hy, ?_⟩
        dsimp only
        split
        · exact hs
        · exact h.fnd_bd y)
    unfold refSplit
    rw [hr, List.map_cons]
    refine HOk.unique hro.1 hso.1 fun a ha hm => ?_
    rw [hro.2 a ha, hso.2 a ha hm]
    simp only [fndH, fnd]
    rw [if_pos ha]
    refine pts_fnd (g := fun p => if f ≤ p ∧ p ≤ t then s else fnd (if 1 ≤ p then s0 else 0) tl p) (p := 1) q1.2 ha (fun b hb1 hb2 hne => ?_) rfl
    have hbm : b ∈ (1 : Int) :: r := by
      rw [q2]
      by_cases e1 : b = f
      · exact .inl (.inr e1)
      · by_cases e2 : b = t + 1
        · exact .inr ⟨by omega, e2⟩
        · refine .inl (.inl ?_)
          by_cases hin : f ≤ b ∧ b ≤ t
          · rw [if_pos hin, if_pos (by omega)] at hne
            exact absurd rfl hne
          · rw [if_neg hin, if_neg (show ¬ (f ≤ b - 1 ∧ b - 1 ≤ t) by omega), if_pos (show 1 ≤ b by omega), if_pos (show 1 ≤ b - 1 by omega)] at hne
            obtain ⟨y, hy, e⟩ := fnd_change hne
            exact ⟨y, List.mem_cons_of_mem _ hy, e⟩
    rcases List.mem_cons.1 hbm with e | e
    · omega
    · exact e
end Go.Proofs.YtclgjkeeaopppaaGreatDoor
