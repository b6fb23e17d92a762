/- Contracts of package move: find, Find. -/
import Derived.Test.YtclgjkeeaopppaaGreatDoorM2
namespace Go.Proofs.YtclgjkeeaopppaaGreatDoor
open Go.V
attribute [local irreducible] G GO GP GPW GPK Ev Ef EfR Ent CB GB Enters

theorem getElem!_of {α : Type} [Inhabited α] {l : List α} {i : Nat} (h : i < l.length) : l[i]! = l[i] := by
  rw [List.getElem!_eq_getElem?_getD, List.getElem?_eq_getElem h]; rfl
theorem Inc.get {l : List Hm} : ∀ {f : Int}, Inc f l → ∀ p q, p < q → q < l.length → l[p]!.1 < l[q]!.1 := by
  induction l with
  | nil => intro f _ p q _ hq; simp at hq
  | cons x l ih =>
    intro f h p q hpq hq
    cases q with
    | zero => omega
    | succ q =>
      have hq' : q < l.length := by simpa using hq
      cases p with
      | zero =>
        have := h.2.mem l[q] (List.getElem_mem hq')
        rw [getElem!_of (show 0 < (x :: l).length by simp), getElem!_of hq]
        simpa using this
      | succ p =>
        have := ih h.2 p q (by omega) hq'
        rw [getElem!_of (show p + 1 < (x :: l).length by simp; omega), getElem!_of hq]
        rw [getElem!_of (show p < l.length by omega), getElem!_of hq'] at this
        simpa using this
theorem HOk.inc {n : Int} {l : List Hm} (h : HOk n l) : Inc 0 l := by
  obtain ⟨s, tl, rfl, h1, _⟩ := h.ne
  exact ⟨by decide, h1⟩
theorem HOk.get_bd {n : Int} {l : List Hm} (h : HOk n l) {p : Nat} (hp : p < l.length) : 1 ≤ l[p]!.1 ∧ l[p]!.1 ≤ maxAcc ∧ 0 ≤ l[p]!.2 ∧ l[p]!.2 < n := by
  have h1 := h.bd l[p] (List.getElem_mem hp)
  have h2 := h.inc.mem l[p] (List.getElem_mem hp)
  rw [getElem!_of hp]
  omega
theorem HOk.pos {n : Int} {l : List Hm} (h : HOk n l) : 0 < l.length ∧ l[0]!.1 = 1 := by
  obtain ⟨s, tl, rfl, _⟩ := h.ne
  exact ⟨by simp, rfl⟩
/-- The shard of an account is that of the last home that begins at or before it. -/
theorem fnd_at {l : List Hm} {a s : Int} {k : Nat} (hk : k < l.length) (h1 : l[k]!.1 ≤ a) (h2 : ∀ p, k < p → p < l.length → a < l[p]!.1) : fnd s l a = l[k]!.2 := by
  have e : l = l.take k ++ (l[k] :: l.drop (k + 1)) := by rw [← List.drop_eq_getElem_cons hk, List.take_append_drop]
  rw [getElem!_of hk] at h1 ⊢
  conv => lhs; rw [e]
  rw [fnd_app]
  generalize fnd s (List.take k l) a = x
  obtain ⟨⟨g, t⟩, hg⟩ : ∃ y, l[k] = y := ⟨_, rfl⟩
  rw [hg] at h1 ⊢
  simp only [fnd]
  rw [if_pos h1]
  refine fnd_all_gt fun p hp => ?_
  obtain ⟨j, hj, rfl⟩ := List.mem_iff_getElem.1 hp
  have hj' : j < l.length - (k + 1) := by simpa using hj
  have := h2 (k + 1 + j) (by omega) (by omega)
  rw [getElem!_of (by omega)] at this
  simpa using this
/-- Valid homes, place by place and as a whole. -/
theorem chain_of {n : Int} : ∀ (l : List Hm) (f s : Int), (∀ i, i < l.length → (l[i]!.1 ≤ maxAcc ∧ 0 ≤ l[i]!.2 ∧ l[i]!.2 < n) ∧ ((f, s) :: l)[i]!.1 < l[i]!.1 ∧ l[i]!.2 ≠ ((f, s) :: l)[i]!.2) → Inc f l ∧ Nrm s l
  | [], f, s, _ => ⟨trivial, trivial⟩
  | (g, t) :: l, f, s, h => by
    have h0 := h 0 (by simp)
    have ih := chain_of l g t (fun i hi => by
      have := h (i + 1) (by simpa using hi)
      simpa using this)
    exact ⟨⟨by simpa using h0.2.1, ih.1⟩, ⟨by simpa using h0.2.2, ih.2⟩⟩
theorem HOk_iff {n : Int} {l : List Hm} : HOk n l ↔ validP n l := by
  constructor
  · intro h
    obtain ⟨h1, h2⟩ := h.pos
    refine ⟨⟨h.n1, h.n2, by omega, h2⟩, fun i hi => ⟨(h.get_bd hi).2, fun hi0 => ⟨h.inc.get (i - 1) i (by omega) hi, ?_⟩⟩⟩
    obtain ⟨s, tl, rfl, _, hn⟩ := h.ne
    have aux : ∀ (tl : List Hm) (g s : Int), Nrm s tl → ∀ i, i < tl.length → tl[i]!.2 ≠ ((g, s) :: tl)[i]!.2 := by
      intro tl
      induction tl with
      | nil => intro g s _ i hi; simp at hi
      | cons q tl ih =>
        intro g s hn i hi
        cases i with
        | zero => simpa using hn.1
        | succ i => simpa using ih q.1 q.2 hn.2 i (by simpa using hi)
    cases i with
    | zero => omega
    | succ i => simpa using aux tl 1 s hn i (by simpa using hi)
  · rintro ⟨⟨h1, h2, h3, h4⟩, h5⟩
    cases l with
    | nil => simp at h3
    | cons p tl =>
      obtain ⟨g, s⟩ := p
      have hg : g = 1 := by simpa using h4
      subst hg
      have hc := chain_of (n := n) tl 1 s (fun i hi => by
        have := h5 (i + 1) (by simpa using hi)
        have h6 := this.2 (by omega)
        exact ⟨by simpa using this.1, by simpa using h6⟩)
      refine ⟨h1, h2, ⟨s, tl, rfl, hc.1, hc.2⟩, fun x hx => ?_⟩
      obtain ⟨i, hi, rfl⟩ := List.mem_iff_getElem.1 hx
      have := (h5 i hi).1
      rw [getElem!_of hi] at this
      exact this
instance (n : Int) (l : List Hm) : Decidable (HOk n l) := decidable_of_iff _ HOk_iff.symm
theorem errV_eq (n : Int) (l : List Hm) : errV n l = if HOk n l then 0 else 1 := by
  unfold errV
  by_cases h : HOk n l
  · rw [if_pos (HOk_iff.1 h), if_pos h]
  · rw [if_neg (fun e => h (HOk_iff.2 e)), if_neg h]

theorem bs_spec {L : List HP} (a : Int) (ad : Option Addr) (k c : Nat) (l : List Hm) [Rds L ad Hm encH 2 l] (hk : k = l.length) (hl : l.length ≤ 1000000000) (hok : HOk 12 l) (ha : 1 ≤ a ∧ a ≤ maxAcc) :
    Tri Tryz.prog 55 #[.slice ad k c, .int .i64 a, .func (.func 56) #[] #[]] L (fun v L' => ∃ i : Nat, v = .tuple #[.int .i64 i, .bool (dB (i < l.length ∧ l[i]!.1 = a))] ∧ (i ≤ l.length ∧ (∀ p, p < i → l[p]!.1 < a) ∧ ∀ p, i ≤ p → p < l.length → a ≤ l[p]!.1) ∧ L' = L) := by
  have hmx : maxAcc = 1073741824 := rfl
  refine Tri.body (args := [.slice ad k c, .int .i64 a, .func (.func 56) #[] #[]]) 49 en55 Tryz.func55 rfl rfl rfl (by simp) ?_
  repeat (first | ((fail_if_success (with_reducible refine G.atS 3 ?_)); (with_reducible apply G.seq)) | refine runS ?_ | intro _ | ((with_reducible apply GO.atPlain); refine GO.callIn en56 Tryz.func56 rfl rfl rfl rfl (by simp) (by decide) ?_) | ((with_reducible apply GPW.atEf); refine GPW.callIn en56 Tryz.func56 rfl rfl rfl rfl (by simp) (by decide) ?_) | ((with_reducible apply GO.atPlain); refine GO.callFnIn rfl en56 Tryz.func56 rfl rfl rfl rfl (by simp) (by decide) ?_) | ((with_reducible apply GPW.atEf); refine GPW.callFnIn rfl en56 Tryz.func56 rfl rfl rfl rfl (by simp) (by decide) ?_) | ((with_reducible apply KX.atIn); first | refine KX.in0 (.inl rfl) ?_ | refine KX.in0 (.inr rfl) ?_ | refine KX.in1 (.inl rfl) rfl ?_ | refine KX.in2 (.inl rfl) rfl rfl ?_ | refine KX.in3 (.inl rfl) rfl rfl rfl ?_ | refine KX.inC (.inl rfl) rfl (by rfl) ?_ | refine KX.inC1 (.inl rfl) rfl (by rfl) rfl ?_))
  refine G.loop (α := Nat × Nat) (fun x => (x.1 ≤ x.2 ∧ x.2 ≤ k) ∧ (∀ p, p < x.1 → l[p]!.1 < a) ∧ ∀ p, x.2 ≤ p → p < l.length → a ≤ l[p]!.1) (fun x => [(0, .slice ad k c), (1, .int .i64 a), (2, .func (.func 56) #[] #[]), (8, .int .i64 k), (9, .int .i64 (x.1 : Int)), (10, .int .i64 (x.2 : Int))]) (fun _ => L) (fun x => x.2 - x.1) (0, k) ⟨by omega, by intro p hp; omega, by intro p hp; omega⟩ (by repeat (first | exact EnvSub.nil _ | refine EnvSub.cons rfl ?_)) (Ent.refl _) ?_
  rintro ⟨i, j⟩ ⟨⟨h1, h2⟩, h3, h4⟩
  dsimp only at h1 h2 h3 h4 ⊢
  by_cases hlt : i < j
  case neg =>
    have hij : i = j := by omega
    subst hij
    by_cases hi : i < k
    · have hbd := hok.get_bd (p := i) (by omega)
      repeat (first | refine run ?_ | intro _ | ((with_reducible apply GO.atPlain); refine GO.callIn en56 Tryz.func56 rfl rfl rfl rfl (by simp) (by decide) ?_) | ((with_reducible apply GPW.atEf); refine GPW.callIn en56 Tryz.func56 rfl rfl rfl rfl (by simp) (by decide) ?_) | ((with_reducible apply GO.atPlain); refine GO.callFnIn rfl en56 Tryz.func56 rfl rfl rfl rfl (by simp) (by decide) ?_) | ((with_reducible apply GPW.atEf); refine GPW.callFnIn rfl en56 Tryz.func56 rfl rfl rfl rfl (by simp) (by decide) ?_) | ((with_reducible apply KX.atIn); first | refine KX.in0 (.inl rfl) ?_ | refine KX.in0 (.inr rfl) ?_ | refine KX.in1 (.inl rfl) rfl ?_ | refine KX.in2 (.inl rfl) rfl rfl ?_ | refine KX.in3 (.inl rfl) rfl rfl rfl ?_ | refine KX.inC (.inl rfl) rfl (by rfl) ?_ | refine KX.inC1 (.inl rfl) rfl (by rfl) rfl ?_))
      rw [Int.toNat_natCast]
      repeat (first | refine run ?_ | intro _ | ((with_reducible apply GO.atPlain); refine GO.callIn en56 Tryz.func56 rfl rfl rfl rfl (by simp) (by decide) ?_) | ((with_reducible apply GPW.atEf); refine GPW.callIn en56 Tryz.func56 rfl rfl rfl rfl (by simp) (by decide) ?_) | ((with_reducible apply GO.atPlain); refine GO.callFnIn rfl en56 Tryz.func56 rfl rfl rfl rfl (by simp) (by decide) ?_) | ((with_reducible apply GPW.atEf); refine GPW.callFnIn rfl en56 Tryz.func56 rfl rfl rfl rfl (by simp) (by decide) ?_) | ((with_reducible apply KX.atIn); first | refine KX.in0 (.inl rfl) ?_ | refine KX.in0 (.inr rfl) ?_ | refine KX.in1 (.inl rfl) rfl ?_ | refine KX.in2 (.inl rfl) rfl rfl ?_ | refine KX.in3 (.inl rfl) rfl rfl rfl ?_ | refine KX.inC (.inl rfl) rfl (by rfl) ?_ | refine KX.inC1 (.inl rfl) rfl (by rfl) rfl ?_))
      refine KX.ends (by first | exact ResOk.tmps rfl | (repeat (first | exact ResOk.nil | apply ResOk.tmp rfl | apply ResOk.cell rfl (by rfl) | apply ResOk.cell1 rfl))) Ent.drop ⟨i, ?_, ⟨by omega, h3, h4⟩, rfl⟩
      have e : (l[i]!.1 - a = 0) = (i < l.length ∧ l[i]!.1 = a) := by
        apply propext
        constructor
        · intro h; exact ⟨by omega, by omega⟩
        · rintro ⟨_, h⟩; omega
      simp only [resV, e]
    · repeat (first | refine run ?_ | intro _ | ((with_reducible apply GO.atPlain); refine GO.callIn en56 Tryz.func56 rfl rfl rfl rfl (by simp) (by decide) ?_) | ((with_reducible apply GPW.atEf); refine GPW.callIn en56 Tryz.func56 rfl rfl rfl rfl (by simp) (by decide) ?_) | ((with_reducible apply GO.atPlain); refine GO.callFnIn rfl en56 Tryz.func56 rfl rfl rfl rfl (by simp) (by decide) ?_) | ((with_reducible apply GPW.atEf); refine GPW.callFnIn rfl en56 Tryz.func56 rfl rfl rfl rfl (by simp) (by decide) ?_) | ((with_reducible apply KX.atIn); first | refine KX.in0 (.inl rfl) ?_ | refine KX.in0 (.inr rfl) ?_ | refine KX.in1 (.inl rfl) rfl ?_ | refine KX.in2 (.inl rfl) rfl rfl ?_ | refine KX.in3 (.inl rfl) rfl rfl rfl ?_ | refine KX.inC (.inl rfl) rfl (by rfl) ?_ | refine KX.inC1 (.inl rfl) rfl (by rfl) rfl ?_))
      refine KX.ends (by first | exact ResOk.tmps rfl | (repeat (first | exact ResOk.nil | apply ResOk.tmp rfl | apply ResOk.cell rfl (by rfl) | apply ResOk.cell1 rfl))) (Ent.refl _) ⟨i, ?_, ⟨by omega, h3, h4⟩, rfl⟩
      rw [dB_neg (by omega)]
      rfl
  repeat (first | refine run ?_ | intro _ | ((with_reducible apply GO.atPlain); refine GO.callIn en56 Tryz.func56 rfl rfl rfl rfl (by simp) (by decide) ?_) | ((with_reducible apply GPW.atEf); refine GPW.callIn en56 Tryz.func56 rfl rfl rfl rfl (by simp) (by decide) ?_) | ((with_reducible apply GO.atPlain); refine GO.callFnIn rfl en56 Tryz.func56 rfl rfl rfl rfl (by simp) (by decide) ?_) | ((with_reducible apply GPW.atEf); refine GPW.callFnIn rfl en56 Tryz.func56 rfl rfl rfl rfl (by simp) (by decide) ?_) | ((with_reducible apply KX.atIn); first | refine KX.in0 (.inl rfl) ?_ | refine KX.in0 (.inr rfl) ?_ | refine KX.in1 (.inl rfl) rfl ?_ | refine KX.in2 (.inl rfl) rfl rfl ?_ | refine KX.in3 (.inl rfl) rfl rfl rfl ?_ | refine KX.inC (.inl rfl) rfl (by rfl) ?_ | refine KX.inC1 (.inl rfl) rfl (by rfl) rfl ?_))
  (first | ((with_reducible apply GO.atPlain); first | refine GO.ev (Ev.shr rfl rfl (by decide)) (by decide) ?_ | refine GO.ev (by exact Ev.shr rfl rfl (by decide)) (by decide) ?_) | ((with_reducible apply GPW.atEv); first | refine GPW.evP (Ev.shr rfl rfl (by decide)) (by decide) ?_ | refine GPW.evP (by exact Ev.shr rfl rfl (by decide)) (by decide) ?_) | ((with_reducible apply GPW.atEv); first | refine GPW.evL (Ev.shr rfl rfl (by decide)) (by decide) ?_ | refine GPW.evL (by exact Ev.shr rfl rfl (by decide)) (by decide) ?_))
  have e2 : ((i : Int) + (j : Int)).fdiv (2 ^ min ((1 : Int).toNat) IntKind.u64.bits) = (((i + j) / 2 : Nat) : Int) := by
    rw [Int.fdiv_eq_ediv_of_nonneg _ (by decide)]
    simp [IntKind.bits]
  rw [e2]
  obtain ⟨h, hh⟩ : ∃ h, (i + j) / 2 = h := ⟨_, rfl⟩
  rw [hh]
  have hbd := hok.get_bd (p := h) (by omega)
  repeat (first | refine run ?_ | intro _ | ((with_reducible apply GO.atPlain); refine GO.callIn en56 Tryz.func56 rfl rfl rfl rfl (by simp) (by decide) ?_) | ((with_reducible apply GPW.atEf); refine GPW.callIn en56 Tryz.func56 rfl rfl rfl rfl (by simp) (by decide) ?_) | ((with_reducible apply GO.atPlain); refine GO.callFnIn rfl en56 Tryz.func56 rfl rfl rfl rfl (by simp) (by decide) ?_) | ((with_reducible apply GPW.atEf); refine GPW.callFnIn rfl en56 Tryz.func56 rfl rfl rfl rfl (by simp) (by decide) ?_) | ((with_reducible apply KX.atIn); first | refine KX.in0 (.inl rfl) ?_ | refine KX.in0 (.inr rfl) ?_ | refine KX.in1 (.inl rfl) rfl ?_ | refine KX.in2 (.inl rfl) rfl rfl ?_ | refine KX.in3 (.inl rfl) rfl rfl rfl ?_ | refine KX.inC (.inl rfl) rfl (by rfl) ?_ | refine KX.inC1 (.inl rfl) rfl (by rfl) rfl ?_))
  rw [Int.toNat_natCast]
  repeat (first | refine run ?_ | intro _ | ((with_reducible apply GO.atPlain); refine GO.callIn en56 Tryz.func56 rfl rfl rfl rfl (by simp) (by decide) ?_) | ((with_reducible apply GPW.atEf); refine GPW.callIn en56 Tryz.func56 rfl rfl rfl rfl (by simp) (by decide) ?_) | ((with_reducible apply GO.atPlain); refine GO.callFnIn rfl en56 Tryz.func56 rfl rfl rfl rfl (by simp) (by decide) ?_) | ((with_reducible apply GPW.atEf); refine GPW.callFnIn rfl en56 Tryz.func56 rfl rfl rfl rfl (by simp) (by decide) ?_) | ((with_reducible apply KX.atIn); first | refine KX.in0 (.inl rfl) ?_ | refine KX.in0 (.inr rfl) ?_ | refine KX.in1 (.inl rfl) rfl ?_ | refine KX.in2 (.inl rfl) rfl rfl ?_ | refine KX.in3 (.inl rfl) rfl rfl rfl ?_ | refine KX.inC (.inl rfl) rfl (by rfl) ?_ | refine KX.inC1 (.inl rfl) rfl (by rfl) rfl ?_))
  (first | with_reducible refine CB.dec (fun _ => ?_) (fun _ => ?_) | with_reducible refine GB.dec (fun _ => ?_) (fun _ => ?_) | with_reducible refine CB.bool (fun _ => ?_) (fun _ => ?_) | with_reducible refine GB.bool (fun _ => ?_) (fun _ => ?_))
  · rename_i hc
    repeat (first | refine run ?_ | intro _ | ((with_reducible apply GO.atPlain); refine GO.callIn en56 Tryz.func56 rfl rfl rfl rfl (by simp) (by decide) ?_) | ((with_reducible apply GPW.atEf); refine GPW.callIn en56 Tryz.func56 rfl rfl rfl rfl (by simp) (by decide) ?_) | ((with_reducible apply GO.atPlain); refine GO.callFnIn rfl en56 Tryz.func56 rfl rfl rfl rfl (by simp) (by decide) ?_) | ((with_reducible apply GPW.atEf); refine GPW.callFnIn rfl en56 Tryz.func56 rfl rfl rfl rfl (by simp) (by decide) ?_) | ((with_reducible apply KX.atIn); first | refine KX.in0 (.inl rfl) ?_ | refine KX.in0 (.inr rfl) ?_ | refine KX.in1 (.inl rfl) rfl ?_ | refine KX.in2 (.inl rfl) rfl rfl ?_ | refine KX.in3 (.inl rfl) rfl rfl rfl ?_ | refine KX.inC (.inl rfl) rfl (by rfl) ?_ | refine KX.inC1 (.inl rfl) rfl (by rfl) rfl ?_))
    refine ⟨(h + 1, j), ⟨⟨by omega, by omega⟩, ?_, h4⟩, by dsimp only; omega, ?_, Ent.drop⟩
    · intro p hp
      dsimp only at hp
      by_cases hph : p = h
      · subst hph; omega
      · have := hok.inc.get p h (by omega) (by omega); omega
    · rw [show (((h + 1, j) : Nat × Nat).1 : Int) = (h : Int) + 1 by simp]
      exact (by repeat (first | exact EnvSub.nil _ | refine EnvSub.cons rfl ?_))
  · rename_i hc
    repeat (first | refine run ?_ | intro _ | ((with_reducible apply GO.atPlain); refine GO.callIn en56 Tryz.func56 rfl rfl rfl rfl (by simp) (by decide) ?_) | ((with_reducible apply GPW.atEf); refine GPW.callIn en56 Tryz.func56 rfl rfl rfl rfl (by simp) (by decide) ?_) | ((with_reducible apply GO.atPlain); refine GO.callFnIn rfl en56 Tryz.func56 rfl rfl rfl rfl (by simp) (by decide) ?_) | ((with_reducible apply GPW.atEf); refine GPW.callFnIn rfl en56 Tryz.func56 rfl rfl rfl rfl (by simp) (by decide) ?_) | ((with_reducible apply KX.atIn); first | refine KX.in0 (.inl rfl) ?_ | refine KX.in0 (.inr rfl) ?_ | refine KX.in1 (.inl rfl) rfl ?_ | refine KX.in2 (.inl rfl) rfl rfl ?_ | refine KX.in3 (.inl rfl) rfl rfl rfl ?_ | refine KX.inC (.inl rfl) rfl (by rfl) ?_ | refine KX.inC1 (.inl rfl) rfl (by rfl) rfl ?_))
    refine ⟨(i, h), ⟨⟨by omega, by omega⟩, h3, ?_⟩, by dsimp only; omega, (by repeat (first | exact EnvSub.nil _ | refine EnvSub.cons rfl ?_)), Ent.drop⟩
    intro p hp hpl
    dsimp only at hp
    by_cases hph : p = h
    · subst hph; omega
    · have := hok.inc.get h p (by omega) (by omega); omega

theorem mfind_spec {L : List HP} (a : Int) (ad : Option Addr) (k c : Nat) (l : List Hm) [Rds L ad Hm encH 2 l] (hk : k = l.length) (hl : l.length ≤ 1000000000) (hok : HOk 12 l) (ha : 1 ≤ a ∧ a ≤ maxAcc) :
    Tri Tryz.prog 36 #[.slice ad k c, .int .i64 a] L (fun v L' => v = .int .i64 (fndH l a) ∧ L' = L) := by
  have hmx : maxAcc = 1073741824 := rfl
  refine Tri.body (args := [.slice ad k c, .int .i64 a]) 22 en36 Tryz.func36 rfl rfl rfl (by simp) ?_
  repeat (first | refine run ?_ | intro _ | ((with_reducible apply GO.atPlain); refine GO.callIn en56 Tryz.func56 rfl rfl rfl rfl (by simp) (by decide) ?_) | ((with_reducible apply GPW.atEf); refine GPW.callIn en56 Tryz.func56 rfl rfl rfl rfl (by simp) (by decide) ?_) | ((with_reducible apply GO.atPlain); refine GO.callFnIn rfl en56 Tryz.func56 rfl rfl rfl rfl (by simp) (by decide) ?_) | ((with_reducible apply GPW.atEf); refine GPW.callFnIn rfl en56 Tryz.func56 rfl rfl rfl rfl (by simp) (by decide) ?_) | ((with_reducible apply KX.atIn); first | refine KX.in0 (.inl rfl) ?_ | refine KX.in0 (.inr rfl) ?_ | refine KX.in1 (.inl rfl) rfl ?_ | refine KX.in2 (.inl rfl) rfl rfl ?_ | refine KX.in3 (.inl rfl) rfl rfl rfl ?_ | refine KX.inC (.inl rfl) rfl (by rfl) ?_ | refine KX.inC1 (.inl rfl) rfl (by rfl) rfl ?_))
  (first | ((with_reducible apply GO.atPlain); first | refine GO.ef (Ef.callAll (bs_spec a ad k c l hk hl hok ha) rfl) (by decide) ?_ | refine GO.ef (by exact Ef.callAll (bs_spec a ad k c l hk hl hok ha) rfl) (by decide) ?_) | ((with_reducible apply GPW.atEf); first | refine GPW.ef (Ef.callAll (bs_spec a ad k c l hk hl hok ha) rfl) (by decide) ?_ | refine GPW.ef (by exact Ef.callAll (bs_spec a ad k c l hk hl hok ha) rfl) (by decide) ?_))
  rintro _ _ ⟨i, rfl, ⟨h1, h2, h3⟩, rfl⟩
  repeat (first | refine run ?_ | intro _ | ((with_reducible apply GO.atPlain); refine GO.callIn en56 Tryz.func56 rfl rfl rfl rfl (by simp) (by decide) ?_) | ((with_reducible apply GPW.atEf); refine GPW.callIn en56 Tryz.func56 rfl rfl rfl rfl (by simp) (by decide) ?_) | ((with_reducible apply GO.atPlain); refine GO.callFnIn rfl en56 Tryz.func56 rfl rfl rfl rfl (by simp) (by decide) ?_) | ((with_reducible apply GPW.atEf); refine GPW.callFnIn rfl en56 Tryz.func56 rfl rfl rfl rfl (by simp) (by decide) ?_) | ((with_reducible apply KX.atIn); first | refine KX.in0 (.inl rfl) ?_ | refine KX.in0 (.inr rfl) ?_ | refine KX.in1 (.inl rfl) rfl ?_ | refine KX.in2 (.inl rfl) rfl rfl ?_ | refine KX.in3 (.inl rfl) rfl rfl rfl ?_ | refine KX.inC (.inl rfl) rfl (by rfl) ?_ | refine KX.inC1 (.inl rfl) rfl (by rfl) rfl ?_))
  by_cases hf : i < l.length ∧ l[i]!.1 = a
  · have e : fndH l a = l[i]!.2 := fnd_at hf.1 (by omega) (fun p hp hpl => by have := hok.inc.get i p hp hpl; omega)
    repeat (first | refine run ?_ | intro _ | ((with_reducible apply GO.atPlain); refine GO.callIn en56 Tryz.func56 rfl rfl rfl rfl (by simp) (by decide) ?_) | ((with_reducible apply GPW.atEf); refine GPW.callIn en56 Tryz.func56 rfl rfl rfl rfl (by simp) (by decide) ?_) | ((with_reducible apply GO.atPlain); refine GO.callFnIn rfl en56 Tryz.func56 rfl rfl rfl rfl (by simp) (by decide) ?_) | ((with_reducible apply GPW.atEf); refine GPW.callFnIn rfl en56 Tryz.func56 rfl rfl rfl rfl (by simp) (by decide) ?_) | ((with_reducible apply KX.atIn); first | refine KX.in0 (.inl rfl) ?_ | refine KX.in0 (.inr rfl) ?_ | refine KX.in1 (.inl rfl) rfl ?_ | refine KX.in2 (.inl rfl) rfl rfl ?_ | refine KX.in3 (.inl rfl) rfl rfl rfl ?_ | refine KX.inC (.inl rfl) rfl (by rfl) ?_ | refine KX.inC1 (.inl rfl) rfl (by rfl) rfl ?_))
    exact KX.ends (by first | exact ResOk.tmps rfl | (repeat (first | exact ResOk.nil | apply ResOk.tmp rfl | apply ResOk.cell rfl (by rfl) | apply ResOk.cell1 rfl))) (Ent.refl _) ⟨by rw [e]; rfl, rfl⟩
  · have hpos := hok.pos
    have hi0 : 0 < i := by
      rcases Nat.eq_zero_or_pos i with h | h
      · subst h
        exact absurd ⟨hpos.1, by have := h3 0 (by omega) hpos.1; omega⟩ hf
      · exact h
    have hlt := h2 (i - 1) (by omega)
    have e : fndH l a = l[i - 1]!.2 := fnd_at (by omega) (by omega) (fun p hp hpl => by
      have h4 := h3 p (by omega) hpl
      by_cases hpi : p = i
      · subst hpi
        have : l[p]!.1 ≠ a := fun e => hf ⟨hpl, e⟩
        omega
      · have h5 := h3 i (by omega) (by omega)
        have := hok.inc.get i p (by omega) hpl
        omega)
    repeat (first | refine run ?_ | intro _ | ((with_reducible apply GO.atPlain); refine GO.callIn en56 Tryz.func56 rfl rfl rfl rfl (by simp) (by decide) ?_) | ((with_reducible apply GPW.atEf); refine GPW.callIn en56 Tryz.func56 rfl rfl rfl rfl (by simp) (by decide) ?_) | ((with_reducible apply GO.atPlain); refine GO.callFnIn rfl en56 Tryz.func56 rfl rfl rfl rfl (by simp) (by decide) ?_) | ((with_reducible apply GPW.atEf); refine GPW.callFnIn rfl en56 Tryz.func56 rfl rfl rfl rfl (by simp) (by decide) ?_) | ((with_reducible apply KX.atIn); first | refine KX.in0 (.inl rfl) ?_ | refine KX.in0 (.inr rfl) ?_ | refine KX.in1 (.inl rfl) rfl ?_ | refine KX.in2 (.inl rfl) rfl rfl ?_ | refine KX.in3 (.inl rfl) rfl rfl rfl ?_ | refine KX.inC (.inl rfl) rfl (by rfl) ?_ | refine KX.inC1 (.inl rfl) rfl (by rfl) rfl ?_))
    rw [show ((i : Int) - 1).toNat = i - 1 by omega]
    repeat (first | refine run ?_ | intro _ | ((with_reducible apply GO.atPlain); refine GO.callIn en56 Tryz.func56 rfl rfl rfl rfl (by simp) (by decide) ?_) | ((with_reducible apply GPW.atEf); refine GPW.callIn en56 Tryz.func56 rfl rfl rfl rfl (by simp) (by decide) ?_) | ((with_reducible apply GO.atPlain); refine GO.callFnIn rfl en56 Tryz.func56 rfl rfl rfl rfl (by simp) (by decide) ?_) | ((with_reducible apply GPW.atEf); refine GPW.callFnIn rfl en56 Tryz.func56 rfl rfl rfl rfl (by simp) (by decide) ?_) | ((with_reducible apply KX.atIn); first | refine KX.in0 (.inl rfl) ?_ | refine KX.in0 (.inr rfl) ?_ | refine KX.in1 (.inl rfl) rfl ?_ | refine KX.in2 (.inl rfl) rfl rfl ?_ | refine KX.in3 (.inl rfl) rfl rfl rfl ?_ | refine KX.inC (.inl rfl) rfl (by rfl) ?_ | refine KX.inC1 (.inl rfl) rfl (by rfl) rfl ?_))
    exact KX.ends (by first | exact ResOk.tmps rfl | (repeat (first | exact ResOk.nil | apply ResOk.tmp rfl | apply ResOk.cell rfl (by rfl) | apply ResOk.cell1 rfl))) (Ent.refl _) ⟨by rw [e]; rfl, rfl⟩

theorem mpossible_spec {L : List HP} (ad : Option Addr) (k c : Nat) (l : List Hm) [Rds L ad Hm encH 2 l] (hk : k = l.length) (hl : l.length ≤ 1000000000) :
    Tri Tryz.prog 34 #[.slice ad k c] L (fun v L' => v = .bool (dB (HOk 12 l)) ∧ L' = L) := by
  refine Tri.body (args := [.slice ad k c]) 6 en34 Tryz.func34 rfl rfl rfl (by simp) ?_
  repeat (first | refine run ?_ | intro _ | ((with_reducible apply GO.atPlain); refine GO.callIn en35 Tryz.func35 rfl rfl rfl rfl (by simp) (by decide) ?_) | ((with_reducible apply GPW.atEf); refine GPW.callIn en35 Tryz.func35 rfl rfl rfl rfl (by simp) (by decide) ?_) | ((with_reducible apply GO.atPlain); refine GO.callFnIn rfl en35 Tryz.func35 rfl rfl rfl rfl (by simp) (by decide) ?_) | ((with_reducible apply GPW.atEf); refine GPW.callFnIn rfl en35 Tryz.func35 rfl rfl rfl rfl (by simp) (by decide) ?_) | ((with_reducible apply KX.atIn); first | refine KX.in0 (.inl rfl) ?_ | refine KX.in0 (.inr rfl) ?_ | refine KX.in1 (.inl rfl) rfl ?_ | refine KX.in2 (.inl rfl) rfl rfl ?_ | refine KX.in3 (.inl rfl) rfl rfl rfl ?_ | refine KX.inC (.inl rfl) rfl (by rfl) ?_ | refine KX.inC1 (.inl rfl) rfl (by rfl) rfl ?_))
  (first | ((with_reducible apply GO.atPlain); first | refine GO.ef (Ef.callAll (mvalid_spec 12 ad k c l hk hl) rfl) (by decide) ?_ | refine GO.ef (by exact Ef.callAll (mvalid_spec 12 ad k c l hk hl) rfl) (by decide) ?_) | ((with_reducible apply GPW.atEf); first | refine GPW.ef (Ef.callAll (mvalid_spec 12 ad k c l hk hl) rfl) (by decide) ?_ | refine GPW.ef (by exact Ef.callAll (mvalid_spec 12 ad k c l hk hl) rfl) (by decide) ?_))
  rintro _ _ ⟨rfl, rfl⟩
  repeat (first | refine run ?_ | intro _ | ((with_reducible apply GO.atPlain); refine GO.callIn en35 Tryz.func35 rfl rfl rfl rfl (by simp) (by decide) ?_) | ((with_reducible apply GPW.atEf); refine GPW.callIn en35 Tryz.func35 rfl rfl rfl rfl (by simp) (by decide) ?_) | ((with_reducible apply GO.atPlain); refine GO.callFnIn rfl en35 Tryz.func35 rfl rfl rfl rfl (by simp) (by decide) ?_) | ((with_reducible apply GPW.atEf); refine GPW.callFnIn rfl en35 Tryz.func35 rfl rfl rfl rfl (by simp) (by decide) ?_) | ((with_reducible apply KX.atIn); first | refine KX.in0 (.inl rfl) ?_ | refine KX.in0 (.inr rfl) ?_ | refine KX.in1 (.inl rfl) rfl ?_ | refine KX.in2 (.inl rfl) rfl rfl ?_ | refine KX.in3 (.inl rfl) rfl rfl rfl ?_ | refine KX.inC (.inl rfl) rfl (by rfl) ?_ | refine KX.inC1 (.inl rfl) rfl (by rfl) rfl ?_))
  refine KX.ends (by first | exact ResOk.tmps rfl | (repeat (first | exact ResOk.nil | apply ResOk.tmp rfl | apply ResOk.cell rfl (by rfl) | apply ResOk.cell1 rfl))) (Ent.refl _) ⟨?_, rfl⟩
  have e : (errV 12 l = 0) = HOk 12 l := by
    rw [errV_eq]
    by_cases h : HOk 12 l <;> simp [h]
  simp only [resV, e]
theorem mFind_spec {L : List HP} (a : Int) (ad : Option Addr) (k c : Nat) (l : List Hm) [Rds L ad Hm encH 2 l] (hk : k = l.length) (hl : l.length ≤ 1000000000) :
    Tri Tryz.prog 15 #[.slice ad k c, .int .i64 a] L (fun v L' => v = (if HOk 12 l ∧ 1 ≤ a ∧ a ≤ maxAcc then .tuple #[.int .i64 (fndH l a), .int .i64 0] else .tuple #[.int .i64 0, .int .i64 1]) ∧ L' = L) := by
  have hmx : maxAcc = 1073741824 := rfl
  refine Tri.body (args := [.slice ad k c, .int .i64 a]) 17 en15 Tryz.func15 rfl rfl rfl (by simp) ?_
  repeat (first | refine run ?_ | intro _ | ((with_reducible apply GO.atPlain); refine GO.callIn en35 Tryz.func35 rfl rfl rfl rfl (by simp) (by decide) ?_) | ((with_reducible apply GPW.atEf); refine GPW.callIn en35 Tryz.func35 rfl rfl rfl rfl (by simp) (by decide) ?_) | ((with_reducible apply GO.atPlain); refine GO.callFnIn rfl en35 Tryz.func35 rfl rfl rfl rfl (by simp) (by decide) ?_) | ((with_reducible apply GPW.atEf); refine GPW.callFnIn rfl en35 Tryz.func35 rfl rfl rfl rfl (by simp) (by decide) ?_) | ((with_reducible apply KX.atIn); first | refine KX.in0 (.inl rfl) ?_ | refine KX.in0 (.inr rfl) ?_ | refine KX.in1 (.inl rfl) rfl ?_ | refine KX.in2 (.inl rfl) rfl rfl ?_ | refine KX.in3 (.inl rfl) rfl rfl rfl ?_ | refine KX.inC (.inl rfl) rfl (by rfl) ?_ | refine KX.inC1 (.inl rfl) rfl (by rfl) rfl ?_))
  (first | ((with_reducible apply GO.atPlain); first | refine GO.ef (Ef.callAll (mpossible_spec ad k c l hk hl) rfl) (by decide) ?_ | refine GO.ef (by exact Ef.callAll (mpossible_spec ad k c l hk hl) rfl) (by decide) ?_) | ((with_reducible apply GPW.atEf); first | refine GPW.ef (Ef.callAll (mpossible_spec ad k c l hk hl) rfl) (by decide) ?_ | refine GPW.ef (by exact Ef.callAll (mpossible_spec ad k c l hk hl) rfl) (by decide) ?_))
  rintro _ _ ⟨rfl, rfl⟩
  by_cases h1 : HOk 12 l
  case neg =>
    rw [dB_neg h1]
    repeat (first | refine run ?_ | intro _ | ((with_reducible apply GO.atPlain); refine GO.callIn en35 Tryz.func35 rfl rfl rfl rfl (by simp) (by decide) ?_) | ((with_reducible apply GPW.atEf); refine GPW.callIn en35 Tryz.func35 rfl rfl rfl rfl (by simp) (by decide) ?_) | ((with_reducible apply GO.atPlain); refine GO.callFnIn rfl en35 Tryz.func35 rfl rfl rfl rfl (by simp) (by decide) ?_) | ((with_reducible apply GPW.atEf); refine GPW.callFnIn rfl en35 Tryz.func35 rfl rfl rfl rfl (by simp) (by decide) ?_) | ((with_reducible apply KX.atIn); first | refine KX.in0 (.inl rfl) ?_ | refine KX.in0 (.inr rfl) ?_ | refine KX.in1 (.inl rfl) rfl ?_ | refine KX.in2 (.inl rfl) rfl rfl ?_ | refine KX.in3 (.inl rfl) rfl rfl rfl ?_ | refine KX.inC (.inl rfl) rfl (by rfl) ?_ | refine KX.inC1 (.inl rfl) rfl (by rfl) rfl ?_))
    exact KX.ends (by first | exact ResOk.tmps rfl | (repeat (first | exact ResOk.nil | apply ResOk.tmp rfl | apply ResOk.cell rfl (by rfl) | apply ResOk.cell1 rfl))) (Ent.refl _) ⟨by rw [if_neg (fun h => h1 h.1)]; rfl, rfl⟩
  rw [dB_pos h1]
  by_cases h2 : 1 ≤ a ∧ a ≤ maxAcc
  case neg =>
    by_cases h3 : 1 ≤ a
    · repeat (first | refine run ?_ | intro _ | ((with_reducible apply GO.atPlain); refine GO.callIn en35 Tryz.func35 rfl rfl rfl rfl (by simp) (by decide) ?_) | ((with_reducible apply GPW.atEf); refine GPW.callIn en35 Tryz.func35 rfl rfl rfl rfl (by simp) (by decide) ?_) | ((with_reducible apply GO.atPlain); refine GO.callFnIn rfl en35 Tryz.func35 rfl rfl rfl rfl (by simp) (by decide) ?_) | ((with_reducible apply GPW.atEf); refine GPW.callFnIn rfl en35 Tryz.func35 rfl rfl rfl rfl (by simp) (by decide) ?_) | ((with_reducible apply KX.atIn); first | refine KX.in0 (.inl rfl) ?_ | refine KX.in0 (.inr rfl) ?_ | refine KX.in1 (.inl rfl) rfl ?_ | refine KX.in2 (.inl rfl) rfl rfl ?_ | refine KX.in3 (.inl rfl) rfl rfl rfl ?_ | refine KX.inC (.inl rfl) rfl (by rfl) ?_ | refine KX.inC1 (.inl rfl) rfl (by rfl) rfl ?_))
      exact KX.ends (by first | exact ResOk.tmps rfl | (repeat (first | exact ResOk.nil | apply ResOk.tmp rfl | apply ResOk.cell rfl (by rfl) | apply ResOk.cell1 rfl))) (Ent.refl _) ⟨by rw [if_neg (fun h => h2 h.2)]; rfl, rfl⟩
    · repeat (first | refine run ?_ | intro _ | ((with_reducible apply GO.atPlain); refine GO.callIn en35 Tryz.func35 rfl rfl rfl rfl (by simp) (by decide) ?_) | ((with_reducible apply GPW.atEf); refine GPW.callIn en35 Tryz.func35 rfl rfl rfl rfl (by simp) (by decide) ?_) | ((with_reducible apply GO.atPlain); refine GO.callFnIn rfl en35 Tryz.func35 rfl rfl rfl rfl (by simp) (by decide) ?_) | ((with_reducible apply GPW.atEf); refine GPW.callFnIn rfl en35 Tryz.func35 rfl rfl rfl rfl (by simp) (by decide) ?_) | ((with_reducible apply KX.atIn); first | refine KX.in0 (.inl rfl) ?_ | refine KX.in0 (.inr rfl) ?_ | refine KX.in1 (.inl rfl) rfl ?_ | refine KX.in2 (.inl rfl) rfl rfl ?_ | refine KX.in3 (.inl rfl) rfl rfl rfl ?_ | refine KX.inC (.inl rfl) rfl (by rfl) ?_ | refine KX.inC1 (.inl rfl) rfl (by rfl) rfl ?_))
      exact KX.ends (by first | exact ResOk.tmps rfl | (repeat (first | exact ResOk.nil | apply ResOk.tmp rfl | apply ResOk.cell rfl (by rfl) | apply ResOk.cell1 rfl))) (Ent.refl _) ⟨by rw [if_neg (fun h => h2 h.2)]; rfl, rfl⟩
  repeat (first | refine run ?_ | intro _ | ((with_reducible apply GO.atPlain); refine GO.callIn en35 Tryz.func35 rfl rfl rfl rfl (by simp) (by decide) ?_) | ((with_reducible apply GPW.atEf); refine GPW.callIn en35 Tryz.func35 rfl rfl rfl rfl (by simp) (by decide) ?_) | ((with_reducible apply GO.atPlain); refine GO.callFnIn rfl en35 Tryz.func35 rfl rfl rfl rfl (by simp) (by decide) ?_) | ((with_reducible apply GPW.atEf); refine GPW.callFnIn rfl en35 Tryz.func35 rfl rfl rfl rfl (by simp) (by decide) ?_) | ((with_reducible apply KX.atIn); first | refine KX.in0 (.inl rfl) ?_ | refine KX.in0 (.inr rfl) ?_ | refine KX.in1 (.inl rfl) rfl ?_ | refine KX.in2 (.inl rfl) rfl rfl ?_ | refine KX.in3 (.inl rfl) rfl rfl rfl ?_ | refine KX.inC (.inl rfl) rfl (by rfl) ?_ | refine KX.inC1 (.inl rfl) rfl (by rfl) rfl ?_))
  (first | ((with_reducible apply GO.atPlain); first | refine GO.ef (Ef.callAll (mfind_spec a ad k c l hk hl h1 h2) rfl) (by decide) ?_ | refine GO.ef (by exact Ef.callAll (mfind_spec a ad k c l hk hl h1 h2) rfl) (by decide) ?_) | ((with_reducible apply GPW.atEf); first | refine GPW.ef (Ef.callAll (mfind_spec a ad k c l hk hl h1 h2) rfl) (by decide) ?_ | refine GPW.ef (by exact Ef.callAll (mfind_spec a ad k c l hk hl h1 h2) rfl) (by decide) ?_))
  rintro _ _ ⟨rfl, rfl⟩
  repeat (first | refine run ?_ | intro _ | ((with_reducible apply GO.atPlain); refine GO.callIn en35 Tryz.func35 rfl rfl rfl rfl (by simp) (by decide) ?_) | ((with_reducible apply GPW.atEf); refine GPW.callIn en35 Tryz.func35 rfl rfl rfl rfl (by simp) (by decide) ?_) | ((with_reducible apply GO.atPlain); refine GO.callFnIn rfl en35 Tryz.func35 rfl rfl rfl rfl (by simp) (by decide) ?_) | ((with_reducible apply GPW.atEf); refine GPW.callFnIn rfl en35 Tryz.func35 rfl rfl rfl rfl (by simp) (by decide) ?_) | ((with_reducible apply KX.atIn); first | refine KX.in0 (.inl rfl) ?_ | refine KX.in0 (.inr rfl) ?_ | refine KX.in1 (.inl rfl) rfl ?_ | refine KX.in2 (.inl rfl) rfl rfl ?_ | refine KX.in3 (.inl rfl) rfl rfl rfl ?_ | refine KX.inC (.inl rfl) rfl (by rfl) ?_ | refine KX.inC1 (.inl rfl) rfl (by rfl) rfl ?_))
  exact KX.ends (by first | exact ResOk.tmps rfl | (repeat (first | exact ResOk.nil | apply ResOk.tmp rfl | apply ResOk.cell rfl (by rfl) | apply ResOk.cell1 rfl))) (Ent.refl _) ⟨by rw [if_pos ⟨h1, h2⟩]; rfl, rfl⟩
end Go.Proofs.YtclgjkeeaopppaaGreatDoor
