/- From the kit's words for a row in memory to this logic's: a slice of integers that a call has put in another order. -/
import Derived.Test.YtclgjkeeaopppaaGreatDoorV21
import Derived.Sort.Grow
import Derived.Lib.SlicesCompact
namespace Go.V
open Go.Sort
theorem putCells_take {d : List Int} {cur : Array Value} {m : Nat} (hm : m ≤ d.length) (hc : d.length ≤ cur.size) : (putCells (Value.int .i64) 0 d.toArray cur).toList.take (m * 1) = (d.take m).flatMap (encI .i64) := by
  rw [encI_flat, Nat.mul_one]
  apply List.ext_getElem?
  intro i
  by_cases hi : i < m
  · have h1 : i < d.length := by omega
    have h2 : i < cur.size := by omega
    rw [List.getElem?_take, if_pos hi]
    simp [putCells, h1, h2, hi]
  · rw [List.getElem?_take, if_neg hi]
    simp
    omega
theorem Sat.putRow {θ : Th} {g E : Nat} {cur : Array Value} {R : List HP} {w : World} {d : Array Int} {n : Nat} {os : Array Obj} (s : Sat θ (own g (.cells cur E (0, 0)) :: R) w) :
    Sat θ (own g (.cells (putCells (Value.int .i64) 0 d cur) E (0, 0)) :: R) (grow (Sort.putRow (Value.int .i64) (Sort.ahead w n) g 0 d) os) := by
  have hb := s.own_heap
  have hlt : g < w.heap.size := (Array.getElem?_eq_some_iff.1 hb).1
  refine s.update ⟨s.1.tape, s.1.os, s.1.output⟩ ?_ ?_
  · show (w.heap.modify g (onCells (putCells (Value.int .i64) 0 d)) ++ os)[g]? = _
    rw [Array.getElem?_append_left (by simpa using hlt), Array.getElem?_modify, if_pos rfl, hb]
    rfl
  · intro k x hk hx
    have hklt : k < w.heap.size := (Array.getElem?_eq_some_iff.1 hx).1
    show (w.heap.modify g (onCells (putCells (Value.int .i64) 0 d)) ++ os)[k]? = _
    rw [Array.getElem?_append_left (by simpa using hklt), Array.getElem?_modify, if_neg (fun e => hk e.symm), hx]
theorem holds_osl {g E : Nat} {cur : Array Value} {xs : List Int} {w : World} (hb : w.heap[g]? = some (.cells cur E (0, 0))) (ht : cur.toList.take (xs.length * 1) = xs.flatMap (encI .i64)) : Holds (Value.int .i64) w g 0 xs.toArray := by
  intro j hj
  have hj' : j < xs.length := by simpa using hj
  refine ⟨?_, by simp [World.frozen?, hb]⟩
  rw [Nat.zero_add, cell_of_block hb]
  have h : (cur.toList.take (xs.length * 1))[j]? = (xs.flatMap (encI .i64))[j]? := by rw [ht]
  rw [encI_flat, List.getElem?_take, if_pos (by omega)] at h
  simp [hj'] at h
  simp [hj', h]
/-- A call that sorts a slice of integers. -/
theorem Tri.sortI {P : Program} {f : FuncId} {E cap : Nat} {ad : Option Addr} {xs ys : List Int} {L : List HP} (he : Enters P f) (hlen : ys.length = xs.length) (hsz : xs.length < 4611686018427387904)
    (h0 : xs.length = 0 → ∀ w, Calls P f #[.slice ad 0 cap] w fun e w' => e = .returned (.tuple #[]) ∧ w' = w)
    (h1 : ∀ blk w, Holds (Value.int .i64) w blk 0 xs.toArray → blk < w.heap.size → Calls P f #[.slice (some ⟨blk, 0, none⟩) xs.length cap] w fun e w' => e = .returned (.tuple #[]) ∧ ∃ n os, w' = grow (Sort.putRow (Value.int .i64) (Sort.ahead w n) blk 0 ys.toArray) os) :
    Tri P f #[.slice ad xs.length cap] (osl (encI .i64) 1 E ad cap xs :: L) (fun v L' => v = .tuple #[] ∧ L' = osl (encI .i64) 1 E ad cap ys :: L) := by
  refine ⟨he, fun θ R w s => ?_⟩
  by_cases hx : xs.length = 0
  · have e1 : xs = [] := List.eq_nil_of_length_eq_zero hx
    have e2 : ys = [] := List.eq_nil_of_length_eq_zero (by omega)
    subst e1 e2
    refine (h0 rfl w).mono ?_
    rintro e w' ⟨rfl, rfl⟩
    exact ⟨_, _, rfl, ⟨rfl, rfl⟩, s⟩
  obtain ⟨a1, a2, a3, a4⟩ := Sat.osl_parts (L := L ++ R) s
  rcases a4 with ⟨rfl, rfl⟩ | ⟨g, cur, rfl, b1, b2, b3⟩
  · omega
  have hb := b3.own_heap
  refine (h1 g w (holds_osl hb b2) (Array.getElem?_eq_some_iff.1 hb).1).mono ?_
  rintro e w' ⟨rfl, n, os, rfl⟩
  refine ⟨_, _, rfl, ⟨rfl, rfl⟩, ?_⟩
  refine Sat.osl_mk (L := L ++ R) (Sat.putRow b3) (fun _ _ => rfl) (by omega) a3 ?_ ?_
  · simp [putCells, b1]
  · rw [putCells_take (Nat.le_refl _) (by rw [b1]; omega), List.take_length]
/-- A call that cuts a slice of integers to some of them. -/
theorem Tri.compactI {P : Program} {f : FuncId} {E cap : Nat} {ad : Option Addr} {xs ys zs : List Int} {L : List HP} (he : Enters P f) (hlen : ys.length + zs.length = xs.length) (hsz : xs.length < 4611686018427387904)
    (h0 : xs.length = 0 → ∀ w, Calls P f #[.slice ad 0 cap] w fun e w' => e = .returned (.slice ad 0 cap) ∧ w' = w)
    (h1 : xs.length ≤ cap → ∀ blk w, Holds (Value.int .i64) w blk 0 xs.toArray → Calls P f #[.slice (some ⟨blk, 0, none⟩) xs.length cap] w fun e w' => e = .returned (.slice (some ⟨blk, 0, none⟩) ys.length cap) ∧ ∃ n, w' = Sort.putRow (Value.int .i64) (Sort.ahead w n) blk 0 (ys ++ zs).toArray) :
    Tri P f #[.slice ad xs.length cap] (osl (encI .i64) 1 E ad cap xs :: L) (fun v L' => v = .slice ad ys.length cap ∧ L' = osl (encI .i64) 1 E ad cap ys :: L) := by
  refine ⟨he, fun θ R w s => ?_⟩
  by_cases hx : xs.length = 0
  · have e1 : xs = [] := List.eq_nil_of_length_eq_zero hx
    have e2 : ys = [] := List.eq_nil_of_length_eq_zero (by omega)
    subst e1 e2
    refine (h0 rfl w).mono ?_
    rintro e w' ⟨rfl, rfl⟩
    exact ⟨_, _, rfl, ⟨rfl, rfl⟩, s⟩
  obtain ⟨a1, a2, a3, a4⟩ := Sat.osl_parts (L := L ++ R) s
  rcases a4 with ⟨rfl, rfl⟩ | ⟨g, cur, rfl, b1, b2, b3⟩
  · omega
  have hb := b3.own_heap
  refine (h1 a2 g w (holds_osl hb b2)).mono ?_
  rintro e w' ⟨rfl, n, rfl⟩
  refine ⟨_, _, rfl, ⟨rfl, rfl⟩, ?_⟩
  have s2 := Sat.putRow (d := (ys ++ zs).toArray) (n := n) (os := #[]) b3
  rw [grow_empty] at s2
  refine Sat.osl_mk (L := L ++ R) s2 (fun _ _ => rfl) (by omega) a3 ?_ ?_
  · simp [putCells, b1]
  · rw [putCells_take (by simp) (by rw [b1]; simp; omega), List.take_left]
/-- What is left of a sorted list. -/
theorem compactUpTo_facts {d : Array Int} (hs : ∀ i j, i < j → j < d.size → d[i]! ≤ d[j]!) : ∀ m, m ≤ d.size →
    (Lib.compactUpTo d m).Pairwise (· < ·) ∧ (∀ x, x ∈ Lib.compactUpTo d m ↔ ∃ j, j < m ∧ d[j]! = x) ∧ (Lib.compactUpTo d m).length ≤ m
  | 0, _ => by simp [Lib.compactUpTo]
  | m + 1, hm => by
    obtain ⟨h1, h2, h3⟩ := compactUpTo_facts hs m (by omega)
    rw [Lib.compactUpTo_succ]
    by_cases hk : Lib.keeps d m = true
    · rw [if_pos hk]
      refine ⟨?_, ?_, by simp; omega⟩
      · rw [List.pairwise_append]
        refine ⟨h1, by simp, ?_⟩
        intro a ha b hb
        simp at hb
        subst hb
        obtain ⟨j, hj, rfl⟩ := (h2 a).1 ha
        have hmp : 0 < m := by omega
        have hne : d[m]! ≠ d[m - 1]! := by
          intro e
          rw [Lib.keeps_neg hmp e] at hk
          cases hk
        have h5 := hs (m - 1) m (by omega) (by omega)
        by_cases hjm : j = m - 1
        · subst hjm; omega
        · have := hs j (m - 1) (by omega) (by omega); omega
      · intro x
        rw [List.mem_append, h2 x]
        constructor
        · rintro (⟨j, hj, rfl⟩ | hx)
          · exact ⟨j, by omega, rfl⟩
          · simp at hx; exact ⟨m, by omega, hx.symm⟩
        · rintro ⟨j, hj, rfl⟩
          by_cases hjm : j = m
          · subst hjm; right; simp
          · left; exact ⟨j, by omega, rfl⟩
    · rw [if_neg hk, List.append_nil]
      refine ⟨h1, ?_, by omega⟩
      intro x
      rw [h2 x]
      constructor
      · rintro ⟨j, hj, rfl⟩
        exact ⟨j, by omega, rfl⟩
      · rintro ⟨j, hj, rfl⟩
        by_cases hjm : j = m
        · subst hjm
          have hj0 : j ≠ 0 := fun e => hk (Lib.keeps_lt_one d j (by omega))
          refine ⟨j - 1, by omega, ?_⟩
          by_cases e : d[j]! = d[j - 1]!
          · exact e.symm
          · exact absurd (Lib.keeps_pos e) hk
        · exact ⟨j, by omega, rfl⟩
def sortM (l : List Int) : List Int := l.mergeSort fun x y => decide (x ≤ y)
theorem sortM_perm (l : List Int) : (sortM l).Perm l := List.mergeSort_perm _ _
theorem sortM_sorted (l : List Int) : (sortM l).Pairwise (· ≤ ·) := by
  have h := List.pairwise_mergeSort (le := fun x y : Int => decide (x ≤ y)) (by intro a b c; simp; omega) (by intro a b; simp; omega) l
  exact h.imp (by intro a b hab; simpa using hab)
/-- The distinct members, in order. -/
def uniqM (l : List Int) : List Int := Lib.compact (sortM l)
theorem uniqM_facts (l : List Int) : (uniqM l).Pairwise (· < ·) ∧ (∀ x, x ∈ uniqM l ↔ x ∈ l) ∧ (uniqM l).length ≤ l.length := by
  have hs : ∀ i j, i < j → j < (sortM l).toArray.size → (sortM l).toArray[i]! ≤ (sortM l).toArray[j]! := by
    intro i j hij hj
    have hj' : j < (sortM l).length := by simpa using hj
    have := List.pairwise_iff_getElem.1 (sortM_sorted l) i j (by omega) hj' hij
    simpa [hj', show i < (sortM l).length by omega] using this
  have hl : (sortM l).length = l.length := (sortM_perm l).length_eq
  obtain ⟨h1, h2, h3⟩ := compactUpTo_facts hs (sortM l).length (by simp)
  refine ⟨h1, fun x => ?_, by rw [← hl]; exact h3⟩
  show x ∈ Lib.compactUpTo (sortM l).toArray (sortM l).length ↔ x ∈ l
  rw [h2 x, ← (sortM_perm l).mem_iff, List.mem_iff_getElem]
  constructor
  · rintro ⟨j, hj, rfl⟩
    exact ⟨j, hj, by simp [hj]⟩
  · rintro ⟨j, hj, rfl⟩
    exact ⟨j, hj, by simp [hj]⟩
end Go.V
