/- Plain laws: numbers that are read back; changed bytes are found. -/
import Derived.Test.YtnpienjfapjjoaaW3
namespace Go.Proofs.Ytnpienjfapjjoaa
open Go.V
theorem rdU_uv (n : Nat) : ∀ (rest : List Int) (i acc : Nat), i ≤ 9 → (0 < i → n ≠ 0) → n * 128 ^ i < 18446744073709551616 → rdU (uv n ++ rest) i acc = (acc + n * 128 ^ i, 0, rest) := by
  induction n using Nat.strongRecOn with
  | _ n ih =>
    intro rest i acc hi h0 hlt
    have hpos : 0 < (128 : Nat) ^ i := Nat.pow_pos (by decide)
    by_cases h : n < 128
    · rw [uv_small h]
      have hbad : ¬ ((i = 9 ∧ (1 : Int) < (n : Int)) ∨ (0 < i ∧ (n : Int) = 0)) := by
        rintro (⟨h9, h1⟩ | ⟨h9, h1⟩)
        · subst h9
          have h2 : 2 * 128 ^ 9 ≤ n * 128 ^ 9 := Nat.mul_le_mul_right _ (by omega)
          have h3 : (128 : Nat) ^ 9 = 9223372036854775808 := by decide
          omega
        · exact h0 h9 (by omega)
      simp only [List.cons_append, List.nil_append, rdU]
      rw [if_neg hbad, if_pos (by omega), Int.toNat_natCast, Nat.mod_eq_of_lt h]
    · rw [uv_big h]
      have hi9 : i ≠ 9 := by
        intro h9
        subst h9
        have h2 : 128 * 128 ^ 9 ≤ n * 128 ^ 9 := Nat.mul_le_mul_right _ (by omega)
        have h3 : (128 : Nat) ^ 9 = 9223372036854775808 := by decide
        omega
      have hbad : ¬ ((i = 9 ∧ (1 : Int) < ((n % 128 + 128 : Nat) : Int)) ∨ (0 < i ∧ ((n % 128 + 128 : Nat) : Int) = 0)) := by
        rintro (⟨h9, h1⟩ | ⟨h9, h1⟩)
        · exact hi9 h9
        · omega
      simp only [List.cons_append, rdU]
      rw [if_neg hbad, if_neg (by omega), Int.toNat_natCast, show (n % 128 + 128) % 128 = n % 128 by omega]
      have hp : (128 : Nat) ^ (i + 1) = 128 ^ i * 128 := Nat.pow_succ ..
      have hq : n / 128 * 128 ^ (i + 1) + n % 128 * 128 ^ i = n * 128 ^ i := by
        rw [hp, Nat.mul_comm (128 ^ i) 128, ← Nat.mul_assoc, ← Nat.add_mul]
        congr 1
        omega
      rw [ih (n / 128) (by omega) rest (i + 1) _ (by omega) (fun _ => by omega) (by omega)]
      congr 1
      omega
theorem rdU_uv0 {n : Nat} (h : n < 18446744073709551616) (rest : List Int) : rdU (uv n ++ rest) 0 0 = (n, 0, rest) := by
  rw [rdU_uv n rest 0 0 (by omega) (by omega) (by simpa using h)]
  simp
/-- What is read whole was written so. -/
theorem rdU_whole : ∀ (l : List Int) (i acc v : Nat), ByteL l → i ≤ 9 → rdU l i acc = (v, 0, []) → ∃ q, v = acc + q * 128 ^ i ∧ l = uv q ∧ (0 < i → q ≠ 0)
  | [], _, _, _, _, _, h => by simp [rdU] at h
  | b :: t, i, acc, v, hb, hi, h => by
    have h1 := hb b (by simp)
    simp only [rdU] at h
    split at h
    · simp at h
    · rename_i hbad
      split at h
      · rename_i hlt
        simp only [Prod.mk.injEq, true_and] at h
        obtain ⟨h2, h3⟩ := h
        refine ⟨b.toNat, ?_, ?_, ?_⟩
        · rw [← h2, Nat.mod_eq_of_lt (by omega)]
        · rw [h3, uv_small (by omega)]
          congr 1
          omega
        · intro h0 hz
          exact hbad (.inr ⟨h0, by omega⟩)
      · rename_i hge
        have hi9 : i ≠ 9 := by
          intro h9
          exact hbad (.inl ⟨h9, by omega⟩)
        obtain ⟨q, e1, e2, e3⟩ := rdU_whole t (i + 1) _ v (fun x hx => hb x (List.mem_cons_of_mem _ hx)) (by omega) h
        have hq := e3 (by omega)
        refine ⟨b.toNat % 128 + 128 * q, ?_, ?_, fun _ => by omega⟩
        · rw [e1, Nat.pow_succ, Nat.add_assoc, Nat.add_mul]
          congr 2
          rw [Nat.mul_comm (128 ^ i) 128, ← Nat.mul_assoc, Nat.mul_comm q 128]
        · rw [uv_big (by omega), show (b.toNat % 128 + 128 * q) / 128 = q by omega, ← e2]
          congr 1
          omega
theorem readR_whole {c rest : List Int} (h : c.length < 18446744073709551616) : readR (uv c.length ++ c ++ rest) 0 = (c, rest, 0) := by
  have h1 : readU (uv c.length ++ c ++ rest) 0 = (c.length, c ++ rest, 0) := by
    rw [readU, if_neg (by simp), List.append_assoc, rdU_uv0 h]
  rw [readR, h1]
  simp
/-! ### The hash finds one changed word -/
def facInv : Nat := 17428512612931826493
theorem mul_fac_inj {x : Nat} (h : x < 18446744073709551616) : x * fac % 18446744073709551616 * facInv % 18446744073709551616 = x := by
  have e : fac * facInv % 18446744073709551616 = 1 := by decide
  rw [Nat.mod_mul_mod, Nat.mul_assoc, Nat.mul_mod, e, Nat.mul_one, Nat.mod_mod, Nat.mod_eq_of_lt h]
theorem xorshift_back {m : Nat} (h : m < 18446744073709551616) : (m ^^^ (m / 4294967296)) ^^^ ((m ^^^ (m / 4294967296)) / 4294967296) = m := by
  have e : (m ^^^ (m / 4294967296)) / 4294967296 = m / 4294967296 := by
    have h1 : (4294967296 : Nat) = 2 ^ 32 := by decide
    rw [h1, ← Nat.shiftRight_eq_div_pow, ← Nat.shiftRight_eq_div_pow, Nat.shiftRight_xor_distrib]
    have h2 : m >>> 32 >>> 32 = 0 := by
      rw [← Nat.shiftRight_add, Nat.shiftRight_eq_div_pow]
      exact Nat.div_eq_of_lt (by simpa using h)
    rw [h2, Nat.xor_zero]
  rw [e, Nat.xor_assoc, Nat.xor_self, Nat.xor_zero]
theorem mixN_core {a b : Nat} (ha : a < 18446744073709551616) (hb : b < 18446744073709551616) (h : (a * fac % 18446744073709551616) ^^^ (a * fac % 18446744073709551616 / 4294967296) = (b * fac % 18446744073709551616) ^^^ (b * fac % 18446744073709551616 / 4294967296)) : a = b := by
  have h1 := xorshift_back (Nat.mod_lt (a * fac) (show 0 < 18446744073709551616 by decide))
  have h2 := xorshift_back (Nat.mod_lt (b * fac) (show 0 < 18446744073709551616 by decide))
  rw [h] at h1
  have h3 : a * fac % 18446744073709551616 = b * fac % 18446744073709551616 := h1.symm.trans h2
  rw [← mul_fac_inj ha, ← mul_fac_inj hb, h3]
theorem mixN_injw {s w w' : Nat} (hs : s < 18446744073709551616) (hw : w < 18446744073709551616) (hw' : w' < 18446744073709551616) (h : mixN s w = mixN s w') : w = w' := by
  have := mixN_core (xor_lt64 hs hw) (xor_lt64 hs hw') h
  have h2 := congrArg (fun x => s ^^^ x) this
  simpa [← Nat.xor_assoc] using h2
theorem mixN_injs {s s' w : Nat} (hs : s < 18446744073709551616) (hs' : s' < 18446744073709551616) (hw : w < 18446744073709551616) (h : mixN s w = mixN s' w) : s = s' := by
  have := mixN_core (xor_lt64 hs hw) (xor_lt64 hs' hw) h
  have h2 := congrArg (fun x => x ^^^ w) this
  simpa [Nat.xor_assoc] using h2
theorem foldl_mixN_injs : ∀ (l : List Nat) {s s' : Nat}, s < 18446744073709551616 → s' < 18446744073709551616 → (∀ w ∈ l, w < 18446744073709551616) → l.foldl mixN s = l.foldl mixN s' → s = s'
  | [], _, _, _, _, _, h => h
  | w :: l, s, s', hs, hs', hl, h => mixN_injs hs hs' (hl w (by simp)) (foldl_mixN_injs l (mixN_lt _ _) (mixN_lt _ _) (fun x hx => hl x (List.mem_cons_of_mem _ hx)) h)
theorem foldl_mixN_one (A B : List Nat) {w w' s : Nat} (hs : s < 18446744073709551616) (hw : w < 18446744073709551616) (hw' : w' < 18446744073709551616) (hB : ∀ w ∈ B, w < 18446744073709551616) (h : (A ++ w :: B).foldl mixN s = (A ++ w' :: B).foldl mixN s) : w = w' := by
  rw [List.foldl_append, List.foldl_append] at h
  simp only [List.foldl_cons] at h
  exact mixN_injw (foldl_mixN_lt A hs) hw hw' (foldl_mixN_injs B (mixN_lt _ _) (mixN_lt _ _) hB h)
/-- One byte changed, one word changed. -/
theorem wordOf_set : ∀ (l : List Int) (j : Nat) (y : Int), ByteL l → (0 ≤ y ∧ y ≤ 255) → (hj : j < l.length) → l[j] ≠ y → wordOf (l.set j y) ≠ wordOf l
  | [], j, _, _, _, hj, _ => by simp at hj
  | b :: t, 0, y, hb, hy, _, hne => by
    have := hb b (by simp)
    simp only [List.set_cons_zero, wordOf]
    simp only [List.getElem_cons_zero] at hne
    omega
  | b :: t, j + 1, y, hb, hy, hj, hne => by
    have := wordOf_set t j y (fun x hx => hb x (List.mem_cons_of_mem _ hx)) hy (by simpa using hj) (by simpa using hne)
    simp only [List.set_cons_succ, wordOf]
    omega
theorem chunk_set_same (b : List Int) {j k : Nat} (y : Int) (hk : j / 8 = k) : chunk (b.set j y) k = (chunk b k).set (j - 8 * k) y := by
  unfold chunk
  rw [List.drop_set, if_neg (by omega), List.take_set]
theorem chunk_set_other (b : List Int) {j k : Nat} (y : Int) (hk : j / 8 ≠ k) : chunk (b.set j y) k = chunk b k := by
  unfold chunk
  rw [List.drop_set]
  split
  · rfl
  · rw [List.take_set, List.set_eq_of_length_le]
    simp
    omega
theorem wordsN_split (b : List Int) {k : Nat} (hk : k < nWords b.length) : wordsN b = (List.range k).map (fun i => wordOf (chunk b i)) ++ wordOf (chunk b k) :: (List.range (nWords b.length - k - 1)).map (fun i => wordOf (chunk b (k + 1 + i))) := by
  unfold wordsN
  have e : List.range (nWords b.length) = List.range k ++ k :: (List.range (nWords b.length - k - 1)).map (fun i => k + 1 + i) := by
    apply List.ext_getElem
    · simp; omega
    · intro i h1 h2
      have hlr := List.length_range (n := k)
      simp only [List.getElem_range]
      rw [List.getElem_append]
      split
      · simp
      · rename_i hge
        simp only [List.length_range] at hge
        rw [List.getElem_cons]
        split
        · simp only [List.length_range] at *; omega
        · simp only [List.length_range, List.getElem_map, List.getElem_range]
          omega
  rw [e]
  simp [List.map_map, Function.comp_def]
theorem parcelH_set {b : List Int} {j : Nat} {y : Int} (hb : ByteL b) (hy : 0 ≤ y ∧ y ≤ 255) (hj : j < b.length) (hlen : b.length < 18446744073709551616) (hne : b[j] ≠ y) : parcelH (b.set j y) ≠ parcelH b := by
  intro h
  have hk : j / 8 < nWords b.length := by simp only [nWords]; omega
  have hk' : j / 8 < nWords (b.set j y).length := by rw [List.length_set]; exact hk
  have hbs : ByteL (b.set j y) := by
    intro x hx
    rcases List.mem_or_eq_of_mem_set hx with hx | hx
    · exact hb x hx
    · subst hx; exact hy
  have e1 := wordsN_split b hk
  have e2 := wordsN_split (b.set j y) hk'
  rw [List.length_set] at e2
  have eA : (List.range (j / 8)).map (fun i => wordOf (chunk (b.set j y) i)) = (List.range (j / 8)).map (fun i => wordOf (chunk b i)) := by
    refine List.map_congr_left fun i hi => ?_
    rw [chunk_set_other b y (by have := List.mem_range.1 hi; omega)]
  have eB : (List.range (nWords b.length - j / 8 - 1)).map (fun i => wordOf (chunk (b.set j y) (j / 8 + 1 + i))) = (List.range (nWords b.length - j / 8 - 1)).map (fun i => wordOf (chunk b (j / 8 + 1 + i))) := by
    refine List.map_congr_left fun i hi => ?_
    rw [chunk_set_other b y (by omega)]
  rw [eA, eB] at e2
  have hwl : (wordsN (b.set j y)).length = (wordsN b).length := by rw [wordsN_len, wordsN_len, List.length_set]
  unfold parcelH bytesH sumN at h
  rw [List.length_append, List.length_append, hwl, List.length_set] at h
  have h2 := mixN_injs (foldl_mixN_lt _ (mixN_lt _ _)) (foldl_mixN_lt _ (mixN_lt _ _)) (by decide) h
  rw [e1, e2, List.append_assoc, List.append_assoc, List.cons_append, List.cons_append] at h2
  have hw1 : wordOf (chunk (b.set j y) (j / 8)) < 18446744073709551616 := wordOf_lt64 (chunk_byte hbs _) (by rw [chunk_len]; omega)
  have hw2 : wordOf (chunk b (j / 8)) < 18446744073709551616 := wordOf_lt64 (chunk_byte hb _) (by rw [chunk_len]; omega)
  have h3 := foldl_mixN_one _ _ (mixN_lt _ _) hw1 hw2 (by
    intro w hw
    rcases List.mem_append.1 hw with hw | hw
    · simp only [List.mem_map] at hw
      obtain ⟨i, _, rfl⟩ := hw
      exact wordOf_lt64 (chunk_byte hb _) (by rw [chunk_len]; omega)
    · simp at hw
      omega) h2
  rw [chunk_set_same b y rfl] at h3
  refine wordOf_set (chunk b (j / 8)) (j - 8 * (j / 8)) y (chunk_byte hb _) hy (by rw [chunk_len]; omega) ?_ h3
  simp only [chunk, List.getElem_take, List.getElem_drop]
  have e : 8 * (j / 8) + (j - 8 * (j / 8)) = j := by omega
  simp only [e]
  exact hne
theorem decP_of {l core rest1 rest2 : List Int} {err1 err2 : Int} {sum : Nat} (h1 : readR l 0 = (core, rest1, err1)) (h2 : readU rest1 err1 = (sum, rest2, err2)) : (endE rest2 err2 ≠ 0 → (decP l).2 = 2) ∧ (endE rest2 err2 = 0 → sum ≠ parcelH core → (decP l).2 = 19) := by
  have e1 : (readR l 0).1 = core := by rw [h1]
  have e2 : (readR l 0).2.1 = rest1 := by rw [h1]
  have e3 : (readR l 0).2.2 = err1 := by rw [h1]
  have e4 : (readU (readR l 0).2.1 (readR l 0).2.2).1 = sum := by rw [e2, e3, h2]
  have e5 : (readU (readR l 0).2.1 (readR l 0).2.2).2.1 = rest2 := by rw [e2, e3, h2]
  have e6 : (readU (readR l 0).2.1 (readR l 0).2.2).2.2 = err2 := by rw [e2, e3, h2]
  refine ⟨fun he => ?_, fun he hs => ?_⟩
  · unfold decP
    rw [e5, e6, if_pos he]
  · unfold decP
    rw [e5, e6, e4, e1, if_neg (fun h => h he), if_pos hs]
/-- A changed byte behind the length is found. -/
theorem decP_detects {c : List Int} (hc : ByteL c) (hl : c.length ≤ 100000) {k : Nat} {y : Int} (hk1 : (uv c.length).length ≤ k) (hk2 : k < (wholeB c).length) (hy : 0 ≤ y ∧ y ≤ 255) (hne : (wholeB c)[k] ≠ y) : (decP ((wholeB c).set k y)).2 = 19 ∨ (decP ((wholeB c).set k y)).2 = 2 := by
  have hh := parcelH_lt c
  by_cases hlt : k < (uv c.length ++ c).length
  · -- a byte of the core
    have hj : k - (uv c.length).length < c.length := by simp at hlt; omega
    have e : (wholeB c).set k y = uv (c.set (k - (uv c.length).length) y).length ++ c.set (k - (uv c.length).length) y ++ uv (parcelH c) := by
      unfold wholeB
      rw [List.length_set, List.set_append, if_pos hlt, List.set_append, if_neg (by omega)]
    have hne' : c[k - (uv c.length).length] ≠ y := by
      intro e2
      apply hne
      rw [← e2]
      simp only [wholeB]
      rw [List.getElem_append_left hlt, List.getElem_append_right hk1]
    have hps := parcelH_set hc hy hj (by omega) hne'
    have hr := readR_whole (c := c.set (k - (uv c.length).length) y) (rest := uv (parcelH c)) (by rw [List.length_set]; omega)
    have hu : readU (uv (parcelH c)) 0 = (parcelH c, [], 0) := by
      have := rdU_uv0 hh []
      rw [List.append_nil] at this
      rw [readU, if_neg (by simp), this]
    left
    rw [e]
    exact (decP_of hr hu).2 (by simp [endE]) (fun e => hps e.symm)
  · -- a byte of the sum
    have e : (wholeB c).set k y = uv c.length ++ c ++ (uv (parcelH c)).set (k - (uv c.length ++ c).length) y := by
      unfold wholeB
      rw [List.set_append, if_neg hlt]
    have hr := readR_whole (c := c) (rest := (uv (parcelH c)).set (k - (uv c.length ++ c).length) y) (by omega)
    have hkl : k - (uv c.length ++ c).length < (uv (parcelH c)).length := by
      simp only [wholeB, List.length_append] at hk2 hlt ⊢
      omega
    have hne' : (uv (parcelH c))[k - (uv c.length ++ c).length] ≠ y := by
      intro e2
      apply hne
      rw [← e2]
      simp only [wholeB]
      rw [List.getElem_append_right (by omega)]
    have hbs : ByteL ((uv (parcelH c)).set (k - (uv c.length ++ c).length) y) := by
      intro x hx
      rcases List.mem_or_eq_of_mem_set hx with hx | hx
      · exact uv_byte _ x hx
      · subst hx; exact hy
    rw [e]
    obtain ⟨sum, rest2, err2, hv⟩ : ∃ sum rest2 err2, readU ((uv (parcelH c)).set (k - (uv c.length ++ c).length) y) 0 = (sum, rest2, err2) := ⟨_, _, _, rfl⟩
    by_cases he : endE rest2 err2 = 0
    · have h4 : err2 = 0 ∧ rest2 = [] := by
        unfold endE at he
        split at he
        · rename_i h; exact absurd he h
        · rename_i h
          split at he
          · rename_i h2; exact ⟨Decidable.of_not_not h, h2⟩
          · simp at he
      refine .inl ((decP_of hr hv).2 he ?_)
      intro hs
      have h5 : rdU ((uv (parcelH c)).set (k - (uv c.length ++ c).length) y) 0 0 = (parcelH c, 0, []) := by
        rw [readU, if_neg (by simp)] at hv
        rw [h4.1, h4.2, hs] at hv
        simp only [Prod.mk.injEq] at hv
        obtain ⟨g1, g2, g3⟩ := hv
        exact Prod.ext g1 (Prod.ext g3 g2)
      obtain ⟨q, e1, e2, _⟩ := rdU_whole _ 0 0 _ hbs (by omega) h5
      have e3 : q = parcelH c := by
        rw [Nat.pow_zero, Nat.mul_one, Nat.zero_add] at e1
        exact e1.symm
      rw [e3] at e2
      have e4 := congrArg (fun l => l[k - (uv c.length ++ c).length]?) e2
      simp only [List.getElem?_set_self hkl, List.getElem?_eq_getElem hkl] at e4
      exact hne' (Option.some.inj e4).symm
    · exact .inr ((decP_of hr hv).1 he)
end Go.Proofs.Ytnpienjfapjjoaa
