/- Plain functions: variable-length numbers. No program in sight. -/
import Derived.Test.YtnpienjfapjjoaaP1
namespace Go.Proofs.Ytnpienjfapjjoaa
open Go.V
theorem or128 : ∀ m, m < 256 → m ||| 128 = m % 128 + 128 := by decide +kernel
theorem and127 : ∀ m, m < 256 → m &&& 127 = m % 128 := by decide +kernel
/-- A number in groups of seven bits, the lowest first. -/
def uv (n : Nat) : List Int := if h : n < 128 then [(n : Int)] else ((n % 128 + 128 : Nat) : Int) :: uv (n / 128)
termination_by n
decreasing_by omega
theorem uv_small {n : Nat} (h : n < 128) : uv n = [(n : Int)] := by rw [uv, dif_pos h]
theorem uv_big {n : Nat} (h : ¬ n < 128) : uv n = ((n % 128 + 128 : Nat) : Int) :: uv (n / 128) := by rw [uv, dif_neg h]
theorem uv_byte (n : Nat) : ByteL (uv n) := by
  induction n using Nat.strongRecOn with
  | _ n ih =>
    by_cases h : n < 128
    · rw [uv_small h]
      intro x hx
      simp at hx
      omega
    · rw [uv_big h]
      intro x hx
      rcases List.mem_cons.1 hx with rfl | hx
      · omega
      · exact ih (n / 128) (by omega) x hx
theorem uv_len (k : Nat) : ∀ n, n < 128 ^ (k + 1) → (uv n).length ≤ k + 1 := by
  induction k with
  | zero => intro n h; rw [uv_small (by simpa using h)]; simp
  | succ k ih =>
    intro n h
    by_cases hn : n < 128
    · rw [uv_small hn]; simp
    · rw [uv_big hn]
      have h2 : n / 128 < 128 ^ (k + 1) := by
        rw [Nat.div_lt_iff_lt_mul (by decide)]
        rw [Nat.pow_succ] at h
        exact h
      have := ih (n / 128) h2
      simp only [List.length_cons]
      omega
theorem uv_len10 {n : Nat} (h : n < 18446744073709551616) : (uv n).length ≤ 10 := uv_len 9 n (by
  have : (128 : Nat) ^ (9 + 1) = 1180591620717411303424 := by decide
  omega)
/-- Reading a number: the number, the error, what is left. -/
def rdU : List Int → Nat → Nat → Nat × Int × List Int
  | [], _, _ => (0, 3, [])
  | b :: t, i, acc => if (i = 9 ∧ 1 < b) ∨ (0 < i ∧ b = 0) then (0, 2, t) else if b < 128 then (acc + b.toNat % 128 * 128 ^ i, 0, t) else rdU t (i + 1) (acc + b.toNat % 128 * 128 ^ i)
def zz (n : Int) : Nat := if n < 0 then 2 * (-(n + 1)).toNat + 1 else 2 * n.toNat
def unzz (u : Nat) : Int := if u % 2 = 1 then -((u / 2 : Nat) : Int) - 1 else ((u / 2 : Nat) : Int)
theorem zz_lt {n : Int} (h0 : -9223372036854775808 ≤ n) (h1 : n ≤ 9223372036854775807) : zz n < 18446744073709551616 := by unfold zz; split <;> omega
theorem unzz_zz (n : Int) : unzz (zz n) = n := by
  unfold unzz zz
  split
  · split <;> omega
  · split <;> omega
theorem unzz_bd {u : Nat} (h : u < 18446744073709551616) : -9223372036854775808 ≤ unzz u ∧ unzz u ≤ 9223372036854775807 := by unfold unzz; split <;> omega
theorem pow128_le {i : Nat} (h : i ≤ 9) : (128 : Nat) ^ i ≤ 9223372036854775808 := by
  have h1 : (128 : Nat) ^ i ≤ 128 ^ 9 := Nat.pow_le_pow_right (by decide) h
  have h2 : (128 : Nat) ^ 9 = 9223372036854775808 := by decide
  omega
/-- One group more. -/
theorem or_step7 {a c i : Nat} (ha : a < 128 ^ i) (hc : c * 128 ^ i < 18446744073709551616) : a ||| (c * 2 ^ (7 * i) % 18446744073709551616) = a + c * 128 ^ i := by
  have e : (2 : Nat) ^ (7 * i) = 128 ^ i := by rw [Nat.pow_mul]
  rw [e, Nat.mod_eq_of_lt hc, Nat.or_comm, nat_join (7 * i) (c * 128 ^ i) a (by rw [e]; exact Nat.mul_mod_left _ _) (by rw [e]; exact ha), Nat.add_comm]
theorem rdU_lt : ∀ (l : List Int) (i acc : Nat), ByteL l → i ≤ 9 → acc < 128 ^ i → (rdU l i acc).1 < 18446744073709551616
  | [], _, _, _, _, _ => by simp [rdU]
  | b :: t, i, acc, hb, hi, ha => by
    have h1 := hb b (by simp)
    have hp := pow128_le hi
    simp only [rdU]
    split
    · simp
    · rename_i hbad
      have hm := Nat.mod_lt b.toNat (show 0 < 128 by decide)
      have hmul : b.toNat % 128 * 128 ^ i ≤ 127 * 128 ^ i := Nat.mul_le_mul_right _ (by omega)
      by_cases h9 : i = 9
      · subst h9
        have h2 : b ≤ 1 := by
          rcases Int.lt_or_le 1 b with h | h
          · exact absurd (.inl ⟨rfl, h⟩) hbad
          · exact h
        have h3 : b.toNat % 128 * 128 ^ 9 ≤ 1 * 128 ^ 9 := Nat.mul_le_mul_right _ (by omega)
        have h4 : (128 : Nat) ^ 9 = 9223372036854775808 := by decide
        rw [if_pos (by omega)]
        omega
      · have hp2 : (128 : Nat) ^ (i + 1) ≤ 9223372036854775808 := pow128_le (by omega)
        have hp3 : (128 : Nat) ^ (i + 1) = 128 ^ i * 128 := Nat.pow_succ ..
        split
        · simp only []
          omega
        · exact rdU_lt t (i + 1) _ (fun x hx => hb x (List.mem_cons_of_mem _ hx)) (by omega) (by omega)
theorem rdU_byte : ∀ (l : List Int) (i acc : Nat), ByteL l → ByteL (rdU l i acc).2.2
  | [], _, _, h => h
  | b :: t, i, acc, h => by
    have ht : ByteL t := fun x hx => h x (List.mem_cons_of_mem _ hx)
    simp only [rdU]
    split
    · exact ht
    · split
      · exact ht
      · exact rdU_byte t _ _ ht
theorem rdU_len : ∀ (l : List Int) (i acc : Nat), (rdU l i acc).2.2.length ≤ l.length
  | [], _, _ => by simp [rdU]
  | b :: t, i, acc => by
    have := rdU_len t (i + 1) (acc + b.toNat % 128 * 128 ^ i)
    simp only [rdU, List.length_cons]
    split
    · simp
    · split
      · simp
      · omega
/-- Reading a slice of bytes. -/
def rdRaw (l : List Int) : List Int × Int × List Int :=
  if (rdU l 0 0).2.1 ≠ 0 then ([], (rdU l 0 0).2.1, (rdU l 0 0).2.2) else if (rdU l 0 0).2.2.length < (rdU l 0 0).1 then ([], 3, (rdU l 0 0).2.2) else ((rdU l 0 0).2.2.take (rdU l 0 0).1, 0, (rdU l 0 0).2.2.drop (rdU l 0 0).1)
end Go.Proofs.Ytnpienjfapjjoaa
