/- Plain functions: words, hashes. No program in sight. -/
import Derived.Test.YtnpienjfapjjoaaV12
namespace Go.Proofs.Ytnpienjfapjjoaa
open Go.V
def fac : Nat := 11400714819323198485
def mixN (s w : Nat) : Nat := ((s ^^^ w) * fac % 18446744073709551616) ^^^ ((s ^^^ w) * fac % 18446744073709551616 / 4294967296)
theorem xor_lt64 {a b : Nat} (ha : a < 18446744073709551616) (hb : b < 18446744073709551616) : a ^^^ b < 18446744073709551616 := Nat.xor_lt_two_pow (n := 64) (by omega) (by omega)
theorem or_lt64 {a b : Nat} (ha : a < 18446744073709551616) (hb : b < 18446744073709551616) : a ||| b < 18446744073709551616 := Nat.or_lt_two_pow (n := 64) (by omega) (by omega)
theorem mixN_lt (s w : Nat) : mixN s w < 18446744073709551616 := xor_lt64 (Nat.mod_lt _ (by decide)) (by have := Nat.mod_lt ((s ^^^ w) * fac) (show 0 < 18446744073709551616 by decide); omega)
/-- Bytes as a number, the lowest first. -/
def wordOf : List Int → Nat
  | [] => 0
  | b :: t => b.toNat + 256 * wordOf t
abbrev ByteL (l : List Int) : Prop := ∀ x ∈ l, 0 ≤ x ∧ x ≤ 255
theorem wordOf_lt : ∀ {l : List Int}, ByteL l → wordOf l < 256 ^ l.length
  | [], _ => by simp [wordOf]
  | b :: t, h => by
    have h1 := h b (by simp)
    have h2 := wordOf_lt (fun x hx => h x (List.mem_cons_of_mem _ hx) : ByteL t)
    simp only [wordOf, List.length_cons, Nat.pow_succ]
    omega
theorem wordOf_snoc : ∀ (l : List Int) (c : Int), wordOf (l ++ [c]) = wordOf l + c.toNat * 256 ^ l.length
  | [], c => by simp [wordOf]
  | b :: t, c => by
    simp only [List.cons_append, wordOf, wordOf_snoc t c, List.length_cons, Nat.pow_succ]
    rw [Nat.mul_add, Nat.add_assoc]
    congr 2
    rw [Nat.mul_comm 256 (c.toNat * 256 ^ t.length), Nat.mul_assoc]
def chunk (b : List Int) (k : Nat) : List Int := (b.drop (8 * k)).take 8
def nWords (n : Nat) : Nat := (n + 7) / 8
def wordsN (b : List Int) : List Nat := (List.range (nWords b.length)).map fun k => wordOf (chunk b k)
theorem wordsN_len (b : List Int) : (wordsN b).length = nWords b.length := by simp [wordsN]
theorem wordsN_get (b : List Int) {k : Nat} (h : k < nWords b.length) : (wordsN b)[k]'(by rw [wordsN_len]; exact h) = wordOf (chunk b k) := by simp [wordsN]
theorem chunk_byte {b : List Int} (h : ByteL b) (k : Nat) : ByteL (chunk b k) := fun x hx => h x (List.mem_of_mem_drop (List.mem_of_mem_take hx))
theorem chunk_len (b : List Int) (k : Nat) : (chunk b k).length = min 8 (b.length - 8 * k) := by simp [chunk]
theorem wordOf_lt64 {l : List Int} (h : ByteL l) (hl : l.length ≤ 8) : wordOf l < 18446744073709551616 := by
  have h1 := wordOf_lt h
  have h2 : 256 ^ l.length ≤ 256 ^ 8 := Nat.pow_le_pow_right (by decide) hl
  have h3 : (256 : Nat) ^ 8 = 18446744073709551616 := by decide
  omega
theorem wordsN_lt {b : List Int} (h : ByteL b) : ∀ w ∈ wordsN b, w < 18446744073709551616 := by
  intro w hw
  simp only [wordsN, List.mem_map] at hw
  obtain ⟨k, _, rfl⟩ := hw
  exact wordOf_lt64 (chunk_byte h k) (by rw [chunk_len]; omega)
/-- The hash of words under a label. -/
def sumN (label : List Int) (l : List Nat) : Nat := mixN (l.foldl mixN (mixN (mixN ((wordsN label).foldl mixN 0) label.length) l.length)) 0
def bytesH (label b : List Int) : Nat := sumN label (wordsN b ++ [b.length])
/-- One byte more in a word. -/
theorem or_step {a c i : Nat} (ha : a < 256 ^ i) (hc : c ≤ 255) (hi : i < 8) : a ||| (c * 2 ^ (8 * i) % 18446744073709551616) = a + c * 256 ^ i := by
  have e : (2 : Nat) ^ (8 * i) = 256 ^ i := by rw [Nat.pow_mul]
  have hlt : c * 256 ^ i < 18446744073709551616 := by
    have h1 : (256 : Nat) ^ i ≤ 256 ^ 7 := Nat.pow_le_pow_right (by decide) (by omega)
    have h2 : (256 : Nat) ^ 7 = 72057594037927936 := by decide
    have h3 : c * 256 ^ i ≤ 255 * 256 ^ i := Nat.mul_le_mul_right _ hc
    omega
  rw [e, Nat.mod_eq_of_lt hlt, Nat.or_comm, nat_join (8 * i) (c * 256 ^ i) a (by rw [e]; exact Nat.mul_mod_left _ _) (by rw [e]; exact ha), Nat.add_comm]
theorem foldl_mixN_lt (l : List Nat) {s : Nat} (h : s < 18446744073709551616) : l.foldl mixN s < 18446744073709551616 := by
  induction l generalizing s with
  | nil => exact h
  | cons x l ih => exact ih (mixN_lt _ _)
end Go.Proofs.Ytnpienjfapjjoaa
