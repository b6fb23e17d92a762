/- Contracts of small functions of the channel. -/
import Derived.Test.YtnpienjfapjjoaaT
namespace Go.Proofs.Ytnpienjfapjjoaa
open Go.V
attribute [local irreducible] G GO GP GPW GPK Ev Ef Ent CB GB

def around (n k : Int) : Int := (if n < 0 then -(n+1) else n) % k
theorem around_bd (n : Int) {k : Int} (h : 1 ≤ k) : 0 ≤ around n k ∧ around n k < k := ⟨Int.emod_nonneg _ (by omega), Int.emod_lt_of_pos _ (by omega)⟩

theorem around_spec (n k : Int) (h0 : -9223372036854775808 ≤ n) (h1 : n ≤ 9223372036854775807) (h2 : 1 ≤ k) (h3 : k ≤ 9223372036854775807) :
    Tri Try.prog 12 #[.int .i64 n, .int .i64 k] [] (fun v L => v = .int .i64 (around n k) ∧ L = []) := by
  refine Tri.body (args := [.int .i64 n, .int .i64 k]) 13 en12 Try.func12 rfl rfl rfl (by simp) ?_
  repeat' (first | refine run ?_ | intro _ | with_reducible refine CB.dec (fun _ => ?_) (fun _ => ?_) | with_reducible refine GB.dec (fun _ => ?_) (fun _ => ?_) | with_reducible refine CB.bool (fun _ => ?_) (fun _ => ?_) | with_reducible refine GB.bool (fun _ => ?_) (fun _ => ?_))
  · refine KX.ends (by first | exact ResOk.tmps rfl | (repeat (first | exact ResOk.nil | refine ResOk.tmp rfl ?_ | refine ResOk.cell rfl (by rfl) ?_ | refine ResOk.cell1 rfl ?_))) (Ent.refl _) ⟨?_, rfl⟩
    have h : n < 0 := by assumption
    simp [around, h, resV]
  · refine KX.ends (by first | exact ResOk.tmps rfl | (repeat (first | exact ResOk.nil | refine ResOk.tmp rfl ?_ | refine ResOk.cell rfl (by rfl) ?_ | refine ResOk.cell1 rfl ?_))) (Ent.refl _) ⟨?_, rfl⟩
    have h : ¬ n < 0 := by assumption
    simp [around, h, resV]

theorem waiting_raw (b n c : Nat) (ad : Option Addr) (v0 v1 v3 v4 v5 : Value) :
    Tri Try.prog 22 #[.pointer (some ⟨b, 0, none⟩)] [obj b 85 [v0, v1, .slice ad n c, v3, v4, v5]] (fun v L => v = .int .i64 n ∧ L = [obj b 85 [v0, v1, .slice ad n c, v3, v4, v5]]) := by
  refine Tri.body (args := [.pointer (some ⟨b, 0, none⟩)]) 8 en22 Try.func22 rfl rfl rfl (by simp) ?_
  repeat (first | refine run ?_ | intro _)
  exact KX.ends (by first | exact ResOk.tmps rfl | (repeat (first | exact ResOk.nil | refine ResOk.tmp rfl ?_ | refine ResOk.cell rfl (by rfl) ?_ | refine ResOk.cell1 rfl ?_))) (Ent.refl _) ⟨rfl, rfl⟩

def validB (s k : Int) (n : Nat) : Bool := decide (0 ≤ s) && decide (0 ≤ k) && decide (n ≤ 65536) && (decide (0 < s) || decide (n = 0))
theorem validB_props {s k : Int} {n : Nat} (h : validB s k n = true) : 0 ≤ s ∧ 0 ≤ k ∧ n ≤ 65536 ∧ (s = 0 → n = 0) := by
  simp [validB] at h
  omega
theorem valid_spec (s k : Int) (ad : Option Addr) (n c : Nat) :
    Tri Try.prog 43 #[.agg #[.int .i64 s, .int .i64 k, .slice ad n c]] [] (fun v L => v = .bool (validB s k n) ∧ L = []) := by
  refine Tri.body (args := [.agg #[.int .i64 s, .int .i64 k, .slice ad n c]]) 28 en43 Try.func43 rfl rfl rfl (by simp) ?_
  repeat' (first | refine run ?_ | intro _ | with_reducible refine CB.dec (fun _ => ?_) (fun _ => ?_) | with_reducible refine GB.dec (fun _ => ?_) (fun _ => ?_) | with_reducible refine CB.bool (fun _ => ?_) (fun _ => ?_) | with_reducible refine GB.bool (fun _ => ?_) (fun _ => ?_))
  all_goals refine KX.ends (by first | exact ResOk.tmps rfl | (repeat (first | exact ResOk.nil | refine ResOk.tmp rfl ?_ | refine ResOk.cell rfl (by rfl) ?_ | refine ResOk.cell1 rfl ?_))) (Ent.nil _) ⟨?_, rfl⟩
  all_goals simp only [resV, validB, dB_eq]
  all_goals (congr 1; rw [Bool.eq_iff_iff]; simp; omega)

theorem new_raw {α : Type} (enc : α → Value) (n : Int) (h1 : 1 ≤ n) (h2 : n ≤ 16) :
    Tri Try.prog 25 #[.int .i64 n] [] (fun v L => ∃ b m, v = .tuple #[.pointer (some ⟨b, 0, none⟩), .int .i64 0] ∧ L = [obj b 85 [.int .i64 n, .int .i64 0, .slice none 0 0, .int .i64 0, .map (some m), .bool false], omap enc m []]) := by
  refine Tri.body (args := [.int .i64 n]) 14 en25 Try.func25 rfl rfl rfl (by simp) ?_
  repeat (first | refine run ?_ | intro _)
  (first | ((with_reducible apply GO.atPlain); first | refine GO.ef (Ef.makeMap enc) (by decide) ?_ | refine GO.ef (by exact Ef.makeMap enc) (by decide) ?_) | ((with_reducible apply GPW.atEf); first | refine GPW.ef (Ef.makeMap enc) (by decide) ?_ | refine GPW.ef (by exact Ef.makeMap enc) (by decide) ?_) | ((with_reducible apply GO.atUnit); first | refine GO.efu (Ef.makeMap enc) ?_ | refine GO.efu (by exact Ef.makeMap enc) ?_) | ((with_reducible apply GPW.atEfu); first | refine GPW.efu (Ef.makeMap enc) ?_ | refine GPW.efu (by exact Ef.makeMap enc) ?_))
  rintro _ _ ⟨m, rfl, rfl⟩
  repeat (first | refine run ?_ | intro _)
  exact KX.ends (by first | exact ResOk.tmps rfl | (repeat (first | exact ResOk.nil | refine ResOk.tmp rfl ?_ | refine ResOk.cell rfl (by rfl) ?_ | refine ResOk.cell1 rfl ?_))) (Ent.refl _) ⟨_, _, rfl, rfl⟩
end Go.Proofs.Ytnpienjfapjjoaa
