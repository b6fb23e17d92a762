/- Bytes held against bytes. -/
import Derived.Test.YtnpienjfapjjoaaC5
import Derived.Test.YtnpienjfapjjoaaV9
namespace Go.Proofs.Ytnpienjfapjjoaa
open Go.V
attribute [local irreducible] G GO GP GPW GPK Ev Ef Ent CB GB validB

theorem take_succ_ne {xs ys : Bytes} {i : Nat} (h1 : i < xs.length) (h2 : i < ys.length) (h : xs[i]! ≠ ys[i]!) : xs ≠ ys := fun e => h (by rw [e])
theorem eq_of_take {xs ys : Bytes} (hl : xs.length = ys.length) (h : xs.take xs.length = ys.take xs.length) : xs = ys := by
  rw [List.take_length, hl, List.take_length] at h
  exact h
theorem take_step {xs ys : Bytes} {i : Nat} (h1 : i < xs.length) (h2 : i < ys.length) (h : xs.take i = ys.take i) (he : xs[i]! = ys[i]!) : xs.take (i + 1) = ys.take (i + 1) := by
  rw [List.take_succ_eq_append_getElem h1, List.take_succ_eq_append_getElem h2, h]
  rw [List.getElem!_eq_getElem?_getD, List.getElem?_eq_getElem h1, List.getElem!_eq_getElem?_getD, List.getElem?_eq_getElem h2] at he
  simp at he
  rw [he]
abbrev plC8_24_6 : List Stp := [.ev 0, .ev 1, .ev 2, .ev 3, .ev 4, .ev 5, .ev 6, .ev 7, .ev 8]
theorem sameBytes_spec {L : List HP} (ad : Option Addr) (n c : Nat) (xs : Bytes) (ad' : Option Addr) (n' c' : Nat) (ys : Bytes) [Rds L ad Int (encI .u8) 1 xs] [Rds L ad' Int (encI .u8) 1 ys] (hn : n = xs.length) (hn' : n' = ys.length) (hb : n ≤ 9223372036854775807) :
    Tri Try.prog 24 #[.slice ad n c, .slice ad' n' c'] L (fun v L' => v = .bool (dB (xs = ys)) ∧ L' = L) := by
  refine Tri.body (args := [.slice ad n c, .slice ad' n' c']) 26 en24 Try.func24 rfl rfl rfl (by simp) ?_
  repeat (first | refine run ?_ | intro _ | ((with_reducible apply G.atDraw); first | refine G.draw (id := 6) plC8_24_6 mixed (by kernel_rfl) ?_))
  (first | with_reducible refine CB.dec (fun _ => ?_) (fun _ => ?_) | with_reducible refine GB.dec (fun _ => ?_) (fun _ => ?_) | with_reducible refine CB.bool (fun _ => ?_) (fun _ => ?_) | with_reducible refine GB.bool (fun _ => ?_) (fun _ => ?_))
  · rename_i h
    repeat (first | refine run ?_ | intro _ | ((with_reducible apply G.atDraw); first | refine G.draw (id := 6) plC8_24_6 mixed (by kernel_rfl) ?_))
    exact KX.ends (by first | exact ResOk.tmps rfl | (repeat (first | exact ResOk.nil | refine ResOk.tmp rfl ?_ | refine ResOk.cell rfl (by rfl) ?_ | refine ResOk.cell1 rfl ?_))) (Ent.refl _) ⟨by rw [dB_neg]; rfl; intro e; rw [e] at hn; omega, rfl⟩
  rename_i h
  have hl : xs.length = ys.length := by omega
  repeat (first | ((fail_if_success (with_reducible refine G.atSS 3 ?_)); (with_reducible apply G.seq)) | refine runS ?_ | intro _ | ((with_reducible apply G.atDraw); first | refine G.draw (id := 6) plC8_24_6 mixed (by kernel_rfl) ?_))
  refine G.join (α := Unit) (fun _ => xs = ys) (fun _ => []) (fun _ => L) ?_ ?_
  · repeat (first | refine run ?_ | intro _ | ((with_reducible apply G.atDraw); first | refine G.draw (id := 6) plC8_24_6 mixed (by kernel_rfl) ?_))
    refine G.loop (α := Int) (fun i => 0 ≤ i ∧ i ≤ n ∧ xs.take i.toNat = ys.take i.toNat) (fun i => [(0, .slice ad n c), (1, .slice ad' n' c'), (5, .int .i64 i)]) (fun _ => L) (fun i => (n - i).toNat) 0 ⟨by omega, by omega, rfl⟩ (by repeat (first | exact EnvSub.nil _ | refine EnvSub.cons rfl ?_)) (Ent.refl _) ?_
    rintro i ⟨hi0, hi1, hi2⟩
    repeat (first | refine run ?_ | intro _ | ((with_reducible apply G.atDraw); first | refine G.draw (id := 6) plC8_24_6 mixed (by kernel_rfl) ?_))
    (first | with_reducible refine CB.dec (fun _ => ?_) (fun _ => ?_) | with_reducible refine GB.dec (fun _ => ?_) (fun _ => ?_) | with_reducible refine CB.bool (fun _ => ?_) (fun _ => ?_) | with_reducible refine GB.bool (fun _ => ?_) (fun _ => ?_))
    case refine_2 =>
      repeat (first | refine run ?_ | intro _ | ((with_reducible apply G.atDraw); first | refine G.draw (id := 6) plC8_24_6 mixed (by kernel_rfl) ?_))
      rw [show i.toNat = xs.length by omega] at hi2
      exact ⟨(), eq_of_take hl hi2, (by repeat (first | exact EnvSub.nil _ | refine EnvSub.cons rfl ?_)), Ent.refl _⟩
    rename_i hi3
    repeat (first | refine run ?_ | intro _ | ((with_reducible apply G.atDraw); first | refine G.draw (id := 6) plC8_24_6 mixed (by kernel_rfl) ?_))
    (first | with_reducible refine CB.dec (fun _ => ?_) (fun _ => ?_) | with_reducible refine GB.dec (fun _ => ?_) (fun _ => ?_) | with_reducible refine CB.bool (fun _ => ?_) (fun _ => ?_) | with_reducible refine GB.bool (fun _ => ?_) (fun _ => ?_))
    · rename_i hne
      repeat (first | refine run ?_ | intro _ | ((with_reducible apply G.atDraw); first | refine G.draw (id := 6) plC8_24_6 mixed (by kernel_rfl) ?_))
      exact KX.ends (by first | exact ResOk.tmps rfl | (repeat (first | exact ResOk.nil | refine ResOk.tmp rfl ?_ | refine ResOk.cell rfl (by rfl) ?_ | refine ResOk.cell1 rfl ?_))) (Ent.refl _) ⟨by rw [dB_neg (take_succ_ne (by omega) (by omega) hne)]; rfl, rfl⟩
    · rename_i heq
      repeat (first | refine run ?_ | intro _ | ((with_reducible apply G.atDraw); first | refine G.draw (id := 6) plC8_24_6 mixed (by kernel_rfl) ?_))
      refine ⟨i + 1, ⟨by omega, by omega, ?_⟩, by omega, (by repeat (first | exact EnvSub.nil _ | refine EnvSub.cons rfl ?_)), Ent.refl _⟩
      rw [show (i + 1).toNat = i.toNat + 1 by omega]
      exact take_step (by omega) (by omega) hi2 (Decidable.of_not_not heq)
  rintro _ he
  repeat (first | refine run ?_ | intro _ | ((with_reducible apply G.atDraw); first | refine G.draw (id := 6) plC8_24_6 mixed (by kernel_rfl) ?_))
  exact KX.ends (by first | exact ResOk.tmps rfl | (repeat (first | exact ResOk.nil | refine ResOk.tmp rfl ?_ | refine ResOk.cell rfl (by rfl) ?_ | refine ResOk.cell1 rfl ?_))) (Ent.refl _) ⟨by rw [dB_pos he]; rfl, rfl⟩
end Go.Proofs.Ytnpienjfapjjoaa
