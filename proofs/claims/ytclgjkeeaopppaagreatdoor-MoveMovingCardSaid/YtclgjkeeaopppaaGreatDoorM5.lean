/- Contracts of the model of package move: small functions. -/
import Derived.Test.YtclgjkeeaopppaaGreatDoorM4
namespace Go.Proofs.YtclgjkeeaopppaaGreatDoor
open Go.V
attribute [local irreducible] G GO GP GPW GPK Ev Ef EfR Ent CB GB Enters

def around (n k : Int) : Int := (if n < 0 then -(n+1) else n) % k
theorem around_bd (n : Int) {k : Int} (h : 1 ≤ k) : 0 ≤ around n k ∧ around n k < k := ⟨Int.emod_nonneg _ (by omega), Int.emod_lt_of_pos _ (by omega)⟩
/-- A number that a variable of type int can have. -/
def I64 (n : Int) : Prop := -9223372036854775808 ≤ n ∧ n ≤ 9223372036854775807
theorem around_spec {L : List HP} (n k : Int) (hn : I64 n) (h2 : 1 ≤ k) (h3 : k ≤ 9223372036854775807) :
    Tri Tryz.prog 10 #[.int .i64 n, .int .i64 k] L (fun v L' => v = .int .i64 (around n k) ∧ L' = L) := by
  obtain ⟨h0, h1⟩ := hn
  refine Tri.body (args := [.int .i64 n, .int .i64 k]) 13 en10 Tryz.func10 rfl rfl rfl (by simp) ?_
  repeat' (first | refine run ?_ | intro _ | with_reducible refine CB.dec (fun _ => ?_) (fun _ => ?_) | with_reducible refine GB.dec (fun _ => ?_) (fun _ => ?_) | with_reducible refine CB.bool (fun _ => ?_) (fun _ => ?_) | with_reducible refine GB.bool (fun _ => ?_) (fun _ => ?_))
  · refine KX.ends (by first | exact ResOk.tmps rfl | (repeat (first | exact ResOk.nil | apply ResOk.tmp rfl | apply ResOk.cell rfl (by rfl) | apply ResOk.cell1 rfl))) (Ent.refl _) ⟨?_, rfl⟩
    have h : n < 0 := by assumption
    simp [around, h, resV]
  · refine KX.ends (by first | exact ResOk.tmps rfl | (repeat (first | exact ResOk.nil | apply ResOk.tmp rfl | apply ResOk.cell rfl (by rfl) | apply ResOk.cell1 rfl))) (Ent.refl _) ⟨?_, rfl⟩
    have h : ¬ n < 0 := by assumption
    simp [around, h, resV]
def pickM (l : List Int) (i most : Int) : Int := if 0 ≤ i ∧ i < l.length then around l[i.toNat]! most else 0
theorem pickM_bd (l : List Int) (i : Int) {most : Int} (h : 1 ≤ most) : 0 ≤ pickM l i most ∧ pickM l i most < most := by
  unfold pickM
  split
  · exact around_bd _ h
  · omega
theorem mem_get! {α : Type} [Inhabited α] {l : List α} {i : Nat} (h : i < l.length) : l[i]! ∈ l := by rw [getElem!_of h]; exact List.getElem_mem h
theorem pick_spec {L : List HP} (ad : Option Addr) (k c : Nat) (l : List Int) [Rds L ad Int (encI .i64) 1 l] (i most : Int) (hk : k = l.length) (_hl : l.length ≤ 9223372036854775807) (hb : ∀ x ∈ l, I64 x) (h2 : 1 ≤ most) (h3 : most ≤ 9223372036854775807) :
    Tri Tryz.prog 32 #[.slice ad k c, .int .i64 i, .int .i64 most] L (fun v L' => v = .int .i64 (pickM l i most) ∧ L' = L) := by
  refine Tri.body (args := [.slice ad k c, .int .i64 i, .int .i64 most]) 21 en32 Tryz.func32 rfl rfl rfl (by simp) ?_
  by_cases hi : 0 ≤ i ∧ i < l.length
  · have e : pickM l i most = around l[i.toNat]! most := if_pos hi
    obtain ⟨hi0, hi1⟩ := hi
    repeat (first | refine run ?_ | intro _)
    (first | ((with_reducible apply GO.atPlain); first | refine GO.ef (Ef.callAll (around_spec l[i.toNat]! most (hb _ (mem_get! (by omega))) h2 h3) rfl) (by decide) ?_ | refine GO.ef (by exact Ef.callAll (around_spec l[i.toNat]! most (hb _ (mem_get! (by omega))) h2 h3) rfl) (by decide) ?_) | ((with_reducible apply GPW.atEf); first | refine GPW.ef (Ef.callAll (around_spec l[i.toNat]! most (hb _ (mem_get! (by omega))) h2 h3) rfl) (by decide) ?_ | refine GPW.ef (by exact Ef.callAll (around_spec l[i.toNat]! most (hb _ (mem_get! (by omega))) h2 h3) rfl) (by decide) ?_))
    rintro _ _ ⟨rfl, rfl⟩
    repeat (first | refine run ?_ | intro _)
    exact KX.ends (by first | exact ResOk.tmps rfl | (repeat (first | exact ResOk.nil | apply ResOk.tmp rfl | apply ResOk.cell rfl (by rfl) | apply ResOk.cell1 rfl))) (Ent.refl _) ⟨by rw [e]; rfl, rfl⟩
  · have e : pickM l i most = 0 := if_neg hi
    by_cases hi0 : 0 ≤ i
    · repeat (first | refine run ?_ | intro _)
      exact KX.ends (by first | exact ResOk.tmps rfl | (repeat (first | exact ResOk.nil | apply ResOk.tmp rfl | apply ResOk.cell rfl (by rfl) | apply ResOk.cell1 rfl))) (Ent.refl _) ⟨by rw [e]; rfl, rfl⟩
    · repeat (first | refine run ?_ | intro _)
      exact KX.ends (by first | exact ResOk.tmps rfl | (repeat (first | exact ResOk.nil | apply ResOk.tmp rfl | apply ResOk.cell rfl (by rfl) | apply ResOk.cell1 rfl))) (Ent.refl _) ⟨by rw [e]; rfl, rfl⟩

abbrev tRH : Nat := 83
abbrev tMH : Nat := 84
theorem last_get {xs : List Hm} (h : xs.length ≠ 0) : xs.getLast?.map (·.2) = some (xs[((xs.length : Int) - 1).toNat]!.2) := by
  rw [show ((xs.length : Int) - 1).toNat = xs.length - 1 by omega, List.getLast?_eq_getElem?, getElem!_of (by omega), List.getElem?_eq_getElem (by omega)]
  rfl
theorem zip_take_succ (xs ys : List Int) {i : Nat} (h1 : i < xs.length) (h2 : i < ys.length) : (xs.zip ys).take (i + 1) = (xs.zip ys).take i ++ [(xs[i]!, ys[i]!)] := by
  rw [List.take_succ_eq_append_getElem (by simp; omega), getElem!_of h1, getElem!_of h2]
  simp
abbrev plM5_33_5 : List Stp := [.ev 0, .ev 1, .ev 2, .ev 3, .ev 4, .ev 5, .ev 6, .ev 7, .ev 8, .ev 9, .ev 10, .ev 11, .ev 12, .ev 13, .ev 14, .ev 15, .ev 16]
abbrev plM5_33_6 : List Stp := [.ev 0, .ev 1, .ev 2, .ev 3, .ev 4, .ev 5, .ev 6, .ev 7, .ev 8, .ev 9, .ef 10, .ef 11, .ev 12]
theorem normal_spec {L : List HP} (ad ad' : Option Addr) (k c k' c' : Nat) (xs ys : List Int) [Rds L ad Int (encI .i64) 1 xs] [Rds L ad' Int (encI .i64) 1 ys] (hk : k = xs.length) (hk' : k' = ys.length) (he : xs.length = ys.length) (hl : xs.length ≤ 1000000) :
    Tri Tryz.prog 33 #[.slice ad k c, .slice ad' k' c'] L (fun v L' => ∃ ad2 cap2, v = .slice ad2 (normalM (xs.zip ys)).length cap2 ∧ L' = osl encH 2 tRH ad2 cap2 (normalM (xs.zip ys)) :: L) := by
  refine Tri.body (args := [.slice ad k c, .slice ad' k' c']) 43 en33 Tryz.func33 rfl rfl rfl (by simp) ?_
  repeat (first | refine run ?_ | intro _ | ((with_reducible apply G.atDraw); first | refine G.draw (N := 43) (id := 5) plM5_33_5 mixed (by kernel_rfl) ?_ | refine G.draw (N := 43) (id := 6) plM5_33_6 mixed (by kernel_rfl) ?_))
  refine G.loop (α := Nat × Option Addr × Nat × List Hm) (fun x => x.1 ≤ k ∧ x.2.2.2 = ((xs.zip ys).take x.1).foldl push []) (fun x => [(0, .slice ad k c), (1, .slice ad' k' c'), (5, .slice x.2.1 x.2.2.2.length x.2.2.1), (6, .int .i64 (x.1 : Int))]) (fun x => osl encH 2 tRH x.2.1 x.2.2.1 x.2.2.2 :: L) (fun x => k - x.1) (0, none, 0, []) ⟨by simp, by simp⟩ (by repeat (first | exact EnvSub.nil _ | refine EnvSub.cons rfl ?_)) (Ent.nilSl encH 2 tRH) ?_
  rintro ⟨i, ad2, cap2, out⟩ ⟨h1, h2⟩
  dsimp only at h1 h2 ⊢
  by_cases hlt : i < k
  case neg =>
    have hz : (xs.zip ys).length ≤ i := by simp; omega
    rw [List.take_of_length_le hz] at h2
    have h2' : out = normalM (xs.zip ys) := h2
    subst h2'
    repeat (first | refine run ?_ | intro _ | ((with_reducible apply G.atDraw); first | refine G.draw (N := 43) (id := 5) plM5_33_5 mixed (by kernel_rfl) ?_ | refine G.draw (N := 43) (id := 6) plM5_33_6 mixed (by kernel_rfl) ?_))
    exact KX.ends (by first | exact ResOk.tmps rfl | (repeat (first | exact ResOk.nil | apply ResOk.tmp rfl | apply ResOk.cell rfl (by rfl) | apply ResOk.cell1 rfl))) (Ent.refl _) ⟨ad2, cap2, rfl, rfl⟩
  have hol : out.length ≤ 1000000 := by
    have := foldl_push_len ((xs.zip ys).take i) []
    rw [h2]
    simp at this ⊢
    omega
  have hnx : ((xs.zip ys).take (i + 1)).foldl push [] = push out (xs[i]!, ys[i]!) := by
    rw [zip_take_succ xs ys (by omega) (by omega), List.foldl_append, ← h2]
    rfl
  have fin : ∀ {env' : Env} {L' : List HP} (ad3 : Option Addr) (cap3 : Nat), EnvSub env' [(0, .slice ad k c), (1, .slice ad' k' c'), (5, .slice ad3 (push out (xs[i]!, ys[i]!)).length cap3), (6, .int .i64 ((i : Int) + 1))] → Ent L' (osl encH 2 tRH ad3 cap3 (push out (xs[i]!, ys[i]!)) :: L) →
      ∃ x' : Nat × Option Addr × Nat × List Hm, (x'.1 ≤ k ∧ x'.2.2.2 = ((xs.zip ys).take x'.1).foldl push []) ∧ k - x'.1 < k - i ∧ EnvSub env' [(0, .slice ad k c), (1, .slice ad' k' c'), (5, .slice x'.2.1 x'.2.2.2.length x'.2.2.1), (6, .int .i64 (x'.1 : Int))] ∧ Ent L' (osl encH 2 tRH x'.2.1 x'.2.2.1 x'.2.2.2 :: L) :=
    fun ad3 cap3 e1 e2 => ⟨(i + 1, ad3, cap3, push out (xs[i]!, ys[i]!)), ⟨by dsimp only; omega, hnx.symm⟩, by dsimp only; omega, by dsimp only; rw [show ((i + 1 : Nat) : Int) = (i : Int) + 1 by omega]; exact e1, e2⟩
  by_cases h0 : out.length = 0
  · have hx : out = [] := List.eq_nil_of_length_eq_zero h0
    have hp : push out (xs[i]!, ys[i]!) = out ++ [(xs[i]!, ys[i]!)] := by rw [hx]; rfl
    rw [hp] at fin
    repeat (first | refine run ?_ | intro _ | ((with_reducible apply G.atDraw); first | refine G.draw (N := 43) (id := 5) plM5_33_5 mixed (by kernel_rfl) ?_ | refine G.draw (N := 43) (id := 6) plM5_33_6 mixed (by kernel_rfl) ?_))
    rw [Int.toNat_natCast]
    (first | ((with_reducible apply GO.atPlain); first | refine GO.ef (Ef.append1 (e := ((xs[i]!, ys[i]!) : Hm)) rfl rfl rfl rfl rfl (by rfl) (encH_one _) (by omega) (by omega)) (by decide) ?_ | refine GO.ef (by exact Ef.append1 (e := ((xs[i]!, ys[i]!) : Hm)) rfl rfl rfl rfl rfl (by rfl) (encH_one _) (by omega) (by omega)) (by decide) ?_) | ((with_reducible apply GPW.atEf); first | refine GPW.ef (Ef.append1 (e := ((xs[i]!, ys[i]!) : Hm)) rfl rfl rfl rfl rfl (by rfl) (encH_one _) (by omega) (by omega)) (by decide) ?_ | refine GPW.ef (by exact Ef.append1 (e := ((xs[i]!, ys[i]!) : Hm)) rfl rfl rfl rfl rfl (by rfl) (encH_one _) (by omega) (by omega)) (by decide) ?_) | ((with_reducible apply GO.atUnit); first | refine GO.efu (Ef.append1 (e := ((xs[i]!, ys[i]!) : Hm)) rfl rfl rfl rfl rfl (by rfl) (encH_one _) (by omega) (by omega)) ?_ | refine GO.efu (by exact Ef.append1 (e := ((xs[i]!, ys[i]!) : Hm)) rfl rfl rfl rfl rfl (by rfl) (encH_one _) (by omega) (by omega)) ?_) | ((with_reducible apply GPW.atEfu); first | refine GPW.efu (Ef.append1 (e := ((xs[i]!, ys[i]!) : Hm)) rfl rfl rfl rfl rfl (by rfl) (encH_one _) (by omega) (by omega)) ?_ | refine GPW.efu (by exact Ef.append1 (e := ((xs[i]!, ys[i]!) : Hm)) rfl rfl rfl rfl rfl (by rfl) (encH_one _) (by omega) (by omega)) ?_))
    rintro _ _ ⟨ad3, cap3, rfl, rfl⟩
    repeat (first | refine run ?_ | intro _ | ((with_reducible apply G.atDraw); first | refine G.draw (N := 43) (id := 5) plM5_33_5 mixed (by kernel_rfl) ?_ | refine G.draw (N := 43) (id := 6) plM5_33_6 mixed (by kernel_rfl) ?_))
    exact fin ad3 cap3 (by repeat (first | exact EnvSub.nil _ | refine EnvSub.cons rfl ?_)) (Ent.refl _)
  have hlast := last_get h0
  by_cases hs : (out[((out.length : Int) - 1).toNat]!).2 = ys[i]!
  · have hp : push out (xs[i]!, ys[i]!) = out := by unfold push; rw [hlast, if_pos (by rw [hs])]
    rw [hp] at fin
    repeat (first | refine run ?_ | intro _ | ((with_reducible apply G.atDraw); first | refine G.draw (N := 43) (id := 5) plM5_33_5 mixed (by kernel_rfl) ?_ | refine G.draw (N := 43) (id := 6) plM5_33_6 mixed (by kernel_rfl) ?_))
    rw [Int.toNat_natCast]
    repeat (first | refine run ?_ | intro _ | ((with_reducible apply G.atDraw); first | refine G.draw (N := 43) (id := 5) plM5_33_5 mixed (by kernel_rfl) ?_ | refine G.draw (N := 43) (id := 6) plM5_33_6 mixed (by kernel_rfl) ?_))
    exact fin ad2 cap2 (by repeat (first | exact EnvSub.nil _ | refine EnvSub.cons rfl ?_)) (Ent.refl _)
  · have hp : push out (xs[i]!, ys[i]!) = out ++ [(xs[i]!, ys[i]!)] := by unfold push; rw [hlast, if_neg (by simpa using hs)]
    rw [hp] at fin
    repeat (first | refine run ?_ | intro _ | ((with_reducible apply G.atDraw); first | refine G.draw (N := 43) (id := 5) plM5_33_5 mixed (by kernel_rfl) ?_ | refine G.draw (N := 43) (id := 6) plM5_33_6 mixed (by kernel_rfl) ?_))
    rw [Int.toNat_natCast]
    repeat (first | refine run ?_ | intro _ | ((with_reducible apply G.atDraw); first | refine G.draw (N := 43) (id := 5) plM5_33_5 mixed (by kernel_rfl) ?_ | refine G.draw (N := 43) (id := 6) plM5_33_6 mixed (by kernel_rfl) ?_))
    (first | ((with_reducible apply GO.atPlain); first | refine GO.ef (Ef.append1 (e := ((xs[i]!, ys[i]!) : Hm)) rfl rfl rfl rfl rfl (by rfl) (encH_one _) (by omega) (by omega)) (by decide) ?_ | refine GO.ef (by exact Ef.append1 (e := ((xs[i]!, ys[i]!) : Hm)) rfl rfl rfl rfl rfl (by rfl) (encH_one _) (by omega) (by omega)) (by decide) ?_) | ((with_reducible apply GPW.atEf); first | refine GPW.ef (Ef.append1 (e := ((xs[i]!, ys[i]!) : Hm)) rfl rfl rfl rfl rfl (by rfl) (encH_one _) (by omega) (by omega)) (by decide) ?_ | refine GPW.ef (by exact Ef.append1 (e := ((xs[i]!, ys[i]!) : Hm)) rfl rfl rfl rfl rfl (by rfl) (encH_one _) (by omega) (by omega)) (by decide) ?_) | ((with_reducible apply GO.atUnit); first | refine GO.efu (Ef.append1 (e := ((xs[i]!, ys[i]!) : Hm)) rfl rfl rfl rfl rfl (by rfl) (encH_one _) (by omega) (by omega)) ?_ | refine GO.efu (by exact Ef.append1 (e := ((xs[i]!, ys[i]!) : Hm)) rfl rfl rfl rfl rfl (by rfl) (encH_one _) (by omega) (by omega)) ?_) | ((with_reducible apply GPW.atEfu); first | refine GPW.efu (Ef.append1 (e := ((xs[i]!, ys[i]!) : Hm)) rfl rfl rfl rfl rfl (by rfl) (encH_one _) (by omega) (by omega)) ?_ | refine GPW.efu (by exact Ef.append1 (e := ((xs[i]!, ys[i]!) : Hm)) rfl rfl rfl rfl rfl (by rfl) (encH_one _) (by omega) (by omega)) ?_))
    rintro _ _ ⟨ad3, cap3, rfl, rfl⟩
    repeat (first | refine run ?_ | intro _ | ((with_reducible apply G.atDraw); first | refine G.draw (N := 43) (id := 5) plM5_33_5 mixed (by kernel_rfl) ?_ | refine G.draw (N := 43) (id := 6) plM5_33_6 mixed (by kernel_rfl) ?_))
    exact fin ad3 cap3 (by repeat (first | exact EnvSub.nil _ | refine EnvSub.cons rfl ?_)) (Ent.refl _)

theorem fnd_take_succ {l : List Hm} {s a : Int} {i : Nat} (h : i < l.length) : fnd s (l.take (i + 1)) a = if l[i]!.1 ≤ a then l[i]!.2 else fnd s (l.take i) a := by
  rw [List.take_succ_eq_append_getElem h, fnd_app, getElem!_of h]
  obtain ⟨⟨g, t⟩, hg⟩ : ∃ y, l[i] = y := ⟨_, rfl⟩
  rw [hg]
  simp only [fnd]
theorem rfind_spec {L : List HP} (a : Int) (ad : Option Addr) (k c : Nat) (l : List Hm) [Rds L ad Hm encH 2 l] (hk : k = l.length) (hl : l.length ≤ 1000000000) :
    Tri Tryz.prog 16 #[.slice ad k c, .int .i64 a] L (fun v L' => v = .int .i64 (fndH l a) ∧ L' = L) := by
  refine Tri.body (args := [.slice ad k c, .int .i64 a]) 26 en16 Tryz.func16 rfl rfl rfl (by simp) ?_
  repeat (first | refine run ?_ | intro _)
  refine G.loop (α := Nat) (fun i => i ≤ k) (fun i => [(0, .slice ad k c), (1, .int .i64 a), (5, .int .i64 (fnd 0 (l.take i) a)), (6, .int .i64 (i : Int))]) (fun _ => L) (fun i => k - i) 0 (Nat.zero_le _) (by repeat (first | exact EnvSub.nil _ | refine EnvSub.cons rfl ?_)) (Ent.refl _) ?_
  intro i hi
  by_cases hlt : i < k
  case neg =>
    rw [List.take_of_length_le (show l.length ≤ i by omega)]
    repeat (first | refine run ?_ | intro _)
    exact KX.ends (by first | exact ResOk.tmps rfl | (repeat (first | exact ResOk.nil | apply ResOk.tmp rfl | apply ResOk.cell rfl (by rfl) | apply ResOk.cell1 rfl))) (Ent.refl _) ⟨rfl, rfl⟩
  have hs := fnd_take_succ (l := l) (s := 0) (a := a) (i := i) (by omega)
  by_cases hc : l[i]!.1 ≤ a
  · rw [if_pos hc] at hs
    repeat (first | refine run ?_ | intro _)
    rw [Int.toNat_natCast]
    repeat (first | refine run ?_ | intro _)
    refine ⟨i + 1, by omega, by omega, ?_, Ent.refl _⟩
    rw [hs, show ((i + 1 : Nat) : Int) = (i : Int) + 1 by omega]
    exact (by repeat (first | exact EnvSub.nil _ | refine EnvSub.cons rfl ?_))
  · rw [if_neg hc] at hs
    repeat (first | refine run ?_ | intro _)
    rw [Int.toNat_natCast]
    repeat (first | refine run ?_ | intro _)
    refine ⟨i + 1, by omega, by omega, ?_, Ent.refl _⟩
    rw [hs, show ((i + 1 : Nat) : Int) = (i : Int) + 1 by omega]
    exact (by repeat (first | exact EnvSub.nil _ | refine EnvSub.cons rfl ?_))
end Go.Proofs.YtclgjkeeaopppaaGreatDoor
