/- Contracts of the model of package wire. -/
import Derived.Test.YtnpienjfapjjoaaW3
import Derived.Test.YtnpienjfapjjoaaH2
namespace Go.Proofs.Ytnpienjfapjjoaa
open Go.V
abbrev rfL (b : Nat) (l : List Int) (err : Int) (x : SlV) (L : List HP) : List HP := obj b 101 [.slice x.ad l.length x.cap, .int .i64 err] :: isl (encI .u8) 1 x.ad l :: L
/-- Variable b is a reader of the model with this error and, where there is none, these bytes left. -/
def RfR (b : Nat) (rest : List Int) (err : Int) : HP := hex fun g : SlV × List Int => hstars (hpure ((err = 0 → g.2 = rest) ∧ g.2.length ≤ g.1.cap) :: rfL b g.2 err g.1 [])
theorem rfClose {b : Nat} {rest l : List Int} {err : Int} {L : List HP} (x : SlV) (h : (err = 0 → l = rest) ∧ l.length ≤ x.cap) : Ent (rfL b l err x L) (RfR b rest err :: L) := Ent.closeX (f := fun g : SlV × List Int => hpure ((err = 0 → g.2 = rest) ∧ g.2.length ≤ g.1.cap) :: rfL b g.2 err g.1 []) (x, l) (Ent.pure h (Ent.refl _))
theorem islTake {α : Type} {enc : α → List Value} {sz : Nat} {ad : Option Addr} {xs : List α} (k : Nat) {L : List HP} : Ent (isl enc sz ad xs :: L) (isl enc sz ad (xs.take k) :: L) := by
  refine Ent.head fun θ R w s => ?_
  obtain ⟨ok, ι, h, a, b1, c, ι₀, h₁, h₂, d1, d2, d3, d4, ⟨e1, e2⟩, d6⟩ := s
  refine ⟨ok, ι, h, a, b1, c, ι₀, h₁, h₂, d1, d2, d3, d4, ⟨fun x hx => e1 x (List.mem_of_mem_take hx), ?_⟩, d6⟩
  rcases e2 with rfl | ⟨g, off, cur, E, fz, rfl, f1, f2⟩
  · exact .inl (by simp)
  · refine .inr ⟨g, off, cur, E, fz, rfl, f1, ?_⟩
    intro i v hv
    refine f2 i v ?_
    have hs : xs.flatMap enc = (xs.take k).flatMap enc ++ (xs.drop k).flatMap enc := by rw [← List.flatMap_append, List.take_append_drop]
    rw [hs, List.getElem?_append_left]
    · exact hv
    · exact (List.getElem?_eq_some_iff.1 hv).1
attribute [local irreducible] G GO GP GPW GPK Ev Ef EfR Ent CB GB
theorem ruint_spec {L : List HP} (n : Nat) (hn : n < 18446744073709551616) :
    Tri Try.prog 52 #[.int .u64 n] L (fun v L' => ∃ ad cap, v = .slice ad (uv n).length cap ∧ (uv n).length ≤ cap ∧ L' = osl (encI .u8) 1 5 ad cap (uv n) :: L) := by
  have hul := uv_len10 hn
  refine Tri.body (args := [.int .u64 (n : Int)]) 20 en52 Try.func52 rfl rfl rfl (by simp) ?_
  repeat (first | refine run ?_ | intro _)
  refine G.loop (α := Nat × List Int × SlV) (fun g => g.1 < 18446744073709551616 ∧ g.2.1 ++ uv g.1 = uv n) (fun g => [(0, .int .u64 (g.1 : Int)), (3, .slice g.2.2.ad g.2.1.length g.2.2.cap)]) (fun g => osl (encI .u8) 1 5 g.2.2.ad g.2.2.cap g.2.1 :: L) (fun g => g.1) (n, [], ⟨none, 0, 0⟩) ⟨hn, rfl⟩ (by repeat (first | exact EnvSub.nil _ | refine EnvSub.cons rfl ?_)) (Ent.nilSl (encI .u8) 1 _) ?_
  rintro ⟨m, ys, y⟩ ⟨hm, hys⟩
  simp only [] at hm hys ⊢
  have hyl := congrArg List.length hys
  simp only [List.length_append] at hyl
  by_cases h128 : m < 128
  · rw [uv_small h128] at hys
    repeat (first | refine run ?_ | intro _)
    (first | ((with_reducible apply GO.atPlain); first | refine GO.ef (Ef.append1 (e := (m : Int)) rfl rfl rfl rfl rfl (by rfl) (encI_one _ _) (by omega) (by omega)) (by decide) ?_ | refine GO.ef (by exact Ef.append1 (e := (m : Int)) rfl rfl rfl rfl rfl (by rfl) (encI_one _ _) (by omega) (by omega)) (by decide) ?_) | ((with_reducible apply GPW.atEf); first | refine GPW.ef (Ef.append1 (e := (m : Int)) rfl rfl rfl rfl rfl (by rfl) (encI_one _ _) (by omega) (by omega)) (by decide) ?_ | refine GPW.ef (by exact Ef.append1 (e := (m : Int)) rfl rfl rfl rfl rfl (by rfl) (encI_one _ _) (by omega) (by omega)) (by decide) ?_) | ((with_reducible apply GO.atUnit); first | refine GO.efu (Ef.append1 (e := (m : Int)) rfl rfl rfl rfl rfl (by rfl) (encI_one _ _) (by omega) (by omega)) ?_ | refine GO.efu (by exact Ef.append1 (e := (m : Int)) rfl rfl rfl rfl rfl (by rfl) (encI_one _ _) (by omega) (by omega)) ?_) | ((with_reducible apply GPW.atEfu); first | refine GPW.efu (Ef.append1 (e := (m : Int)) rfl rfl rfl rfl rfl (by rfl) (encI_one _ _) (by omega) (by omega)) ?_ | refine GPW.efu (by exact Ef.append1 (e := (m : Int)) rfl rfl rfl rfl rfl (by rfl) (encI_one _ _) (by omega) (by omega)) ?_))
    rintro _ _ ⟨ad2, cap2, rfl, rfl⟩
    rw [hys]
    refine GO.fact (osl_cap (ad := ad2)) ?_
    rintro ⟨hcp, _⟩
    repeat (first | refine run ?_ | intro _)
    exact KX.ends (by first | exact ResOk.tmps rfl | (repeat (first | exact ResOk.nil | refine ResOk.tmp rfl ?_ | refine ResOk.cell rfl (by rfl) ?_ | refine ResOk.cell1 rfl ?_))) (Ent.refl _) ⟨ad2, cap2, rfl, hcp, rfl⟩
  · rw [uv_big h128] at hys
    repeat (first | refine run ?_ | intro _)
    (first | ((with_reducible apply GO.atPlain); first | refine GO.ev (Ev.addw rfl rfl) (by decide) ?_ | refine GO.ev (by exact Ev.addw rfl rfl) (by decide) ?_) | ((with_reducible apply GPW.atEv); first | refine GPW.evP (Ev.addw rfl rfl) (by decide) ?_ | refine GPW.evP (by exact Ev.addw rfl rfl) (by decide) ?_) | ((with_reducible apply GPW.atEv); first | refine GPW.evL (Ev.addw rfl rfl) (by decide) ?_ | refine GPW.evL (by exact Ev.addw rfl rfl) (by decide) ?_))
    have e1 : IntKind.u64.wrap (128 + (m : Int) % 128) = ((m % 128 + 128 : Nat) : Int) := by
      rw [IntKind.wrap_u64]
      omega
    rw [e1]
    repeat (first | refine run ?_ | intro _)
    (first | ((with_reducible apply GO.atPlain); first | refine GO.ef (Ef.append1 (e := ((m % 128 + 128 : Nat) : Int)) rfl rfl rfl rfl rfl (by rfl) (encI_one _ _) (by omega) (by omega)) (by decide) ?_ | refine GO.ef (by exact Ef.append1 (e := ((m % 128 + 128 : Nat) : Int)) rfl rfl rfl rfl rfl (by rfl) (encI_one _ _) (by omega) (by omega)) (by decide) ?_) | ((with_reducible apply GPW.atEf); first | refine GPW.ef (Ef.append1 (e := ((m % 128 + 128 : Nat) : Int)) rfl rfl rfl rfl rfl (by rfl) (encI_one _ _) (by omega) (by omega)) (by decide) ?_ | refine GPW.ef (by exact Ef.append1 (e := ((m % 128 + 128 : Nat) : Int)) rfl rfl rfl rfl rfl (by rfl) (encI_one _ _) (by omega) (by omega)) (by decide) ?_) | ((with_reducible apply GO.atUnit); first | refine GO.efu (Ef.append1 (e := ((m % 128 + 128 : Nat) : Int)) rfl rfl rfl rfl rfl (by rfl) (encI_one _ _) (by omega) (by omega)) ?_ | refine GO.efu (by exact Ef.append1 (e := ((m % 128 + 128 : Nat) : Int)) rfl rfl rfl rfl rfl (by rfl) (encI_one _ _) (by omega) (by omega)) ?_) | ((with_reducible apply GPW.atEfu); first | refine GPW.efu (Ef.append1 (e := ((m % 128 + 128 : Nat) : Int)) rfl rfl rfl rfl rfl (by rfl) (encI_one _ _) (by omega) (by omega)) ?_ | refine GPW.efu (by exact Ef.append1 (e := ((m % 128 + 128 : Nat) : Int)) rfl rfl rfl rfl rfl (by rfl) (encI_one _ _) (by omega) (by omega)) ?_))
    rintro _ _ ⟨ad2, cap2, rfl, rfl⟩
    repeat (first | refine run ?_ | intro _)
    (first | ((with_reducible apply GO.atPlain); first | refine GO.ev (Ev.quo64 rfl rfl (by omega) (by omega) (by decide)) (by decide) ?_ | refine GO.ev (by exact Ev.quo64 rfl rfl (by omega) (by omega) (by decide)) (by decide) ?_) | ((with_reducible apply GPW.atEv); first | refine GPW.evP (Ev.quo64 rfl rfl (by omega) (by omega) (by decide)) (by decide) ?_ | refine GPW.evP (by exact Ev.quo64 rfl rfl (by omega) (by omega) (by decide)) (by decide) ?_) | ((with_reducible apply GPW.atEv); first | refine GPW.evL (Ev.quo64 rfl rfl (by omega) (by omega) (by decide)) (by decide) ?_ | refine GPW.evL (by exact Ev.quo64 rfl rfl (by omega) (by omega) (by decide)) (by decide) ?_))
    repeat (first | refine run ?_ | intro _)
    refine ⟨(m / 128, ys ++ [((m % 128 + 128 : Nat) : Int)], ⟨ad2, 0, cap2⟩), ⟨by simp only []; omega, by simp only [List.append_assoc, List.cons_append, List.nil_append]; exact hys⟩, by simp only []; omega, ?_, ?_⟩
    · simp only []
      rw [show ((m / 128 : Nat) : Int) = (m : Int) / 128 by omega]
      exact (by repeat (first | exact EnvSub.nil _ | refine EnvSub.cons rfl ?_))
    repeat (first | exact Ent.refl _ | exact Ent.nil _ | refine Ent.take' ?_ | refine Ent.trans Ent.drop ?_)
theorem rzigzag_spec (n : Int) (h0 : -9223372036854775808 ≤ n) (h1 : n ≤ 9223372036854775807) :
    Tri Try.prog 73 #[.int .i64 n] [] (fun v L => v = .int .u64 (zz n) ∧ L = []) := by
  refine Tri.body (args := [.int .i64 n]) 14 en73 Try.func73 rfl rfl rfl (by simp) ?_
  by_cases hn : n < 0
  · repeat (first | refine run ?_ | intro _)
    (first | ((with_reducible apply GO.atPlain); first | refine GO.ev (Ev.mulw rfl rfl) (by decide) ?_ | refine GO.ev (by exact Ev.mulw rfl rfl) (by decide) ?_) | ((with_reducible apply GPW.atEv); first | refine GPW.evP (Ev.mulw rfl rfl) (by decide) ?_ | refine GPW.evP (by exact Ev.mulw rfl rfl) (by decide) ?_) | ((with_reducible apply GPW.atEv); first | refine GPW.evL (Ev.mulw rfl rfl) (by decide) ?_ | refine GPW.evL (by exact Ev.mulw rfl rfl) (by decide) ?_))
    have e1 : IntKind.u64.wrap (2 * -(n + 1)) = 2 * -(n + 1) := by
      rw [IntKind.wrap_u64]
      omega
    rw [e1]
    (first | ((with_reducible apply GO.atPlain); first | refine GO.ev (Ev.addw rfl rfl) (by decide) ?_ | refine GO.ev (by exact Ev.addw rfl rfl) (by decide) ?_) | ((with_reducible apply GPW.atEv); first | refine GPW.evP (Ev.addw rfl rfl) (by decide) ?_ | refine GPW.evP (by exact Ev.addw rfl rfl) (by decide) ?_) | ((with_reducible apply GPW.atEv); first | refine GPW.evL (Ev.addw rfl rfl) (by decide) ?_ | refine GPW.evL (by exact Ev.addw rfl rfl) (by decide) ?_))
    have e2 : IntKind.u64.wrap (2 * -(n + 1) + 1) = (zz n : Int) := by
      rw [IntKind.wrap_u64, zz, if_pos hn]
      omega
    rw [e2]
    repeat (first | refine run ?_ | intro _)
    exact KX.ends (by first | exact ResOk.tmps rfl | (repeat (first | exact ResOk.nil | refine ResOk.tmp rfl ?_ | refine ResOk.cell rfl (by rfl) ?_ | refine ResOk.cell1 rfl ?_))) (Ent.refl _) ⟨rfl, rfl⟩
  · repeat (first | refine run ?_ | intro _)
    (first | ((with_reducible apply GO.atPlain); first | refine GO.ev (Ev.mulw rfl rfl) (by decide) ?_ | refine GO.ev (by exact Ev.mulw rfl rfl) (by decide) ?_) | ((with_reducible apply GPW.atEv); first | refine GPW.evP (Ev.mulw rfl rfl) (by decide) ?_ | refine GPW.evP (by exact Ev.mulw rfl rfl) (by decide) ?_) | ((with_reducible apply GPW.atEv); first | refine GPW.evL (Ev.mulw rfl rfl) (by decide) ?_ | refine GPW.evL (by exact Ev.mulw rfl rfl) (by decide) ?_))
    have e2 : IntKind.u64.wrap (2 * n) = (zz n : Int) := by
      rw [IntKind.wrap_u64, zz, if_neg hn]
      omega
    rw [e2]
    repeat (first | refine run ?_ | intro _)
    exact KX.ends (by first | exact ResOk.tmps rfl | (repeat (first | exact ResOk.nil | refine ResOk.tmp rfl ?_ | refine ResOk.cell rfl (by rfl) ?_ | refine ResOk.cell1 rfl ?_))) (Ent.refl _) ⟨rfl, rfl⟩
theorem rback_spec (u : Nat) (hu : u < 18446744073709551616) :
    Tri Try.prog 70 #[.int .u64 u] [] (fun v L => v = .int .i64 (unzz u) ∧ L = []) := by
  refine Tri.body (args := [.int .u64 (u : Int)]) 14 en70 Try.func70 rfl rfl rfl (by simp) ?_
  by_cases h : u % 2 = 1
  · repeat (first | refine run ?_ | intro _)
    (first | ((with_reducible apply GO.atPlain); first | refine GO.ev (Ev.quo64 rfl rfl (by omega) (by omega) (by decide)) (by decide) ?_ | refine GO.ev (by exact Ev.quo64 rfl rfl (by omega) (by omega) (by decide)) (by decide) ?_) | ((with_reducible apply GPW.atEv); first | refine GPW.evP (Ev.quo64 rfl rfl (by omega) (by omega) (by decide)) (by decide) ?_ | refine GPW.evP (by exact Ev.quo64 rfl rfl (by omega) (by omega) (by decide)) (by decide) ?_) | ((with_reducible apply GPW.atEv); first | refine GPW.evL (Ev.quo64 rfl rfl (by omega) (by omega) (by decide)) (by decide) ?_ | refine GPW.evL (by exact Ev.quo64 rfl rfl (by omega) (by omega) (by decide)) (by decide) ?_))
    repeat (first | refine run ?_ | intro _)
    exact KX.ends (by first | exact ResOk.tmps rfl | (repeat (first | exact ResOk.nil | refine ResOk.tmp rfl ?_ | refine ResOk.cell rfl (by rfl) ?_ | refine ResOk.cell1 rfl ?_))) (Ent.refl _) ⟨by simp only [resV, unzz, if_pos h]; congr 1, rfl⟩
  · repeat (first | refine run ?_ | intro _)
    (first | ((with_reducible apply GO.atPlain); first | refine GO.ev (Ev.quo64 rfl rfl (by omega) (by omega) (by decide)) (by decide) ?_ | refine GO.ev (by exact Ev.quo64 rfl rfl (by omega) (by omega) (by decide)) (by decide) ?_) | ((with_reducible apply GPW.atEv); first | refine GPW.evP (Ev.quo64 rfl rfl (by omega) (by omega) (by decide)) (by decide) ?_ | refine GPW.evP (by exact Ev.quo64 rfl rfl (by omega) (by omega) (by decide)) (by decide) ?_) | ((with_reducible apply GPW.atEv); first | refine GPW.evL (Ev.quo64 rfl rfl (by omega) (by omega) (by decide)) (by decide) ?_ | refine GPW.evL (by exact Ev.quo64 rfl rfl (by omega) (by omega) (by decide)) (by decide) ?_))
    repeat (first | refine run ?_ | intro _)
    exact KX.ends (by first | exact ResOk.tmps rfl | (repeat (first | exact ResOk.nil | refine ResOk.tmp rfl ?_ | refine ResOk.cell rfl (by rfl) ?_ | refine ResOk.cell1 rfl ?_))) (Ent.refl _) ⟨by simp only [resV, unzz, if_neg h]; congr 1, rfl⟩
theorem rint_spec {L : List HP} (n : Int) (h0 : -9223372036854775808 ≤ n) (h1 : n ≤ 9223372036854775807) :
    Tri Try.prog 65 #[.int .i64 n] L (fun v L' => ∃ ad cap, v = .slice ad (uv (zz n)).length cap ∧ (uv (zz n)).length ≤ cap ∧ L' = osl (encI .u8) 1 5 ad cap (uv (zz n)) :: L) := by
  refine Tri.body (args := [.int .i64 n]) 6 en65 Try.func65 rfl rfl rfl (by simp) ?_
  repeat (first | refine run ?_ | intro _)
  (first | ((with_reducible apply GO.atPlain); first | refine GO.ef (Ef.call (rzigzag_spec n h0 h1) rfl (by repeat (first | exact Ent.refl _ | refine Ent.take ?_))) (by decide) ?_ | refine GO.ef (by exact Ef.call (rzigzag_spec n h0 h1) rfl (by repeat (first | exact Ent.refl _ | refine Ent.take ?_))) (by decide) ?_) | ((with_reducible apply GPW.atEf); first | refine GPW.ef (Ef.call (rzigzag_spec n h0 h1) rfl (by repeat (first | exact Ent.refl _ | refine Ent.take ?_))) (by decide) ?_ | refine GPW.ef (by exact Ef.call (rzigzag_spec n h0 h1) rfl (by repeat (first | exact Ent.refl _ | refine Ent.take ?_))) (by decide) ?_))
  rintro _ _ ⟨_, ⟨rfl, rfl⟩, hL⟩
  simp only [List.nil_append] at hL
  rw [hL]
  clear hL
  (first | ((with_reducible apply GO.atPlain); first | refine GO.ef (Ef.callAll (ruint_spec (zz n) (zz_lt h0 h1)) rfl) (by decide) ?_ | refine GO.ef (by exact Ef.callAll (ruint_spec (zz n) (zz_lt h0 h1)) rfl) (by decide) ?_) | ((with_reducible apply GPW.atEf); first | refine GPW.ef (Ef.callAll (ruint_spec (zz n) (zz_lt h0 h1)) rfl) (by decide) ?_ | refine GPW.ef (by exact Ef.callAll (ruint_spec (zz n) (zz_lt h0 h1)) rfl) (by decide) ?_))
  rintro _ _ ⟨ad, cap, rfl, hc, rfl⟩
  repeat (first | refine run ?_ | intro _)
  exact KX.ends (by first | exact ResOk.tmps rfl | (repeat (first | exact ResOk.nil | refine ResOk.tmp rfl ?_ | refine ResOk.cell rfl (by rfl) ?_ | refine ResOk.cell1 rfl ?_))) (Ent.refl _) ⟨ad, cap, rfl, hc, rfl⟩
theorem rraw_spec {L : List HP} (ad : Option Addr) (n c : Nat) (ys : List Int) [hrd : Rds L ad Int (encI .u8) 1 ys] (hn : n = ys.length) (hy : n ≤ 1000000) :
    Tri Try.prog 51 #[.slice ad n c] L (fun v L' => ∃ ad' cap, v = .slice ad' (uv n ++ ys).length cap ∧ (uv n ++ ys).length ≤ cap ∧ L' = osl (encI .u8) 1 5 ad' cap (uv n ++ ys) :: L) := by
  have hul := uv_len10 (n := n) (by omega)
  refine Tri.body (args := [.slice ad n c]) 9 en51 Try.func51 rfl rfl rfl (by simp) ?_
  repeat (first | refine run ?_ | intro _)
  (first | ((with_reducible apply GO.atPlain); first | refine GO.ef (Ef.callAll (ruint_spec n (by omega)) rfl) (by decide) ?_ | refine GO.ef (by exact Ef.callAll (ruint_spec n (by omega)) rfl) (by decide) ?_) | ((with_reducible apply GPW.atEf); first | refine GPW.ef (Ef.callAll (ruint_spec n (by omega)) rfl) (by decide) ?_ | refine GPW.ef (by exact Ef.callAll (ruint_spec n (by omega)) rfl) (by decide) ?_))
  rintro _ _ ⟨ad1, cap1, rfl, hc1, rfl⟩
  repeat (first | refine run ?_ | intro _)
  (first | ((with_reducible apply GO.atPlain); first | refine GO.ef (Ef.appendS (ys := ys) rfl rfl rfl rfl hn (fun e _ => encI_one _ e) (by omega) (by omega)) (by decide) ?_ | refine GO.ef (by exact Ef.appendS (ys := ys) rfl rfl rfl rfl hn (fun e _ => encI_one _ e) (by omega) (by omega)) (by decide) ?_) | ((with_reducible apply GPW.atEf); first | refine GPW.ef (Ef.appendS (ys := ys) rfl rfl rfl rfl hn (fun e _ => encI_one _ e) (by omega) (by omega)) (by decide) ?_ | refine GPW.ef (by exact Ef.appendS (ys := ys) rfl rfl rfl rfl hn (fun e _ => encI_one _ e) (by omega) (by omega)) (by decide) ?_) | ((with_reducible apply GO.atUnit); first | refine GO.efu (Ef.appendS (ys := ys) rfl rfl rfl rfl hn (fun e _ => encI_one _ e) (by omega) (by omega)) ?_ | refine GO.efu (by exact Ef.appendS (ys := ys) rfl rfl rfl rfl hn (fun e _ => encI_one _ e) (by omega) (by omega)) ?_) | ((with_reducible apply GPW.atEfu); first | refine GPW.efu (Ef.appendS (ys := ys) rfl rfl rfl rfl hn (fun e _ => encI_one _ e) (by omega) (by omega)) ?_ | refine GPW.efu (by exact Ef.appendS (ys := ys) rfl rfl rfl rfl hn (fun e _ => encI_one _ e) (by omega) (by omega)) ?_))
  rintro _ _ ⟨ad2, cap2, rfl, rfl⟩
  refine GO.fact (osl_cap (ad := ad2)) ?_
  rintro ⟨hcp, _⟩
  repeat (first | refine run ?_ | intro _)
  exact KX.ends (by first | exact ResOk.tmps rfl | (repeat (first | exact ResOk.nil | refine ResOk.tmp rfl ?_ | refine ResOk.cell rfl (by rfl) ?_ | refine ResOk.cell1 rfl ?_))) (Ent.refl _) ⟨ad2, cap2, rfl, hcp, rfl⟩
set_option maxHeartbeats 1000000 in
theorem qUint_spec {L : List HP} (b : Nat) (rest : List Int) (err : Int) (hb : ByteL rest) (hm : rest.length ≤ 1000000) :
    Tri Try.prog 56 #[.pointer (some ⟨b, 0, none⟩)] (RfR b rest err :: L) (fun v L' => v = .int .u64 (readU rest err).1 ∧ L' = RfR b (readU rest err).2.1 (readU rest err).2.2 :: L) := by
  refine Tri.body (args := [.pointer (some ⟨b, 0, none⟩)]) 70 en56 Try.func56 rfl rfl rfl (by simp) ?_
  refine G.openX (f := fun g : SlV × List Int => hpure ((err = 0 → g.2 = rest) ∧ g.2.length ≤ g.1.cap) :: rfL b g.2 err g.1 []) ?_
  rintro ⟨x, l⟩
  simp only [List.cons_append, List.nil_append]
  refine G.pureE ?_
  rintro ⟨hrest, hcap⟩
  repeat (first | refine run ?_ | intro _)
  refine G.loop (α := Nat × Nat) (fun g => g.1 ≤ 9 ∧ g.2 < 128 ^ g.1 ∧ g.1 ≤ l.length ∧ (err = 0 → rdU (l.drop g.1) g.1 g.2 = rdU rest 0 0)) (fun g => [(0, .pointer (some ⟨b, 0, none⟩)), (3, .int .u64 (g.2 : Int)), (4, .int .u64 ((128 ^ g.1 : Nat) : Int)), (5, .int .i64 (g.1 : Int))]) (fun _ => rfL b l err x L) (fun g => 9 - g.1) (0, 0) ⟨by simp, by simp, by simp, fun h => by rw [hrest h]; rfl⟩ (by repeat (first | exact EnvSub.nil _ | refine EnvSub.cons rfl ?_)) (Ent.refl _) ?_
  rintro ⟨i, acc⟩ ⟨hi, ha, hil, hr⟩
  simp only [] at hi ha hil hr ⊢
  by_cases he : err = 0
  case neg =>
    repeat (first | refine run ?_ | intro _)
    exact KX.ends (by first | exact ResOk.tmps rfl | (repeat (first | exact ResOk.nil | refine ResOk.tmp rfl ?_ | refine ResOk.cell rfl (by rfl) ?_ | refine ResOk.cell1 rfl ?_))) (rfClose (rest := rest) x ⟨hrest, hcap⟩) ⟨by simp [readU, he, resV], by simp [readU, he]⟩
  subst he
  have hrd := hr rfl
  have hlr := hrest rfl
  subst hlr
  clear hr hrest
  by_cases hlt : i < l.length
  case neg =>
    have : i = l.length := by omega
    subst this
    rw [List.drop_length] at hrd
    repeat (first | refine run ?_ | intro _)
    have e : readU l 0 = (0, [], 3) := by
      simp only [readU, ← hrd]
      simp [rdU]
    refine KX.ends (by first | exact ResOk.tmps rfl | (repeat (first | exact ResOk.nil | refine ResOk.tmp rfl ?_ | refine ResOk.cell rfl (by rfl) ?_ | refine ResOk.cell1 rfl ?_))) (rfClose (rest := []) x ⟨fun h => absurd h (by decide), hcap⟩) ⟨by rw [e]; rfl, by rw [e]⟩
  have hdr : l.drop i = l[i] :: l.drop (i + 1) := List.drop_eq_getElem_cons hlt
  have hwe : l[i]! = l[i] := by
    rw [List.getElem!_eq_getElem?_getD, List.getElem?_eq_getElem hlt]
    rfl
  have hy := hb _ (List.getElem_mem hlt)
  rw [hdr] at hrd
  repeat (first | ((fail_if_success (with_reducible refine G.atSS 9 ?_)); (with_reducible apply G.seq)) | refine runS ?_ | intro _)
  rw [Int.toNat_natCast, hwe]
  generalize l[i] = y at hrd hy
  by_cases hbad : (i = 9 ∧ 1 < y) ∨ (0 < i ∧ y = 0)
  · have e : readU l 0 = (0, l.drop (i + 1), 2) := by
      simp only [readU, ← hrd, rdU]
      simp [hbad]
    rcases hbad with ⟨h9, h1⟩ | ⟨h9, h1⟩
    · repeat (first | refine run ?_ | intro _)
      refine KX.ends (by first | exact ResOk.tmps rfl | (repeat (first | exact ResOk.nil | refine ResOk.tmp rfl ?_ | refine ResOk.cell rfl (by rfl) ?_ | refine ResOk.cell1 rfl ?_))) (rfClose (rest := l.drop (i + 1)) x ⟨fun h => absurd h (by decide), hcap⟩) ⟨by rw [e]; rfl, by rw [e]⟩
    · by_cases h99 : i = 9
      · repeat (first | refine run ?_ | intro _)
        refine KX.ends (by first | exact ResOk.tmps rfl | (repeat (first | exact ResOk.nil | refine ResOk.tmp rfl ?_ | refine ResOk.cell rfl (by rfl) ?_ | refine ResOk.cell1 rfl ?_))) (rfClose (rest := l.drop (i + 1)) x ⟨fun h => absurd h (by decide), hcap⟩) ⟨by rw [e]; rfl, by rw [e]⟩
      · repeat (first | refine run ?_ | intro _)
        refine KX.ends (by first | exact ResOk.tmps rfl | (repeat (first | exact ResOk.nil | refine ResOk.tmp rfl ?_ | refine ResOk.cell rfl (by rfl) ?_ | refine ResOk.cell1 rfl ?_))) (rfClose (rest := l.drop (i + 1)) x ⟨fun h => absurd h (by decide), hcap⟩) ⟨by rw [e]; rfl, by rw [e]⟩
  have hp := pow128_le hi
  obtain ⟨yN, hyN⟩ : ∃ yN : Nat, y = (yN : Int) := ⟨y.toNat, by omega⟩
  subst hyN
  have hml := Nat.mod_lt yN (show 0 < 128 by decide)
  have hlt2 : yN % 128 * 128 ^ i ≤ 9223372036854775808 * 127 ∧ acc + yN % 128 * 128 ^ i < 18446744073709551616 := by
    by_cases h9 : i = 9
    · subst h9
      have h2 : yN ≤ 1 := by omega
      have h3 : yN % 128 * 128 ^ 9 ≤ 1 * 128 ^ 9 := Nat.mul_le_mul_right _ (by omega)
      have h4 : (128 : Nat) ^ 9 = 9223372036854775808 := by decide
      omega
    · have h3 : yN % 128 * 128 ^ i ≤ 127 * 128 ^ i := Nat.mul_le_mul_right _ (by omega)
      have hp2 : (128 : Nat) ^ (i + 1) ≤ 9223372036854775808 := pow128_le (by omega)
      have hp3 : (128 : Nat) ^ (i + 1) = 128 ^ i * 128 := Nat.pow_succ ..
      omega
  refine G.join (α := Unit) (fun _ => True) (fun _ => [(0, .pointer (some ⟨b, 0, none⟩)), (3, .int .u64 (acc : Int)), (4, .int .u64 ((128 ^ i : Nat) : Int)), (5, .int .i64 (i : Int)), (6, .int .u8 (yN : Int))]) (fun _ => rfL b l 0 x L) ?_ ?_
  · by_cases h9 : i = 9
    · repeat (first | refine run ?_ | intro _)
      exact ⟨(), trivial, (by repeat (first | exact EnvSub.nil _ | refine EnvSub.cons rfl ?_)), Ent.refl _⟩
    · by_cases h0 : i = 0
      · repeat (first | refine run ?_ | intro _)
        exact ⟨(), trivial, (by repeat (first | exact EnvSub.nil _ | refine EnvSub.cons rfl ?_)), Ent.refl _⟩
      · repeat (first | refine run ?_ | intro _)
        exact ⟨(), trivial, (by repeat (first | exact EnvSub.nil _ | refine EnvSub.cons rfl ?_)), Ent.refl _⟩
  rintro _ _
  repeat (first | refine run ?_ | intro _)
  (first | ((with_reducible apply GO.atPlain); first | refine GO.ev (Ev.mulw rfl rfl) (by decide) ?_ | refine GO.ev (by exact Ev.mulw rfl rfl) (by decide) ?_) | ((with_reducible apply GPW.atEv); first | refine GPW.evP (Ev.mulw rfl rfl) (by decide) ?_ | refine GPW.evP (by exact Ev.mulw rfl rfl) (by decide) ?_) | ((with_reducible apply GPW.atEv); first | refine GPW.evL (Ev.mulw rfl rfl) (by decide) ?_ | refine GPW.evL (by exact Ev.mulw rfl rfl) (by decide) ?_))
  have e1 : IntKind.u64.wrap ((yN : Int) % 128 * ((128 ^ i : Nat) : Int)) = ((yN % 128 * 128 ^ i : Nat) : Int) := by
    rw [show (yN : Int) % 128 = ((yN % 128 : Nat) : Int) by omega, ← Int.natCast_mul, IntKind.wrap_u64]
    omega
  rw [e1]
  (first | ((with_reducible apply GO.atPlain); first | refine GO.ev (Ev.addw rfl rfl) (by decide) ?_ | refine GO.ev (by exact Ev.addw rfl rfl) (by decide) ?_) | ((with_reducible apply GPW.atEv); first | refine GPW.evP (Ev.addw rfl rfl) (by decide) ?_ | refine GPW.evP (by exact Ev.addw rfl rfl) (by decide) ?_) | ((with_reducible apply GPW.atEv); first | refine GPW.evL (Ev.addw rfl rfl) (by decide) ?_ | refine GPW.evL (by exact Ev.addw rfl rfl) (by decide) ?_))
  have e2 : IntKind.u64.wrap ((acc : Int) + ((yN % 128 * 128 ^ i : Nat) : Int)) = ((acc + yN % 128 * 128 ^ i : Nat) : Int) := by
    rw [← Int.natCast_add, IntKind.wrap_u64]
    omega
  rw [e2]
  repeat (first | refine run ?_ | intro _)
  (first | ((with_reducible apply GO.atPlain); first | refine GO.ev (Ev.mulw rfl rfl) (by decide) ?_ | refine GO.ev (by exact Ev.mulw rfl rfl) (by decide) ?_) | ((with_reducible apply GPW.atEv); first | refine GPW.evP (Ev.mulw rfl rfl) (by decide) ?_ | refine GPW.evP (by exact Ev.mulw rfl rfl) (by decide) ?_) | ((with_reducible apply GPW.atEv); first | refine GPW.evL (Ev.mulw rfl rfl) (by decide) ?_ | refine GPW.evL (by exact Ev.mulw rfl rfl) (by decide) ?_))
  by_cases h128 : yN < 128
  · repeat (first | refine run ?_ | intro _)
    have e : readU l 0 = (acc + yN % 128 * 128 ^ i, l.drop (i + 1), 0) := by
      rw [readU, if_neg (by simp), ← hrd]
      simp only [rdU]
      rw [if_neg hbad, if_pos (by omega), Int.toNat_natCast]
    refine KX.ends (by first | exact ResOk.tmps rfl | (repeat (first | exact ResOk.nil | refine ResOk.tmp rfl ?_ | refine ResOk.cell rfl (by rfl) ?_ | refine ResOk.cell1 rfl ?_))) ?_ ⟨by rw [e]; rfl, by rw [e]⟩
    refine Ent.trans ?_ (rfClose (rest := l.drop (i + 1)) (l := l.drop (i + 1)) ⟨advA x.ad x.cap 1 (i + 1), 0, x.cap - (i + 1)⟩ ⟨fun _ => rfl, by simp only [List.length_drop]; omega⟩)
    rw [show ((i : Int) + 1).toNat = i + 1 by omega]
    simp only [rfL, List.length_drop]
    exact Ent.consR (islDrop (xs := l) hcap (i + 1))
  · have h9 : i ≠ 9 := by
      intro h9
      exact hbad (.inl ⟨h9, by omega⟩)
    have hp2 : (128 : Nat) ^ (i + 1) ≤ 9223372036854775808 := pow128_le (by omega)
    have hp3 : (128 : Nat) ^ (i + 1) = 128 ^ i * 128 := Nat.pow_succ ..
    have h3 : yN % 128 * 128 ^ i ≤ 127 * 128 ^ i := Nat.mul_le_mul_right _ (by omega)
    have e3 : IntKind.u64.wrap (((128 ^ i : Nat) : Int) * 128) = ((128 ^ (i + 1) : Nat) : Int) := by
      rw [IntKind.wrap_u64]
      omega
    rw [e3]
    repeat (first | refine run ?_ | intro _)
    refine ⟨(i + 1, acc + yN % 128 * 128 ^ i), ⟨by simp only []; omega, by simp only []; omega, by simp only []; omega, fun _ => ?_⟩, by simp only []; omega, ?_, Ent.refl _⟩
    · simp only []
      rw [← hrd]
      simp only [rdU]
      rw [if_neg hbad, if_neg (by omega), Int.toNat_natCast]
    · simp only []
      rw [show (((i + 1 : Nat)) : Int) = (i : Int) + 1 by omega]
      exact (by repeat (first | exact EnvSub.nil _ | refine EnvSub.cons rfl ?_))
end Go.Proofs.Ytnpienjfapjjoaa
