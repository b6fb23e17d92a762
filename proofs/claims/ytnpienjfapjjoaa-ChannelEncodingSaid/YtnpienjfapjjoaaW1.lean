/- Contracts of package wire: writing. -/
import Derived.Test.YtnpienjfapjjoaaH1
import Derived.Test.YtnpienjfapjjoaaC1
import Derived.Test.YtnpienjfapjjoaaP2
namespace Go.Proofs.Ytnpienjfapjjoaa
open Go.V
abbrev wrL (b : Nat) (xs : List Int) (x : SlV) (L : List HP) : List HP := obj b 78 [.slice x.ad xs.length x.cap] :: osl (encI .u8) 1 5 x.ad x.cap xs :: L
/-- Variable b is a writer with these bytes. -/
def WrR (b : Nat) (xs : List Int) : HP := hex fun x : SlV => hstars (wrL b xs x [])
theorem wrClose {b : Nat} {xs : List Int} {L : List HP} (x : SlV) : Ent (wrL b xs x L) (WrR b xs :: L) := Ent.closeX (f := fun x => wrL b xs x []) x (Ent.refl _)
attribute [local irreducible] G GO GP GPW GPK Ev Ef EfR Ent CB GB
theorem wUint_spec {L : List HP} (b : Nat) (xs : List Int) (n : Nat) (hn : n < 18446744073709551616) (hx : xs.length ≤ 1000000) :
    Tri Try.prog 38 #[.pointer (some ⟨b, 0, none⟩), .int .u64 n] (WrR b xs :: L) (fun _ L' => L' = WrR b (xs ++ uv n) :: L) := by
  have hul := uv_len10 hn
  refine Tri.body (args := [.pointer (some ⟨b, 0, none⟩), .int .u64 (n : Int)]) 31 en38 Try.func38 rfl rfl rfl (by simp) ?_
  refine G.openX (f := fun x => wrL b xs x []) ?_
  intro x
  simp only [List.cons_append, List.nil_append]
  repeat (first | refine run ?_ | intro _)
  refine G.loop (α := Nat × List Int × SlV) (fun g => g.1 < 18446744073709551616 ∧ g.2.1 ++ uv g.1 = xs ++ uv n) (fun g => [(0, .pointer (some ⟨b, 0, none⟩)), (1, .int .u64 (g.1 : Int))]) (fun g => wrL b g.2.1 g.2.2 L) (fun g => g.1) (n, xs, x) ⟨hn, rfl⟩ (by repeat (first | exact EnvSub.nil _ | refine EnvSub.cons rfl ?_)) (Ent.refl _) ?_
  rintro ⟨m, ys, y⟩ ⟨hm, hys⟩
  simp only [] at hm hys ⊢
  have hyl := congrArg List.length hys
  simp only [List.length_append] at hyl
  by_cases h128 : m < 128
  · rw [uv_small h128] at hys
    repeat (first | refine run ?_ | intro _)
    (first | ((with_reducible apply GO.atPlain); first | refine GO.ef (Ef.append1 (e := (m : Int)) rfl rfl rfl rfl rfl (by rfl) (encI_one _ _) (by omega) (by omega)) (by decide) ?_ | refine GO.ef (by exact Ef.append1 (e := (m : Int)) rfl rfl rfl rfl rfl (by rfl) (encI_one _ _) (by omega) (by omega)) (by decide) ?_) | ((with_reducible apply GPW.atEf); first | refine GPW.ef (Ef.append1 (e := (m : Int)) rfl rfl rfl rfl rfl (by rfl) (encI_one _ _) (by omega) (by omega)) (by decide) ?_ | refine GPW.ef (by exact Ef.append1 (e := (m : Int)) rfl rfl rfl rfl rfl (by rfl) (encI_one _ _) (by omega) (by omega)) (by decide) ?_) | ((with_reducible apply GO.atUnit); first | refine GO.efu (Ef.append1 (e := (m : Int)) rfl rfl rfl rfl rfl (by rfl) (encI_one _ _) (by omega) (by omega)) ?_ | refine GO.efu (by exact Ef.append1 (e := (m : Int)) rfl rfl rfl rfl rfl (by rfl) (encI_one _ _) (by omega) (by omega)) ?_) | ((with_reducible apply GPW.atEfu); first | refine GPW.efu (Ef.append1 (e := (m : Int)) rfl rfl rfl rfl rfl (by rfl) (encI_one _ _) (by omega) (by omega)) ?_ | refine GPW.efu (by exact Ef.append1 (e := (m : Int)) rfl rfl rfl rfl rfl (by rfl) (encI_one _ _) (by omega) (by omega)) ?_))
    rintro _ _ ⟨ad2, cap2, rfl, rfl⟩
    rw [hys]
    repeat (first | refine run ?_ | intro _)
    refine KX.endsN (by first | exact ResOk.tmps rfl | (repeat (first | exact ResOk.nil | refine ResOk.tmp rfl ?_ | refine ResOk.cell rfl (by rfl) ?_ | refine ResOk.cell1 rfl ?_))) ?_ rfl
    refine Ent.trans ?_ (wrClose ⟨ad2, 0, cap2⟩)
    simp only [wrL]
    repeat (first | exact Ent.refl _ | exact Ent.nil _ | refine Ent.take' ?_ | refine Ent.trans Ent.drop ?_)
  · rw [uv_big h128] at hys
    repeat (first | refine run ?_ | intro _)
    have e1 : IntKind.u8.wrap (m : Int) = ((m % 256 : Nat) : Int) := by
      rw [IntKind.wrap_u8']
      omega
    rw [e1]
    (first | ((with_reducible apply GO.atPlain); first | refine GO.ev (Ev.or8 rfl rfl (by omega) (by omega) (by decide) (by decide)) (by decide) ?_ | refine GO.ev (by exact Ev.or8 rfl rfl (by omega) (by omega) (by decide) (by decide)) (by decide) ?_) | ((with_reducible apply GPW.atEv); first | refine GPW.evP (Ev.or8 rfl rfl (by omega) (by omega) (by decide) (by decide)) (by decide) ?_ | refine GPW.evP (by exact Ev.or8 rfl rfl (by omega) (by omega) (by decide) (by decide)) (by decide) ?_) | ((with_reducible apply GPW.atEv); first | refine GPW.evL (Ev.or8 rfl rfl (by omega) (by omega) (by decide) (by decide)) (by decide) ?_ | refine GPW.evL (by exact Ev.or8 rfl rfl (by omega) (by omega) (by decide) (by decide)) (by decide) ?_))
    rw [Int.toNat_natCast, show (128 : Int).toNat = 128 from rfl, or128 (m % 256) (by omega), show m % 256 % 128 = m % 128 by omega]
    repeat (first | refine run ?_ | intro _)
    (first | ((with_reducible apply GO.atPlain); first | refine GO.ef (Ef.append1 (e := ((m % 128 + 128 : Nat) : Int)) rfl rfl rfl rfl rfl (by rfl) (encI_one _ _) (by omega) (by omega)) (by decide) ?_ | refine GO.ef (by exact Ef.append1 (e := ((m % 128 + 128 : Nat) : Int)) rfl rfl rfl rfl rfl (by rfl) (encI_one _ _) (by omega) (by omega)) (by decide) ?_) | ((with_reducible apply GPW.atEf); first | refine GPW.ef (Ef.append1 (e := ((m % 128 + 128 : Nat) : Int)) rfl rfl rfl rfl rfl (by rfl) (encI_one _ _) (by omega) (by omega)) (by decide) ?_ | refine GPW.ef (by exact Ef.append1 (e := ((m % 128 + 128 : Nat) : Int)) rfl rfl rfl rfl rfl (by rfl) (encI_one _ _) (by omega) (by omega)) (by decide) ?_) | ((with_reducible apply GO.atUnit); first | refine GO.efu (Ef.append1 (e := ((m % 128 + 128 : Nat) : Int)) rfl rfl rfl rfl rfl (by rfl) (encI_one _ _) (by omega) (by omega)) ?_ | refine GO.efu (by exact Ef.append1 (e := ((m % 128 + 128 : Nat) : Int)) rfl rfl rfl rfl rfl (by rfl) (encI_one _ _) (by omega) (by omega)) ?_) | ((with_reducible apply GPW.atEfu); first | refine GPW.efu (Ef.append1 (e := ((m % 128 + 128 : Nat) : Int)) rfl rfl rfl rfl rfl (by rfl) (encI_one _ _) (by omega) (by omega)) ?_ | refine GPW.efu (by exact Ef.append1 (e := ((m % 128 + 128 : Nat) : Int)) rfl rfl rfl rfl rfl (by rfl) (encI_one _ _) (by omega) (by omega)) ?_))
    rintro _ _ ⟨ad2, cap2, rfl, rfl⟩
    repeat (first | refine run ?_ | intro _)
    (first | ((with_reducible apply GO.atPlain); first | refine GO.ev (Ev.shr rfl rfl (by decide)) (by decide) ?_ | refine GO.ev (by exact Ev.shr rfl rfl (by decide)) (by decide) ?_) | ((with_reducible apply GPW.atEv); first | refine GPW.evP (Ev.shr rfl rfl (by decide)) (by decide) ?_ | refine GPW.evP (by exact Ev.shr rfl rfl (by decide)) (by decide) ?_) | ((with_reducible apply GPW.atEv); first | refine GPW.evL (Ev.shr rfl rfl (by decide)) (by decide) ?_ | refine GPW.evL (by exact Ev.shr rfl rfl (by decide)) (by decide) ?_))
    have e2 : ((m : Nat) : Int).fdiv (2 ^ min ((7 : Int).toNat) IntKind.u64.bits) = ((m / 128 : Nat) : Int) := by
      rw [Int.fdiv_eq_ediv_of_nonneg _ (by decide)]
      simp [IntKind.bits]
    rw [e2]
    repeat (first | refine run ?_ | intro _)
    refine ⟨(m / 128, ys ++ [((m % 128 + 128 : Nat) : Int)], ⟨ad2, 0, cap2⟩), ⟨by simp only []; omega, by simp only [List.append_assoc, List.cons_append, List.nil_append]; exact hys⟩, by simp only []; omega, (by repeat (first | exact EnvSub.nil _ | refine EnvSub.cons rfl ?_)), ?_⟩
    simp only [wrL]
    repeat (first | exact Ent.refl _ | exact Ent.nil _ | refine Ent.take' ?_ | refine Ent.trans Ent.drop ?_)
theorem xor_ones {x : Nat} (h : x < 18446744073709551616) : x ^^^ 18446744073709551615 = 18446744073709551615 - x := by
  have h1 : (BitVec.ofNat 64 x ^^^ BitVec.allOnes 64).toNat = (~~~ BitVec.ofNat 64 x).toNat := by rw [BitVec.xor_allOnes]
  rw [BitVec.toNat_xor, BitVec.toNat_not, BitVec.toNat_ofNat, BitVec.toNat_allOnes, Nat.mod_eq_of_lt (by simpa using h)] at h1
  simpa using h1
theorem zigzag_spec (n : Int) (h0 : -9223372036854775808 ≤ n) (h1 : n ≤ 9223372036854775807) :
    Tri Try.prog 64 #[.int .i64 n] [] (fun v L => v = .int .u64 (zz n) ∧ L = []) := by
  refine Tri.body (args := [.int .i64 n]) 10 en64 Try.func64 rfl rfl rfl (by simp) ?_
  repeat (first | refine run ?_ | intro _)
  (first | ((with_reducible apply GO.atPlain); first | refine GO.ev (Ev.shl rfl rfl (by decide)) (by decide) ?_ | refine GO.ev (by exact Ev.shl rfl rfl (by decide)) (by decide) ?_) | ((with_reducible apply GPW.atEv); first | refine GPW.evP (Ev.shl rfl rfl (by decide)) (by decide) ?_ | refine GPW.evP (by exact Ev.shl rfl rfl (by decide)) (by decide) ?_) | ((with_reducible apply GPW.atEv); first | refine GPW.evL (Ev.shl rfl rfl (by decide)) (by decide) ?_ | refine GPW.evL (by exact Ev.shl rfl rfl (by decide)) (by decide) ?_))
  repeat (first | refine run ?_ | intro _)
  (first | ((with_reducible apply GO.atPlain); first | refine GO.ev (Ev.shr rfl rfl (by decide)) (by decide) ?_ | refine GO.ev (by exact Ev.shr rfl rfl (by decide)) (by decide) ?_) | ((with_reducible apply GPW.atEv); first | refine GPW.evP (Ev.shr rfl rfl (by decide)) (by decide) ?_ | refine GPW.evP (by exact Ev.shr rfl rfl (by decide)) (by decide) ?_) | ((with_reducible apply GPW.atEv); first | refine GPW.evL (Ev.shr rfl rfl (by decide)) (by decide) ?_ | refine GPW.evL (by exact Ev.shr rfl rfl (by decide)) (by decide) ?_))
  repeat (first | refine run ?_ | intro _)
  have e0 : min ((1 : Int).toNat) IntKind.u64.bits = 1 := by decide
  have e63 : min ((63 : Int).toNat) IntKind.i64.bits = 63 := by decide
  rw [e0, e63]
  by_cases hn : n < 0
  · have e1 : IntKind.u64.wrap (IntKind.u64.wrap n * 2 ^ 1) = (((18446744073709551616 + 2 * n).toNat : Nat) : Int) := by
      rw [IntKind.wrap_u64, IntKind.wrap_u64]
      omega
    have e2 : IntKind.u64.wrap (n.fdiv (2 ^ 63)) = ((18446744073709551615 : Nat) : Int) := by
      rw [Int.fdiv_eq_ediv_of_nonneg _ (by decide), IntKind.wrap_u64]
      omega
    rw [e1, e2]
    (first | ((with_reducible apply GO.atPlain); first | refine GO.ev (Ev.xor64 rfl rfl (by omega) (by omega) (by omega) (by omega)) (by decide) ?_ | refine GO.ev (by exact Ev.xor64 rfl rfl (by omega) (by omega) (by omega) (by omega)) (by decide) ?_) | ((with_reducible apply GPW.atEv); first | refine GPW.evP (Ev.xor64 rfl rfl (by omega) (by omega) (by omega) (by omega)) (by decide) ?_ | refine GPW.evP (by exact Ev.xor64 rfl rfl (by omega) (by omega) (by omega) (by omega)) (by decide) ?_) | ((with_reducible apply GPW.atEv); first | refine GPW.evL (Ev.xor64 rfl rfl (by omega) (by omega) (by omega) (by omega)) (by decide) ?_ | refine GPW.evL (by exact Ev.xor64 rfl rfl (by omega) (by omega) (by omega) (by omega)) (by decide) ?_))
    rw [Int.toNat_natCast, Int.toNat_natCast, xor_ones (by omega)]
    repeat (first | refine run ?_ | intro _)
    refine KX.ends (by first | exact ResOk.tmps rfl | (repeat (first | exact ResOk.nil | refine ResOk.tmp rfl ?_ | refine ResOk.cell rfl (by rfl) ?_ | refine ResOk.cell1 rfl ?_))) (Ent.refl _) ⟨?_, rfl⟩
    simp only [resV, zz, if_pos hn]
    congr 2
    omega
  · have e1 : IntKind.u64.wrap (IntKind.u64.wrap n * 2 ^ 1) = ((2 * n.toNat : Nat) : Int) := by
      rw [IntKind.wrap_u64, IntKind.wrap_u64]
      omega
    have e2 : IntKind.u64.wrap (n.fdiv (2 ^ 63)) = ((0 : Nat) : Int) := by
      rw [Int.fdiv_eq_ediv_of_nonneg _ (by decide), IntKind.wrap_u64]
      omega
    rw [e1, e2]
    (first | ((with_reducible apply GO.atPlain); first | refine GO.ev (Ev.xor64 rfl rfl (by omega) (by omega) (by omega) (by omega)) (by decide) ?_ | refine GO.ev (by exact Ev.xor64 rfl rfl (by omega) (by omega) (by omega) (by omega)) (by decide) ?_) | ((with_reducible apply GPW.atEv); first | refine GPW.evP (Ev.xor64 rfl rfl (by omega) (by omega) (by omega) (by omega)) (by decide) ?_ | refine GPW.evP (by exact Ev.xor64 rfl rfl (by omega) (by omega) (by omega) (by omega)) (by decide) ?_) | ((with_reducible apply GPW.atEv); first | refine GPW.evL (Ev.xor64 rfl rfl (by omega) (by omega) (by omega) (by omega)) (by decide) ?_ | refine GPW.evL (by exact Ev.xor64 rfl rfl (by omega) (by omega) (by omega) (by omega)) (by decide) ?_))
    rw [Int.toNat_natCast, Int.toNat_natCast, Nat.xor_zero]
    repeat (first | refine run ?_ | intro _)
    refine KX.ends (by first | exact ResOk.tmps rfl | (repeat (first | exact ResOk.nil | refine ResOk.tmp rfl ?_ | refine ResOk.cell rfl (by rfl) ?_ | refine ResOk.cell1 rfl ?_))) (Ent.refl _) ⟨?_, rfl⟩
    simp only [resV, zz, if_neg hn]
theorem wInt_spec {L : List HP} (b : Nat) (xs : List Int) (n : Int) (h0 : -9223372036854775808 ≤ n) (h1 : n ≤ 9223372036854775807) (hx : xs.length ≤ 1000000) :
    Tri Try.prog 48 #[.pointer (some ⟨b, 0, none⟩), .int .i64 n] (WrR b xs :: L) (fun _ L' => L' = WrR b (xs ++ uv (zz n)) :: L) := by
  refine Tri.body (args := [.pointer (some ⟨b, 0, none⟩), .int .i64 n]) 8 en48 Try.func48 rfl rfl rfl (by simp) ?_
  repeat (first | refine run ?_ | intro _)
  (first | ((with_reducible apply GO.atPlain); first | refine GO.ef (Ef.call (zigzag_spec n h0 h1) rfl (by repeat (first | exact Ent.refl _ | refine Ent.take ?_))) (by decide) ?_ | refine GO.ef (by exact Ef.call (zigzag_spec n h0 h1) rfl (by repeat (first | exact Ent.refl _ | refine Ent.take ?_))) (by decide) ?_) | ((with_reducible apply GPW.atEf); first | refine GPW.ef (Ef.call (zigzag_spec n h0 h1) rfl (by repeat (first | exact Ent.refl _ | refine Ent.take ?_))) (by decide) ?_ | refine GPW.ef (by exact Ef.call (zigzag_spec n h0 h1) rfl (by repeat (first | exact Ent.refl _ | refine Ent.take ?_))) (by decide) ?_))
  rintro _ _ ⟨_, ⟨rfl, rfl⟩, hL⟩
  simp only [List.cons_append, List.nil_append] at hL; subst hL
  (first | ((with_reducible apply GO.atPlain); first | refine GO.ef (Ef.callAt (wUint_spec b xs (zz n) (zz_lt h0 h1) hx) rfl) (by decide) ?_ | refine GO.ef (by exact Ef.callAt (wUint_spec b xs (zz n) (zz_lt h0 h1) hx) rfl) (by decide) ?_) | ((with_reducible apply GPW.atEf); first | refine GPW.ef (Ef.callAt (wUint_spec b xs (zz n) (zz_lt h0 h1) hx) rfl) (by decide) ?_ | refine GPW.ef (by exact Ef.callAt (wUint_spec b xs (zz n) (zz_lt h0 h1) hx) rfl) (by decide) ?_))
  rintro _ _ rfl
  repeat (first | refine run ?_ | intro _)
  exact KX.endsN (by first | exact ResOk.tmps rfl | (repeat (first | exact ResOk.nil | refine ResOk.tmp rfl ?_ | refine ResOk.cell rfl (by rfl) ?_ | refine ResOk.cell1 rfl ?_))) (Ent.refl _) rfl
theorem wRaw_spec {L : List HP} (b : Nat) (xs : List Int) (ad : Option Addr) (n c : Nat) (ys : List Int) [hrd : Rds L ad Int (encI .u8) 1 ys] (hn : n = ys.length) (hx : xs.length ≤ 1000000) (hy : n ≤ 1000000) :
    Tri Try.prog 49 #[.pointer (some ⟨b, 0, none⟩), .slice ad n c] (WrR b xs :: L) (fun _ L' => L' = WrR b (xs ++ uv n ++ ys) :: L) := by
  have hul := uv_len10 (n := n) (by omega)
  refine Tri.body (args := [.pointer (some ⟨b, 0, none⟩), .slice ad n c]) 18 en49 Try.func49 rfl rfl rfl (by simp) ?_
  repeat (first | refine run ?_ | intro _)
  (first | ((with_reducible apply GO.atPlain); first | refine GO.ef (Ef.callAt (wUint_spec b xs n (by omega) hx) rfl) (by decide) ?_ | refine GO.ef (by exact Ef.callAt (wUint_spec b xs n (by omega) hx) rfl) (by decide) ?_) | ((with_reducible apply GPW.atEf); first | refine GPW.ef (Ef.callAt (wUint_spec b xs n (by omega) hx) rfl) (by decide) ?_ | refine GPW.ef (by exact Ef.callAt (wUint_spec b xs n (by omega) hx) rfl) (by decide) ?_))
  rintro _ _ rfl
  repeat (first | refine run ?_ | intro _)
  refine GO.openX (f := fun x => wrL b (xs ++ uv n) x []) ?_
  intro x
  simp only [List.cons_append, List.nil_append]
  repeat (first | refine run ?_ | intro _)
  (first | ((with_reducible apply GO.atPlain); first | refine GO.ef (Ef.appendS (ys := ys) rfl rfl rfl rfl hn (fun e _ => encI_one _ e) (by simp; omega) (by simp; omega)) (by decide) ?_ | refine GO.ef (by exact Ef.appendS (ys := ys) rfl rfl rfl rfl hn (fun e _ => encI_one _ e) (by simp; omega) (by simp; omega)) (by decide) ?_) | ((with_reducible apply GPW.atEf); first | refine GPW.ef (Ef.appendS (ys := ys) rfl rfl rfl rfl hn (fun e _ => encI_one _ e) (by simp; omega) (by simp; omega)) (by decide) ?_ | refine GPW.ef (by exact Ef.appendS (ys := ys) rfl rfl rfl rfl hn (fun e _ => encI_one _ e) (by simp; omega) (by simp; omega)) (by decide) ?_) | ((with_reducible apply GO.atUnit); first | refine GO.efu (Ef.appendS (ys := ys) rfl rfl rfl rfl hn (fun e _ => encI_one _ e) (by simp; omega) (by simp; omega)) ?_ | refine GO.efu (by exact Ef.appendS (ys := ys) rfl rfl rfl rfl hn (fun e _ => encI_one _ e) (by simp; omega) (by simp; omega)) ?_) | ((with_reducible apply GPW.atEfu); first | refine GPW.efu (Ef.appendS (ys := ys) rfl rfl rfl rfl hn (fun e _ => encI_one _ e) (by simp; omega) (by simp; omega)) ?_ | refine GPW.efu (by exact Ef.appendS (ys := ys) rfl rfl rfl rfl hn (fun e _ => encI_one _ e) (by simp; omega) (by simp; omega)) ?_))
  rintro _ _ ⟨ad2, cap2, rfl, rfl⟩
  repeat (first | refine run ?_ | intro _)
  refine KX.endsN (by first | exact ResOk.tmps rfl | (repeat (first | exact ResOk.nil | refine ResOk.tmp rfl ?_ | refine ResOk.cell rfl (by rfl) ?_ | refine ResOk.cell1 rfl ?_))) ?_ rfl
  refine Ent.trans ?_ (wrClose ⟨ad2, 0, cap2⟩)
  simp only [wrL]
  repeat (first | exact Ent.refl _ | exact Ent.nil _ | refine Ent.take' ?_ | refine Ent.trans Ent.drop ?_)
theorem wDone_spec {L : List HP} (b : Nat) (xs : List Int) (hx : xs.length ≤ 1000000000) :
    Tri Try.prog 39 #[.pointer (some ⟨b, 0, none⟩)] (WrR b xs :: L) (fun v L' => ∃ ad cap, v = .slice ad xs.length cap ∧ xs.length ≤ cap ∧ L' = osl (encI .u8) 1 5 ad cap xs :: WrR b xs :: L) := by
  refine Tri.body (args := [.pointer (some ⟨b, 0, none⟩)]) 8 en39 Try.func39 rfl rfl rfl (by simp) ?_
  refine G.openX (f := fun x => wrL b xs x []) ?_
  intro x
  simp only [List.cons_append, List.nil_append]
  repeat (first | refine run ?_ | intro _)
  (first | ((with_reducible apply GO.atPlain); first | refine GO.ef (Ef.callAll (cloneB_spec _ _ _ xs rfl hx) rfl) (by decide) ?_ | refine GO.ef (by exact Ef.callAll (cloneB_spec _ _ _ xs rfl hx) rfl) (by decide) ?_) | ((with_reducible apply GPW.atEf); first | refine GPW.ef (Ef.callAll (cloneB_spec _ _ _ xs rfl hx) rfl) (by decide) ?_ | refine GPW.ef (by exact Ef.callAll (cloneB_spec _ _ _ xs rfl hx) rfl) (by decide) ?_))
  rintro _ _ ⟨ad1, cap1, rfl, rfl⟩
  refine GO.fact (osl_cap (ad := ad1)) ?_
  rintro ⟨hcp, _⟩
  repeat (first | refine run ?_ | intro _)
  exact KX.ends (by first | exact ResOk.tmps rfl | (repeat (first | exact ResOk.nil | refine ResOk.tmp rfl ?_ | refine ResOk.cell rfl (by rfl) ?_ | refine ResOk.cell1 rfl ?_))) (Ent.consR (wrClose x)) ⟨ad1, cap1, rfl, hcp, rfl⟩
end Go.Proofs.Ytnpienjfapjjoaa
