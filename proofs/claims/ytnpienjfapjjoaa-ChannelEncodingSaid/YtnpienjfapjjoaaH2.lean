/- Contracts of the model of package hash. -/
import Derived.Test.YtnpienjfapjjoaaH1
namespace Go.Proofs.Ytnpienjfapjjoaa
open Go.V
theorem wordOf_drop (l : List Int) {j : Nat} (h : j < l.length) : wordOf (l.drop j) = (l[j]).toNat + 256 * wordOf (l.drop (j + 1)) := by
  rw [List.drop_eq_getElem_cons h]
  rfl
theorem wordOf_lt7 {l : List Int} (h : ByteL l) (hl : l.length ≤ 7) : wordOf l < 72057594037927936 := by
  have h1 := wordOf_lt h
  have h2 : 256 ^ l.length ≤ 256 ^ 7 := Nat.pow_le_pow_right (by decide) hl
  have h3 : (256 : Nat) ^ 7 = 72057594037927936 := by decide
  omega
attribute [local irreducible] G GO GP GPW GPK Ev Ef EfR Ent CB GB
theorem rmix_spec (s w : Nat) (hs : s < 18446744073709551616) (hw : w < 18446744073709551616) :
    Tri Try.prog 74 #[.int .u64 s, .int .u64 w] [] (fun v L => v = .int .u64 (mixN s w) ∧ L = []) := by
  refine Tri.body (args := [.int .u64 (s : Int), .int .u64 (w : Int)]) 14 en74 Try.func74 rfl rfl rfl (by simp) ?_
  repeat (first | refine run ?_ | intro _)
  (first | ((with_reducible apply GO.atPlain); first | refine GO.ev (Ev.xor64 rfl rfl (by omega) (by omega) (by omega) (by omega)) (by decide) ?_ | refine GO.ev (by exact Ev.xor64 rfl rfl (by omega) (by omega) (by omega) (by omega)) (by decide) ?_) | ((with_reducible apply GPW.atEv); first | refine GPW.evP (Ev.xor64 rfl rfl (by omega) (by omega) (by omega) (by omega)) (by decide) ?_ | refine GPW.evP (by exact Ev.xor64 rfl rfl (by omega) (by omega) (by omega) (by omega)) (by decide) ?_) | ((with_reducible apply GPW.atEv); first | refine GPW.evL (Ev.xor64 rfl rfl (by omega) (by omega) (by omega) (by omega)) (by decide) ?_ | refine GPW.evL (by exact Ev.xor64 rfl rfl (by omega) (by omega) (by omega) (by omega)) (by decide) ?_))
  rw [Int.toNat_natCast, Int.toNat_natCast]
  have hx := xor_lt64 hs hw
  have e1 : IntKind.u64.wrap (((s ^^^ w : Nat) : Int) * 11400714819323198485) = (((s ^^^ w) * fac % 18446744073709551616 : Nat) : Int) := by
    rw [IntKind.wrap_u64]
    simp [fac]
  (first | ((with_reducible apply GO.atPlain); first | refine GO.ev (Ev.mulw rfl rfl) (by decide) ?_ | refine GO.ev (by exact Ev.mulw rfl rfl) (by decide) ?_) | ((with_reducible apply GPW.atEv); first | refine GPW.evP (Ev.mulw rfl rfl) (by decide) ?_ | refine GPW.evP (by exact Ev.mulw rfl rfl) (by decide) ?_) | ((with_reducible apply GPW.atEv); first | refine GPW.evL (Ev.mulw rfl rfl) (by decide) ?_ | refine GPW.evL (by exact Ev.mulw rfl rfl) (by decide) ?_))
  rw [e1]
  have hm := Nat.mod_lt ((s ^^^ w) * fac) (show 0 < 18446744073709551616 by decide)
  obtain ⟨m, hmm⟩ : ∃ m : Nat, (s ^^^ w) * fac % 18446744073709551616 = m := ⟨_, rfl⟩
  rw [hmm] at hm ⊢
  repeat (first | refine run ?_ | intro _)
  (first | ((with_reducible apply GO.atPlain); first | refine GO.ev (Ev.quo64 rfl rfl (by omega) (by omega) (by decide)) (by decide) ?_ | refine GO.ev (by exact Ev.quo64 rfl rfl (by omega) (by omega) (by decide)) (by decide) ?_) | ((with_reducible apply GPW.atEv); first | refine GPW.evP (Ev.quo64 rfl rfl (by omega) (by omega) (by decide)) (by decide) ?_ | refine GPW.evP (by exact Ev.quo64 rfl rfl (by omega) (by omega) (by decide)) (by decide) ?_) | ((with_reducible apply GPW.atEv); first | refine GPW.evL (Ev.quo64 rfl rfl (by omega) (by omega) (by decide)) (by decide) ?_ | refine GPW.evL (by exact Ev.quo64 rfl rfl (by omega) (by omega) (by decide)) (by decide) ?_))
  rw [show ((m : Nat) : Int) / 4294967296 = ((m / 4294967296 : Nat) : Int) by omega]
  (first | ((with_reducible apply GO.atPlain); first | refine GO.ev (Ev.xor64 rfl rfl (by omega) (by omega) (by omega) (by omega)) (by decide) ?_ | refine GO.ev (by exact Ev.xor64 rfl rfl (by omega) (by omega) (by omega) (by omega)) (by decide) ?_) | ((with_reducible apply GPW.atEv); first | refine GPW.evP (Ev.xor64 rfl rfl (by omega) (by omega) (by omega) (by omega)) (by decide) ?_ | refine GPW.evP (by exact Ev.xor64 rfl rfl (by omega) (by omega) (by omega) (by omega)) (by decide) ?_) | ((with_reducible apply GPW.atEv); first | refine GPW.evL (Ev.xor64 rfl rfl (by omega) (by omega) (by omega) (by omega)) (by decide) ?_ | refine GPW.evL (by exact Ev.xor64 rfl rfl (by omega) (by omega) (by omega) (by omega)) (by decide) ?_))
  rw [Int.toNat_natCast, Int.toNat_natCast]
  repeat (first | refine run ?_ | intro _)
  exact KX.ends (by first | exact ResOk.tmps rfl | (repeat (first | exact ResOk.nil | refine ResOk.tmp rfl ?_ | refine ResOk.cell rfl (by rfl) ?_ | refine ResOk.cell1 rfl ?_))) (Ent.refl _) ⟨by simp only [resV, mixN, hmm], rfl⟩
/-- Numbers without sign, as elements. -/
def encU (w : Nat) : List Value := [.int .u64 (w : Int)]
theorem encU_one (w : Nat) : ∀ u ∈ encU w, u.oneCell' = true := by simp [encU, Value.oneCell']
theorem rwords_spec {L : List HP} (ad : Option Addr) (n c : Nat) (b : List Int) [hrd : Rds L ad Int (encI .u8) 1 b] (hb : ByteL b) (hn : n = b.length) (hm : n ≤ 1000000000) :
    Tri Try.prog 66 #[.slice ad n c] L (fun v L' => ∃ ad' cap', v = .slice ad' (wordsN b).length cap' ∧ L' = osl encU 1 75 ad' cap' (wordsN b) :: L) := by
  subst hn
  have hwn := wordsN_len b
  have hnw : nWords b.length = (b.length + 7) / 8 := rfl
  refine Tri.body (args := [.slice ad b.length c]) 37 en66 Try.func66 rfl rfl rfl (by simp) ?_
  repeat (first | refine run ?_ | intro _)
  refine G.loop (α := Nat × Option Addr × Nat) (fun g => g.1 ≤ nWords b.length) (fun g => [(0, .slice ad b.length c), (3, .slice g.2.1 ((wordsN b).take g.1).length g.2.2), (4, .int .i64 ((8 * g.1 : Nat) : Int))]) (fun g => osl encU 1 75 g.2.1 g.2.2 ((wordsN b).take g.1) :: L) (fun g => nWords b.length - g.1) (0, none, 0) (Nat.zero_le _) (by repeat (first | exact EnvSub.nil _ | refine EnvSub.cons rfl ?_)) (Ent.nilSl encU 1 _) ?_
  rintro ⟨k, ad', cap'⟩ hk
  simp only [] at hk ⊢
  by_cases hlt : 8 * k < b.length
  case neg =>
    have hkn : k = (wordsN b).length := by omega
    subst hkn
    rw [List.take_length]
    repeat (first | refine run ?_ | intro _)
    exact KX.ends (by first | exact ResOk.tmps rfl | (repeat (first | exact ResOk.nil | refine ResOk.tmp rfl ?_ | refine ResOk.cell rfl (by rfl) ?_ | refine ResOk.cell1 rfl ?_))) (Ent.refl _) ⟨ad', cap', rfl, rfl⟩
  have hk2 : k < (wordsN b).length := by omega
  have hcl := chunk_len b k
  have hcb := chunk_byte hb k
  have htl : ((wordsN b).take k).length = k := by rw [List.length_take]; omega
  repeat (first | ((fail_if_success (with_reducible refine G.atSS 6 ?_)); (with_reducible apply G.seq)) | refine runS ?_ | intro _)
  refine G.join (α := Unit) (fun _ => True) (fun _ => [(0, .slice ad b.length c), (3, .slice ad' ((wordsN b).take k).length cap'), (4, .int .i64 ((8 * k : Nat) : Int)), (5, .int .u64 (wordOf (chunk b k) : Int))]) (fun _ => osl encU 1 75 ad' cap' ((wordsN b).take k) :: L) ?_ ?_
  · repeat (first | refine run ?_ | intro _)
    refine G.loop (α := Nat) (fun j => j ≤ (chunk b k).length) (fun j => [(0, .slice ad b.length c), (3, .slice ad' ((wordsN b).take k).length cap'), (4, .int .i64 ((8 * k : Nat) : Int)), (5, .int .u64 (wordOf ((chunk b k).drop j) : Int)), (6, .int .i64 (((8 * k + j : Nat) : Int) - 1))]) (fun _ => osl encU 1 75 ad' cap' ((wordsN b).take k) :: L) (fun j => j) (chunk b k).length (Nat.le_refl _) ?_ (Ent.refl _) ?_
    · rw [List.drop_length, show (((8 * k + (chunk b k).length : Nat) : Int) - 1) = min (((8 * k : Nat) : Int) + 8) (b.length : Int) - 1 by omega]
      exact (by repeat (first | exact EnvSub.nil _ | refine EnvSub.cons rfl ?_))
    intro j hj
    by_cases hj2 : 0 < j
    case neg =>
      have : j = 0 := by omega
      subst this
      repeat (first | refine run ?_ | intro _)
      rw [List.drop_zero]
      exact ⟨(), trivial, (by repeat (first | exact EnvSub.nil _ | refine EnvSub.cons rfl ?_)), Ent.refl _⟩
    have hbv : b[(((8 * k + j : Nat) : Int) - 1).toNat]! = (chunk b k)[j - 1] := by
      simp only [chunk, List.getElem_take, List.getElem_drop]
      rw [List.getElem!_eq_getElem?_getD, show (((8 * k + j : Nat) : Int) - 1).toNat = 8 * k + (j - 1) by omega, List.getElem?_eq_getElem (by omega)]
      rfl
    have hbb := hcb _ (List.getElem_mem (show j - 1 < (chunk b k).length by omega))
    obtain ⟨cN, hcN⟩ : ∃ cN : Nat, (chunk b k)[j - 1] = (cN : Int) := ⟨((chunk b k)[j - 1]).toNat, by omega⟩
    have hw7 := wordOf_lt7 (fun x hx => hcb x (List.mem_of_mem_drop hx) : ByteL ((chunk b k).drop j)) (by simp; omega)
    have hwd := wordOf_drop (chunk b k) (show j - 1 < (chunk b k).length by omega)
    rw [show j - 1 + 1 = j by omega, hcN, Int.toNat_natCast] at hwd
    rw [hcN] at hbv hbb
    obtain ⟨W, hW⟩ : ∃ W, wordOf ((chunk b k).drop j) = W := ⟨_, rfl⟩
    rw [hW] at hw7 hwd ⊢
    repeat (first | refine run ?_ | intro _)
    (first | ((with_reducible apply GO.atPlain); first | refine GO.ev (Ev.mulw rfl rfl) (by decide) ?_ | refine GO.ev (by exact Ev.mulw rfl rfl) (by decide) ?_) | ((with_reducible apply GPW.atEv); first | refine GPW.evP (Ev.mulw rfl rfl) (by decide) ?_ | refine GPW.evP (by exact Ev.mulw rfl rfl) (by decide) ?_) | ((with_reducible apply GPW.atEv); first | refine GPW.evL (Ev.mulw rfl rfl) (by decide) ?_ | refine GPW.evL (by exact Ev.mulw rfl rfl) (by decide) ?_))
    rw [IntWalk.u64_in (256 * (W : Int)) (by omega)]
    repeat (first | refine run ?_ | intro _)
    (first | ((with_reducible apply GO.atPlain); first | refine GO.ev (Ev.addw rfl rfl) (by decide) ?_ | refine GO.ev (by exact Ev.addw rfl rfl) (by decide) ?_) | ((with_reducible apply GPW.atEv); first | refine GPW.evP (Ev.addw rfl rfl) (by decide) ?_ | refine GPW.evP (by exact Ev.addw rfl rfl) (by decide) ?_) | ((with_reducible apply GPW.atEv); first | refine GPW.evL (Ev.addw rfl rfl) (by decide) ?_ | refine GPW.evL (by exact Ev.addw rfl rfl) (by decide) ?_))
    rw [hbv, IntWalk.u64_in (256 * (W : Int) + (cN : Int)) (by omega)]
    repeat (first | refine run ?_ | intro _)
    refine ⟨j - 1, by omega, by omega, ?_, Ent.refl _⟩
    rw [hwd, show (((cN + 256 * W : Nat)) : Int) = 256 * (W : Int) + (cN : Int) by omega, show (((8 * k + (j - 1) : Nat) : Int) - 1) = ((8 * k + j : Nat) : Int) - 1 - 1 by omega]
    exact (by repeat (first | exact EnvSub.nil _ | refine EnvSub.cons rfl ?_))
  rintro _ _
  repeat (first | refine run ?_ | intro _)
  (first | ((with_reducible apply GO.atPlain); first | refine GO.ef (Ef.append1 (e := wordOf (chunk b k)) rfl rfl rfl rfl rfl (by rfl) (encU_one _) (by omega) (by omega)) (by decide) ?_ | refine GO.ef (by exact Ef.append1 (e := wordOf (chunk b k)) rfl rfl rfl rfl rfl (by rfl) (encU_one _) (by omega) (by omega)) (by decide) ?_) | ((with_reducible apply GPW.atEf); first | refine GPW.ef (Ef.append1 (e := wordOf (chunk b k)) rfl rfl rfl rfl rfl (by rfl) (encU_one _) (by omega) (by omega)) (by decide) ?_ | refine GPW.ef (by exact Ef.append1 (e := wordOf (chunk b k)) rfl rfl rfl rfl rfl (by rfl) (encU_one _) (by omega) (by omega)) (by decide) ?_) | ((with_reducible apply GO.atUnit); first | refine GO.efu (Ef.append1 (e := wordOf (chunk b k)) rfl rfl rfl rfl rfl (by rfl) (encU_one _) (by omega) (by omega)) ?_ | refine GO.efu (by exact Ef.append1 (e := wordOf (chunk b k)) rfl rfl rfl rfl rfl (by rfl) (encU_one _) (by omega) (by omega)) ?_) | ((with_reducible apply GPW.atEfu); first | refine GPW.efu (Ef.append1 (e := wordOf (chunk b k)) rfl rfl rfl rfl rfl (by rfl) (encU_one _) (by omega) (by omega)) ?_ | refine GPW.efu (by exact Ef.append1 (e := wordOf (chunk b k)) rfl rfl rfl rfl rfl (by rfl) (encU_one _) (by omega) (by omega)) ?_))
  rintro _ _ ⟨ad2, cap2, rfl, rfl⟩
  repeat (first | refine run ?_ | intro _)
  refine ⟨(k + 1, ad2, cap2), by simp only []; omega, by simp only []; omega, ?_, ?_⟩
  · simp only []
    rw [List.take_succ_eq_append_getElem hk2, wordsN_get b (by omega), show (((8 * (k + 1) : Nat)) : Int) = ((8 * k : Nat) : Int) + 8 by omega]
    exact (by repeat (first | exact EnvSub.nil _ | refine EnvSub.cons rfl ?_))
  · simp only []
    rw [List.take_succ_eq_append_getElem hk2, wordsN_get b (by omega)]
    exact Ent.refl _
theorem rsum_spec {L : List HP} (label : ByteArray) (ad : Option Addr) (n c : Nat) (l : List Int) [hrd : Rds L ad Int (encI .i64) 1 l] (hn : n = l.length) (hls : label.size ≤ 1000000) (hll : l.length ≤ 1000000000) :
    Tri Try.prog 67 #[.string label, .slice ad n c] L (fun v L' => v = .int .u64 (sumN (numsOf label) (l.map fun x => (IntKind.u64.wrap x).toNat)) ∧ L' = L) := by
  have hlb : ByteL (numsOf label) := by
    intro x hx
    simp only [numsOf, List.mem_map] at hx
    obtain ⟨y, _, rfl⟩ := hx
    have := y.toNat_lt
    omega
  have hlen := numsOf_len label
  refine Tri.body (args := [.string label, .slice ad n c]) 49 en67 Try.func67 rfl rfl rfl (by simp) ?_
  repeat (first | refine run ?_ | intro _)
  (first | ((with_reducible apply GO.atPlain); first | refine GO.ef (Ef.strBytes rfl) (by decide) ?_ | refine GO.ef (by exact Ef.strBytes rfl) (by decide) ?_) | ((with_reducible apply GPW.atEf); first | refine GPW.ef (Ef.strBytes rfl) (by decide) ?_ | refine GPW.ef (by exact Ef.strBytes rfl) (by decide) ?_) | ((with_reducible apply GO.atUnit); first | refine GO.efu (Ef.strBytes rfl) ?_ | refine GO.efu (by exact Ef.strBytes rfl) ?_) | ((with_reducible apply GPW.atEfu); first | refine GPW.efu (Ef.strBytes rfl) ?_ | refine GPW.efu (by exact Ef.strBytes rfl) ?_))
  rintro _ _ ⟨lb, lc, rfl, hlc, rfl⟩
  (first | ((with_reducible apply GO.atPlain); first | refine GO.ef (Ef.callAll (rwords_spec (some ⟨lb, 0, none⟩) label.size lc (numsOf label) hlb hlen.symm (by omega)) rfl) (by decide) ?_ | refine GO.ef (by exact Ef.callAll (rwords_spec (some ⟨lb, 0, none⟩) label.size lc (numsOf label) hlb hlen.symm (by omega)) rfl) (by decide) ?_) | ((with_reducible apply GPW.atEf); first | refine GPW.ef (Ef.callAll (rwords_spec (some ⟨lb, 0, none⟩) label.size lc (numsOf label) hlb hlen.symm (by omega)) rfl) (by decide) ?_ | refine GPW.ef (by exact Ef.callAll (rwords_spec (some ⟨lb, 0, none⟩) label.size lc (numsOf label) hlb hlen.symm (by omega)) rfl) (by decide) ?_))
  rintro _ _ ⟨wad, wcap, rfl, rfl⟩
  obtain ⟨ww, hww⟩ : ∃ ww, wordsN (numsOf label) = ww := ⟨_, rfl⟩
  have hwwb : ∀ w ∈ ww, w < 18446744073709551616 := by rw [← hww]; exact wordsN_lt hlb
  have hwwl : ww.length ≤ 1000000 := by
    rw [← hww, wordsN_len]
    simp only [nWords]
    omega
  rw [hww]
  repeat (first | ((fail_if_success (with_reducible refine G.atSS 3 ?_)); (with_reducible apply G.seq)) | refine runS ?_ | intro _)
  refine G.join (α := Unit) (fun _ => True) (fun _ => [(0, .string label), (1, .slice ad n c), (5, .int .u64 (ww.foldl mixN 0 : Nat))]) (fun _ => L) ?_ ?_
  · repeat (first | refine run ?_ | intro _)
    refine G.loop (α := Nat) (fun i => i ≤ ww.length) (fun i => [(0, .string label), (1, .slice ad n c), (5, .int .u64 ((ww.take i).foldl mixN 0 : Nat)), (6, .slice wad ww.length wcap), (7, .int .i64 (i : Int))]) (fun _ => osl encU 1 75 wad wcap ww :: L) (fun i => ww.length - i) 0 (Nat.zero_le _) ?_ (by repeat (first | exact Ent.refl _ | exact Ent.nil _ | refine Ent.take' ?_ | refine Ent.trans Ent.drop ?_)) ?_
    · rw [List.take_zero, List.foldl_nil]
      exact (by repeat (first | exact EnvSub.nil _ | refine EnvSub.cons rfl ?_))
    intro i hi
    by_cases hlt : i < ww.length
    case neg =>
      have : i = ww.length := by omega
      subst this
      rw [List.take_length]
      repeat (first | refine run ?_ | intro _)
      exact ⟨(), trivial, (by repeat (first | exact EnvSub.nil _ | refine EnvSub.cons rfl ?_)), Ent.drop⟩
    have hwb := hwwb _ (List.getElem_mem hlt)
    have hwe : ww[i]! = ww[i] := by
      rw [List.getElem!_eq_getElem?_getD, List.getElem?_eq_getElem hlt]
      rfl
    repeat (first | refine run ?_ | intro _)
    rw [Int.toNat_natCast, hwe]
    (first | ((with_reducible apply GO.atPlain); first | refine GO.ef (Ef.call (rmix_spec ((ww.take i).foldl mixN 0) ww[i] (foldl_mixN_lt _ (by decide)) hwb) rfl (by repeat (first | exact Ent.refl _ | refine Ent.take ?_))) (by decide) ?_ | refine GO.ef (by exact Ef.call (rmix_spec ((ww.take i).foldl mixN 0) ww[i] (foldl_mixN_lt _ (by decide)) hwb) rfl (by repeat (first | exact Ent.refl _ | refine Ent.take ?_))) (by decide) ?_) | ((with_reducible apply GPW.atEf); first | refine GPW.ef (Ef.call (rmix_spec ((ww.take i).foldl mixN 0) ww[i] (foldl_mixN_lt _ (by decide)) hwb) rfl (by repeat (first | exact Ent.refl _ | refine Ent.take ?_))) (by decide) ?_ | refine GPW.ef (by exact Ef.call (rmix_spec ((ww.take i).foldl mixN 0) ww[i] (foldl_mixN_lt _ (by decide)) hwb) rfl (by repeat (first | exact Ent.refl _ | refine Ent.take ?_))) (by decide) ?_))
    rintro _ _ ⟨_, ⟨rfl, rfl⟩, hL⟩
    simp only [List.cons_append, List.nil_append] at hL; subst hL
    rw [← foldl_take_succ mixN 0 ww hlt]
    repeat (first | refine run ?_ | intro _)
    refine ⟨i + 1, by omega, by omega, ?_, Ent.refl _⟩
    rw [show (((i + 1 : Nat)) : Int) = (i : Int) + 1 by omega]
    exact (by repeat (first | exact EnvSub.nil _ | refine EnvSub.cons rfl ?_))
  rintro _ _
  obtain ⟨s0, hs0⟩ : ∃ s0, ww.foldl mixN 0 = s0 := ⟨_, rfl⟩
  have hs0' : s0 < 18446744073709551616 := by rw [← hs0]; exact foldl_mixN_lt _ (by decide)
  rw [hs0]
  repeat (first | refine run ?_ | intro _)
  (first | ((with_reducible apply GO.atPlain); first | refine GO.ev (Ev.lenStr rfl) (by decide) ?_ | refine GO.ev (by exact Ev.lenStr rfl) (by decide) ?_) | ((with_reducible apply GPW.atEv); first | refine GPW.evP (Ev.lenStr rfl) (by decide) ?_ | refine GPW.evP (by exact Ev.lenStr rfl) (by decide) ?_) | ((with_reducible apply GPW.atEv); first | refine GPW.evL (Ev.lenStr rfl) (by decide) ?_ | refine GPW.evL (by exact Ev.lenStr rfl) (by decide) ?_))
  repeat (first | refine run ?_ | intro _)
  rw [← hlen]
  (first | ((with_reducible apply GO.atPlain); first | refine GO.ef (Ef.call (rmix_spec s0 (numsOf label).length hs0' (by omega)) rfl (by repeat (first | exact Ent.refl _ | refine Ent.take ?_))) (by decide) ?_ | refine GO.ef (by exact Ef.call (rmix_spec s0 (numsOf label).length hs0' (by omega)) rfl (by repeat (first | exact Ent.refl _ | refine Ent.take ?_))) (by decide) ?_) | ((with_reducible apply GPW.atEf); first | refine GPW.ef (Ef.call (rmix_spec s0 (numsOf label).length hs0' (by omega)) rfl (by repeat (first | exact Ent.refl _ | refine Ent.take ?_))) (by decide) ?_ | refine GPW.ef (by exact Ef.call (rmix_spec s0 (numsOf label).length hs0' (by omega)) rfl (by repeat (first | exact Ent.refl _ | refine Ent.take ?_))) (by decide) ?_))
  rintro _ _ ⟨_, ⟨rfl, rfl⟩, hL⟩
  simp only [List.nil_append] at hL
  rw [hL]
  clear hL
  obtain ⟨s1, hs1⟩ : ∃ s1, mixN s0 (numsOf label).length = s1 := ⟨_, rfl⟩
  have hs1' : s1 < 18446744073709551616 := by rw [← hs1]; exact mixN_lt _ _
  rw [hs1]
  repeat (first | refine run ?_ | intro _)
  (first | ((with_reducible apply GO.atPlain); first | refine GO.ef (Ef.call (rmix_spec s1 n hs1' (by omega)) rfl (by repeat (first | exact Ent.refl _ | refine Ent.take ?_))) (by decide) ?_ | refine GO.ef (by exact Ef.call (rmix_spec s1 n hs1' (by omega)) rfl (by repeat (first | exact Ent.refl _ | refine Ent.take ?_))) (by decide) ?_) | ((with_reducible apply GPW.atEf); first | refine GPW.ef (Ef.call (rmix_spec s1 n hs1' (by omega)) rfl (by repeat (first | exact Ent.refl _ | refine Ent.take ?_))) (by decide) ?_ | refine GPW.ef (by exact Ef.call (rmix_spec s1 n hs1' (by omega)) rfl (by repeat (first | exact Ent.refl _ | refine Ent.take ?_))) (by decide) ?_))
  rintro _ _ ⟨_, ⟨rfl, rfl⟩, hL⟩
  simp only [List.nil_append] at hL
  rw [hL]
  clear hL
  obtain ⟨s2, hs2⟩ : ∃ s2, mixN s1 n = s2 := ⟨_, rfl⟩
  have hs2' : s2 < 18446744073709551616 := by rw [← hs2]; exact mixN_lt _ _
  rw [hs2]
  repeat (first | refine run ?_ | intro _)
  obtain ⟨ws, hws⟩ : ∃ ws, ws = l.map fun x => (IntKind.u64.wrap x).toNat := ⟨_, rfl⟩
  have hwl : ws.length = l.length := by rw [hws]; simp
  refine G.loop (α := Nat) (fun i => i ≤ n) (fun i => [(1, .slice ad n c), (5, .int .u64 ((ws.take i).foldl mixN s2 : Nat)), (8, .int .i64 (i : Int))]) (fun i => L) (fun i => n - i) 0 (Nat.zero_le _) ?_ (Ent.refl _) ?_
  · rw [List.take_zero, List.foldl_nil]
    exact (by repeat (first | exact EnvSub.nil _ | refine EnvSub.cons rfl ?_))
  intro i hi
  by_cases hlt : i < n
  case neg =>
    have : i = n := by omega
    subst this
    repeat (first | refine run ?_ | intro _)
    (first | ((with_reducible apply GO.atPlain); first | refine GO.ef (Ef.call (rmix_spec ((ws.take i).foldl mixN s2) 0 (foldl_mixN_lt _ hs2') (by decide)) rfl (by repeat (first | exact Ent.refl _ | refine Ent.take ?_))) (by decide) ?_ | refine GO.ef (by exact Ef.call (rmix_spec ((ws.take i).foldl mixN s2) 0 (foldl_mixN_lt _ hs2') (by decide)) rfl (by repeat (first | exact Ent.refl _ | refine Ent.take ?_))) (by decide) ?_) | ((with_reducible apply GPW.atEf); first | refine GPW.ef (Ef.call (rmix_spec ((ws.take i).foldl mixN s2) 0 (foldl_mixN_lt _ hs2') (by decide)) rfl (by repeat (first | exact Ent.refl _ | refine Ent.take ?_))) (by decide) ?_ | refine GPW.ef (by exact Ef.call (rmix_spec ((ws.take i).foldl mixN s2) 0 (foldl_mixN_lt _ hs2') (by decide)) rfl (by repeat (first | exact Ent.refl _ | refine Ent.take ?_))) (by decide) ?_))
    rintro _ _ ⟨_, ⟨rfl, rfl⟩, hL⟩
    simp only [List.nil_append] at hL
    rw [hL]
    clear hL
    repeat (first | refine run ?_ | intro _)
    refine KX.ends (by first | exact ResOk.tmps rfl | (repeat (first | exact ResOk.nil | refine ResOk.tmp rfl ?_ | refine ResOk.cell rfl (by rfl) ?_ | refine ResOk.cell1 rfl ?_))) (Ent.refl _) ⟨?_, rfl⟩
    simp only [resV]
    rw [hn, ← hwl, List.take_length, sumN, ← hws, hww, hs0, hs1, hwl, ← hn, hs2]
  have hw : IntKind.u64.wrap (l[i]!) = ((ws[i]'(by omega) : Nat) : Int) := by
    subst hws
    have h0 := wrap_u64_nonneg (l[i]!)
    rw [List.getElem_map, List.getElem!_eq_getElem?_getD, List.getElem?_eq_getElem (by omega)] at *
    simp only [Option.getD_some] at *
    omega
  have hwb : ws[i]'(by omega) < 18446744073709551616 := by
    have := IntKind.wrap_u64 (l[i]!)
    omega
  repeat (first | refine run ?_ | intro _)
  rw [Int.toNat_natCast, hw]
  (first | ((with_reducible apply GO.atPlain); first | refine GO.ef (Ef.call (rmix_spec ((ws.take i).foldl mixN s2) (ws[i]'(by omega)) (foldl_mixN_lt _ hs2') hwb) rfl (by repeat (first | exact Ent.refl _ | refine Ent.take ?_))) (by decide) ?_ | refine GO.ef (by exact Ef.call (rmix_spec ((ws.take i).foldl mixN s2) (ws[i]'(by omega)) (foldl_mixN_lt _ hs2') hwb) rfl (by repeat (first | exact Ent.refl _ | refine Ent.take ?_))) (by decide) ?_) | ((with_reducible apply GPW.atEf); first | refine GPW.ef (Ef.call (rmix_spec ((ws.take i).foldl mixN s2) (ws[i]'(by omega)) (foldl_mixN_lt _ hs2') hwb) rfl (by repeat (first | exact Ent.refl _ | refine Ent.take ?_))) (by decide) ?_ | refine GPW.ef (by exact Ef.call (rmix_spec ((ws.take i).foldl mixN s2) (ws[i]'(by omega)) (foldl_mixN_lt _ hs2') hwb) rfl (by repeat (first | exact Ent.refl _ | refine Ent.take ?_))) (by decide) ?_))
  rintro _ _ ⟨_, ⟨rfl, rfl⟩, hL⟩
  simp only [List.nil_append] at hL
  rw [hL]
  clear hL
  rw [← foldl_take_succ mixN s2 ws (by omega)]
  repeat (first | refine run ?_ | intro _)
  refine ⟨i + 1, by omega, by omega, ?_, Ent.refl _⟩
  rw [show (((i + 1 : Nat)) : Int) = (i : Int) + 1 by omega]
  exact (by repeat (first | exact EnvSub.nil _ | refine EnvSub.cons rfl ?_))
theorem rbytes_spec {L : List HP} (label : ByteArray) (ad : Option Addr) (n c : Nat) (b : List Int) [hrd : Rds L ad Int (encI .u8) 1 b] (hb : ByteL b) (hn : n = b.length) (hls : label.size ≤ 1000000) (hm : n ≤ 100000000) :
    Tri Try.prog 53 #[.string label, .slice ad n c] L (fun v L' => v = .int .u64 (bytesH (numsOf label) b) ∧ L' = L) := by
  subst hn
  have hwn := wordsN_len b
  have hnw : nWords b.length = (b.length + 7) / 8 := rfl
  refine Tri.body (args := [.string label, .slice ad b.length c]) 31 en53 Try.func53 rfl rfl rfl (by simp) ?_
  repeat (first | refine run ?_ | intro _)
  (first | ((with_reducible apply GO.atPlain); first | refine GO.ef (Ef.callAll (rwords_spec ad b.length c b hb rfl (by omega)) rfl) (by decide) ?_ | refine GO.ef (by exact Ef.callAll (rwords_spec ad b.length c b hb rfl (by omega)) rfl) (by decide) ?_) | ((with_reducible apply GPW.atEf); first | refine GPW.ef (Ef.callAll (rwords_spec ad b.length c b hb rfl (by omega)) rfl) (by decide) ?_ | refine GPW.ef (by exact Ef.callAll (rwords_spec ad b.length c b hb rfl (by omega)) rfl) (by decide) ?_))
  rintro _ _ ⟨wad, wcap, rfl, rfl⟩
  repeat (first | ((fail_if_success (with_reducible refine G.atSS 3 ?_)); (with_reducible apply G.seq)) | refine runS ?_ | intro _)
  refine G.join (α := SlV) (fun _ => True) (fun x => [(0, .string label), (1, .slice ad b.length c), (6, .slice x.ad (i64s (wordsN b)).length x.cap)]) (fun x => osl (encI .i64) 1 3 x.ad x.cap (i64s (wordsN b)) :: L) ?_ ?_
  · repeat (first | refine run ?_ | intro _)
    refine G.loop (α := Nat × SlV) (fun g => g.1 ≤ (wordsN b).length) (fun g => [(0, .string label), (1, .slice ad b.length c), (5, .slice wad (wordsN b).length wcap), (6, .slice g.2.ad (i64s ((wordsN b).take g.1)).length g.2.cap), (7, .int .i64 (g.1 : Int))]) (fun g => osl (encI .i64) 1 3 g.2.ad g.2.cap (i64s ((wordsN b).take g.1)) :: osl encU 1 75 wad wcap (wordsN b) :: L) (fun g => (wordsN b).length - g.1) (0, ⟨none, 0, 0⟩) (Nat.zero_le _) (by repeat (first | exact EnvSub.nil _ | refine EnvSub.cons rfl ?_)) (Ent.nilSl (encI .i64) 1 _) ?_
    rintro ⟨i, x⟩ hi
    simp only [] at hi ⊢
    have hil := i64s_len ((wordsN b).take i)
    rw [List.length_take] at hil
    by_cases hlt : i < (wordsN b).length
    case neg =>
      have : i = (wordsN b).length := by omega
      subst this
      rw [List.take_length]
      repeat (first | refine run ?_ | intro _)
      exact ⟨x, trivial, (by repeat (first | exact EnvSub.nil _ | refine EnvSub.cons rfl ?_)), by repeat (first | exact Ent.refl _ | exact Ent.nil _ | refine Ent.take' ?_ | refine Ent.trans Ent.drop ?_)⟩
    have hwe : (wordsN b)[i]! = (wordsN b)[i] := by
      rw [List.getElem!_eq_getElem?_getD, List.getElem?_eq_getElem hlt]
      rfl
    have hwb := wordsN_lt hb _ (List.getElem_mem hlt)
    repeat (first | refine run ?_ | intro _)
    rw [Int.toNat_natCast, hwe]
    (first | ((with_reducible apply GO.atPlain); first | refine GO.ef (Ef.append1 (e := IntKind.i64.wrap (((wordsN b)[i] : Nat) : Int)) rfl rfl rfl rfl rfl (by rfl) (encI_one _ _) (by omega) (by omega)) (by decide) ?_ | refine GO.ef (by exact Ef.append1 (e := IntKind.i64.wrap (((wordsN b)[i] : Nat) : Int)) rfl rfl rfl rfl rfl (by rfl) (encI_one _ _) (by omega) (by omega)) (by decide) ?_) | ((with_reducible apply GPW.atEf); first | refine GPW.ef (Ef.append1 (e := IntKind.i64.wrap (((wordsN b)[i] : Nat) : Int)) rfl rfl rfl rfl rfl (by rfl) (encI_one _ _) (by omega) (by omega)) (by decide) ?_ | refine GPW.ef (by exact Ef.append1 (e := IntKind.i64.wrap (((wordsN b)[i] : Nat) : Int)) rfl rfl rfl rfl rfl (by rfl) (encI_one _ _) (by omega) (by omega)) (by decide) ?_) | ((with_reducible apply GO.atUnit); first | refine GO.efu (Ef.append1 (e := IntKind.i64.wrap (((wordsN b)[i] : Nat) : Int)) rfl rfl rfl rfl rfl (by rfl) (encI_one _ _) (by omega) (by omega)) ?_ | refine GO.efu (by exact Ef.append1 (e := IntKind.i64.wrap (((wordsN b)[i] : Nat) : Int)) rfl rfl rfl rfl rfl (by rfl) (encI_one _ _) (by omega) (by omega)) ?_) | ((with_reducible apply GPW.atEfu); first | refine GPW.efu (Ef.append1 (e := IntKind.i64.wrap (((wordsN b)[i] : Nat) : Int)) rfl rfl rfl rfl rfl (by rfl) (encI_one _ _) (by omega) (by omega)) ?_ | refine GPW.efu (by exact Ef.append1 (e := IntKind.i64.wrap (((wordsN b)[i] : Nat) : Int)) rfl rfl rfl rfl rfl (by rfl) (encI_one _ _) (by omega) (by omega)) ?_))
    rintro _ _ ⟨ad2, cap2, rfl, rfl⟩
    rw [← i64s_snoc, ← List.take_succ_eq_append_getElem hlt]
    repeat (first | refine run ?_ | intro _)
    refine ⟨(i + 1, ⟨ad2, 0, cap2⟩), by simp only []; omega, by simp only []; omega, ?_, by repeat (first | exact Ent.refl _ | exact Ent.nil _ | refine Ent.take' ?_ | refine Ent.trans Ent.drop ?_)⟩
    simp only []
    rw [show (((i + 1 : Nat)) : Int) = (i : Int) + 1 by omega]
    exact (by repeat (first | exact EnvSub.nil _ | refine EnvSub.cons rfl ?_))
  rintro x _
  have hil := i64s_len (wordsN b)
  have hbk : (((i64s (wordsN b)) ++ [(b.length : Int)]).map fun x => (IntKind.u64.wrap x).toNat) = wordsN b ++ [b.length] := by
    rw [List.map_append, i64s_back (wordsN_lt hb)]
    simp only [List.map_cons, List.map_nil]
    rw [IntWalk.u64_in _ (by omega)]
    simp
  repeat (first | refine run ?_ | intro _)
  (first | ((with_reducible apply GO.atPlain); first | refine GO.ef (Ef.append1 (e := ((b.length : Nat) : Int)) rfl rfl rfl rfl rfl (by rfl) (encI_one _ _) (by omega) (by omega)) (by decide) ?_ | refine GO.ef (by exact Ef.append1 (e := ((b.length : Nat) : Int)) rfl rfl rfl rfl rfl (by rfl) (encI_one _ _) (by omega) (by omega)) (by decide) ?_) | ((with_reducible apply GPW.atEf); first | refine GPW.ef (Ef.append1 (e := ((b.length : Nat) : Int)) rfl rfl rfl rfl rfl (by rfl) (encI_one _ _) (by omega) (by omega)) (by decide) ?_ | refine GPW.ef (by exact Ef.append1 (e := ((b.length : Nat) : Int)) rfl rfl rfl rfl rfl (by rfl) (encI_one _ _) (by omega) (by omega)) (by decide) ?_) | ((with_reducible apply GO.atUnit); first | refine GO.efu (Ef.append1 (e := ((b.length : Nat) : Int)) rfl rfl rfl rfl rfl (by rfl) (encI_one _ _) (by omega) (by omega)) ?_ | refine GO.efu (by exact Ef.append1 (e := ((b.length : Nat) : Int)) rfl rfl rfl rfl rfl (by rfl) (encI_one _ _) (by omega) (by omega)) ?_) | ((with_reducible apply GPW.atEfu); first | refine GPW.efu (Ef.append1 (e := ((b.length : Nat) : Int)) rfl rfl rfl rfl rfl (by rfl) (encI_one _ _) (by omega) (by omega)) ?_ | refine GPW.efu (by exact Ef.append1 (e := ((b.length : Nat) : Int)) rfl rfl rfl rfl rfl (by rfl) (encI_one _ _) (by omega) (by omega)) ?_))
  rintro _ _ ⟨ad2, cap2, rfl, rfl⟩
  (first | ((with_reducible apply GO.atPlain); first | refine GO.ef (Ef.callAll (rsum_spec label ad2 _ cap2 (i64s (wordsN b) ++ [(b.length : Int)]) rfl hls (by simp; omega)) rfl) (by decide) ?_ | refine GO.ef (by exact Ef.callAll (rsum_spec label ad2 _ cap2 (i64s (wordsN b) ++ [(b.length : Int)]) rfl hls (by simp; omega)) rfl) (by decide) ?_) | ((with_reducible apply GPW.atEf); first | refine GPW.ef (Ef.callAll (rsum_spec label ad2 _ cap2 (i64s (wordsN b) ++ [(b.length : Int)]) rfl hls (by simp; omega)) rfl) (by decide) ?_ | refine GPW.ef (by exact Ef.callAll (rsum_spec label ad2 _ cap2 (i64s (wordsN b) ++ [(b.length : Int)]) rfl hls (by simp; omega)) rfl) (by decide) ?_))
  rintro _ _ ⟨rfl, rfl⟩
  rw [hbk]
  repeat (first | refine run ?_ | intro _)
  exact KX.ends (by first | exact ResOk.tmps rfl | (repeat (first | exact ResOk.nil | refine ResOk.tmp rfl ?_ | refine ResOk.cell rfl (by rfl) ?_ | refine ResOk.cell1 rfl ?_))) Ent.drop ⟨rfl, rfl⟩
theorem few_spec {L : List HP} (ad : Option Addr) (n c : Nat) (b : List Int) (k : Int) [hrd : Rds L ad Int (encI .u8) 1 b] (hn : n = b.length) (hc : n ≤ c) (hk : 0 ≤ k) (hk2 : k ≤ 1000000) :
    Tri Try.prog 27 #[.slice ad n c, .int .i64 k] L (fun v L' => ∃ ad' cap', v = .slice ad' (b.take k.toNat).length cap' ∧ (b.take k.toNat).length ≤ cap' ∧ L' = osl (encI .u8) 1 5 ad' cap' (b.take k.toNat) :: L) := by
  subst hn
  refine Tri.body (args := [.slice ad b.length c, .int .i64 k]) 14 en27 Try.func27 rfl rfl rfl (by simp) ?_
  have hmin : (min (b.length : Int) k).toNat = (b.take k.toNat).length := by rw [List.length_take]; omega
  refine G.ent (Ent.nilSl (encI .u8) 1 5) ?_
  repeat (first | refine run ?_ | intro _)
  rw [hmin]
  (first | ((with_reducible apply GO.atPlain); first | refine GO.ef (Ef.appendS (ys := b.take k.toNat) (hq := Rds.take hrd k.toNat) rfl rfl rfl rfl rfl (fun e _ => encI_one _ e) (by simp; omega) (by simp; omega)) (by decide) ?_ | refine GO.ef (by exact Ef.appendS (ys := b.take k.toNat) (hq := Rds.take hrd k.toNat) rfl rfl rfl rfl rfl (fun e _ => encI_one _ e) (by simp; omega) (by simp; omega)) (by decide) ?_) | ((with_reducible apply GPW.atEf); first | refine GPW.ef (Ef.appendS (ys := b.take k.toNat) (hq := Rds.take hrd k.toNat) rfl rfl rfl rfl rfl (fun e _ => encI_one _ e) (by simp; omega) (by simp; omega)) (by decide) ?_ | refine GPW.ef (by exact Ef.appendS (ys := b.take k.toNat) (hq := Rds.take hrd k.toNat) rfl rfl rfl rfl rfl (fun e _ => encI_one _ e) (by simp; omega) (by simp; omega)) (by decide) ?_) | ((with_reducible apply GO.atUnit); first | refine GO.efu (Ef.appendS (ys := b.take k.toNat) (hq := Rds.take hrd k.toNat) rfl rfl rfl rfl rfl (fun e _ => encI_one _ e) (by simp; omega) (by simp; omega)) ?_ | refine GO.efu (by exact Ef.appendS (ys := b.take k.toNat) (hq := Rds.take hrd k.toNat) rfl rfl rfl rfl rfl (fun e _ => encI_one _ e) (by simp; omega) (by simp; omega)) ?_) | ((with_reducible apply GPW.atEfu); first | refine GPW.efu (Ef.appendS (ys := b.take k.toNat) (hq := Rds.take hrd k.toNat) rfl rfl rfl rfl rfl (fun e _ => encI_one _ e) (by simp; omega) (by simp; omega)) ?_ | refine GPW.efu (by exact Ef.appendS (ys := b.take k.toNat) (hq := Rds.take hrd k.toNat) rfl rfl rfl rfl rfl (fun e _ => encI_one _ e) (by simp; omega) (by simp; omega)) ?_))
  rintro _ _ ⟨ad2, cap2, rfl, rfl⟩
  rw [List.nil_append]
  refine GO.fact (osl_cap (ad := ad2)) ?_
  rintro ⟨hcp, _⟩
  repeat (first | refine run ?_ | intro _)
  exact KX.ends (by first | exact ResOk.tmps rfl | (repeat (first | exact ResOk.nil | refine ResOk.tmp rfl ?_ | refine ResOk.cell rfl (by rfl) ?_ | refine ResOk.cell1 rfl ?_))) (Ent.refl _) ⟨ad2, cap2, rfl, hcp, rfl⟩
end Go.Proofs.Ytnpienjfapjjoaa
