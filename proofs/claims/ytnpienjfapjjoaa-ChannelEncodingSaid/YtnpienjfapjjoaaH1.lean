/- Contracts of package hash. -/
import Derived.Test.YtnpienjfapjjoaaC0
import Derived.Test.YtnpienjfapjjoaaP1
namespace Go.Proofs.Ytnpienjfapjjoaa
open Go.V
attribute [local irreducible] G GO GP GPW GPK Ev Ef EfR Ent CB GB
theorem mix_spec (s w : Nat) (hs : s < 18446744073709551616) (hw : w < 18446744073709551616) :
    Tri Try.prog 72 #[.int .u64 s, .int .u64 w] [] (fun v L => v = .int .u64 (mixN s w) ∧ L = []) := by
  refine Tri.body (args := [.int .u64 (s : Int), .int .u64 (w : Int)]) 14 en72 Try.func72 rfl rfl rfl (by simp) ?_
  repeat (first | refine run ?_ | intro _)
  (first | ((with_reducible apply GO.atPlain); first | refine GO.ev (Ev.xor64 rfl rfl (by omega) (by omega) (by omega) (by omega)) (by decide) ?_ | refine GO.ev (by exact Ev.xor64 rfl rfl (by omega) (by omega) (by omega) (by omega)) (by decide) ?_) | ((with_reducible apply GPW.atEv); first | refine GPW.evP (Ev.xor64 rfl rfl (by omega) (by omega) (by omega) (by omega)) (by decide) ?_ | refine GPW.evP (by exact Ev.xor64 rfl rfl (by omega) (by omega) (by omega) (by omega)) (by decide) ?_) | ((with_reducible apply GPW.atEv); first | refine GPW.evL (Ev.xor64 rfl rfl (by omega) (by omega) (by omega) (by omega)) (by decide) ?_ | refine GPW.evL (by exact Ev.xor64 rfl rfl (by omega) (by omega) (by omega) (by omega)) (by decide) ?_))
  rw [Int.toNat_natCast, Int.toNat_natCast]
  have hx := xor_lt64 hs hw
  have e1 : IntKind.u64.wrap (((s ^^^ w : Nat) : Int) * 11400714819323198485) = (((s ^^^ w) * fac % 18446744073709551616 : Nat) : Int) := by
    rw [IntKind.wrap_u64]
    simp [fac]
  (first | ((with_reducible apply GO.atPlain); first | refine GO.ev (Ev.mulw rfl rfl) (by decide) ?_ | refine GO.ev (by exact Ev.mulw rfl rfl) (by decide) ?_) | ((with_reducible apply GPW.atEv); first | refine GPW.evP (Ev.mulw rfl rfl) (by decide) ?_ | refine GPW.evP (by exact Ev.mulw rfl rfl) (by decide) ?_) | ((with_reducible apply GPW.atEv); first | refine GPW.evL (Ev.mulw rfl rfl) (by decide) ?_ | refine GPW.evL (by exact Ev.mulw rfl rfl) (by decide) ?_))
  rw [e1]
  have hm := Nat.mod_lt ((s ^^^ w) * fac) (show 0 < 18446744073709551616 by decide)
  obtain ⟨m, hmm⟩ : ∃ m : Nat, (s ^^^ w) * fac % 18446744073709551616 = m := ⟨_, rfl⟩
  rw [hmm] at hm ⊢
  repeat (first | refine run ?_ | intro _)
  (first | ((with_reducible apply GO.atPlain); first | refine GO.ev (Ev.shr rfl rfl (by decide)) (by decide) ?_ | refine GO.ev (by exact Ev.shr rfl rfl (by decide)) (by decide) ?_) | ((with_reducible apply GPW.atEv); first | refine GPW.evP (Ev.shr rfl rfl (by decide)) (by decide) ?_ | refine GPW.evP (by exact Ev.shr rfl rfl (by decide)) (by decide) ?_) | ((with_reducible apply GPW.atEv); first | refine GPW.evL (Ev.shr rfl rfl (by decide)) (by decide) ?_ | refine GPW.evL (by exact Ev.shr rfl rfl (by decide)) (by decide) ?_))
  have e2 : ((m : Nat) : Int).fdiv (2 ^ min ((32 : Int).toNat) IntKind.u64.bits) = ((m / 4294967296 : Nat) : Int) := by
    rw [Int.fdiv_eq_ediv_of_nonneg _ (by decide)]
    simp [IntKind.bits]
  rw [e2]
  (first | ((with_reducible apply GO.atPlain); first | refine GO.ev (Ev.xor64 rfl rfl (by omega) (by omega) (by omega) (by omega)) (by decide) ?_ | refine GO.ev (by exact Ev.xor64 rfl rfl (by omega) (by omega) (by omega) (by omega)) (by decide) ?_) | ((with_reducible apply GPW.atEv); first | refine GPW.evP (Ev.xor64 rfl rfl (by omega) (by omega) (by omega) (by omega)) (by decide) ?_ | refine GPW.evP (by exact Ev.xor64 rfl rfl (by omega) (by omega) (by omega) (by omega)) (by decide) ?_) | ((with_reducible apply GPW.atEv); first | refine GPW.evL (Ev.xor64 rfl rfl (by omega) (by omega) (by omega) (by omega)) (by decide) ?_ | refine GPW.evL (by exact Ev.xor64 rfl rfl (by omega) (by omega) (by omega) (by omega)) (by decide) ?_))
  rw [Int.toNat_natCast, Int.toNat_natCast]
  repeat (first | refine run ?_ | intro _)
  exact KX.ends (by first | exact ResOk.tmps rfl | (repeat (first | exact ResOk.nil | refine ResOk.tmp rfl ?_ | refine ResOk.cell rfl (by rfl) ?_ | refine ResOk.cell1 rfl ?_))) (Ent.refl _) ⟨by simp only [resV, mixN, hmm], rfl⟩
theorem words_iter {L0 : List HP} (bx : Nat) (ad : Option Addr) (c : Nat) (b : List Int) [hrd : Rds L0 ad Int (encI .u8) 1 b] (hb : ByteL b) (hc : b.length ≤ c) (hm : b.length ≤ 1000000000) :
    Iter Try.prog 71 [.pointer (some ⟨bx, 0, none⟩)] ((wordsN b).map fun w : Nat => [.int .u64 (w : Int)]) (obj bx 31 [.slice ad b.length c] :: L0) := by
  intro l J Jx hy
  have hy' : ∀ k, k < nWords b.length → YTri Try.prog l [.int .u64 (wordOf (chunk b k) : Int)] [J k] (fun v L' => (v = .bool true ∧ L' = [J (k + 1)]) ∨ (v = .bool false ∧ L' = [Jx k])) := by
    intro k hk
    have h := hy k (by rw [List.length_map, wordsN_len]; exact hk)
    simp only [List.getElem_map] at h
    rw [wordsN_get b hk] at h
    exact h
  rw [List.length_map, wordsN_len]
  clear hy
  refine Tri.body (args := [.func (.yield l) #[] #[], .pointer (some ⟨bx, 0, none⟩)]) 39 en71 Try.func71 rfl rfl rfl (by simp) ?_
  repeat (first | refine run ?_ | intro _)
  refine G.loop (α := Nat) (fun k => k ≤ nWords b.length) (fun k => [(0, .func (.yield l) #[] #[]), (1, .pointer (some ⟨bx, 0, none⟩)), (3, .int .i64 ((8 * k : Nat) : Int))]) (fun k => J k :: obj bx 31 [.slice ad b.length c] :: L0) (fun k => nWords b.length - k) 0 (Nat.zero_le _) (by repeat (first | exact EnvSub.nil _ | refine EnvSub.cons rfl ?_)) (Ent.refl _) ?_
  intro k hk
  have hnw : nWords b.length = (b.length + 7) / 8 := rfl
  by_cases hlt : 8 * k < b.length
  case neg =>
    have hkn : k = nWords b.length := by omega
    repeat (first | refine run ?_ | intro _)
    refine KX.endsN (by first | exact ResOk.tmps rfl | (repeat (first | exact ResOk.nil | refine ResOk.tmp rfl ?_ | refine ResOk.cell rfl (by rfl) ?_ | refine ResOk.cell1 rfl ?_))) (Ent.refl _) (.inl ?_)
    rw [hkn]
  have hk2 : k < nWords b.length := by omega
  have hcl := chunk_len b k
  have hcb := chunk_byte hb k
  have hrd2 : Rds L0 (advA ad c 1 (8 * k)) Int (encI .u8) 1 (b.drop (8 * k)) := Rds.drop hrd hc (8 * k)
  repeat (first | ((fail_if_success (with_reducible refine G.atSS 4 ?_)); (with_reducible apply G.seq)) | refine runS ?_ | intro _)
  refine G.join (α := Unit) (fun _ => True) (fun _ => [(0, .func (.yield l) #[] #[]), (1, .pointer (some ⟨bx, 0, none⟩)), (3, .int .i64 ((8 * k : Nat) : Int)), (4, .int .u64 (wordOf (chunk b k) : Int))]) (fun _ => J k :: obj bx 31 [.slice ad b.length c] :: L0) ?_ ?_
  · repeat (first | refine run ?_ | intro _)
    have hm2 : (min (((8 * k : Nat) : Int) + 8) (b.length : Int)).toNat - 8 * k = (chunk b k).length := by omega
    rw [Int.toNat_natCast, hm2]
    refine G.loop (α := Nat) (fun i => i ≤ (chunk b k).length) (fun i => [(0, .func (.yield l) #[] #[]), (1, .pointer (some ⟨bx, 0, none⟩)), (3, .int .i64 ((8 * k : Nat) : Int)), (4, .int .u64 (wordOf ((chunk b k).take i) : Int)), (20, .slice (advA ad c 1 (8 * k)) (chunk b k).length (c - 8 * k)), (21, .int .i64 (chunk b k).length), (22, .int .i64 (i : Int))])
      (fun _ => J k :: obj bx 31 [.slice ad b.length c] :: L0) (fun i => (chunk b k).length - i) 0 (Nat.zero_le _) (by repeat (first | exact EnvSub.nil _ | refine EnvSub.cons rfl ?_)) (Ent.refl _) ?_
    intro i hi
    by_cases hi2 : i < (chunk b k).length
    case neg =>
      have : i = (chunk b k).length := by omega
      subst this
      repeat (first | refine run ?_ | intro _)
      rw [List.take_length]
      exact ⟨(), trivial, (by repeat (first | exact EnvSub.nil _ | refine EnvSub.cons rfl ?_)), Ent.refl _⟩
    have hdl : (b.drop (8 * k)).length = b.length - 8 * k := by simp
    have hbv : (b.drop (8 * k))[i]! = (chunk b k)[i] := by
      simp only [chunk, List.getElem_take]
      rw [List.getElem!_eq_getElem?_getD, List.getElem?_eq_getElem (by omega)]
      rfl
    have hbb := hcb _ (List.getElem_mem hi2)
    have hwl := wordOf_lt (fun x hx => hcb x (List.mem_of_mem_take hx) : ByteL ((chunk b k).take i))
    rw [List.length_take, Nat.min_eq_left (by omega)] at hwl
    have hw64 : wordOf ((chunk b k).take i) < 18446744073709551616 := wordOf_lt64 (fun x hx => hcb x (List.mem_of_mem_take hx)) (by simp; omega)
    repeat (first | refine run ?_ | intro _)
    rw [Int.toNat_natCast, hbv]
    obtain ⟨cN, hcN⟩ : ∃ cN : Nat, (chunk b k)[i] = (cN : Int) := ⟨((chunk b k)[i]).toNat, by omega⟩
    have hcN2 : cN ≤ 255 := by omega
    have hword : wordOf ((chunk b k).take (i + 1)) = wordOf ((chunk b k).take i) + cN * 256 ^ i := by
      rw [List.take_succ_eq_append_getElem hi2, wordOf_snoc, hcN, List.length_take, Nat.min_eq_left (by omega)]
      rfl
    rw [hcN, IntWalk.u64_in (cN : Int) (by omega)]
    (first | ((with_reducible apply GO.atPlain); first | refine GO.ev (Ev.shl rfl rfl (by omega)) (by decide) ?_ | refine GO.ev (by exact Ev.shl rfl rfl (by omega)) (by decide) ?_) | ((with_reducible apply GPW.atEv); first | refine GPW.evP (Ev.shl rfl rfl (by omega)) (by decide) ?_ | refine GPW.evP (by exact Ev.shl rfl rfl (by omega)) (by decide) ?_) | ((with_reducible apply GPW.atEv); first | refine GPW.evL (Ev.shl rfl rfl (by omega)) (by decide) ?_ | refine GPW.evL (by exact Ev.shl rfl rfl (by omega)) (by decide) ?_))
    have e1 : IntKind.u64.wrap ((cN : Int) * 2 ^ min (8 * (i : Int)).toNat IntKind.u64.bits) = ((cN * 2 ^ (8 * i) % 18446744073709551616 : Nat) : Int) := by
      rw [IntKind.wrap_u64, show min (8 * (i : Int)).toNat IntKind.u64.bits = 8 * i by simp [IntKind.bits]; omega]
      simp
    have hml := Nat.mod_lt (cN * 2 ^ (8 * i)) (show 0 < 18446744073709551616 by decide)
    rw [e1]
    (first | ((with_reducible apply GO.atPlain); first | refine GO.ev (Ev.or64 rfl rfl (by omega) (by omega) (by omega) (by omega)) (by decide) ?_ | refine GO.ev (by exact Ev.or64 rfl rfl (by omega) (by omega) (by omega) (by omega)) (by decide) ?_) | ((with_reducible apply GPW.atEv); first | refine GPW.evP (Ev.or64 rfl rfl (by omega) (by omega) (by omega) (by omega)) (by decide) ?_ | refine GPW.evP (by exact Ev.or64 rfl rfl (by omega) (by omega) (by omega) (by omega)) (by decide) ?_) | ((with_reducible apply GPW.atEv); first | refine GPW.evL (Ev.or64 rfl rfl (by omega) (by omega) (by omega) (by omega)) (by decide) ?_ | refine GPW.evL (by exact Ev.or64 rfl rfl (by omega) (by omega) (by omega) (by omega)) (by decide) ?_))
    rw [Int.toNat_natCast, Int.toNat_natCast, or_step hwl hcN2 (by omega), ← hword]
    repeat (first | refine run ?_ | intro _)
    refine ⟨i + 1, by omega, by omega, ?_, Ent.refl _⟩
    rw [show (((i + 1 : Nat)) : Int) = (i : Int) + 1 by omega]
    exact (by repeat (first | exact EnvSub.nil _ | refine EnvSub.cons rfl ?_))
  rintro _ _
  repeat (first | refine run ?_ | intro _)
  ((with_reducible apply GO.atPlain); refine GO.efR (EfR.yield (hy' k hk2) rfl rfl (by repeat (first | exact Ent.refl _ | refine Ent.take ?_))) (by decide) ?_)
  rintro _ _ ⟨_, (⟨rfl, rfl⟩ | ⟨rfl, rfl⟩), hL⟩
  · simp only [List.cons_append, List.nil_append] at hL; subst hL
    repeat (first | refine run ?_ | intro _)
    refine ⟨k + 1, by omega, by omega, ?_, Ent.refl _⟩
    rw [show (((8 * (k + 1) : Nat)) : Int) = ((8 * k : Nat) : Int) + 8 by omega]
    exact (by repeat (first | exact EnvSub.nil _ | refine EnvSub.cons rfl ?_))
  · simp only [List.cons_append, List.nil_append] at hL; subst hL
    repeat (first | refine run ?_ | intro _)
    exact KX.ends (by first | exact ResOk.tmps rfl | (repeat (first | exact ResOk.nil | refine ResOk.tmp rfl ?_ | refine ResOk.cell rfl (by rfl) ?_ | refine ResOk.cell1 rfl ?_))) (Ent.refl _) (.inr ⟨k, rfl⟩)
theorem wordsOf_spec {L : List HP} (ad : Option Addr) (n c : Nat) :
    Tri Try.prog 61 #[.slice ad n c] L (fun v L' => ∃ bx, v = .func (.func 71) #[] #[.pointer (some ⟨bx, 0, none⟩)] ∧ L' = obj bx 31 [.slice ad n c] :: L) := by
  refine Tri.body (args := [.slice ad n c]) 4 en61 Try.func61 rfl rfl rfl (by simp) ?_
  repeat (first | refine run ?_ | intro _)
  (first | ((with_reducible apply GO.atPlain); first | refine GO.ev (Ev.makeFunc (vs := []) (us := [_]) rfl rfl) (by decide) ?_ | refine GO.ev (by exact Ev.makeFunc (vs := []) (us := [_]) rfl rfl) (by decide) ?_) | ((with_reducible apply GPW.atEv); first | refine GPW.evP (Ev.makeFunc (vs := []) (us := [_]) rfl rfl) (by decide) ?_ | refine GPW.evP (by exact Ev.makeFunc (vs := []) (us := [_]) rfl rfl) (by decide) ?_) | ((with_reducible apply GPW.atEv); first | refine GPW.evL (Ev.makeFunc (vs := []) (us := [_]) rfl rfl) (by decide) ?_ | refine GPW.evL (by exact Ev.makeFunc (vs := []) (us := [_]) rfl rfl) (by decide) ?_))
  repeat (first | refine run ?_ | intro _)
  exact KX.ends (by first | exact ResOk.tmps rfl | (repeat (first | exact ResOk.nil | refine ResOk.tmp rfl ?_ | refine ResOk.cell rfl (by rfl) ?_ | refine ResOk.cell1 rfl ?_))) (Ent.refl _) ⟨_, rfl, rfl⟩
theorem foldl_take_succ (f : Nat → Nat → Nat) (a : Nat) (l : List Nat) {k : Nat} (h : k < l.length) : (l.take (k + 1)).foldl f a = f ((l.take k).foldl f a) l[k] := by
  rw [List.take_succ_eq_append_getElem h, List.foldl_append]
  rfl
theorem sum_spec {L : List HP} (label : ByteArray) (ad : Option Addr) (n c : Nat) (l : List Int) [hrd : Rds L ad Int (encI .i64) 1 l] (hn : n = l.length) (hls : label.size ≤ 1000000) (hll : l.length ≤ 1000000000) :
    Tri Try.prog 62 #[.string label, .slice ad n c] L (fun v L' => v = .int .u64 (sumN (numsOf label) (l.map fun x => (IntKind.u64.wrap x).toNat)) ∧ L' = L) := by
  have hlb : ByteL (numsOf label) := by
    intro x hx
    simp only [numsOf, List.mem_map] at hx
    obtain ⟨y, _, rfl⟩ := hx
    have := y.toNat_lt
    omega
  have hlen := numsOf_len label
  refine Tri.body (args := [.string label, .slice ad n c]) 39 en62 Try.func62 rfl rfl rfl (by simp) ?_
  repeat (first | refine run ?_ | intro _)
  (first | ((with_reducible apply GO.atPlain); first | refine GO.ef (Ef.strBytes rfl) (by decide) ?_ | refine GO.ef (by exact Ef.strBytes rfl) (by decide) ?_) | ((with_reducible apply GPW.atEf); first | refine GPW.ef (Ef.strBytes rfl) (by decide) ?_ | refine GPW.ef (by exact Ef.strBytes rfl) (by decide) ?_) | ((with_reducible apply GO.atUnit); first | refine GO.efu (Ef.strBytes rfl) ?_ | refine GO.efu (by exact Ef.strBytes rfl) ?_) | ((with_reducible apply GPW.atEfu); first | refine GPW.efu (Ef.strBytes rfl) ?_ | refine GPW.efu (by exact Ef.strBytes rfl) ?_))
  rintro _ _ ⟨lb, lc, rfl, hlc, rfl⟩
  rename_i cst
  (first | ((with_reducible apply GO.atPlain); first | refine GO.ef (Ef.callAll (wordsOf_spec (some ⟨lb, 0, none⟩) label.size lc) rfl) (by decide) ?_ | refine GO.ef (by exact Ef.callAll (wordsOf_spec (some ⟨lb, 0, none⟩) label.size lc) rfl) (by decide) ?_) | ((with_reducible apply GPW.atEf); first | refine GPW.ef (Ef.callAll (wordsOf_spec (some ⟨lb, 0, none⟩) label.size lc) rfl) (by decide) ?_ | refine GPW.ef (by exact Ef.callAll (wordsOf_spec (some ⟨lb, 0, none⟩) label.size lc) rfl) (by decide) ?_))
  rintro _ _ ⟨bx, rfl, rfl⟩
  rw [← hlen] at hlc ⊢
  repeat (first | refine run ?_ | intro _)
  refine G.rangeFunc (words_iter (L0 := isl (encI .u8) 1 (some ⟨lb, 0, none⟩) (numsOf label) :: L) bx (some ⟨lb, 0, none⟩) lc (numsOf label) hlb hlc (by omega)) rfl en71 (by decide) (by simp) (fun k => [obj cst 75 [.int .u64 (((wordsN (numsOf label)).take k).foldl mixN 0 : Nat)]]) ?_ ?_ ?_
  · simp only [List.take_zero, List.foldl_nil, List.cons_append, List.nil_append]
    repeat (first | exact Ent.refl _ | exact Ent.nil _ | refine Ent.take' ?_ | refine Ent.trans Ent.drop ?_)
  · intro k hk
    rw [List.length_map] at hk
    have hwk := wordsN_lt hlb _ (List.getElem_mem hk)
    have hst : ((wordsN (numsOf label)).take k).foldl mixN 0 < 18446744073709551616 := foldl_mixN_lt _ (by decide)
    simp only [List.getElem_map]
    show G _ _ _ ((12, .int .u64 ((wordsN (numsOf label))[k] : Int)) :: _) _ _
    repeat (first | refine run ?_ | intro _)
    (first | ((with_reducible apply GO.atPlain); first | refine GO.ef (Ef.call (mix_spec (((wordsN (numsOf label)).take k).foldl mixN 0) (wordsN (numsOf label))[k] hst hwk) rfl (by repeat (first | exact Ent.refl _ | refine Ent.take ?_))) (by decide) ?_ | refine GO.ef (by exact Ef.call (mix_spec (((wordsN (numsOf label)).take k).foldl mixN 0) (wordsN (numsOf label))[k] hst hwk) rfl (by repeat (first | exact Ent.refl _ | refine Ent.take ?_))) (by decide) ?_) | ((with_reducible apply GPW.atEf); first | refine GPW.ef (Ef.call (mix_spec (((wordsN (numsOf label)).take k).foldl mixN 0) (wordsN (numsOf label))[k] hst hwk) rfl (by repeat (first | exact Ent.refl _ | refine Ent.take ?_))) (by decide) ?_ | refine GPW.ef (by exact Ef.call (mix_spec (((wordsN (numsOf label)).take k).foldl mixN 0) (wordsN (numsOf label))[k] hst hwk) rfl (by repeat (first | exact Ent.refl _ | refine Ent.take ?_))) (by decide) ?_))
    rintro _ _ ⟨_, ⟨rfl, rfl⟩, hL⟩
    simp only [List.cons_append, List.nil_append] at hL; subst hL
    repeat (first | refine run ?_ | intro _)
    refine KX.round ?_
    have e := foldl_take_succ mixN 0 (wordsN (numsOf label)) hk
    show Ent _ [obj cst 75 [.int .u64 (((wordsN (numsOf label)).take (k + 1)).foldl mixN 0 : Nat)]]
    rw [e]
    exact Ent.refl _
  rw [List.length_map, List.take_length]
  obtain ⟨s0, hs0⟩ : ∃ s0, (wordsN (numsOf label)).foldl mixN 0 = s0 := ⟨_, rfl⟩
  have hs0' : s0 < 18446744073709551616 := by rw [← hs0]; exact foldl_mixN_lt _ (by decide)
  rw [hs0]
  simp only [List.cons_append, List.nil_append]
  repeat (first | refine run ?_ | intro _)
  (first | ((with_reducible apply GO.atPlain); first | refine GO.ev (Ev.lenStr rfl) (by decide) ?_ | refine GO.ev (by exact Ev.lenStr rfl) (by decide) ?_) | ((with_reducible apply GPW.atEv); first | refine GPW.evP (Ev.lenStr rfl) (by decide) ?_ | refine GPW.evP (by exact Ev.lenStr rfl) (by decide) ?_) | ((with_reducible apply GPW.atEv); first | refine GPW.evL (Ev.lenStr rfl) (by decide) ?_ | refine GPW.evL (by exact Ev.lenStr rfl) (by decide) ?_))
  repeat (first | refine run ?_ | intro _)
  rw [← hlen]
  (first | ((with_reducible apply GO.atPlain); first | refine GO.ef (Ef.call (mix_spec s0 (numsOf label).length hs0' (by omega)) rfl (by repeat (first | exact Ent.refl _ | refine Ent.take ?_))) (by decide) ?_ | refine GO.ef (by exact Ef.call (mix_spec s0 (numsOf label).length hs0' (by omega)) rfl (by repeat (first | exact Ent.refl _ | refine Ent.take ?_))) (by decide) ?_) | ((with_reducible apply GPW.atEf); first | refine GPW.ef (Ef.call (mix_spec s0 (numsOf label).length hs0' (by omega)) rfl (by repeat (first | exact Ent.refl _ | refine Ent.take ?_))) (by decide) ?_ | refine GPW.ef (by exact Ef.call (mix_spec s0 (numsOf label).length hs0' (by omega)) rfl (by repeat (first | exact Ent.refl _ | refine Ent.take ?_))) (by decide) ?_))
  rintro _ _ ⟨_, ⟨rfl, rfl⟩, hL⟩
  simp only [List.cons_append, List.nil_append] at hL; subst hL
  obtain ⟨s1, hs1⟩ : ∃ s1, mixN s0 (numsOf label).length = s1 := ⟨_, rfl⟩
  have hs1' : s1 < 18446744073709551616 := by rw [← hs1]; exact mixN_lt _ _
  rw [hs1]
  repeat (first | refine run ?_ | intro _)
  (first | ((with_reducible apply GO.atPlain); first | refine GO.ef (Ef.call (mix_spec s1 n hs1' (by omega)) rfl (by repeat (first | exact Ent.refl _ | refine Ent.take ?_))) (by decide) ?_ | refine GO.ef (by exact Ef.call (mix_spec s1 n hs1' (by omega)) rfl (by repeat (first | exact Ent.refl _ | refine Ent.take ?_))) (by decide) ?_) | ((with_reducible apply GPW.atEf); first | refine GPW.ef (Ef.call (mix_spec s1 n hs1' (by omega)) rfl (by repeat (first | exact Ent.refl _ | refine Ent.take ?_))) (by decide) ?_ | refine GPW.ef (by exact Ef.call (mix_spec s1 n hs1' (by omega)) rfl (by repeat (first | exact Ent.refl _ | refine Ent.take ?_))) (by decide) ?_))
  rintro _ _ ⟨_, ⟨rfl, rfl⟩, hL⟩
  simp only [List.cons_append, List.nil_append] at hL; subst hL
  obtain ⟨s2, hs2⟩ : ∃ s2, mixN s1 n = s2 := ⟨_, rfl⟩
  have hs2' : s2 < 18446744073709551616 := by rw [← hs2]; exact mixN_lt _ _
  rw [hs2]
  repeat (first | refine run ?_ | intro _)
  obtain ⟨ws, hws⟩ : ∃ ws, ws = l.map fun x => (IntKind.u64.wrap x).toNat := ⟨_, rfl⟩
  have hwl : ws.length = l.length := by rw [hws]; simp
  refine G.loop (α := Nat) (fun i => i ≤ n) (fun i => [(5, .pointer (some ⟨cst, 0, none⟩)), (26, .slice ad n c), (27, .int .i64 n), (28, .int .i64 (i : Int))]) (fun i => obj cst 75 [.int .u64 ((ws.take i).foldl mixN s2 : Nat)] :: L) (fun i => n - i) 0 (Nat.zero_le _) (by repeat (first | exact EnvSub.nil _ | refine EnvSub.cons rfl ?_)) ?_ ?_
  · simp only [List.take_zero, List.foldl_nil]
    exact Ent.consR (Ent.trans Ent.drop Ent.drop)
  intro i hi
  by_cases hlt : i < n
  case neg =>
    have : i = n := by omega
    subst this
    repeat (first | refine run ?_ | intro _)
    (first | ((with_reducible apply GO.atPlain); first | refine GO.ef (Ef.call (mix_spec ((ws.take i).foldl mixN s2) 0 (foldl_mixN_lt _ hs2') (by decide)) rfl (by repeat (first | exact Ent.refl _ | refine Ent.take ?_))) (by decide) ?_ | refine GO.ef (by exact Ef.call (mix_spec ((ws.take i).foldl mixN s2) 0 (foldl_mixN_lt _ hs2') (by decide)) rfl (by repeat (first | exact Ent.refl _ | refine Ent.take ?_))) (by decide) ?_) | ((with_reducible apply GPW.atEf); first | refine GPW.ef (Ef.call (mix_spec ((ws.take i).foldl mixN s2) 0 (foldl_mixN_lt _ hs2') (by decide)) rfl (by repeat (first | exact Ent.refl _ | refine Ent.take ?_))) (by decide) ?_ | refine GPW.ef (by exact Ef.call (mix_spec ((ws.take i).foldl mixN s2) 0 (foldl_mixN_lt _ hs2') (by decide)) rfl (by repeat (first | exact Ent.refl _ | refine Ent.take ?_))) (by decide) ?_))
    rintro _ _ ⟨_, ⟨rfl, rfl⟩, hL⟩
    simp only [List.cons_append, List.nil_append] at hL; subst hL
    repeat (first | refine run ?_ | intro _)
    refine KX.ends (by first | exact ResOk.tmps rfl | (repeat (first | exact ResOk.nil | refine ResOk.tmp rfl ?_ | refine ResOk.cell rfl (by rfl) ?_ | refine ResOk.cell1 rfl ?_))) Ent.drop ⟨?_, rfl⟩
    simp only [resV]
    rw [hn, ← hwl, List.take_length, sumN, ← hws, hs0, hs1, hwl, ← hn, hs2]
  have hw : IntKind.u64.wrap (l[i]!) = ((ws[i]'(by omega) : Nat) : Int) := by
    subst hws
    have h0 := wrap_u64_nonneg (l[i]!)
    rw [List.getElem_map, List.getElem!_eq_getElem?_getD, List.getElem?_eq_getElem (by omega)] at *
    simp only [Option.getD_some] at *
    omega
  have hwb : ws[i]'(by omega) < 18446744073709551616 := by
    have := IntKind.wrap_u64 (l[i]!)
    omega
  repeat (first | refine run ?_ | intro _)
  rw [Int.toNat_natCast]
  rw [hw]
  (first | ((with_reducible apply GO.atPlain); first | refine GO.ef (Ef.call (mix_spec ((ws.take i).foldl mixN s2) (ws[i]'(by omega)) (foldl_mixN_lt _ hs2') hwb) rfl (by repeat (first | exact Ent.refl _ | refine Ent.take ?_))) (by decide) ?_ | refine GO.ef (by exact Ef.call (mix_spec ((ws.take i).foldl mixN s2) (ws[i]'(by omega)) (foldl_mixN_lt _ hs2') hwb) rfl (by repeat (first | exact Ent.refl _ | refine Ent.take ?_))) (by decide) ?_) | ((with_reducible apply GPW.atEf); first | refine GPW.ef (Ef.call (mix_spec ((ws.take i).foldl mixN s2) (ws[i]'(by omega)) (foldl_mixN_lt _ hs2') hwb) rfl (by repeat (first | exact Ent.refl _ | refine Ent.take ?_))) (by decide) ?_ | refine GPW.ef (by exact Ef.call (mix_spec ((ws.take i).foldl mixN s2) (ws[i]'(by omega)) (foldl_mixN_lt _ hs2') hwb) rfl (by repeat (first | exact Ent.refl _ | refine Ent.take ?_))) (by decide) ?_))
  rintro _ _ ⟨_, ⟨rfl, rfl⟩, hL⟩
  simp only [List.cons_append, List.nil_append] at hL; subst hL
  repeat (first | refine run ?_ | intro _)
  refine ⟨i + 1, by omega, by omega, ?_, ?_⟩
  · rw [show (((i + 1 : Nat)) : Int) = (i : Int) + 1 by omega]
    exact (by repeat (first | exact EnvSub.nil _ | refine EnvSub.cons rfl ?_))
  · rw [foldl_take_succ mixN s2 ws (by omega)]
    exact Ent.refl _
/-- Words as the program keeps them. -/
def i64s (l : List Nat) : List Int := l.map fun w : Nat => IntKind.i64.wrap (w : Int)
theorem i64s_back {l : List Nat} (h : ∀ w ∈ l, w < 18446744073709551616) : ((i64s l).map fun x => (IntKind.u64.wrap x).toNat) = l := by
  unfold i64s
  rw [List.map_map]
  conv => rhs; rw [← List.map_id l]
  refine List.map_congr_left ?_
  intro w hw
  have := h w hw
  simp only [Function.comp_apply, id_eq]
  rw [IntKind.wrap_u64, IntKind.wrap_i64]
  omega
theorem i64s_len (l : List Nat) : (i64s l).length = l.length := by simp [i64s]
theorem i64s_snoc (l : List Nat) (w : Nat) : i64s (l ++ [w]) = i64s l ++ [IntKind.i64.wrap (w : Int)] := by simp [i64s]
abbrev wcell (cx : Nat) (ws : List Nat) (x : SlV) : List HP := [obj cx 22 [.slice x.ad (i64s ws).length x.cap], osl (encI .i64) 1 3 x.ad x.cap (i64s ws)]
theorem bytes_spec {L : List HP} (label : ByteArray) (ad : Option Addr) (n c : Nat) (b : List Int) [hrd : Rds L ad Int (encI .u8) 1 b] (hb : ByteL b) (hn : n = b.length) (hc : n ≤ c) (hls : label.size ≤ 1000000) (hm : n ≤ 100000000) :
    Tri Try.prog 41 #[.string label, .slice ad n c] L (fun v L' => v = .int .u64 (bytesH (numsOf label) b) ∧ L' = L) := by
  subst hn
  refine Tri.body (args := [.string label, .slice ad b.length c]) 27 en41 Try.func41 rfl rfl rfl (by simp) ?_
  repeat (first | refine run ?_ | intro _)
  (first | ((with_reducible apply GO.atPlain); first | refine GO.ef (Ef.make0 (encI .i64) rfl rfl (by omega) (by omega) (by omega)) (by decide) ?_ | refine GO.ef (by exact Ef.make0 (encI .i64) rfl rfl (by omega) (by omega) (by omega)) (by decide) ?_) | ((with_reducible apply GPW.atEf); first | refine GPW.ef (Ef.make0 (encI .i64) rfl rfl (by omega) (by omega) (by omega)) (by decide) ?_ | refine GPW.ef (by exact Ef.make0 (encI .i64) rfl rfl (by omega) (by omega) (by omega)) (by decide) ?_) | ((with_reducible apply GO.atUnit); first | refine GO.efu (Ef.make0 (encI .i64) rfl rfl (by omega) (by omega) (by omega)) ?_ | refine GO.efu (by exact Ef.make0 (encI .i64) rfl rfl (by omega) (by omega) (by omega)) ?_) | ((with_reducible apply GPW.atEfu); first | refine GPW.efu (Ef.make0 (encI .i64) rfl rfl (by omega) (by omega) (by omega)) ?_ | refine GPW.efu (by exact Ef.make0 (encI .i64) rfl rfl (by omega) (by omega) (by omega)) ?_))
  rintro _ _ ⟨mb, rfl, rfl⟩
  repeat (first | refine run ?_ | intro _)
  rename_i cx
  (first | ((with_reducible apply GO.atPlain); first | refine GO.ef (Ef.callAll (wordsOf_spec ad b.length c) rfl) (by decide) ?_ | refine GO.ef (by exact Ef.callAll (wordsOf_spec ad b.length c) rfl) (by decide) ?_) | ((with_reducible apply GPW.atEf); first | refine GPW.ef (Ef.callAll (wordsOf_spec ad b.length c) rfl) (by decide) ?_ | refine GPW.ef (by exact Ef.callAll (wordsOf_spec ad b.length c) rfl) (by decide) ?_))
  rintro _ _ ⟨bx, rfl, rfl⟩
  repeat (first | refine run ?_ | intro _)
  refine G.rangeFunc (words_iter (L0 := L) bx ad c b hb hc (by omega)) rfl en71 (by decide) (by simp) (fun k => [hex fun x : SlV => hstars (wcell cx ((wordsN b).take k) x)]) ?_ ?_ ?_
  · refine Ent.closeX (f := wcell cx ((wordsN b).take 0)) ⟨some ⟨mb, 0, none⟩, 0, (((b.length : Int) / 8 + 2)).toNat⟩ ?_
    simp only [List.take_zero, i64s, List.map_nil, List.length_nil, List.cons_append, List.nil_append]
    repeat (first | exact Ent.refl _ | exact Ent.nil _ | refine Ent.take' ?_ | refine Ent.trans Ent.drop ?_)
  · intro k hk
    rw [List.length_map] at hk
    have hwk := wordsN_lt hb _ (List.getElem_mem hk)
    have hwn := wordsN_len b
    have hnw : nWords b.length = (b.length + 7) / 8 := rfl
    have hil := i64s_len ((wordsN b).take k)
    rw [List.length_take] at hil
    simp only [List.getElem_map]
    show G _ _ _ ((14, .int .u64 ((wordsN b)[k] : Int)) :: _) _ _
    refine G.openX (f := wcell cx ((wordsN b).take k)) ?_
    intro x
    simp only [List.cons_append, List.nil_append]
    repeat (first | refine run ?_ | intro _)
    (first | ((with_reducible apply GO.atPlain); first | refine GO.ef (Ef.append1 (e := IntKind.i64.wrap (((wordsN b)[k] : Nat) : Int)) rfl rfl rfl rfl rfl (by rfl) (encI_one _ _) (by omega) (by omega)) (by decide) ?_ | refine GO.ef (by exact Ef.append1 (e := IntKind.i64.wrap (((wordsN b)[k] : Nat) : Int)) rfl rfl rfl rfl rfl (by rfl) (encI_one _ _) (by omega) (by omega)) (by decide) ?_) | ((with_reducible apply GPW.atEf); first | refine GPW.ef (Ef.append1 (e := IntKind.i64.wrap (((wordsN b)[k] : Nat) : Int)) rfl rfl rfl rfl rfl (by rfl) (encI_one _ _) (by omega) (by omega)) (by decide) ?_ | refine GPW.ef (by exact Ef.append1 (e := IntKind.i64.wrap (((wordsN b)[k] : Nat) : Int)) rfl rfl rfl rfl rfl (by rfl) (encI_one _ _) (by omega) (by omega)) (by decide) ?_) | ((with_reducible apply GO.atUnit); first | refine GO.efu (Ef.append1 (e := IntKind.i64.wrap (((wordsN b)[k] : Nat) : Int)) rfl rfl rfl rfl rfl (by rfl) (encI_one _ _) (by omega) (by omega)) ?_ | refine GO.efu (by exact Ef.append1 (e := IntKind.i64.wrap (((wordsN b)[k] : Nat) : Int)) rfl rfl rfl rfl rfl (by rfl) (encI_one _ _) (by omega) (by omega)) ?_) | ((with_reducible apply GPW.atEfu); first | refine GPW.efu (Ef.append1 (e := IntKind.i64.wrap (((wordsN b)[k] : Nat) : Int)) rfl rfl rfl rfl rfl (by rfl) (encI_one _ _) (by omega) (by omega)) ?_ | refine GPW.efu (by exact Ef.append1 (e := IntKind.i64.wrap (((wordsN b)[k] : Nat) : Int)) rfl rfl rfl rfl rfl (by rfl) (encI_one _ _) (by omega) (by omega)) ?_))
    rintro _ _ ⟨ad2, cap2, rfl, rfl⟩
    repeat (first | refine run ?_ | intro _)
    refine KX.round ?_
    refine Ent.closeX (f := wcell cx ((wordsN b).take (k + 1))) ⟨ad2, 0, cap2⟩ ?_
    simp only [List.cons_append, List.nil_append]
    rw [List.take_succ_eq_append_getElem hk, i64s_snoc]
    repeat (first | exact Ent.refl _ | exact Ent.nil _ | refine Ent.take' ?_ | refine Ent.trans Ent.drop ?_)
  rw [List.length_map, List.take_length]
  simp only [List.cons_append, List.nil_append]
  repeat (first | refine run ?_ | intro _)
  refine GO.openX (f := wcell cx (wordsN b)) ?_
  intro x
  have hwn := wordsN_len b
  have hnw : nWords b.length = (b.length + 7) / 8 := rfl
  have hil := i64s_len (wordsN b)
  have hbk : (((i64s (wordsN b)) ++ [(b.length : Int)]).map fun x => (IntKind.u64.wrap x).toNat) = wordsN b ++ [b.length] := by
    rw [List.map_append, i64s_back (wordsN_lt hb)]
    simp only [List.map_cons, List.map_nil]
    rw [IntWalk.u64_in _ (by omega)]
    simp
  simp only [List.cons_append, List.nil_append]
  repeat (first | refine run ?_ | intro _)
  (first | ((with_reducible apply GO.atPlain); first | refine GO.ef (Ef.append1 (e := ((b.length : Nat) : Int)) rfl rfl rfl rfl rfl (by rfl) (encI_one _ _) (by omega) (by omega)) (by decide) ?_ | refine GO.ef (by exact Ef.append1 (e := ((b.length : Nat) : Int)) rfl rfl rfl rfl rfl (by rfl) (encI_one _ _) (by omega) (by omega)) (by decide) ?_) | ((with_reducible apply GPW.atEf); first | refine GPW.ef (Ef.append1 (e := ((b.length : Nat) : Int)) rfl rfl rfl rfl rfl (by rfl) (encI_one _ _) (by omega) (by omega)) (by decide) ?_ | refine GPW.ef (by exact Ef.append1 (e := ((b.length : Nat) : Int)) rfl rfl rfl rfl rfl (by rfl) (encI_one _ _) (by omega) (by omega)) (by decide) ?_) | ((with_reducible apply GO.atUnit); first | refine GO.efu (Ef.append1 (e := ((b.length : Nat) : Int)) rfl rfl rfl rfl rfl (by rfl) (encI_one _ _) (by omega) (by omega)) ?_ | refine GO.efu (by exact Ef.append1 (e := ((b.length : Nat) : Int)) rfl rfl rfl rfl rfl (by rfl) (encI_one _ _) (by omega) (by omega)) ?_) | ((with_reducible apply GPW.atEfu); first | refine GPW.efu (Ef.append1 (e := ((b.length : Nat) : Int)) rfl rfl rfl rfl rfl (by rfl) (encI_one _ _) (by omega) (by omega)) ?_ | refine GPW.efu (by exact Ef.append1 (e := ((b.length : Nat) : Int)) rfl rfl rfl rfl rfl (by rfl) (encI_one _ _) (by omega) (by omega)) ?_))
  rintro _ _ ⟨ad2, cap2, rfl, rfl⟩
  (first | ((with_reducible apply GO.atPlain); first | refine GO.ef (Ef.callAll (sum_spec label ad2 _ cap2 (i64s (wordsN b) ++ [(b.length : Int)]) rfl hls (by simp; omega)) rfl) (by decide) ?_ | refine GO.ef (by exact Ef.callAll (sum_spec label ad2 _ cap2 (i64s (wordsN b) ++ [(b.length : Int)]) rfl hls (by simp; omega)) rfl) (by decide) ?_) | ((with_reducible apply GPW.atEf); first | refine GPW.ef (Ef.callAll (sum_spec label ad2 _ cap2 (i64s (wordsN b) ++ [(b.length : Int)]) rfl hls (by simp; omega)) rfl) (by decide) ?_ | refine GPW.ef (by exact Ef.callAll (sum_spec label ad2 _ cap2 (i64s (wordsN b) ++ [(b.length : Int)]) rfl hls (by simp; omega)) rfl) (by decide) ?_))
  rintro _ _ ⟨rfl, rfl⟩
  rw [hbk]
  repeat (first | refine run ?_ | intro _)
  refine KX.ends (by first | exact ResOk.tmps rfl | (repeat (first | exact ResOk.nil | refine ResOk.tmp rfl ?_ | refine ResOk.cell rfl (by rfl) ?_ | refine ResOk.cell1 rfl ?_))) ?_ ⟨rfl, rfl⟩
  refine Ent.trans Ent.drop (Ent.trans Ent.drop ?_)
  repeat (first | exact Ent.refl _ | exact Ent.nil _ | refine Ent.take' ?_ | refine Ent.trans Ent.drop ?_)
end Go.Proofs.Ytnpienjfapjjoaa
