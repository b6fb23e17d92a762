/- Contracts of the model of package wire: reading slices; the model's encoding of a packet. -/
import Derived.Test.YtnpienjfapjjoaaW5
import Derived.Test.YtnpienjfapjjoaaC14
namespace Go.Proofs.Ytnpienjfapjjoaa
open Go.V
attribute [local irreducible] G GO GP GPW GPK Ev Ef EfR Ent CB GB validB
theorem qInt_spec {L : List HP} (b : Nat) (rest : List Int) (err : Int) (hb : ByteL rest) (hm : rest.length ≤ 1000000) :
    Tri Try.prog 58 #[.pointer (some ⟨b, 0, none⟩)] (RfR b rest err :: L) (fun v L' => v = .int .i64 (unzz (readU rest err).1) ∧ L' = RfR b (readU rest err).2.1 (readU rest err).2.2 :: L) := by
  refine Tri.body (args := [.pointer (some ⟨b, 0, none⟩)]) 6 en58 Try.func58 rfl rfl rfl (by simp) ?_
  repeat (first | refine run ?_ | intro _)
  (first | ((with_reducible apply GO.atPlain); first | refine GO.ef (Ef.callAt (qUint_spec b rest err hb hm) rfl) (by decide) ?_ | refine GO.ef (by exact Ef.callAt (qUint_spec b rest err hb hm) rfl) (by decide) ?_) | ((with_reducible apply GPW.atEf); first | refine GPW.ef (Ef.callAt (qUint_spec b rest err hb hm) rfl) (by decide) ?_ | refine GPW.ef (by exact Ef.callAt (qUint_spec b rest err hb hm) rfl) (by decide) ?_))
  rintro _ _ ⟨rfl, rfl⟩
  (first | ((with_reducible apply GO.atPlain); first | refine GO.ef (Ef.call (rback_spec _ (readU_lt err hb)) rfl (by repeat (first | exact Ent.refl _ | refine Ent.take ?_))) (by decide) ?_ | refine GO.ef (by exact Ef.call (rback_spec _ (readU_lt err hb)) rfl (by repeat (first | exact Ent.refl _ | refine Ent.take ?_))) (by decide) ?_) | ((with_reducible apply GPW.atEf); first | refine GPW.ef (Ef.call (rback_spec _ (readU_lt err hb)) rfl (by repeat (first | exact Ent.refl _ | refine Ent.take ?_))) (by decide) ?_ | refine GPW.ef (by exact Ef.call (rback_spec _ (readU_lt err hb)) rfl (by repeat (first | exact Ent.refl _ | refine Ent.take ?_))) (by decide) ?_))
  rintro _ _ ⟨_, ⟨rfl, rfl⟩, hL⟩
  simp only [List.cons_append, List.nil_append] at hL; subst hL
  repeat (first | refine run ?_ | intro _)
  exact KX.ends (by first | exact ResOk.tmps rfl | (repeat (first | exact ResOk.nil | refine ResOk.tmp rfl ?_ | refine ResOk.cell rfl (by rfl) ?_ | refine ResOk.cell1 rfl ?_))) (Ent.refl _) ⟨rfl, rfl⟩
theorem qEnd_spec {L : List HP} (b : Nat) (rest : List Int) (err : Int) (hm : rest.length ≤ 1000000) :
    Tri Try.prog 57 #[.pointer (some ⟨b, 0, none⟩)] (RfR b rest err :: L) (fun v L' => v = .int .i64 (endE rest err) ∧ L' = RfR b rest err :: L) := by
  refine Tri.body (args := [.pointer (some ⟨b, 0, none⟩)]) 20 en57 Try.func57 rfl rfl rfl (by simp) ?_
  refine G.openX (f := fun g : SlV × List Int => hpure ((err = 0 → g.2 = rest) ∧ g.2.length ≤ g.1.cap) :: rfL b g.2 err g.1 []) ?_
  rintro ⟨x, l⟩
  simp only [List.cons_append, List.nil_append]
  refine G.pureE ?_
  rintro ⟨hrest, hcap⟩
  by_cases he : err = 0
  case neg =>
    repeat (first | refine run ?_ | intro _)
    exact KX.ends (by first | exact ResOk.tmps rfl | (repeat (first | exact ResOk.nil | refine ResOk.tmp rfl ?_ | refine ResOk.cell rfl (by rfl) ?_ | refine ResOk.cell1 rfl ?_))) (rfClose x ⟨hrest, hcap⟩) ⟨by simp [he, resV, endE], rfl⟩
  have hlr := hrest he
  subst hlr
  cases l with
  | nil =>
    repeat (first | refine run ?_ | intro _)
    exact KX.ends (by first | exact ResOk.tmps rfl | (repeat (first | exact ResOk.nil | refine ResOk.tmp rfl ?_ | refine ResOk.cell rfl (by rfl) ?_ | refine ResOk.cell1 rfl ?_))) (rfClose x ⟨hrest, hcap⟩) ⟨by simp [he, resV, endE], rfl⟩
  | cons y t =>
    have hll : (y :: t).length = t.length + 1 := rfl
    repeat (first | refine run ?_ | intro _)
    exact KX.ends (by first | exact ResOk.tmps rfl | (repeat (first | exact ResOk.nil | refine ResOk.tmp rfl ?_ | refine ResOk.cell rfl (by rfl) ?_ | refine ResOk.cell1 rfl ?_))) (rfClose x ⟨hrest, hcap⟩) ⟨by simp [he, resV, endE], rfl⟩
/-- The length of what is read next, and the reader after it. -/
def readN (rest : List Int) (err : Int) : Nat × List Int × Int := if (readU rest err).2.2 ≠ 0 then (0, (readU rest err).2.1, (readU rest err).2.2) else if (readU rest err).2.1.length < (readU rest err).1 then (0, (readU rest err).2.1, 3) else ((readU rest err).1, (readU rest err).2.1, 0)
set_option maxHeartbeats 1000000 in
theorem qLen_spec {L : List HP} (b : Nat) (rest : List Int) (err : Int) (hb : ByteL rest) (hm : rest.length ≤ 1000000) :
    Tri Try.prog 69 #[.pointer (some ⟨b, 0, none⟩)] (RfR b rest err :: L) (fun v L' => v = .int .i64 (readN rest err).1 ∧ L' = RfR b (readN rest err).2.1 (readN rest err).2.2 :: L) := by
  have hul := readU_lt err hb
  have hull := readU_len rest err
  refine Tri.body (args := [.pointer (some ⟨b, 0, none⟩)]) 31 en69 Try.func69 rfl rfl rfl (by simp) ?_
  repeat (first | refine run ?_ | intro _)
  (first | ((with_reducible apply GO.atPlain); first | refine GO.ef (Ef.callAt (qUint_spec b rest err hb hm) rfl) (by decide) ?_ | refine GO.ef (by exact Ef.callAt (qUint_spec b rest err hb hm) rfl) (by decide) ?_) | ((with_reducible apply GPW.atEf); first | refine GPW.ef (Ef.callAt (qUint_spec b rest err hb hm) rfl) (by decide) ?_ | refine GPW.ef (by exact Ef.callAt (qUint_spec b rest err hb hm) rfl) (by decide) ?_))
  rintro _ _ ⟨rfl, rfl⟩
  have hR : readN rest err = readN rest err := rfl
  conv at hR => rhs; unfold readN
  generalize readN rest err = RR at hR
  generalize readU rest err = RU at hul hull hR
  obtain ⟨n, l, e⟩ := RU
  simp only [] at hul hull hR ⊢
  refine GO.openX (f := fun g : SlV × List Int => hpure ((e = 0 → g.2 = l) ∧ g.2.length ≤ g.1.cap) :: rfL b g.2 e g.1 []) ?_
  rintro ⟨x, l'⟩
  simp only [List.cons_append, List.nil_append]
  refine GO.pureE ?_
  rintro ⟨hrest, hcap⟩
  by_cases he : e = 0
  case neg =>
    rw [if_pos he] at hR
    subst hR
    repeat (first | refine run ?_ | intro _)
    exact KX.ends (by first | exact ResOk.tmps rfl | (repeat (first | exact ResOk.nil | refine ResOk.tmp rfl ?_ | refine ResOk.cell rfl (by rfl) ?_ | refine ResOk.cell1 rfl ?_))) (rfClose x ⟨hrest, hcap⟩) ⟨rfl, rfl⟩
  have hlr := hrest he
  subst hlr
  subst he
  rw [if_neg (by simp)] at hR
  by_cases hlt : l'.length < n
  · rw [if_pos hlt] at hR
    subst hR
    repeat (first | refine run ?_ | intro _)
    exact KX.ends (by first | exact ResOk.tmps rfl | (repeat (first | exact ResOk.nil | refine ResOk.tmp rfl ?_ | refine ResOk.cell rfl (by rfl) ?_ | refine ResOk.cell1 rfl ?_))) (rfClose (rest := l') x ⟨fun _ => rfl, hcap⟩) ⟨rfl, rfl⟩
  rw [if_neg hlt] at hR
  subst hR
  repeat (first | refine run ?_ | intro _)
  exact KX.ends (by first | exact ResOk.tmps rfl | (repeat (first | exact ResOk.nil | refine ResOk.tmp rfl ?_ | refine ResOk.cell rfl (by rfl) ?_ | refine ResOk.cell1 rfl ?_))) (rfClose (rest := l') x ⟨fun _ => rfl, hcap⟩) ⟨rfl, rfl⟩
theorem readR_readN (rest : List Int) (err : Int) : readR rest err = if (readN rest err).2.2 ≠ 0 then ([], (readN rest err).2.1, (readN rest err).2.2) else ((readN rest err).2.1.take (readN rest err).1, (readN rest err).2.1.drop (readN rest err).1, 0) := by
  unfold readR readN
  generalize readU rest err = RU
  obtain ⟨n, l, e⟩ := RU
  by_cases he : e = 0
  · by_cases hl : l.length < n
    · simp [he, hl]
    · simp [he, hl]
  · simp [he]
theorem readN_le (rest : List Int) (err : Int) : (readN rest err).2.1.length ≤ rest.length ∧ ((readN rest err).2.2 = 0 → (readN rest err).1 ≤ (readN rest err).2.1.length) := by
  have h := readU_len rest err
  unfold readN
  split
  · rename_i h1
    exact ⟨h, fun h2 => absurd h2 h1⟩
  · split
    · exact ⟨h, fun h2 => by simp at h2⟩
    · exact ⟨h, fun _ => by simp only []; omega⟩
set_option maxHeartbeats 1000000 in
theorem qRaw_spec {L : List HP} (b : Nat) (rest : List Int) (err : Int) (hb : ByteL rest) (hm : rest.length ≤ 1000000) :
    Tri Try.prog 55 #[.pointer (some ⟨b, 0, none⟩)] (RfR b rest err :: L)
      (fun v L' => ∃ m : Msg, v = .slice m.ad m.bs.length m.cap ∧ m.bs = (readR rest err).1 ∧ m.bs.length ≤ m.cap ∧ L' = msgP m :: RfR b (readR rest err).2.1 (readR rest err).2.2 :: L) := by
  have hnl := readN_le rest err
  refine Tri.body (args := [.pointer (some ⟨b, 0, none⟩)]) 28 en55 Try.func55 rfl rfl rfl (by simp) ?_
  repeat (first | refine run ?_ | intro _)
  (first | ((with_reducible apply GO.atPlain); first | refine GO.ef (Ef.callAt (qLen_spec b rest err hb hm) rfl) (by decide) ?_ | refine GO.ef (by exact Ef.callAt (qLen_spec b rest err hb hm) rfl) (by decide) ?_) | ((with_reducible apply GPW.atEf); first | refine GPW.ef (Ef.callAt (qLen_spec b rest err hb hm) rfl) (by decide) ?_ | refine GPW.ef (by exact Ef.callAt (qLen_spec b rest err hb hm) rfl) (by decide) ?_))
  rintro _ _ ⟨rfl, rfl⟩
  have hR := readR_readN rest err
  generalize readR rest err = RR at hR
  generalize readN rest err = RU at hnl hR
  obtain ⟨n, l, e⟩ := RU
  simp only [] at hnl hR ⊢
  refine GO.openX (f := fun g : SlV × List Int => hpure ((e = 0 → g.2 = l) ∧ g.2.length ≤ g.1.cap) :: rfL b g.2 e g.1 []) ?_
  rintro ⟨x, l'⟩
  simp only [List.cons_append, List.nil_append]
  refine GO.pureE ?_
  rintro ⟨hrest, hcap⟩
  by_cases he : e = 0
  case neg =>
    rw [if_pos he] at hR
    subst hR
    repeat (first | refine run ?_ | intro _)
    exact KX.ends (by first | exact ResOk.tmps rfl | (repeat (first | exact ResOk.nil | refine ResOk.tmp rfl ?_ | refine ResOk.cell rfl (by rfl) ?_ | refine ResOk.cell1 rfl ?_))) ((Ent.nilIsl (encI .u8) 1 none).trans (Ent.consR (rfClose x ⟨hrest, hcap⟩))) ⟨⟨none, 0, []⟩, rfl, rfl, by simp, rfl⟩
  have hlr := hrest he
  subst hlr
  subst he
  rw [if_neg (by simp)] at hR
  subst hR
  have hn := hnl.2 rfl
  repeat (first | refine run ?_ | intro _)
  rw [Int.toNat_natCast]
  refine KX.ends (by first | exact ResOk.tmps rfl | (repeat (first | exact ResOk.nil | refine ResOk.tmp rfl ?_ | refine ResOk.cell rfl (by rfl) ?_ | refine ResOk.cell1 rfl ?_))) ?_ ⟨⟨x.ad, x.cap, l'.take n⟩, ?_, rfl, ?_, rfl⟩
  · refine (Ent.consR (Ent.dup (isl_pers _ _ _ _))).trans (Ent.swap.trans ((islTake n).trans (Ent.consR ?_)))
    refine Ent.trans ?_ (rfClose (rest := l'.drop n) (l := l'.drop n) ⟨advA x.ad x.cap 1 n, 0, x.cap - n⟩ ⟨fun _ => rfl, by simp only [List.length_drop]; omega⟩)
    simp only [rfL, List.length_drop]
    exact Ent.consR (islDrop (xs := l') hcap n)
  · simp only [resV, List.length_take]
    rw [Nat.min_eq_left hn]
  · simp only [List.length_take]
    omega
theorem rcore_spec {L : List HP} (s k : Int) (ad : Option Addr) (n c : Nat) (xs : List Int) [hrd : Rds L ad Int (encI .u8) 1 xs] (hn : n = xs.length) (h1 : -9223372036854775808 ≤ s ∧ s ≤ 9223372036854775807) (h2 : -9223372036854775808 ≤ k ∧ k ≤ 9223372036854775807) (hx : n ≤ 65536) :
    Tri Try.prog 50 #[.agg #[.int .i64 s, .int .i64 k, .slice ad n c]] L (fun v L' => ∃ ad' cap, v = .slice ad' (coreB s k xs).length cap ∧ (coreB s k xs).length ≤ cap ∧ L' = osl (encI .u8) 1 5 ad' cap (coreB s k xs) :: L) := by
  subst hn
  have a1 := uv_len10 (zz_lt h1.1 h1.2)
  have a2 := uv_len10 (zz_lt h2.1 h2.2)
  have a3 := uv_len10 (n := xs.length) (by omega)
  refine Tri.body (args := [.agg #[.int .i64 s, .int .i64 k, .slice ad xs.length c]]) 17 en50 Try.func50 rfl rfl rfl (by simp) ?_
  repeat (first | refine run ?_ | intro _)
  (first | ((with_reducible apply GO.atPlain); first | refine GO.ef (Ef.callAll (rint_spec s h1.1 h1.2) rfl) (by decide) ?_ | refine GO.ef (by exact Ef.callAll (rint_spec s h1.1 h1.2) rfl) (by decide) ?_) | ((with_reducible apply GPW.atEf); first | refine GPW.ef (Ef.callAll (rint_spec s h1.1 h1.2) rfl) (by decide) ?_ | refine GPW.ef (by exact Ef.callAll (rint_spec s h1.1 h1.2) rfl) (by decide) ?_))
  rintro _ _ ⟨ad1, cap1, rfl, hc1, rfl⟩
  repeat (first | refine run ?_ | intro _)
  (first | ((with_reducible apply GO.atPlain); first | refine GO.ef (Ef.callAll (rint_spec k h2.1 h2.2) rfl) (by decide) ?_ | refine GO.ef (by exact Ef.callAll (rint_spec k h2.1 h2.2) rfl) (by decide) ?_) | ((with_reducible apply GPW.atEf); first | refine GPW.ef (Ef.callAll (rint_spec k h2.1 h2.2) rfl) (by decide) ?_ | refine GPW.ef (by exact Ef.callAll (rint_spec k h2.1 h2.2) rfl) (by decide) ?_))
  rintro _ _ ⟨ad2, cap2, rfl, hc2, rfl⟩
  refine GO.ent (Ent.at (A := osl (encI .u8) 1 5 ad1 cap1 (uv (zz s))) (Ent.refl _)) ?_
  repeat (first | refine run ?_ | intro _)
  (first | ((with_reducible apply GO.atPlain); first | refine GO.ef (Ef.appendS (ys := uv (zz k)) rfl rfl rfl rfl rfl (fun e _ => encI_one _ e) (by omega) (by omega)) (by decide) ?_ | refine GO.ef (by exact Ef.appendS (ys := uv (zz k)) rfl rfl rfl rfl rfl (fun e _ => encI_one _ e) (by omega) (by omega)) (by decide) ?_) | ((with_reducible apply GPW.atEf); first | refine GPW.ef (Ef.appendS (ys := uv (zz k)) rfl rfl rfl rfl rfl (fun e _ => encI_one _ e) (by omega) (by omega)) (by decide) ?_ | refine GPW.ef (by exact Ef.appendS (ys := uv (zz k)) rfl rfl rfl rfl rfl (fun e _ => encI_one _ e) (by omega) (by omega)) (by decide) ?_) | ((with_reducible apply GO.atUnit); first | refine GO.efu (Ef.appendS (ys := uv (zz k)) rfl rfl rfl rfl rfl (fun e _ => encI_one _ e) (by omega) (by omega)) ?_ | refine GO.efu (by exact Ef.appendS (ys := uv (zz k)) rfl rfl rfl rfl rfl (fun e _ => encI_one _ e) (by omega) (by omega)) ?_) | ((with_reducible apply GPW.atEfu); first | refine GPW.efu (Ef.appendS (ys := uv (zz k)) rfl rfl rfl rfl rfl (fun e _ => encI_one _ e) (by omega) (by omega)) ?_ | refine GPW.efu (by exact Ef.appendS (ys := uv (zz k)) rfl rfl rfl rfl rfl (fun e _ => encI_one _ e) (by omega) (by omega)) ?_))
  rintro _ _ ⟨ad3, cap3, rfl, rfl⟩
  repeat (first | refine run ?_ | intro _)
  (first | ((with_reducible apply GO.atPlain); first | refine GO.ef (Ef.callAll (rraw_spec ad xs.length c xs rfl (by omega)) rfl) (by decide) ?_ | refine GO.ef (by exact Ef.callAll (rraw_spec ad xs.length c xs rfl (by omega)) rfl) (by decide) ?_) | ((with_reducible apply GPW.atEf); first | refine GPW.ef (Ef.callAll (rraw_spec ad xs.length c xs rfl (by omega)) rfl) (by decide) ?_ | refine GPW.ef (by exact Ef.callAll (rraw_spec ad xs.length c xs rfl (by omega)) rfl) (by decide) ?_))
  rintro _ _ ⟨ad4, cap4, rfl, hc4, rfl⟩
  (first | ((with_reducible apply GO.atPlain); first | refine GO.ef (Ef.appendS (ys := uv xs.length ++ xs) rfl rfl rfl rfl rfl (fun e _ => encI_one _ e) (by simp; omega) (by simp; omega)) (by decide) ?_ | refine GO.ef (by exact Ef.appendS (ys := uv xs.length ++ xs) rfl rfl rfl rfl rfl (fun e _ => encI_one _ e) (by simp; omega) (by simp; omega)) (by decide) ?_) | ((with_reducible apply GPW.atEf); first | refine GPW.ef (Ef.appendS (ys := uv xs.length ++ xs) rfl rfl rfl rfl rfl (fun e _ => encI_one _ e) (by simp; omega) (by simp; omega)) (by decide) ?_ | refine GPW.ef (by exact Ef.appendS (ys := uv xs.length ++ xs) rfl rfl rfl rfl rfl (fun e _ => encI_one _ e) (by simp; omega) (by simp; omega)) (by decide) ?_) | ((with_reducible apply GO.atUnit); first | refine GO.efu (Ef.appendS (ys := uv xs.length ++ xs) rfl rfl rfl rfl rfl (fun e _ => encI_one _ e) (by simp; omega) (by simp; omega)) ?_ | refine GO.efu (by exact Ef.appendS (ys := uv xs.length ++ xs) rfl rfl rfl rfl rfl (fun e _ => encI_one _ e) (by simp; omega) (by simp; omega)) ?_) | ((with_reducible apply GPW.atEfu); first | refine GPW.efu (Ef.appendS (ys := uv xs.length ++ xs) rfl rfl rfl rfl rfl (fun e _ => encI_one _ e) (by simp; omega) (by simp; omega)) ?_ | refine GPW.efu (by exact Ef.appendS (ys := uv xs.length ++ xs) rfl rfl rfl rfl rfl (fun e _ => encI_one _ e) (by simp; omega) (by simp; omega)) ?_))
  rintro _ _ ⟨ad5, cap5, rfl, rfl⟩
  rw [show uv (zz s) ++ uv (zz k) ++ (uv xs.length ++ xs) = coreB s k xs by simp [coreB]]
  refine GO.fact (osl_cap (ad := ad5)) ?_
  rintro ⟨hcp, _⟩
  repeat (first | refine run ?_ | intro _)
  refine KX.ends (by first | exact ResOk.tmps rfl | (repeat (first | exact ResOk.nil | refine ResOk.tmp rfl ?_ | refine ResOk.cell rfl (by rfl) ?_ | refine ResOk.cell1 rfl ?_))) ?_ ⟨ad5, cap5, rfl, hcp, rfl⟩
  repeat (first | exact Ent.refl _ | exact Ent.nil _ | refine Ent.take' ?_ | refine Ent.trans Ent.drop ?_)
theorem rwhole_spec {L : List HP} (ad : Option Addr) (n c : Nat) (xs : List Int) [hrd : Rds L ad Int (encI .u8) 1 xs] (hn : n = xs.length) (hb : ByteL xs) (hx : n ≤ 100000) :
    Tri Try.prog 31 #[.slice ad n c] L (fun v L' => ∃ ad' cap, v = .slice ad' (wholeB xs).length cap ∧ (wholeB xs).length ≤ cap ∧ L' = osl (encI .u8) 1 5 ad' cap (wholeB xs) :: L) := by
  subst hn
  have a3 := uv_len10 (n := xs.length) (by omega)
  have a5 := uv_len10 (parcelH_lt xs)
  refine Tri.body (args := [.slice ad xs.length c]) 11 en31 Try.func31 rfl rfl rfl (by simp) ?_
  repeat (first | refine run ?_ | intro _)
  (first | ((with_reducible apply GO.atPlain); first | refine GO.ef (Ef.callAll (rraw_spec ad xs.length c xs rfl (by omega)) rfl) (by decide) ?_ | refine GO.ef (by exact Ef.callAll (rraw_spec ad xs.length c xs rfl (by omega)) rfl) (by decide) ?_) | ((with_reducible apply GPW.atEf); first | refine GPW.ef (Ef.callAll (rraw_spec ad xs.length c xs rfl (by omega)) rfl) (by decide) ?_ | refine GPW.ef (by exact Ef.callAll (rraw_spec ad xs.length c xs rfl (by omega)) rfl) (by decide) ?_))
  rintro _ _ ⟨ad1, cap1, rfl, hc1, rfl⟩
  repeat (first | refine run ?_ | intro _)
  (first | ((with_reducible apply GO.atPlain); first | refine GO.ef (Ef.callAll (rbytes_spec parcelS ad xs.length c xs hb rfl (by decide) (by omega)) rfl) (by decide) ?_ | refine GO.ef (by exact Ef.callAll (rbytes_spec parcelS ad xs.length c xs hb rfl (by decide) (by omega)) rfl) (by decide) ?_) | ((with_reducible apply GPW.atEf); first | refine GPW.ef (Ef.callAll (rbytes_spec parcelS ad xs.length c xs hb rfl (by decide) (by omega)) rfl) (by decide) ?_ | refine GPW.ef (by exact Ef.callAll (rbytes_spec parcelS ad xs.length c xs hb rfl (by decide) (by omega)) rfl) (by decide) ?_))
  rintro _ _ ⟨rfl, rfl⟩
  rw [show bytesH (numsOf parcelS) xs = parcelH xs from rfl]
  (first | ((with_reducible apply GO.atPlain); first | refine GO.ef (Ef.callAll (ruint_spec (parcelH xs) (parcelH_lt xs)) rfl) (by decide) ?_ | refine GO.ef (by exact Ef.callAll (ruint_spec (parcelH xs) (parcelH_lt xs)) rfl) (by decide) ?_) | ((with_reducible apply GPW.atEf); first | refine GPW.ef (Ef.callAll (ruint_spec (parcelH xs) (parcelH_lt xs)) rfl) (by decide) ?_ | refine GPW.ef (by exact Ef.callAll (ruint_spec (parcelH xs) (parcelH_lt xs)) rfl) (by decide) ?_))
  rintro _ _ ⟨ad2, cap2, rfl, hc2, rfl⟩
  (first | ((with_reducible apply GO.atPlain); first | refine GO.ef (Ef.appendS (ys := uv (parcelH xs)) rfl rfl rfl rfl rfl (fun e _ => encI_one _ e) (by simp; omega) (by simp; omega)) (by decide) ?_ | refine GO.ef (by exact Ef.appendS (ys := uv (parcelH xs)) rfl rfl rfl rfl rfl (fun e _ => encI_one _ e) (by simp; omega) (by simp; omega)) (by decide) ?_) | ((with_reducible apply GPW.atEf); first | refine GPW.ef (Ef.appendS (ys := uv (parcelH xs)) rfl rfl rfl rfl rfl (fun e _ => encI_one _ e) (by simp; omega) (by simp; omega)) (by decide) ?_ | refine GPW.ef (by exact Ef.appendS (ys := uv (parcelH xs)) rfl rfl rfl rfl rfl (fun e _ => encI_one _ e) (by simp; omega) (by simp; omega)) (by decide) ?_) | ((with_reducible apply GO.atUnit); first | refine GO.efu (Ef.appendS (ys := uv (parcelH xs)) rfl rfl rfl rfl rfl (fun e _ => encI_one _ e) (by simp; omega) (by simp; omega)) ?_ | refine GO.efu (by exact Ef.appendS (ys := uv (parcelH xs)) rfl rfl rfl rfl rfl (fun e _ => encI_one _ e) (by simp; omega) (by simp; omega)) ?_) | ((with_reducible apply GPW.atEfu); first | refine GPW.efu (Ef.appendS (ys := uv (parcelH xs)) rfl rfl rfl rfl rfl (fun e _ => encI_one _ e) (by simp; omega) (by simp; omega)) ?_ | refine GPW.efu (by exact Ef.appendS (ys := uv (parcelH xs)) rfl rfl rfl rfl rfl (fun e _ => encI_one _ e) (by simp; omega) (by simp; omega)) ?_))
  rintro _ _ ⟨ad5, cap5, rfl, rfl⟩
  rw [show uv xs.length ++ xs ++ uv (parcelH xs) = wholeB xs from rfl]
  refine GO.fact (osl_cap (ad := ad5)) ?_
  rintro ⟨hcp, _⟩
  repeat (first | refine run ?_ | intro _)
  refine KX.ends (by first | exact ResOk.tmps rfl | (repeat (first | exact ResOk.nil | refine ResOk.tmp rfl ?_ | refine ResOk.cell rfl (by rfl) ?_ | refine ResOk.cell1 rfl ?_))) ?_ ⟨ad5, cap5, rfl, hcp, rfl⟩
  repeat (first | exact Ent.refl _ | exact Ent.nil _ | refine Ent.take' ?_ | refine Ent.trans Ent.drop ?_)
theorem rencode_err {L : List HP} (s k : Int) (ad : Option Addr) (n c : Nat) (h : validB s k n = false) :
    Tri Try.prog 29 #[.agg #[.int .i64 s, .int .i64 k, .slice ad n c]] L (fun v L' => v = .tuple #[.slice none 0 0, .int .i64 1] ∧ L' = L) := by
  refine Tri.body (args := [.agg #[.int .i64 s, .int .i64 k, .slice ad n c]]) 12 en29 Try.func29 rfl rfl rfl (by simp) ?_
  repeat (first | refine run ?_ | intro _)
  (first | ((with_reducible apply GO.atPlain); first | refine GO.ef (Ef.call (rvalid_spec s k ad n c) rfl (by repeat (first | exact Ent.refl _ | refine Ent.take ?_))) (by decide) ?_ | refine GO.ef (by exact Ef.call (rvalid_spec s k ad n c) rfl (by repeat (first | exact Ent.refl _ | refine Ent.take ?_))) (by decide) ?_) | ((with_reducible apply GPW.atEf); first | refine GPW.ef (Ef.call (rvalid_spec s k ad n c) rfl (by repeat (first | exact Ent.refl _ | refine Ent.take ?_))) (by decide) ?_ | refine GPW.ef (by exact Ef.call (rvalid_spec s k ad n c) rfl (by repeat (first | exact Ent.refl _ | refine Ent.take ?_))) (by decide) ?_))
  rintro _ _ ⟨_, ⟨rfl, rfl⟩, hL⟩
  simp only [List.cons_append, List.nil_append] at hL; subst hL
  rw [h]
  repeat (first | refine run ?_ | intro _)
  exact KX.ends (by first | exact ResOk.tmps rfl | (repeat (first | exact ResOk.nil | refine ResOk.tmp rfl ?_ | refine ResOk.cell rfl (by rfl) ?_ | refine ResOk.cell1 rfl ?_))) Ent.drop ⟨rfl, rfl⟩
theorem rencode_ok {L : List HP} (s k : Int) (ad : Option Addr) (n c : Nat) (xs : List Int) [hrd : Rds L ad Int (encI .u8) 1 xs] (hn : n = xs.length) (hb : ByteL xs) (h1 : -9223372036854775808 ≤ s ∧ s ≤ 9223372036854775807) (h2 : -9223372036854775808 ≤ k ∧ k ≤ 9223372036854775807) (h : validB s k n = true) :
    Tri Try.prog 29 #[.agg #[.int .i64 s, .int .i64 k, .slice ad n c]] L (fun v L' => ∃ ad' cap, v = .tuple #[.slice ad' (wholeB (coreB s k xs)).length cap, .int .i64 0] ∧ (wholeB (coreB s k xs)).length ≤ cap ∧ L' = osl (encI .u8) 1 5 ad' cap (wholeB (coreB s k xs)) :: L) := by
  have hv := validB_props h
  have hcl := coreB_len h1 h2 (xs := xs) (by omega)
  have hcb := coreB_byte s k hb
  refine Tri.body (args := [.agg #[.int .i64 s, .int .i64 k, .slice ad n c]]) 12 en29 Try.func29 rfl rfl rfl (by simp) ?_
  repeat (first | refine run ?_ | intro _)
  (first | ((with_reducible apply GO.atPlain); first | refine GO.ef (Ef.call (rvalid_spec s k ad n c) rfl (by repeat (first | exact Ent.refl _ | refine Ent.take ?_))) (by decide) ?_ | refine GO.ef (by exact Ef.call (rvalid_spec s k ad n c) rfl (by repeat (first | exact Ent.refl _ | refine Ent.take ?_))) (by decide) ?_) | ((with_reducible apply GPW.atEf); first | refine GPW.ef (Ef.call (rvalid_spec s k ad n c) rfl (by repeat (first | exact Ent.refl _ | refine Ent.take ?_))) (by decide) ?_ | refine GPW.ef (by exact Ef.call (rvalid_spec s k ad n c) rfl (by repeat (first | exact Ent.refl _ | refine Ent.take ?_))) (by decide) ?_))
  rintro _ _ ⟨_, ⟨rfl, rfl⟩, hL⟩
  simp only [List.cons_append, List.nil_append] at hL; subst hL
  rw [h]
  repeat (first | refine run ?_ | intro _)
  (first | ((with_reducible apply GO.atPlain); first | refine GO.ef (Ef.callAll (rcore_spec s k ad n c xs hn h1 h2 (by omega)) rfl) (by decide) ?_ | refine GO.ef (by exact Ef.callAll (rcore_spec s k ad n c xs hn h1 h2 (by omega)) rfl) (by decide) ?_) | ((with_reducible apply GPW.atEf); first | refine GPW.ef (Ef.callAll (rcore_spec s k ad n c xs hn h1 h2 (by omega)) rfl) (by decide) ?_ | refine GPW.ef (by exact Ef.callAll (rcore_spec s k ad n c xs hn h1 h2 (by omega)) rfl) (by decide) ?_))
  rintro _ _ ⟨ad1, cap1, rfl, hc1, rfl⟩
  generalize coreB s k xs = cc at hcl hcb hc1
  (first | ((with_reducible apply GO.atPlain); first | refine GO.ef (Ef.callAll (rwhole_spec ad1 cc.length cap1 cc rfl hcb (by omega)) rfl) (by decide) ?_ | refine GO.ef (by exact Ef.callAll (rwhole_spec ad1 cc.length cap1 cc rfl hcb (by omega)) rfl) (by decide) ?_) | ((with_reducible apply GPW.atEf); first | refine GPW.ef (Ef.callAll (rwhole_spec ad1 cc.length cap1 cc rfl hcb (by omega)) rfl) (by decide) ?_ | refine GPW.ef (by exact Ef.callAll (rwhole_spec ad1 cc.length cap1 cc rfl hcb (by omega)) rfl) (by decide) ?_))
  rintro _ _ ⟨ad2, cap2, rfl, hc2, rfl⟩
  repeat (first | refine run ?_ | intro _)
  refine KX.ends (by first | exact ResOk.tmps rfl | (repeat (first | exact ResOk.nil | refine ResOk.tmp rfl ?_ | refine ResOk.cell rfl (by rfl) ?_ | refine ResOk.cell1 rfl ?_))) ?_ ⟨ad2, cap2, rfl, hc2, rfl⟩
  refine Ent.take' ?_
  repeat (first | exact Ent.refl _ | exact Ent.nil _ | refine Ent.take' ?_ | refine Ent.trans Ent.drop ?_)
end Go.Proofs.Ytnpienjfapjjoaa
