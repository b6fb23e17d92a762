/- Contracts of package channel: encoding. -/
import Derived.Test.YtnpienjfapjjoaaW2
import Derived.Test.YtnpienjfapjjoaaC3
namespace Go.Proofs.Ytnpienjfapjjoaa
open Go.V
abbrev parcelS : ByteArray := { data := #[112, 97, 114, 99, 101, 108] }
def parcelH (b : List Int) : Nat := bytesH (numsOf parcelS) b
theorem parcelH_lt (b : List Int) : parcelH b < 18446744073709551616 := mixN_lt _ _
def coreB (s k : Int) (xs : List Int) : List Int := uv (zz s) ++ uv (zz k) ++ uv xs.length ++ xs
def wholeB (c : List Int) : List Int := uv c.length ++ c ++ uv (parcelH c)
def endE (rest : List Int) (err : Int) : Int := if err ≠ 0 then err else if rest = [] then 0 else 2
/-- What a packet's bytes decode to. -/
def decP (l : List Int) : (Int × Int × List Int) × Int :=
  if endE (readU (readR l 0).2.1 (readR l 0).2.2).2.1 (readU (readR l 0).2.1 (readR l 0).2.2).2.2 ≠ 0 then ((0, 0, []), 2)
  else if (readU (readR l 0).2.1 (readR l 0).2.2).1 ≠ parcelH (readR l 0).1 then ((0, 0, []), 19)
  else if endE (readR (readU (readU (readR l 0).1 0).2.1 (readU (readR l 0).1 0).2.2).2.1 (readU (readU (readR l 0).1 0).2.1 (readU (readR l 0).1 0).2.2).2.2).2.1 (readR (readU (readU (readR l 0).1 0).2.1 (readU (readR l 0).1 0).2.2).2.1 (readU (readU (readR l 0).1 0).2.1 (readU (readR l 0).1 0).2.2).2.2).2.2 ≠ 0 ∨
      validB (unzz (readU (readR l 0).1 0).1) (unzz (readU (readU (readR l 0).1 0).2.1 (readU (readR l 0).1 0).2.2).1) (readR (readU (readU (readR l 0).1 0).2.1 (readU (readR l 0).1 0).2.2).2.1 (readU (readU (readR l 0).1 0).2.1 (readU (readR l 0).1 0).2.2).2.2).1.length = false then ((0, 0, []), 2)
  else ((unzz (readU (readR l 0).1 0).1, unzz (readU (readU (readR l 0).1 0).2.1 (readU (readR l 0).1 0).2.2).1, (readR (readU (readU (readR l 0).1 0).2.1 (readU (readR l 0).1 0).2.2).2.1 (readU (readU (readR l 0).1 0).2.1 (readU (readR l 0).1 0).2.2).2.2).1), 0)
theorem readR_len (rest : List Int) (err : Int) : (readR rest err).1.length ≤ rest.length ∧ (readR rest err).2.1.length ≤ rest.length := by
  have h := readU_len rest err
  unfold readR
  split
  · exact ⟨by simp, h⟩
  · split
    · exact ⟨by simp, h⟩
    · simp only [List.length_take, List.length_drop]
      omega
theorem readR_byte {rest : List Int} (err : Int) (h : ByteL rest) : ByteL (readR rest err).1 ∧ ByteL (readR rest err).2.1 := by
  have h1 := readU_byte err h
  unfold readR
  split
  · exact ⟨by simp [ByteL], h1⟩
  · split
    · exact ⟨by simp [ByteL], h1⟩
    · exact ⟨fun x hx => h1 x (List.mem_of_mem_take hx), fun x hx => h1 x (List.mem_of_mem_drop hx)⟩
theorem coreB_len {s k : Int} {xs : List Int} (h1 : -9223372036854775808 ≤ s ∧ s ≤ 9223372036854775807) (h2 : -9223372036854775808 ≤ k ∧ k ≤ 9223372036854775807) (hx : xs.length ≤ 65536) : (coreB s k xs).length ≤ 65566 := by
  have a1 := uv_len10 (zz_lt h1.1 h1.2)
  have a2 := uv_len10 (zz_lt h2.1 h2.2)
  have a3 := uv_len10 (n := xs.length) (by omega)
  simp only [coreB, List.length_append]
  omega
theorem ByteL.app {a b : List Int} (h : ByteL a) (h' : ByteL b) : ByteL (a ++ b) := fun x hx => (List.mem_append.1 hx).elim (h x) (h' x)
theorem coreB_byte (s k : Int) {xs : List Int} (h : ByteL xs) : ByteL (coreB s k xs) := ((((uv_byte _).app (uv_byte _)).app (uv_byte _)).app h)
theorem wholeB_byte {c : List Int} (h : ByteL c) : ByteL (wholeB c) := (((uv_byte _).app h).app (uv_byte _))
attribute [local irreducible] G GO GP GPW GPK Ev Ef EfR Ent CB GB validB
theorem encode_err {L : List HP} (s k : Int) (ad : Option Addr) (n c : Nat) (h : validB s k n = false) :
    Tri Try.prog 28 #[.agg #[.int .i64 s, .int .i64 k, .slice ad n c]] L (fun v L' => v = .tuple #[.slice none 0 0, .int .i64 1] ∧ L' = L) := by
  refine Tri.body (args := [.agg #[.int .i64 s, .int .i64 k, .slice ad n c]]) 36 en28 Try.func28 rfl rfl rfl (by simp) ?_
  repeat (first | refine run ?_ | intro _)
  (first | ((with_reducible apply GO.atPlain); first | refine GO.ef (Ef.call (valid_spec s k ad n c) rfl (by repeat (first | exact Ent.refl _ | refine Ent.take ?_))) (by decide) ?_ | refine GO.ef (by exact Ef.call (valid_spec s k ad n c) rfl (by repeat (first | exact Ent.refl _ | refine Ent.take ?_))) (by decide) ?_) | ((with_reducible apply GPW.atEf); first | refine GPW.ef (Ef.call (valid_spec s k ad n c) rfl (by repeat (first | exact Ent.refl _ | refine Ent.take ?_))) (by decide) ?_ | refine GPW.ef (by exact Ef.call (valid_spec s k ad n c) rfl (by repeat (first | exact Ent.refl _ | refine Ent.take ?_))) (by decide) ?_))
  rintro _ _ ⟨_, ⟨rfl, rfl⟩, hL⟩
  simp only [List.cons_append, List.nil_append] at hL; subst hL
  rw [h]
  repeat (first | refine run ?_ | intro _)
  exact KX.ends (by first | exact ResOk.tmps rfl | (repeat (first | exact ResOk.nil | refine ResOk.tmp rfl ?_ | refine ResOk.cell rfl (by rfl) ?_ | refine ResOk.cell1 rfl ?_))) Ent.drop ⟨rfl, rfl⟩
theorem encode_ok {L : List HP} (s k : Int) (ad : Option Addr) (n c : Nat) (xs : List Int) [hrd : Rds L ad Int (encI .u8) 1 xs] (hn : n = xs.length) (hb : ByteL xs) (h1 : -9223372036854775808 ≤ s ∧ s ≤ 9223372036854775807) (h2 : -9223372036854775808 ≤ k ∧ k ≤ 9223372036854775807) (h : validB s k n = true) :
    Tri Try.prog 28 #[.agg #[.int .i64 s, .int .i64 k, .slice ad n c]] L (fun v L' => ∃ ad' cap, v = .tuple #[.slice ad' (wholeB (coreB s k xs)).length cap, .int .i64 0] ∧ (wholeB (coreB s k xs)).length ≤ cap ∧ L' = osl (encI .u8) 1 5 ad' cap (wholeB (coreB s k xs)) :: L) := by
  have hv := validB_props h
  have a1 := uv_len10 (zz_lt h1.1 h1.2)
  have a2 := uv_len10 (zz_lt h2.1 h2.2)
  have a3 := uv_len10 (n := xs.length) (by omega)
  have hcl := coreB_len h1 h2 (xs := xs) (by omega)
  have a4 := uv_len10 (n := (coreB s k xs).length) (by omega)
  have a5 := uv_len10 (parcelH_lt (coreB s k xs))
  refine Tri.body (args := [.agg #[.int .i64 s, .int .i64 k, .slice ad n c]]) 36 en28 Try.func28 rfl rfl rfl (by simp) ?_
  repeat (first | refine run ?_ | intro _)
  (first | ((with_reducible apply GO.atPlain); first | refine GO.ef (Ef.call (valid_spec s k ad n c) rfl (by repeat (first | exact Ent.refl _ | refine Ent.take ?_))) (by decide) ?_ | refine GO.ef (by exact Ef.call (valid_spec s k ad n c) rfl (by repeat (first | exact Ent.refl _ | refine Ent.take ?_))) (by decide) ?_) | ((with_reducible apply GPW.atEf); first | refine GPW.ef (Ef.call (valid_spec s k ad n c) rfl (by repeat (first | exact Ent.refl _ | refine Ent.take ?_))) (by decide) ?_ | refine GPW.ef (by exact Ef.call (valid_spec s k ad n c) rfl (by repeat (first | exact Ent.refl _ | refine Ent.take ?_))) (by decide) ?_))
  rintro _ _ ⟨_, ⟨rfl, rfl⟩, hL⟩
  simp only [List.cons_append, List.nil_append] at hL; subst hL
  rw [h]
  rename_i pp
  repeat (first | refine run ?_ | intro _)
  rename_i cw
  refine GO.ent ((Ent.nilSl (encI .u8) 1 5).trans (Ent.swap.trans (wrClose (b := cw) (xs := []) ⟨none, 0, 0⟩))) ?_
  (first | ((with_reducible apply GO.atPlain); first | refine GO.ef (Ef.callAt (wInt_spec cw [] s h1.1 h1.2 (by simp)) rfl) (by decide) ?_ | refine GO.ef (by exact Ef.callAt (wInt_spec cw [] s h1.1 h1.2 (by simp)) rfl) (by decide) ?_) | ((with_reducible apply GPW.atEf); first | refine GPW.ef (Ef.callAt (wInt_spec cw [] s h1.1 h1.2 (by simp)) rfl) (by decide) ?_ | refine GPW.ef (by exact Ef.callAt (wInt_spec cw [] s h1.1 h1.2 (by simp)) rfl) (by decide) ?_))
  rintro _ _ rfl
  rw [List.nil_append]
  repeat (first | refine run ?_ | intro _)
  (first | ((with_reducible apply GO.atPlain); first | refine GO.ef (Ef.callAt (wInt_spec cw (uv (zz s)) k h2.1 h2.2 (by omega)) rfl) (by decide) ?_ | refine GO.ef (by exact Ef.callAt (wInt_spec cw (uv (zz s)) k h2.1 h2.2 (by omega)) rfl) (by decide) ?_) | ((with_reducible apply GPW.atEf); first | refine GPW.ef (Ef.callAt (wInt_spec cw (uv (zz s)) k h2.1 h2.2 (by omega)) rfl) (by decide) ?_ | refine GPW.ef (by exact Ef.callAt (wInt_spec cw (uv (zz s)) k h2.1 h2.2 (by omega)) rfl) (by decide) ?_))
  rintro _ _ rfl
  repeat (first | refine run ?_ | intro _)
  (first | ((with_reducible apply GO.atPlain); first | refine GO.ef (Ef.callAt (wRaw_spec cw (uv (zz s) ++ uv (zz k)) ad n c xs hn (by simp; omega) (by omega)) rfl) (by decide) ?_ | refine GO.ef (by exact Ef.callAt (wRaw_spec cw (uv (zz s) ++ uv (zz k)) ad n c xs hn (by simp; omega) (by omega)) rfl) (by decide) ?_) | ((with_reducible apply GPW.atEf); first | refine GPW.ef (Ef.callAt (wRaw_spec cw (uv (zz s) ++ uv (zz k)) ad n c xs hn (by simp; omega) (by omega)) rfl) (by decide) ?_ | refine GPW.ef (by exact Ef.callAt (wRaw_spec cw (uv (zz s) ++ uv (zz k)) ad n c xs hn (by simp; omega) (by omega)) rfl) (by decide) ?_))
  rintro _ _ rfl
  subst hn
  rw [show uv (zz s) ++ uv (zz k) ++ uv xs.length ++ xs = coreB s k xs from rfl]
  obtain ⟨cc, hcc⟩ : ∃ cc, coreB s k xs = cc := ⟨_, rfl⟩
  have hccb : ByteL cc := by rw [← hcc]; exact coreB_byte s k hb
  rw [hcc] at hcl a4 a5 ⊢
  repeat (first | refine run ?_ | intro _)
  rename_i cw2
  refine GO.ent ((Ent.nilSl (encI .u8) 1 5).trans (Ent.swap.trans (wrClose (b := cw2) (xs := []) ⟨none, 0, 0⟩))) ?_
  (first | ((with_reducible apply GO.atPlain); first | refine GO.ef (Ef.callAt (wDone_spec cw cc (by omega)) rfl) (by decide) ?_ | refine GO.ef (by exact Ef.callAt (wDone_spec cw cc (by omega)) rfl) (by decide) ?_) | ((with_reducible apply GPW.atEf); first | refine GPW.ef (Ef.callAt (wDone_spec cw cc (by omega)) rfl) (by decide) ?_ | refine GPW.ef (by exact Ef.callAt (wDone_spec cw cc (by omega)) rfl) (by decide) ?_))
  rintro _ _ ⟨ad1, cap1, rfl, hc1, rfl⟩
  (first | ((with_reducible apply GO.atPlain); first | refine GO.ef (Ef.callAt (wRaw_spec cw2 [] ad1 cc.length cap1 cc rfl (by simp) (by omega)) rfl) (by decide) ?_ | refine GO.ef (by exact Ef.callAt (wRaw_spec cw2 [] ad1 cc.length cap1 cc rfl (by simp) (by omega)) rfl) (by decide) ?_) | ((with_reducible apply GPW.atEf); first | refine GPW.ef (Ef.callAt (wRaw_spec cw2 [] ad1 cc.length cap1 cc rfl (by simp) (by omega)) rfl) (by decide) ?_ | refine GPW.ef (by exact Ef.callAt (wRaw_spec cw2 [] ad1 cc.length cap1 cc rfl (by simp) (by omega)) rfl) (by decide) ?_))
  rintro _ _ rfl
  rw [List.nil_append]
  repeat (first | refine run ?_ | intro _)
  (first | ((with_reducible apply GO.atPlain); first | refine GO.ef (Ef.callAt (wDone_spec cw cc (by omega)) rfl) (by decide) ?_ | refine GO.ef (by exact Ef.callAt (wDone_spec cw cc (by omega)) rfl) (by decide) ?_) | ((with_reducible apply GPW.atEf); first | refine GPW.ef (Ef.callAt (wDone_spec cw cc (by omega)) rfl) (by decide) ?_ | refine GPW.ef (by exact Ef.callAt (wDone_spec cw cc (by omega)) rfl) (by decide) ?_))
  rintro _ _ ⟨ad2, cap2, rfl, hc2, rfl⟩
  (first | ((with_reducible apply GO.atPlain); first | refine GO.ef (Ef.callAll (bytes_spec parcelS ad2 cc.length cap2 cc hccb rfl hc2 (by decide) (by omega)) rfl) (by decide) ?_ | refine GO.ef (by exact Ef.callAll (bytes_spec parcelS ad2 cc.length cap2 cc hccb rfl hc2 (by decide) (by omega)) rfl) (by decide) ?_) | ((with_reducible apply GPW.atEf); first | refine GPW.ef (Ef.callAll (bytes_spec parcelS ad2 cc.length cap2 cc hccb rfl hc2 (by decide) (by omega)) rfl) (by decide) ?_ | refine GPW.ef (by exact Ef.callAll (bytes_spec parcelS ad2 cc.length cap2 cc hccb rfl hc2 (by decide) (by omega)) rfl) (by decide) ?_))
  rintro _ _ ⟨rfl, rfl⟩
  rw [show bytesH (numsOf parcelS) cc = parcelH cc from rfl]
  (first | ((with_reducible apply GO.atPlain); first | refine GO.ef (Ef.callAt (wUint_spec cw2 (uv cc.length ++ cc) (parcelH cc) (parcelH_lt cc) (by simp; omega)) rfl) (by decide) ?_ | refine GO.ef (by exact Ef.callAt (wUint_spec cw2 (uv cc.length ++ cc) (parcelH cc) (parcelH_lt cc) (by simp; omega)) rfl) (by decide) ?_) | ((with_reducible apply GPW.atEf); first | refine GPW.ef (Ef.callAt (wUint_spec cw2 (uv cc.length ++ cc) (parcelH cc) (parcelH_lt cc) (by simp; omega)) rfl) (by decide) ?_ | refine GPW.ef (by exact Ef.callAt (wUint_spec cw2 (uv cc.length ++ cc) (parcelH cc) (parcelH_lt cc) (by simp; omega)) rfl) (by decide) ?_))
  rintro _ _ rfl
  rw [show uv cc.length ++ cc ++ uv (parcelH cc) = wholeB cc from rfl]
  have hwl : (wholeB cc).length ≤ 100000 := by
    simp only [wholeB, List.length_append]
    omega
  repeat (first | refine run ?_ | intro _)
  (first | ((with_reducible apply GO.atPlain); first | refine GO.ef (Ef.callAt (wDone_spec cw2 (wholeB cc) (by omega)) rfl) (by decide) ?_ | refine GO.ef (by exact Ef.callAt (wDone_spec cw2 (wholeB cc) (by omega)) rfl) (by decide) ?_) | ((with_reducible apply GPW.atEf); first | refine GPW.ef (Ef.callAt (wDone_spec cw2 (wholeB cc) (by omega)) rfl) (by decide) ?_ | refine GPW.ef (by exact Ef.callAt (wDone_spec cw2 (wholeB cc) (by omega)) rfl) (by decide) ?_))
  rintro _ _ ⟨ad3, cap3, rfl, hc3, rfl⟩
  repeat (first | refine run ?_ | intro _)
  refine KX.ends (by first | exact ResOk.tmps rfl | (repeat (first | exact ResOk.nil | refine ResOk.tmp rfl ?_ | refine ResOk.cell rfl (by rfl) ?_ | refine ResOk.cell1 rfl ?_))) ?_ ⟨ad3, cap3, rfl, hc3, rfl⟩
  refine Ent.take' ?_
  repeat (first | exact Ent.refl _ | exact Ent.nil _ | refine Ent.take' ?_ | refine Ent.trans Ent.drop ?_)
abbrev pkV (s k : Int) (m : Msg) : Value := .agg #[.int .i64 s, .int .i64 k, .slice m.ad m.bs.length m.cap]
set_option maxHeartbeats 1000000 in
theorem decode_spec {L : List HP} (ad : Option Addr) (n c : Nat) (l : List Int) [hrd : Rds L ad Int (encI .u8) 1 l] (hn : n = l.length) (hb : ByteL l) (hm : n ≤ 1000000) :
    Tri Try.prog 32 #[.slice ad n c] L (fun v L' => ∃ m : Msg, v = .tuple #[pkV (decP l).1.1 (decP l).1.2.1 m, .int .i64 (decP l).2] ∧ m.bs = (decP l).1.2.2 ∧ L' = msgP m :: L) := by
  subst hn
  have hl1 := readR_len l 0
  have hb1 := readR_byte 0 hb
  refine Tri.body (args := [.slice ad l.length c]) 42 en32 Try.func32 rfl rfl rfl (by simp) ?_
  repeat (first | refine run ?_ | intro _)
  rename_i rp
  (first | ((with_reducible apply GO.atPlain); first | refine GO.ef (Ef.callAll (read_spec ad l.length c l rfl (by omega)) rfl) (by decide) ?_ | refine GO.ef (by exact Ef.callAll (read_spec ad l.length c l rfl (by omega)) rfl) (by decide) ?_) | ((with_reducible apply GPW.atEf); first | refine GPW.ef (Ef.callAll (read_spec ad l.length c l rfl (by omega)) rfl) (by decide) ?_ | refine GPW.ef (by exact Ef.callAll (read_spec ad l.length c l rfl (by omega)) rfl) (by decide) ?_))
  rintro _ _ ⟨rb, rfl, rfl⟩
  repeat (first | refine run ?_ | intro _)
  (first | ((with_reducible apply GO.atPlain); first | refine GO.ef (Ef.callAt (rRaw_spec rb l 0 hb hm) rfl) (by decide) ?_ | refine GO.ef (by exact Ef.callAt (rRaw_spec rb l 0 hb hm) rfl) (by decide) ?_) | ((with_reducible apply GPW.atEf); first | refine GPW.ef (Ef.callAt (rRaw_spec rb l 0 hb hm) rfl) (by decide) ?_ | refine GPW.ef (by exact Ef.callAt (rRaw_spec rb l 0 hb hm) rfl) (by decide) ?_))
  rintro _ _ ⟨cad, ccap, rfl, hcc, rfl⟩
  have hD : decP l = decP l := rfl
  conv at hD => rhs; unfold decP
  generalize decP l = D at hD
  generalize readR l 0 = R1 at hl1 hb1 hcc hD
  obtain ⟨core, rest1, err1⟩ := R1
  simp only [] at hl1 hb1 hcc hD ⊢
  repeat (first | refine run ?_ | intro _)
  (first | ((with_reducible apply GO.atPlain); first | refine GO.ef (Ef.callAt (rUint_spec rb rest1 err1 hb1.2) rfl) (by decide) ?_ | refine GO.ef (by exact Ef.callAt (rUint_spec rb rest1 err1 hb1.2) rfl) (by decide) ?_) | ((with_reducible apply GPW.atEf); first | refine GPW.ef (Ef.callAt (rUint_spec rb rest1 err1 hb1.2) rfl) (by decide) ?_ | refine GPW.ef (by exact Ef.callAt (rUint_spec rb rest1 err1 hb1.2) rfl) (by decide) ?_))
  rintro _ _ ⟨rfl, rfl⟩
  have hu1 := readU_lt err1 hb1.2
  generalize readU rest1 err1 = U1 at hD hu1
  obtain ⟨sum, rest2, err2⟩ := U1
  simp only [] at hD hu1 ⊢
  repeat (first | refine run ?_ | intro _)
  (first | ((with_reducible apply GO.atPlain); first | refine GO.ef (Ef.callAt (rEnd_spec rb rest2 err2) rfl) (by decide) ?_ | refine GO.ef (by exact Ef.callAt (rEnd_spec rb rest2 err2) rfl) (by decide) ?_) | ((with_reducible apply GPW.atEf); first | refine GPW.ef (Ef.callAt (rEnd_spec rb rest2 err2) rfl) (by decide) ?_ | refine GPW.ef (by exact Ef.callAt (rEnd_spec rb rest2 err2) rfl) (by decide) ?_))
  rintro _ _ ⟨rfl, rfl⟩
  rw [show (if err2 ≠ 0 then err2 else if rest2 = [] then 0 else 2) = endE rest2 err2 from rfl]
  have hfail : ∀ {X : List HP}, Ent X (msgP ⟨none, 0, []⟩ :: X) := fun {X} => Ent.nilIsl (encI .u8) 1 none
  by_cases he : endE rest2 err2 = 0
  case neg =>
    rw [if_pos he] at hD
    subst hD
    repeat (first | refine run ?_ | intro _)
    refine KX.ends (vs := [pkV 0 0 ⟨none, 0, []⟩, .int .i64 2]) (ResOk.cell (cs := [.int .i64 0, .int .i64 0, .slice none 0 0]) rfl (by rfl) (ResOk.tmp rfl ResOk.nil)) ?_ ⟨⟨none, 0, []⟩, rfl, rfl, rfl⟩
    refine (hfail).trans (Ent.consR ?_)
    repeat (first | exact Ent.refl _ | exact Ent.nil _ | refine Ent.take' ?_ | refine Ent.trans Ent.drop ?_)
  rw [if_neg (by simp [he])] at hD
  repeat (first | refine run ?_ | intro _)
  (first | ((with_reducible apply GO.atPlain); first | refine GO.ef (Ef.callAll (bytes_spec parcelS cad core.length ccap core hb1.1 rfl hcc (by decide) (by omega)) rfl) (by decide) ?_ | refine GO.ef (by exact Ef.callAll (bytes_spec parcelS cad core.length ccap core hb1.1 rfl hcc (by decide) (by omega)) rfl) (by decide) ?_) | ((with_reducible apply GPW.atEf); first | refine GPW.ef (Ef.callAll (bytes_spec parcelS cad core.length ccap core hb1.1 rfl hcc (by decide) (by omega)) rfl) (by decide) ?_ | refine GPW.ef (by exact Ef.callAll (bytes_spec parcelS cad core.length ccap core hb1.1 rfl hcc (by decide) (by omega)) rfl) (by decide) ?_))
  rintro _ _ ⟨rfl, rfl⟩
  rw [show bytesH (numsOf parcelS) core = parcelH core from rfl]
  by_cases hs : sum = parcelH core
  case neg =>
    rw [if_pos hs] at hD
    subst hD
    repeat (first | refine run ?_ | intro _)
    refine KX.ends (vs := [pkV 0 0 ⟨none, 0, []⟩, .int .i64 19]) (ResOk.cell (cs := [.int .i64 0, .int .i64 0, .slice none 0 0]) rfl (by rfl) (ResOk.tmp rfl ResOk.nil)) ?_ ⟨⟨none, 0, []⟩, rfl, rfl, rfl⟩
    refine (hfail).trans (Ent.consR ?_)
    repeat (first | exact Ent.refl _ | exact Ent.nil _ | refine Ent.take' ?_ | refine Ent.trans Ent.drop ?_)
  rw [if_neg (by simp [hs])] at hD
  repeat (first | refine run ?_ | intro _)
  (first | ((with_reducible apply GO.atPlain); first | refine GO.ef (Ef.callAll (read_spec cad core.length ccap core rfl (by omega)) rfl) (by decide) ?_ | refine GO.ef (by exact Ef.callAll (read_spec cad core.length ccap core rfl (by omega)) rfl) (by decide) ?_) | ((with_reducible apply GPW.atEf); first | refine GPW.ef (Ef.callAll (read_spec cad core.length ccap core rfl (by omega)) rfl) (by decide) ?_ | refine GPW.ef (by exact Ef.callAll (read_spec cad core.length ccap core rfl (by omega)) rfl) (by decide) ?_))
  rintro _ _ ⟨rb2, rfl, rfl⟩
  repeat (first | refine run ?_ | intro _)
  (first | ((with_reducible apply GO.atPlain); first | refine GO.ef (Ef.callAt (rInt_spec rb2 core 0 hb1.1) rfl) (by decide) ?_ | refine GO.ef (by exact Ef.callAt (rInt_spec rb2 core 0 hb1.1) rfl) (by decide) ?_) | ((with_reducible apply GPW.atEf); first | refine GPW.ef (Ef.callAt (rInt_spec rb2 core 0 hb1.1) rfl) (by decide) ?_ | refine GPW.ef (by exact Ef.callAt (rInt_spec rb2 core 0 hb1.1) rfl) (by decide) ?_))
  rintro _ _ ⟨rfl, rfl⟩
  have hua := readU_lt 0 hb1.1
  have hba := readU_byte 0 hb1.1
  have hla := readU_len core 0
  generalize readU core 0 = UA at hD hua hba hla
  obtain ⟨na, ra, ea⟩ := UA
  simp only [] at hD hua hba hla ⊢
  repeat (first | refine run ?_ | intro _)
  (first | ((with_reducible apply GO.atPlain); first | refine GO.ef (Ef.callAt (rInt_spec rb2 ra ea hba) rfl) (by decide) ?_ | refine GO.ef (by exact Ef.callAt (rInt_spec rb2 ra ea hba) rfl) (by decide) ?_) | ((with_reducible apply GPW.atEf); first | refine GPW.ef (Ef.callAt (rInt_spec rb2 ra ea hba) rfl) (by decide) ?_ | refine GPW.ef (by exact Ef.callAt (rInt_spec rb2 ra ea hba) rfl) (by decide) ?_))
  rintro _ _ ⟨rfl, rfl⟩
  have hub := readU_lt ea hba
  have hbb := readU_byte ea hba
  have hlb := readU_len ra ea
  generalize readU ra ea = UB at hD hub hbb hlb
  obtain ⟨nb, rb', eb⟩ := UB
  simp only [] at hD hub hbb hlb ⊢
  repeat (first | refine run ?_ | intro _)
  (first | ((with_reducible apply GO.atPlain); first | refine GO.ef (Ef.callAt (rRaw_spec rb2 rb' eb hbb (by omega)) rfl) (by decide) ?_ | refine GO.ef (by exact Ef.callAt (rRaw_spec rb2 rb' eb hbb (by omega)) rfl) (by decide) ?_) | ((with_reducible apply GPW.atEf); first | refine GPW.ef (Ef.callAt (rRaw_spec rb2 rb' eb hbb (by omega)) rfl) (by decide) ?_ | refine GPW.ef (by exact Ef.callAt (rRaw_spec rb2 rb' eb hbb (by omega)) rfl) (by decide) ?_))
  rintro _ _ ⟨dad, dcap, rfl, hdc, rfl⟩
  generalize readR rb' eb = RC at hD hdc
  obtain ⟨cs, rc, ec⟩ := RC
  simp only [] at hD hdc ⊢
  repeat (first | refine run ?_ | intro _)
  rename_i pc
  (first | ((with_reducible apply GO.atPlain); first | refine GO.ef (Ef.callAt (rEnd_spec rb2 rc ec) rfl) (by decide) ?_ | refine GO.ef (by exact Ef.callAt (rEnd_spec rb2 rc ec) rfl) (by decide) ?_) | ((with_reducible apply GPW.atEf); first | refine GPW.ef (Ef.callAt (rEnd_spec rb2 rc ec) rfl) (by decide) ?_ | refine GPW.ef (by exact Ef.callAt (rEnd_spec rb2 rc ec) rfl) (by decide) ?_))
  rintro _ _ ⟨rfl, rfl⟩
  rw [show (if ec ≠ 0 then ec else if rc = [] then 0 else 2) = endE rc ec from rfl]
  by_cases hec : endE rc ec = 0
  case neg =>
    rw [if_pos (.inl hec)] at hD
    subst hD
    repeat (first | refine run ?_ | intro _)
    refine KX.ends (vs := [pkV 0 0 ⟨none, 0, []⟩, .int .i64 2]) (ResOk.cell (cs := [.int .i64 0, .int .i64 0, .slice none 0 0]) rfl (by rfl) (ResOk.tmp rfl ResOk.nil)) ?_ ⟨⟨none, 0, []⟩, rfl, rfl, rfl⟩
    refine (hfail).trans (Ent.consR ?_)
    repeat (first | exact Ent.refl _ | exact Ent.nil _ | refine Ent.take' ?_ | refine Ent.trans Ent.drop ?_)
  repeat (first | refine run ?_ | intro _)
  (first | ((with_reducible apply GO.atPlain); first | refine GO.ef (Ef.call (valid_spec (unzz na) (unzz nb) dad cs.length dcap) rfl (by repeat (first | exact Ent.refl _ | refine Ent.take ?_))) (by decide) ?_ | refine GO.ef (by exact Ef.call (valid_spec (unzz na) (unzz nb) dad cs.length dcap) rfl (by repeat (first | exact Ent.refl _ | refine Ent.take ?_))) (by decide) ?_) | ((with_reducible apply GPW.atEf); first | refine GPW.ef (Ef.call (valid_spec (unzz na) (unzz nb) dad cs.length dcap) rfl (by repeat (first | exact Ent.refl _ | refine Ent.take ?_))) (by decide) ?_ | refine GPW.ef (by exact Ef.call (valid_spec (unzz na) (unzz nb) dad cs.length dcap) rfl (by repeat (first | exact Ent.refl _ | refine Ent.take ?_))) (by decide) ?_))
  rintro _ _ ⟨_, ⟨rfl, rfl⟩, hL⟩
  simp only [List.cons_append, List.nil_append] at hL; subst hL
  cases hv : validB (unzz na) (unzz nb) cs.length with
  | false =>
    rw [if_pos (.inr hv)] at hD
    subst hD
    repeat (first | refine run ?_ | intro _)
    refine KX.ends (vs := [pkV 0 0 ⟨none, 0, []⟩, .int .i64 2]) (ResOk.cell (cs := [.int .i64 0, .int .i64 0, .slice none 0 0]) rfl (by rfl) (ResOk.tmp rfl ResOk.nil)) ?_ ⟨⟨none, 0, []⟩, rfl, rfl, rfl⟩
    refine (hfail).trans (Ent.consR ?_)
    repeat (first | exact Ent.refl _ | exact Ent.nil _ | refine Ent.take' ?_ | refine Ent.trans Ent.drop ?_)
  | true =>
    rw [if_neg (by simp [hec, hv])] at hD
    subst hD
    repeat (first | refine run ?_ | intro _)
    refine KX.ends (vs := [pkV (unzz na) (unzz nb) ⟨dad, dcap, cs⟩, .int .i64 0]) (ResOk.cell (cs := [.int .i64 (unzz na), .int .i64 (unzz nb), .slice dad cs.length dcap]) rfl (by rfl) (ResOk.tmp rfl ResOk.nil)) ?_ ⟨⟨dad, dcap, cs⟩, rfl, rfl, rfl⟩
    refine (Ent.frz dad).trans ?_
    refine Ent.take' ?_
    repeat (first | exact Ent.refl _ | exact Ent.nil _ | refine Ent.take' ?_ | refine Ent.trans Ent.drop ?_)
end Go.Proofs.Ytnpienjfapjjoaa
