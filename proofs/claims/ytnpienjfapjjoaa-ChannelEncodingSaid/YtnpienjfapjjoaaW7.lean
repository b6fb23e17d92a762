/- The model's decoding of a packet. -/
import Derived.Test.YtnpienjfapjjoaaW6
namespace Go.Proofs.Ytnpienjfapjjoaa
open Go.V
attribute [local irreducible] G GO GP GPW GPK Ev Ef EfR Ent CB GB validB
set_option maxHeartbeats 1000000 in
theorem rdecode_spec {L : List HP} (ad : Option Addr) (n c : Nat) (l : List Int) (hn : n = l.length) (hc : n ≤ c) (hb : ByteL l) (hm : n ≤ 1000000) :
    Tri Try.prog 33 #[.slice ad n c] (isl (encI .u8) 1 ad l :: L) (fun v L' => ∃ m : Msg, v = .tuple #[pkV (decP l).1.1 (decP l).1.2.1 m, .int .i64 (decP l).2] ∧ m.bs = (decP l).1.2.2 ∧ L' = msgP m :: isl (encI .u8) 1 ad l :: L) := by
  subst hn
  have hl1 := readR_len l 0
  have hb1 := readR_byte 0 hb
  refine Tri.body (args := [.slice ad l.length c]) 49 en33 Try.func33 rfl rfl rfl (by simp) ?_
  refine G.ent (Ent.dup (isl_pers _ _ _ _)) ?_
  repeat (first | refine run ?_ | intro _)
  rename_i rp rb
  refine GO.ent (Ent.trans (by repeat (first | exact Ent.refl _ | exact Ent.nil _ | refine Ent.take' ?_ | refine Ent.trans Ent.drop ?_)) (rfClose (L := obj rp 40 [.int .i64 0, .int .i64 0, .slice none 0 0] :: isl (encI .u8) 1 ad l :: L) (b := rb) (rest := l) (l := l) (err := 0) ⟨ad, 0, c⟩ ⟨fun _ => rfl, hc⟩)) ?_
  repeat (first | refine run ?_ | intro _)
  (first | ((with_reducible apply GO.atPlain); first | refine GO.ef (Ef.callAt (qRaw_spec rb l 0 hb hm) rfl) (by decide) ?_ | refine GO.ef (by exact Ef.callAt (qRaw_spec rb l 0 hb hm) rfl) (by decide) ?_) | ((with_reducible apply GPW.atEf); first | refine GPW.ef (Ef.callAt (qRaw_spec rb l 0 hb hm) rfl) (by decide) ?_ | refine GPW.ef (by exact Ef.callAt (qRaw_spec rb l 0 hb hm) rfl) (by decide) ?_))
  rintro _ _ ⟨⟨cad, ccap, core0⟩, rfl, hcr, hcc, rfl⟩
  have hD : decP l = decP l := rfl
  conv at hD => rhs; unfold decP
  generalize decP l = D at hD
  generalize readR l 0 = R1 at hl1 hb1 hcr hD
  obtain ⟨core, rest1, err1⟩ := R1
  simp only [] at hl1 hb1 hcr hcc hD ⊢
  subst hcr
  repeat (first | refine run ?_ | intro _)
  (first | ((with_reducible apply GO.atPlain); first | refine GO.ef (Ef.callAt (qUint_spec rb rest1 err1 hb1.2 (by omega)) rfl) (by decide) ?_ | refine GO.ef (by exact Ef.callAt (qUint_spec rb rest1 err1 hb1.2 (by omega)) rfl) (by decide) ?_) | ((with_reducible apply GPW.atEf); first | refine GPW.ef (Ef.callAt (qUint_spec rb rest1 err1 hb1.2 (by omega)) rfl) (by decide) ?_ | refine GPW.ef (by exact Ef.callAt (qUint_spec rb rest1 err1 hb1.2 (by omega)) rfl) (by decide) ?_))
  rintro _ _ ⟨rfl, rfl⟩
  have hu1 := readU_lt err1 hb1.2
  have hul1 := readU_len rest1 err1
  generalize readU rest1 err1 = U1 at hD hu1 hul1
  obtain ⟨sum, rest2, err2⟩ := U1
  simp only [] at hD hu1 hul1 ⊢
  repeat (first | refine run ?_ | intro _)
  (first | ((with_reducible apply GO.atPlain); first | refine GO.ef (Ef.callAt (qEnd_spec rb rest2 err2 (by omega)) rfl) (by decide) ?_ | refine GO.ef (by exact Ef.callAt (qEnd_spec rb rest2 err2 (by omega)) rfl) (by decide) ?_) | ((with_reducible apply GPW.atEf); first | refine GPW.ef (Ef.callAt (qEnd_spec rb rest2 err2 (by omega)) rfl) (by decide) ?_ | refine GPW.ef (by exact Ef.callAt (qEnd_spec rb rest2 err2 (by omega)) rfl) (by decide) ?_))
  rintro _ _ ⟨rfl, rfl⟩
  have hfail : ∀ {X : List HP}, Ent X (msgP ⟨none, 0, []⟩ :: X) := fun {X} => Ent.nilIsl (encI .u8) 1 none
  by_cases he : endE rest2 err2 = 0
  case neg =>
    rw [if_pos he] at hD
    subst hD
    repeat (first | refine run ?_ | intro _)
    refine KX.ends (vs := [pkV 0 0 ⟨none, 0, []⟩, .int .i64 2]) (ResOk.cell (cs := [.int .i64 0, .int .i64 0, .slice none 0 0]) rfl (by rfl) (ResOk.tmp rfl ResOk.nil)) ?_ ⟨⟨none, 0, []⟩, rfl, rfl, rfl⟩
    refine (hfail).trans (Ent.consR ?_)
    repeat (first | exact Ent.refl _ | exact Ent.nil _ | refine Ent.take' ?_ | refine Ent.trans Ent.drop ?_)
  rw [if_neg (by simp [he])] at hD
  repeat (first | refine run ?_ | intro _)
  (first | ((with_reducible apply GO.atPlain); first | refine GO.ef (Ef.callAll (rbytes_spec parcelS cad core0.length ccap core0 hb1.1 rfl (by decide) (by omega)) rfl) (by decide) ?_ | refine GO.ef (by exact Ef.callAll (rbytes_spec parcelS cad core0.length ccap core0 hb1.1 rfl (by decide) (by omega)) rfl) (by decide) ?_) | ((with_reducible apply GPW.atEf); first | refine GPW.ef (Ef.callAll (rbytes_spec parcelS cad core0.length ccap core0 hb1.1 rfl (by decide) (by omega)) rfl) (by decide) ?_ | refine GPW.ef (by exact Ef.callAll (rbytes_spec parcelS cad core0.length ccap core0 hb1.1 rfl (by decide) (by omega)) rfl) (by decide) ?_))
  rintro _ _ ⟨rfl, rfl⟩
  rw [show bytesH (numsOf parcelS) core0 = parcelH core0 from rfl]
  by_cases hs : sum = parcelH core0
  case neg =>
    rw [if_pos hs] at hD
    subst hD
    repeat (first | refine run ?_ | intro _)
    refine KX.ends (vs := [pkV 0 0 ⟨none, 0, []⟩, .int .i64 19]) (ResOk.cell (cs := [.int .i64 0, .int .i64 0, .slice none 0 0]) rfl (by rfl) (ResOk.tmp rfl ResOk.nil)) ?_ ⟨⟨none, 0, []⟩, rfl, rfl, rfl⟩
    refine (hfail).trans (Ent.consR ?_)
    repeat (first | exact Ent.refl _ | exact Ent.nil _ | refine Ent.take' ?_ | refine Ent.trans Ent.drop ?_)
  rw [if_neg (by simp [hs])] at hD
  repeat (first | refine run ?_ | intro _)
  rename_i rb2
  refine GO.ent (Ent.trans (by repeat (first | exact Ent.refl _ | exact Ent.nil _ | refine Ent.take' ?_ | refine Ent.trans Ent.drop ?_)) (rfClose (L := obj rp 40 [.int .i64 0, .int .i64 0, .slice none 0 0] :: isl (encI .u8) 1 ad l :: L) (b := rb2) (rest := core0) (l := core0) (err := 0) ⟨cad, 0, ccap⟩ ⟨fun _ => rfl, hcc⟩)) ?_
  repeat (first | refine run ?_ | intro _)
  (first | ((with_reducible apply GO.atPlain); first | refine GO.ef (Ef.callAt (qInt_spec rb2 core0 0 hb1.1 (by omega)) rfl) (by decide) ?_ | refine GO.ef (by exact Ef.callAt (qInt_spec rb2 core0 0 hb1.1 (by omega)) rfl) (by decide) ?_) | ((with_reducible apply GPW.atEf); first | refine GPW.ef (Ef.callAt (qInt_spec rb2 core0 0 hb1.1 (by omega)) rfl) (by decide) ?_ | refine GPW.ef (by exact Ef.callAt (qInt_spec rb2 core0 0 hb1.1 (by omega)) rfl) (by decide) ?_))
  rintro _ _ ⟨rfl, rfl⟩
  have hua := readU_lt 0 hb1.1
  have hba := readU_byte 0 hb1.1
  have hla := readU_len core0 0
  generalize readU core0 0 = UA at hD hua hba hla
  obtain ⟨na, ra, ea⟩ := UA
  simp only [] at hD hua hba hla ⊢
  repeat (first | refine run ?_ | intro _)
  (first | ((with_reducible apply GO.atPlain); first | refine GO.ef (Ef.callAt (qInt_spec rb2 ra ea hba (by omega)) rfl) (by decide) ?_ | refine GO.ef (by exact Ef.callAt (qInt_spec rb2 ra ea hba (by omega)) rfl) (by decide) ?_) | ((with_reducible apply GPW.atEf); first | refine GPW.ef (Ef.callAt (qInt_spec rb2 ra ea hba (by omega)) rfl) (by decide) ?_ | refine GPW.ef (by exact Ef.callAt (qInt_spec rb2 ra ea hba (by omega)) rfl) (by decide) ?_))
  rintro _ _ ⟨rfl, rfl⟩
  have hub := readU_lt ea hba
  have hbb := readU_byte ea hba
  have hlb := readU_len ra ea
  generalize readU ra ea = UB at hD hub hbb hlb
  obtain ⟨nb, rb', eb⟩ := UB
  simp only [] at hD hub hbb hlb ⊢
  repeat (first | refine run ?_ | intro _)
  (first | ((with_reducible apply GO.atPlain); first | refine GO.ef (Ef.callAt (qRaw_spec rb2 rb' eb hbb (by omega)) rfl) (by decide) ?_ | refine GO.ef (by exact Ef.callAt (qRaw_spec rb2 rb' eb hbb (by omega)) rfl) (by decide) ?_) | ((with_reducible apply GPW.atEf); first | refine GPW.ef (Ef.callAt (qRaw_spec rb2 rb' eb hbb (by omega)) rfl) (by decide) ?_ | refine GPW.ef (by exact Ef.callAt (qRaw_spec rb2 rb' eb hbb (by omega)) rfl) (by decide) ?_))
  rintro _ _ ⟨⟨dad, dcap, cs⟩, rfl, hcs, hdc, rfl⟩
  have hrl := readR_len rb' eb
  generalize readR rb' eb = RC at hD hcs hrl
  obtain ⟨cs', rc, ec⟩ := RC
  simp only [] at hD hcs hdc hrl ⊢
  subst hcs
  repeat (first | refine run ?_ | intro _)
  (first | ((with_reducible apply GO.atPlain); first | refine GO.ef (Ef.call (rvalid_spec (unzz na) (unzz nb) dad cs.length dcap) rfl (by repeat (first | exact Ent.refl _ | refine Ent.take ?_))) (by decide) ?_ | refine GO.ef (by exact Ef.call (rvalid_spec (unzz na) (unzz nb) dad cs.length dcap) rfl (by repeat (first | exact Ent.refl _ | refine Ent.take ?_))) (by decide) ?_) | ((with_reducible apply GPW.atEf); first | refine GPW.ef (Ef.call (rvalid_spec (unzz na) (unzz nb) dad cs.length dcap) rfl (by repeat (first | exact Ent.refl _ | refine Ent.take ?_))) (by decide) ?_ | refine GPW.ef (by exact Ef.call (rvalid_spec (unzz na) (unzz nb) dad cs.length dcap) rfl (by repeat (first | exact Ent.refl _ | refine Ent.take ?_))) (by decide) ?_))
  rintro _ _ ⟨_, ⟨rfl, rfl⟩, hL⟩
  simp only [List.cons_append, List.nil_append] at hL; subst hL
  repeat (first | refine run ?_ | intro _)
  (first | ((with_reducible apply GO.atPlain); first | refine GO.ef (Ef.callAt (qEnd_spec rb2 rc ec (by omega)) rfl) (by decide) ?_ | refine GO.ef (by exact Ef.callAt (qEnd_spec rb2 rc ec (by omega)) rfl) (by decide) ?_) | ((with_reducible apply GPW.atEf); first | refine GPW.ef (Ef.callAt (qEnd_spec rb2 rc ec (by omega)) rfl) (by decide) ?_ | refine GPW.ef (by exact Ef.callAt (qEnd_spec rb2 rc ec (by omega)) rfl) (by decide) ?_))
  rintro _ _ ⟨rfl, rfl⟩
  by_cases hec : endE rc ec = 0
  case neg =>
    rw [if_pos (.inl hec)] at hD
    subst hD
    repeat (first | refine run ?_ | intro _)
    refine KX.ends (vs := [pkV 0 0 ⟨none, 0, []⟩, .int .i64 2]) (ResOk.cell (cs := [.int .i64 0, .int .i64 0, .slice none 0 0]) rfl (by rfl) (ResOk.tmp rfl ResOk.nil)) ?_ ⟨⟨none, 0, []⟩, rfl, rfl, rfl⟩
    refine (hfail).trans (Ent.consR ?_)
    repeat (first | exact Ent.refl _ | exact Ent.nil _ | refine Ent.take' ?_ | refine Ent.trans Ent.drop ?_)
  cases hv : validB (unzz na) (unzz nb) cs.length with
  | false =>
    rw [if_pos (.inr hv)] at hD
    subst hD
    repeat (first | refine run ?_ | intro _)
    refine KX.ends (vs := [pkV 0 0 ⟨none, 0, []⟩, .int .i64 2]) (ResOk.cell (cs := [.int .i64 0, .int .i64 0, .slice none 0 0]) rfl (by rfl) (ResOk.tmp rfl ResOk.nil)) ?_ ⟨⟨none, 0, []⟩, rfl, rfl, rfl⟩
    refine (hfail).trans (Ent.consR ?_)
    repeat (first | exact Ent.refl _ | exact Ent.nil _ | refine Ent.take' ?_ | refine Ent.trans Ent.drop ?_)
  | true =>
    rw [if_neg (by simp [hec, hv])] at hD
    subst hD
    repeat (first | refine run ?_ | intro _)
    refine KX.ends (vs := [pkV (unzz na) (unzz nb) ⟨dad, dcap, cs⟩, .int .i64 0]) (ResOk.cell (cs := [.int .i64 (unzz na), .int .i64 (unzz nb), .slice dad cs.length dcap]) rfl (by rfl) (ResOk.tmp rfl ResOk.nil)) ?_ ⟨⟨dad, dcap, cs⟩, rfl, rfl, rfl⟩
    refine Ent.take' ?_
    repeat (first | exact Ent.refl _ | exact Ent.nil _ | refine Ent.take' ?_ | refine Ent.trans Ent.drop ?_)
end Go.Proofs.Ytnpienjfapjjoaa
