/- ChannelDetects. -/
import Derived.Test.YtnpienjfapjjoaaP3
import Derived.Test.YtnpienjfapjjoaaH2
import Derived.Test.YtnpienjfapjjoaaC5
namespace Go.Proofs.Ytnpienjfapjjoaa
open Go.V
theorem uv_pos (n : Nat) : 0 < (uv n).length := by
  by_cases h : n < 128
  · rw [uv_small h]; simp
  · rw [uv_big h]; simp
theorem xor_ne_self {a d : Nat} (h : d ≠ 0) : a ^^^ d ≠ a := by
  intro e
  have h2 := congrArg (fun x => a ^^^ x) e
  simp [← Nat.xor_assoc] at h2
  exact h h2
attribute [local irreducible] G GO GP GPW GPK Ev Ef EfR Ent CB GB validB
set_option maxHeartbeats 1000000 in
theorem detects_spec (seq : Int) (h0 : -9223372036854775808 ≤ seq ∧ seq ≤ 9223372036854775807) (ack : Int) (h1 : -9223372036854775808 ≤ ack ∧ ack ≤ 9223372036854775807) (ad : Option Addr) (n c : Nat) (b : List Int) (hn : n = b.length) (hm : n ≤ c ∧ c ≤ maxLen) (hb : ∀ x ∈ b, 0 ≤ x ∧ x ≤ 255) (at_ : Int) (h2 : -9223372036854775808 ≤ at_ ∧ at_ ≤ 9223372036854775807) (by_ : Int) (h3 : 0 ≤ by_ ∧ by_ ≤ 255) :
    Tri Try.prog 9 #[.int .i64 seq, .int .i64 ack, .slice ad n c, .int .i64 at_, .int .u8 by_] [isl (encI .u8) 1 ad b] (fun v L => v = .bool true ∧ True) := by
  refine Tri.body (args := [.int .i64 seq, .int .i64 ack, .slice ad n c, .int .i64 at_, .int .u8 by_]) 101 en9 Try.func9 rfl rfl rfl (by simp) ?_
  repeat (first | refine run ?_ | intro _)
  (first | ((with_reducible apply GO.atPlain); first | refine GO.ef (Ef.call (around_spec seq 100000 h0.1 h0.2 (by decide) (by decide)) rfl (by repeat (first | exact Ent.refl _ | refine Ent.take ?_))) (by decide) ?_ | refine GO.ef (by exact Ef.call (around_spec seq 100000 h0.1 h0.2 (by decide) (by decide)) rfl (by repeat (first | exact Ent.refl _ | refine Ent.take ?_))) (by decide) ?_) | ((with_reducible apply GPW.atEf); first | refine GPW.ef (Ef.call (around_spec seq 100000 h0.1 h0.2 (by decide) (by decide)) rfl (by repeat (first | exact Ent.refl _ | refine Ent.take ?_))) (by decide) ?_ | refine GPW.ef (by exact Ef.call (around_spec seq 100000 h0.1 h0.2 (by decide) (by decide)) rfl (by repeat (first | exact Ent.refl _ | refine Ent.take ?_))) (by decide) ?_))
  rintro _ _ ⟨_, ⟨rfl, rfl⟩, hL⟩
  simp only [List.cons_append, List.nil_append] at hL; subst hL
  have hs := around_bd seq (k := 100000) (by decide)
  generalize around seq 100000 = s at hs
  repeat (first | refine run ?_ | intro _)
  (first | ((with_reducible apply GO.atPlain); first | refine GO.ef (Ef.call (around_spec ack 100000 h1.1 h1.2 (by decide) (by decide)) rfl (by repeat (first | exact Ent.refl _ | refine Ent.take ?_))) (by decide) ?_ | refine GO.ef (by exact Ef.call (around_spec ack 100000 h1.1 h1.2 (by decide) (by decide)) rfl (by repeat (first | exact Ent.refl _ | refine Ent.take ?_))) (by decide) ?_) | ((with_reducible apply GPW.atEf); first | refine GPW.ef (Ef.call (around_spec ack 100000 h1.1 h1.2 (by decide) (by decide)) rfl (by repeat (first | exact Ent.refl _ | refine Ent.take ?_))) (by decide) ?_ | refine GPW.ef (by exact Ef.call (around_spec ack 100000 h1.1 h1.2 (by decide) (by decide)) rfl (by repeat (first | exact Ent.refl _ | refine Ent.take ?_))) (by decide) ?_))
  rintro _ _ ⟨_, ⟨rfl, rfl⟩, hL⟩
  simp only [List.cons_append, List.nil_append] at hL; subst hL
  have hk := around_bd ack (k := 100000) (by decide)
  generalize around ack 100000 = k at hk
  repeat (first | refine run ?_ | intro _)
  (first | ((with_reducible apply GO.atPlain); first | refine GO.ef (Ef.callAll (few_spec ad n c b 200 hn hm.1 (by decide) (by decide)) rfl) (by decide) ?_ | refine GO.ef (by exact Ef.callAll (few_spec ad n c b 200 hn hm.1 (by decide) (by decide)) rfl) (by decide) ?_) | ((with_reducible apply GPW.atEf); first | refine GPW.ef (Ef.callAll (few_spec ad n c b 200 hn hm.1 (by decide) (by decide)) rfl) (by decide) ?_ | refine GPW.ef (by exact Ef.callAll (few_spec ad n c b 200 hn hm.1 (by decide) (by decide)) rfl) (by decide) ?_))
  rintro _ _ ⟨fad, fcap, rfl, hfc, rfl⟩
  have hfl : (b.take (200 : Int).toNat).length ≤ 200 := by rw [List.length_take]; exact Nat.min_le_left _ _
  have hfb : ByteL (b.take (200 : Int).toNat) := fun x hx => hb x (List.mem_of_mem_take hx)
  generalize b.take (200 : Int).toNat = xs at hfl hfb hfc
  repeat (first | refine run ?_ | intro _)
  rename_i pp
  have hv : validB (1 + s) k xs.length = true := by simp [validB]; omega
  (first | ((with_reducible apply GO.atPlain); first | refine GO.ef (Ef.callAll (encode_ok (1 + s) k fad xs.length fcap xs rfl hfb ⟨by omega, by omega⟩ ⟨by omega, by omega⟩ hv) rfl) (by decide) ?_ | refine GO.ef (by exact Ef.callAll (encode_ok (1 + s) k fad xs.length fcap xs rfl hfb ⟨by omega, by omega⟩ ⟨by omega, by omega⟩ hv) rfl) (by decide) ?_) | ((with_reducible apply GPW.atEf); first | refine GPW.ef (Ef.callAll (encode_ok (1 + s) k fad xs.length fcap xs rfl hfb ⟨by omega, by omega⟩ ⟨by omega, by omega⟩ hv) rfl) (by decide) ?_ | refine GPW.ef (by exact Ef.callAll (encode_ok (1 + s) k fad xs.length fcap xs rfl hfb ⟨by omega, by omega⟩ ⟨by omega, by omega⟩ hv) rfl) (by decide) ?_))
  rintro _ _ ⟨ead, ecap, rfl, hec, rfl⟩
  have hcl := coreB_len (s := 1 + s) (k := k) (xs := xs) ⟨by omega, by omega⟩ ⟨by omega, by omega⟩ (by omega)
  have hcb := coreB_byte (1 + s) k hfb
  generalize coreB (1 + s) k xs = cc at hcl hcb hec
  have a4 := uv_len10 (n := cc.length) (by omega)
  have a5 := uv_len10 (parcelH_lt cc)
  have hwl : (wholeB cc).length = (uv cc.length).length + cc.length + (uv (parcelH cc)).length := by simp [wholeB]; omega
  have hup := uv_pos (parcelH cc)
  have hwb := wholeB_byte hcb
  repeat (first | refine run ?_ | intro _)
  (first | ((with_reducible apply GO.atPlain); first | refine GO.ef (Ef.callAll (read_spec ead (wholeB cc).length ecap (wholeB cc) rfl (by omega)) rfl) (by decide) ?_ | refine GO.ef (by exact Ef.callAll (read_spec ead (wholeB cc).length ecap (wholeB cc) rfl (by omega)) rfl) (by decide) ?_) | ((with_reducible apply GPW.atEf); first | refine GPW.ef (Ef.callAll (read_spec ead (wholeB cc).length ecap (wholeB cc) rfl (by omega)) rfl) (by decide) ?_ | refine GPW.ef (by exact Ef.callAll (read_spec ead (wholeB cc).length ecap (wholeB cc) rfl (by omega)) rfl) (by decide) ?_))
  rintro _ _ ⟨rb, rfl, rfl⟩
  repeat (first | refine run ?_ | intro _)
  (first | ((with_reducible apply GO.atPlain); first | refine GO.ef (Ef.callAt (rRaw_spec rb (wholeB cc) 0 hwb (by omega)) rfl) (by decide) ?_ | refine GO.ef (by exact Ef.callAt (rRaw_spec rb (wholeB cc) 0 hwb (by omega)) rfl) (by decide) ?_) | ((with_reducible apply GPW.atEf); first | refine GPW.ef (Ef.callAt (rRaw_spec rb (wholeB cc) 0 hwb (by omega)) rfl) (by decide) ?_ | refine GPW.ef (by exact Ef.callAt (rRaw_spec rb (wholeB cc) 0 hwb (by omega)) rfl) (by decide) ?_))
  rintro _ _ ⟨cad, ccap, rfl, hcc, rfl⟩
  have hR : readR (wholeB cc) 0 = (cc, uv (parcelH cc), 0) := readR_whole (by omega)
  rw [hR] at hcc ⊢
  simp only [] at hcc ⊢
  repeat (first | refine run ?_ | intro _)
  (first | ((with_reducible apply GO.atPlain); first | refine GO.ef (Ef.callAt (rUint_spec rb (uv (parcelH cc)) 0 (uv_byte _)) rfl) (by decide) ?_ | refine GO.ef (by exact Ef.callAt (rUint_spec rb (uv (parcelH cc)) 0 (uv_byte _)) rfl) (by decide) ?_) | ((with_reducible apply GPW.atEf); first | refine GPW.ef (Ef.callAt (rUint_spec rb (uv (parcelH cc)) 0 (uv_byte _)) rfl) (by decide) ?_ | refine GPW.ef (by exact Ef.callAt (rUint_spec rb (uv (parcelH cc)) 0 (uv_byte _)) rfl) (by decide) ?_))
  rintro _ _ ⟨rfl, rfl⟩
  have hU : readU (uv (parcelH cc)) 0 = (parcelH cc, [], 0) := by
    have := rdU_uv0 (parcelH_lt cc) []
    rw [List.append_nil] at this
    rw [readU, if_neg (by simp), this]
  rw [hU]
  simp only []
  repeat (first | refine run ?_ | intro _)
  rename_i wv
  refine GO.ent ((Ent.nilSl (encI .u8) 1 5).trans (Ent.swap.trans (wrClose (b := wv) (xs := []) ⟨none, 0, 0⟩))) ?_
  (first | ((with_reducible apply GO.atPlain); first | refine GO.ef (Ef.callAt (wUint_spec wv [] cc.length (by omega) (by simp)) rfl) (by decide) ?_ | refine GO.ef (by exact Ef.callAt (wUint_spec wv [] cc.length (by omega) (by simp)) rfl) (by decide) ?_) | ((with_reducible apply GPW.atEf); first | refine GPW.ef (Ef.callAt (wUint_spec wv [] cc.length (by omega) (by simp)) rfl) (by decide) ?_ | refine GPW.ef (by exact Ef.callAt (wUint_spec wv [] cc.length (by omega) (by simp)) rfl) (by decide) ?_))
  rintro _ _ rfl
  rw [List.nil_append]
  repeat (first | refine run ?_ | intro _)
  (first | ((with_reducible apply GO.atPlain); first | refine GO.ef (Ef.callAt (wDone_spec wv (uv cc.length) (by omega)) rfl) (by decide) ?_ | refine GO.ef (by exact Ef.callAt (wDone_spec wv (uv cc.length) (by omega)) rfl) (by decide) ?_) | ((with_reducible apply GPW.atEf); first | refine GPW.ef (Ef.callAt (wDone_spec wv (uv cc.length) (by omega)) rfl) (by decide) ?_ | refine GPW.ef (by exact Ef.callAt (wDone_spec wv (uv cc.length) (by omega)) rfl) (by decide) ?_))
  rintro _ _ ⟨dad, dcap, rfl, hdc, rfl⟩
  repeat (first | refine run ?_ | intro _)
  (first | ((with_reducible apply GO.atPlain); first | refine GO.ef (Ef.callAt (rEnd_spec rb [] 0) rfl) (by decide) ?_ | refine GO.ef (by exact Ef.callAt (rEnd_spec rb [] 0) rfl) (by decide) ?_) | ((with_reducible apply GPW.atEf); first | refine GPW.ef (Ef.callAt (rEnd_spec rb [] 0) rfl) (by decide) ?_ | refine GPW.ef (by exact Ef.callAt (rEnd_spec rb [] 0) rfl) (by decide) ?_))
  rintro _ _ ⟨rfl, rfl⟩
  rw [show (if (0 : Int) ≠ 0 then (0 : Int) else if ([] : List Int) = [] then 0 else 2) = 0 by simp]
  repeat (first | refine run ?_ | intro _)
  (first | ((with_reducible apply GO.atPlain); first | refine GO.ef (Ef.callAll (bytes_spec parcelS cad cc.length ccap cc hcb rfl hcc (by decide) (by omega)) rfl) (by decide) ?_ | refine GO.ef (by exact Ef.callAll (bytes_spec parcelS cad cc.length ccap cc hcb rfl hcc (by decide) (by omega)) rfl) (by decide) ?_) | ((with_reducible apply GPW.atEf); first | refine GPW.ef (Ef.callAll (bytes_spec parcelS cad cc.length ccap cc hcb rfl hcc (by decide) (by omega)) rfl) (by decide) ?_ | refine GPW.ef (by exact Ef.callAll (bytes_spec parcelS cad cc.length ccap cc hcb rfl hcc (by decide) (by omega)) rfl) (by decide) ?_))
  rintro _ _ ⟨rfl, rfl⟩
  rw [show bytesH (numsOf parcelS) cc = parcelH cc from rfl]
  repeat (first | refine run ?_ | intro _)
  (first | ((with_reducible apply GO.atPlain); first | refine GO.ef (Ef.call (around_spec at_ ((wholeB cc).length - (uv cc.length).length) h2.1 h2.2 (by omega) (by omega)) rfl (by repeat (first | exact Ent.refl _ | refine Ent.take ?_))) (by decide) ?_ | refine GO.ef (by exact Ef.call (around_spec at_ ((wholeB cc).length - (uv cc.length).length) h2.1 h2.2 (by omega) (by omega)) rfl (by repeat (first | exact Ent.refl _ | refine Ent.take ?_))) (by decide) ?_) | ((with_reducible apply GPW.atEf); first | refine GPW.ef (Ef.call (around_spec at_ ((wholeB cc).length - (uv cc.length).length) h2.1 h2.2 (by omega) (by omega)) rfl (by repeat (first | exact Ent.refl _ | refine Ent.take ?_))) (by decide) ?_ | refine GPW.ef (by exact Ef.call (around_spec at_ ((wholeB cc).length - (uv cc.length).length) h2.1 h2.2 (by omega) (by omega)) rfl (by repeat (first | exact Ent.refl _ | refine Ent.take ?_))) (by decide) ?_))
  rintro _ _ ⟨_, ⟨rfl, rfl⟩, hL⟩
  simp only [List.cons_append, List.nil_append] at hL; subst hL
  have hkk := around_bd at_ (k := (wholeB cc).length - (uv cc.length).length) (by omega)
  obtain ⟨j, hj⟩ : ∃ j : Nat, ((uv cc.length).length : Int) + around at_ ((wholeB cc).length - (uv cc.length).length) = (j : Int) := ⟨(((uv cc.length).length : Int) + around at_ ((wholeB cc).length - (uv cc.length).length)).toNat, by omega⟩
  have hj2 : j < (wholeB cc).length := by omega
  have hjb := hwb _ (List.getElem_mem hj2)
  have hwe : (wholeB cc)[j]! = (wholeB cc)[j] := by
    rw [List.getElem!_eq_getElem?_getD, List.getElem?_eq_getElem hj2]
    rfl
  obtain ⟨y0, hy0⟩ : ∃ y0 : Nat, (wholeB cc)[j] = (y0 : Int) := ⟨((wholeB cc)[j]).toNat, by omega⟩
  obtain ⟨d, hd⟩ : ∃ d : Nat, 1 + by_ % 255 = (d : Int) := ⟨(1 + by_ % 255).toNat, by omega⟩
  have hd2 : 1 ≤ d ∧ d ≤ 255 := by omega
  have hy2 : y0 ≤ 255 := by omega
  have hxl : y0 ^^^ d < 256 := Nat.xor_lt_two_pow (n := 8) (by omega) (by omega)
  repeat (first | ((fail_if_success (with_reducible refine G.atS 14 ?_)); (with_reducible apply G.seq)) | refine runS ?_ | intro _)
  rw [hj]
  repeat (first | refine run ?_ | intro _)
  rw [Int.toNat_natCast, hwe, hy0]
  (first | ((with_reducible apply GO.atPlain); first | refine GO.ev (Ev.addw rfl rfl) (by decide) ?_ | refine GO.ev (by exact Ev.addw rfl rfl) (by decide) ?_) | ((with_reducible apply GPW.atEv); first | refine GPW.evP (Ev.addw rfl rfl) (by decide) ?_ | refine GPW.evP (by exact Ev.addw rfl rfl) (by decide) ?_) | ((with_reducible apply GPW.atEv); first | refine GPW.evL (Ev.addw rfl rfl) (by decide) ?_ | refine GPW.evL (by exact Ev.addw rfl rfl) (by decide) ?_))
  rw [hd, IntWalk.u8_in (d : Int) (by omega)]
  (first | ((with_reducible apply GO.atPlain); first | refine GO.ev (Ev.xor8 rfl rfl (by omega) (by omega) (by omega) (by omega)) (by decide) ?_ | refine GO.ev (by exact Ev.xor8 rfl rfl (by omega) (by omega) (by omega) (by omega)) (by decide) ?_) | ((with_reducible apply GPW.atEv); first | refine GPW.evP (Ev.xor8 rfl rfl (by omega) (by omega) (by omega) (by omega)) (by decide) ?_ | refine GPW.evP (by exact Ev.xor8 rfl rfl (by omega) (by omega) (by omega) (by omega)) (by decide) ?_) | ((with_reducible apply GPW.atEv); first | refine GPW.evL (Ev.xor8 rfl rfl (by omega) (by omega) (by omega) (by omega)) (by decide) ?_ | refine GPW.evL (by exact Ev.xor8 rfl rfl (by omega) (by omega) (by omega) (by omega)) (by decide) ?_))
  rw [Int.toNat_natCast, Int.toNat_natCast]
  repeat (first | refine run ?_ | intro _)
  rw [Int.toNat_natCast]
  have hne : (wholeB cc)[j] ≠ ((y0 ^^^ d : Nat) : Int) := by
    rw [hy0]
    have := xor_ne_self (a := y0) (d := d) (by omega)
    omega
  have hdet := decP_detects hcb (by omega) (k := j) (y := ((y0 ^^^ d : Nat) : Int)) (by omega) hj2 ⟨by omega, by omega⟩ hne
  have hsb : ByteL ((wholeB cc).set j ((y0 ^^^ d : Nat) : Int)) := by
    intro x hx
    rcases List.mem_or_eq_of_mem_set hx with hx | hx
    · exact hwb x hx
    · subst hx; omega
  (first | ((with_reducible apply GO.atPlain); first | refine GO.ef (Ef.callAll (decode_spec ead (wholeB cc).length ecap ((wholeB cc).set j ((y0 ^^^ d : Nat) : Int)) (by rw [List.length_set]) hsb (by omega)) rfl) (by decide) ?_ | refine GO.ef (by exact Ef.callAll (decode_spec ead (wholeB cc).length ecap ((wholeB cc).set j ((y0 ^^^ d : Nat) : Int)) (by rw [List.length_set]) hsb (by omega)) rfl) (by decide) ?_) | ((with_reducible apply GPW.atEf); first | refine GPW.ef (Ef.callAll (decode_spec ead (wholeB cc).length ecap ((wholeB cc).set j ((y0 ^^^ d : Nat) : Int)) (by rw [List.length_set]) hsb (by omega)) rfl) (by decide) ?_ | refine GPW.ef (by exact Ef.callAll (decode_spec ead (wholeB cc).length ecap ((wholeB cc).set j ((y0 ^^^ d : Nat) : Int)) (by rw [List.length_set]) hsb (by omega)) rfl) (by decide) ?_))
  rintro _ _ ⟨m, rfl, hmb, rfl⟩
  generalize decP ((wholeB cc).set j ((y0 ^^^ d : Nat) : Int)) = D at hdet hmb
  obtain ⟨⟨d1, d2, d3⟩, err⟩ := D
  simp only [] at hdet hmb ⊢
  simp only [pkV]
  rcases hdet with rfl | rfl
  · repeat (first | refine run ?_ | intro _)
    (first | ((with_reducible apply GO.atPlain); first | refine GO.ef (Ef.call (lives_spec) rfl (by repeat (first | exact Ent.refl _ | refine Ent.take ?_))) (by decide) ?_ | refine GO.ef (by exact Ef.call (lives_spec) rfl (by repeat (first | exact Ent.refl _ | refine Ent.take ?_))) (by decide) ?_) | ((with_reducible apply GPW.atEf); first | refine GPW.ef (Ef.call (lives_spec) rfl (by repeat (first | exact Ent.refl _ | refine Ent.take ?_))) (by decide) ?_ | refine GPW.ef (by exact Ef.call (lives_spec) rfl (by repeat (first | exact Ent.refl _ | refine Ent.take ?_))) (by decide) ?_))
    rintro _ _ ⟨_, ⟨rfl, rfl⟩, hL⟩
    simp only [List.cons_append, List.nil_append] at hL; subst hL
    repeat (first | refine run ?_ | intro _)
    exact KX.ends (by first | exact ResOk.tmps rfl | (repeat (first | exact ResOk.nil | refine ResOk.tmp rfl ?_ | refine ResOk.cell rfl (by rfl) ?_ | refine ResOk.cell1 rfl ?_))) (Ent.nil _) ⟨rfl, trivial⟩
  · repeat (first | refine run ?_ | intro _)
    (first | ((with_reducible apply GO.atPlain); first | refine GO.ef (Ef.call (lives_spec) rfl (by repeat (first | exact Ent.refl _ | refine Ent.take ?_))) (by decide) ?_ | refine GO.ef (by exact Ef.call (lives_spec) rfl (by repeat (first | exact Ent.refl _ | refine Ent.take ?_))) (by decide) ?_) | ((with_reducible apply GPW.atEf); first | refine GPW.ef (Ef.call (lives_spec) rfl (by repeat (first | exact Ent.refl _ | refine Ent.take ?_))) (by decide) ?_ | refine GPW.ef (by exact Ef.call (lives_spec) rfl (by repeat (first | exact Ent.refl _ | refine Ent.take ?_))) (by decide) ?_))
    rintro _ _ ⟨_, ⟨rfl, rfl⟩, hL⟩
    simp only [List.cons_append, List.nil_append] at hL; subst hL
    repeat (first | refine run ?_ | intro _)
    exact KX.ends (by first | exact ResOk.tmps rfl | (repeat (first | exact ResOk.nil | refine ResOk.tmp rfl ?_ | refine ResOk.cell rfl (by rfl) ?_ | refine ResOk.cell1 rfl ?_))) (Ent.nil _) ⟨rfl, trivial⟩
end Go.Proofs.Ytnpienjfapjjoaa
