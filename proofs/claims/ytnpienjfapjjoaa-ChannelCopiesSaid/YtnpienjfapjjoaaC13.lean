/- ChannelCopies. -/
import Derived.Test.YtnpienjfapjjoaaC7
import Derived.Test.YtnpienjfapjjoaaV10
namespace Go.Proofs.Ytnpienjfapjjoaa
open Go.V
theorem cloner : IsMapClone Try.prog 63 := ⟨fun args w => run_callFunc_extern Try.func63 (by kernel_rfl) (by kernel_rfl) (by kernel_rfl) (e := Extern.MapsClone.clone) (by kernel_rfl) args w⟩
theorem ordE_out_bytes {ps : List Pkt} {w : Int} {n : Nat} {ow : Bool} (hw : 1 ≤ w) (hps : ps.map Pkt.abs = (ordE w (bytesN n) 0 0 ow).out) (how : n = 0 → ow = false) : ps.length = min w.toNat n ∧ ∀ i, i < ps.length → (ps[i]!).seq = i + 1 ∧ (ps[i]!).m.bs = [(i : Int)] := by
  have hl := len_of hps
  by_cases hn : 0 < n
  · rw [ordE_out_len _ _ _ _ _ hw (by rw [bytesN_len]; exact hn), bytesN_len] at hl
    refine ⟨by omega, fun i hi => ?_⟩
    have hg := abs_get hps i (by rw [← len_of hps]; exact hi)
    rw [ordE_out_get _ _ _ _ _ hw (by rw [bytesN_len]; exact hn)] at hg
    simp only [Pkt.abs, Prod.mk.injEq] at hg
    obtain ⟨g1, g2, g3⟩ := hg
    rw [bytesN_get _ _ (by omega)] at g3
    refine ⟨by omega, ?_⟩
    rw [g3]
    congr 1
    omega
  · have h0 : n = 0 := by omega
    rw [ordE_out_none _ _ _ _ _ (by rw [bytesN_len]; omega), how h0] at hl
    have : ps.length = 0 := by simpa using hl
    refine ⟨by omega, fun i hi => ?_⟩
    omega
theorem bytesN_small {n : Nat} {m : Bytes} {a : Nat} (hm : m ∈ (bytesN n).drop a) : m.length ≤ 65536 := by have := bytesN_mem (List.mem_of_mem_drop hm); omega
attribute [local irreducible] G GO GP GPW GPK Ev Ef Ent CB GB validB
theorem cloneMap_spec {L : List HP} {α : Type} (enc : α → Value) (b : Nat) (m : List (Int × α)) :
    Tri Try.prog 47 #[.map (some b)] (omap enc b m :: L) (fun v L' => ∃ b', v = .map (some b') ∧ L' = omap enc b' m :: omap enc b m :: L) := by
  refine Tri.body (args := [.map (some b)]) 9 en47 Try.func47 rfl rfl rfl (by simp) ?_
  repeat (first | refine run ?_ | intro _)
  (first | ((with_reducible apply GO.atPlain); first | refine GO.ev (Ev.mapNil rfl rfl) (by decide) ?_ | refine GO.ev (by exact Ev.mapNil rfl rfl) (by decide) ?_) | ((with_reducible apply GPW.atEv); first | refine GPW.evP (Ev.mapNil rfl rfl) (by decide) ?_ | refine GPW.evP (by exact Ev.mapNil rfl rfl) (by decide) ?_) | ((with_reducible apply GPW.atEv); first | refine GPW.evL (Ev.mapNil rfl rfl) (by decide) ?_ | refine GPW.evL (by exact Ev.mapNil rfl rfl) (by decide) ?_))
  repeat (first | refine run ?_ | intro _)
  (first | ((with_reducible apply GO.atPlain); first | refine GO.ev (Ev.mapIface rfl) (by decide) ?_ | refine GO.ev (by exact Ev.mapIface rfl) (by decide) ?_) | ((with_reducible apply GPW.atEv); first | refine GPW.evP (Ev.mapIface rfl) (by decide) ?_ | refine GPW.evP (by exact Ev.mapIface rfl) (by decide) ?_) | ((with_reducible apply GPW.atEv); first | refine GPW.evL (Ev.mapIface rfl) (by decide) ?_ | refine GPW.evL (by exact Ev.mapIface rfl) (by decide) ?_))
  repeat (first | refine run ?_ | intro _)
  (first | ((with_reducible apply GO.atPlain); first | refine GO.ef (Ef.mapClone cloner rfl) (by decide) ?_ | refine GO.ef (by exact Ef.mapClone cloner rfl) (by decide) ?_) | ((with_reducible apply GPW.atEf); first | refine GPW.ef (Ef.mapClone cloner rfl) (by decide) ?_ | refine GPW.ef (by exact Ef.mapClone cloner rfl) (by decide) ?_) | ((with_reducible apply GO.atUnit); first | refine GO.efu (Ef.mapClone cloner rfl) ?_ | refine GO.efu (by exact Ef.mapClone cloner rfl) ?_) | ((with_reducible apply GPW.atEfu); first | refine GPW.efu (Ef.mapClone cloner rfl) ?_ | refine GPW.efu (by exact Ef.mapClone cloner rfl) ?_))
  rintro _ _ ⟨b', rfl, rfl⟩
  repeat (first | refine run ?_ | intro _)
  (first | ((with_reducible apply GO.atPlain); first | refine GO.ev (Ev.mapOf rfl) (by decide) ?_ | refine GO.ev (by exact Ev.mapOf rfl) (by decide) ?_) | ((with_reducible apply GPW.atEv); first | refine GPW.evP (Ev.mapOf rfl) (by decide) ?_ | refine GPW.evP (by exact Ev.mapOf rfl) (by decide) ?_) | ((with_reducible apply GPW.atEv); first | refine GPW.evL (Ev.mapOf rfl) (by decide) ?_ | refine GPW.evL (by exact Ev.mapOf rfl) (by decide) ?_))
  repeat (first | refine run ?_ | intro _)
  exact KX.ends (by first | exact ResOk.tmps rfl | (repeat (first | exact ResOk.nil | refine ResOk.tmp rfl ?_ | refine ResOk.cell rfl (by rfl) ?_ | refine ResOk.cell1 rfl ?_))) (Ent.refl _) ⟨b', rfl, rfl⟩
theorem copy_spec {L : List HP} (b : Nat) (E : EndS) (hE : E.Ok) :
    Tri Try.prog 26 #[.pointer (some ⟨b, 0, none⟩)] (EndR b E :: L) (fun v L' => ∃ b', v = .pointer (some ⟨b', 0, none⟩) ∧ L' = EndR b' E :: EndR b E :: L) := by
  refine Tri.body (args := [.pointer (some ⟨b, 0, none⟩)]) 19 en26 Try.func26 rfl rfl rfl (by simp) ?_
  refine G.openX (f := endAtoms b E) ?_
  intro x
  simp only [endAtoms, List.cons_append, List.nil_append]
  refine G.pureE ?_
  rintro ⟨hms, hhs⟩
  have hlen : x.ms.length = E.waiting.length := by rw [← hms]; simp
  have h1 := hE.wait
  repeat (first | refine run ?_ | intro _)
  rename_i b'
  (first | ((with_reducible apply GO.atPlain); first | refine GO.ef (Ef.callAll (cloneM_spec _ _ _ x.ms rfl (by omega)) rfl) (by decide) ?_ | refine GO.ef (by exact Ef.callAll (cloneM_spec _ _ _ x.ms rfl (by omega)) rfl) (by decide) ?_) | ((with_reducible apply GPW.atEf); first | refine GPW.ef (Ef.callAll (cloneM_spec _ _ _ x.ms rfl (by omega)) rfl) (by decide) ?_ | refine GPW.ef (by exact Ef.callAll (cloneM_spec _ _ _ x.ms rfl (by omega)) rfl) (by decide) ?_))
  rintro _ _ ⟨ad1, cap1, rfl, rfl⟩
  repeat (first | refine run ?_ | intro _)
  (first | ((with_reducible apply GO.atPlain); first | refine GO.ef (Ef.callAt (cloneMap_spec Msg.v x.mb x.hs) rfl) (by decide) ?_ | refine GO.ef (by exact Ef.callAt (cloneMap_spec Msg.v x.mb x.hs) rfl) (by decide) ?_) | ((with_reducible apply GPW.atEf); first | refine GPW.ef (Ef.callAt (cloneMap_spec Msg.v x.mb x.hs) rfl) (by decide) ?_ | refine GPW.ef (by exact Ef.callAt (cloneMap_spec Msg.v x.mb x.hs) rfl) (by decide) ?_))
  rintro _ _ ⟨mb', rfl, rfl⟩
  repeat (first | refine run ?_ | intro _)
  refine KX.ends (by first | exact ResOk.tmps rfl | (repeat (first | exact ResOk.nil | refine ResOk.tmp rfl ?_ | refine ResOk.cell rfl (by rfl) ?_ | refine ResOk.cell1 rfl ?_))) ?_ ⟨b', rfl, rfl⟩
  refine (Ent.at (A := allP msgP x.ms) (Ent.dup (allP_pers _ _))).trans ?_
  refine (Ent.at (A := allP (fun p : Int × Msg => msgP p.2) x.hs) (Ent.dup (allP_pers _ _))).trans ?_
  refine Ent.trans ?_ (endClose ⟨ad1, cap1, mb', x.ms, x.hs⟩ ⟨hms, hhs⟩)
  refine Ent.take' (Ent.take' (Ent.take' (Ent.take' (Ent.take' (Ent.trans ?_ (endClose x ⟨hms, hhs⟩))))))
  repeat (first | exact Ent.refl _ | exact Ent.nil _ | refine Ent.take' ?_ | refine Ent.trans Ent.drop ?_)
/-- What is there at the head of the loop: e[0], and the copy, if it was made. -/
def cpL (a : Nat) (E : EndS) : Option Nat → List HP
  | none => [EndR a E]
  | some c => [EndR c E, EndR a E]
def ptrO (c : Option Nat) : Value := .pointer (c.map fun b => ⟨b, 0, none⟩)
set_option maxHeartbeats 2000000 in
theorem copies_spec (window : Int) (h0 : -9223372036854775808 ≤ window ∧ window ≤ 9223372036854775807) (many : Int) (h1 : -9223372036854775808 ≤ many ∧ many ≤ 9223372036854775807) (cut : Int) (h2 : -9223372036854775808 ≤ cut ∧ cut ≤ 9223372036854775807) :
    Tri Try.prog 7 #[.int .i64 window, .int .i64 many, .int .i64 cut] [] (fun v L => v = .bool true ∧ L = []) := by
  refine Tri.body (args := [.int .i64 window, .int .i64 many, .int .i64 cut]) 157 en7 Try.func7 rfl rfl rfl (by simp) ?_
  repeat (first | refine run ?_ | intro _)
  (first | ((with_reducible apply GO.atPlain); first | refine GO.ef (Ef.call (ends_spec window h0) rfl (by repeat (first | exact Ent.refl _ | refine Ent.take ?_))) (by decide) ?_ | refine GO.ef (by exact Ef.call (ends_spec window h0) rfl (by repeat (first | exact Ent.refl _ | refine Ent.take ?_))) (by decide) ?_) | ((with_reducible apply GPW.atEf); first | refine GPW.ef (Ef.call (ends_spec window h0) rfl (by repeat (first | exact Ent.refl _ | refine Ent.take ?_))) (by decide) ?_ | refine GPW.ef (by exact Ef.call (ends_spec window h0) rfl (by repeat (first | exact Ent.refl _ | refine Ent.take ?_))) (by decide) ?_))
  rintro _ _ ⟨_, ⟨ce, a, b, rfl, rfl⟩, hL⟩
  simp only [List.cons_append, List.nil_append] at hL; subst hL
  have hw0 := around_bd window (k := 16) (by decide)
  obtain ⟨w0, e0⟩ : ∃ w0, 1 + around window 16 = w0 := ⟨_, rfl⟩
  have hw : 1 ≤ w0 ∧ w0 ≤ 16 := by omega
  rw [e0]
  clear e0 hw0
  repeat (first | refine run ?_ | intro _)
  (first | ((with_reducible apply GO.atPlain); first | refine GO.ef (Ef.call (around_spec many 12 h1.1 h1.2 (by decide) (by decide)) rfl (by repeat (first | exact Ent.refl _ | refine Ent.take ?_))) (by decide) ?_ | refine GO.ef (by exact Ef.call (around_spec many 12 h1.1 h1.2 (by decide) (by decide)) rfl (by repeat (first | exact Ent.refl _ | refine Ent.take ?_))) (by decide) ?_) | ((with_reducible apply GPW.atEf); first | refine GPW.ef (Ef.call (around_spec many 12 h1.1 h1.2 (by decide) (by decide)) rfl (by repeat (first | exact Ent.refl _ | refine Ent.take ?_))) (by decide) ?_ | refine GPW.ef (by exact Ef.call (around_spec many 12 h1.1 h1.2 (by decide) (by decide)) rfl (by repeat (first | exact Ent.refl _ | refine Ent.take ?_))) (by decide) ?_))
  rintro _ _ ⟨_, ⟨rfl, rfl⟩, hL⟩
  simp only [List.cons_append, List.nil_append] at hL; subst hL
  have hm0 := around_bd many (k := 12) (by decide)
  obtain ⟨n, e0⟩ : ∃ n : Nat, around many 12 = n := ⟨(around many 12).toNat, by omega⟩
  rw [e0]
  have hn : n ≤ 11 := by omega
  clear e0 hm0
  have hla : ([a, b]).length = 2 := rfl
  have hcb : 1 ≤ n → 0 ≤ around cut n ∧ around cut n < n := fun h => around_bd cut (by omega)
  repeat (first | ((fail_if_success (with_reducible refine G.atSS 7 ?_)); (with_reducible apply G.seq)) | refine runS ?_ | intro _)
  rename_i cb
  refine G.ent (Ent.objSl (enc := encI .u8) (sz := 1) (n := 1) (xs := [(0 : Int)]) rfl rfl (fun _ _ => rfl) (by decide)) ?_
  have hst : Ent [osl (encI .u8) 1 5 (some ⟨cb, 0, none⟩) 1 [(0 : Int)], osl encP 1 33 (some ⟨ce, 0, none⟩) 2 [a, b], EndR b (EndS.new (1 + around (window.tdiv 16) 16)), EndR a (EndS.new w0)]
     (osl (encI .u8) 1 5 (some ⟨cb, 0, none⟩) 1 [(0 : Int)] :: osl encP 1 33 (some ⟨ce, 0, none⟩) 2 [a, b] :: cpL a (ordE w0 (bytesN 0) 0 0 false) none) := by
    rw [show ordE w0 (bytesN 0) 0 0 false = EndS.new w0 from rfl]
    simp only [cpL]
    repeat (first | exact Ent.refl _ | exact Ent.nil _ | refine Ent.take' ?_ | refine Ent.trans Ent.drop ?_)
  refine G.ent hst ?_
  clear hst
  refine G.join (α := Option Nat) (fun c => (c = none → n = 0)) (fun c => [(7, .slice (some ⟨ce, 0, none⟩) 2 2), (8, .int .i64 n), (10, ptrO c)]) (fun c => osl encP 1 33 (some ⟨ce, 0, none⟩) 2 [a, b] :: cpL a (ordE w0 (bytesN n) 0 0 false) c) ?_ ?_
  · repeat (first | refine run ?_ | intro _)
    refine G.loop (α := Int × Int × Option Nat) (fun (i, _, c) => 0 ≤ i ∧ i ≤ n ∧ (c = none → n = 0 ∨ i ≤ around cut n) ∧ (c ≠ none → around cut n < i))
      (fun (i, _, c) => [(2, .int .i64 cut), (7, .slice (some ⟨ce, 0, none⟩) 2 2), (8, .int .i64 n), (9, .slice (some ⟨cb, 0, none⟩) 1 1), (10, ptrO c), (11, .int .i64 i)])
      (fun (i, y, c) => osl (encI .u8) 1 5 (some ⟨cb, 0, none⟩) 1 [y] :: osl encP 1 33 (some ⟨ce, 0, none⟩) 2 [a, b] :: cpL a (ordE w0 (bytesN i.toNat) 0 0 false) c)
      (fun (i, _) => (n - i).toNat) (0, 0, none) ⟨by omega, by omega, fun _ => by by_cases h : n = 0; exact .inl h; exact .inr (hcb (by omega)).1, fun h => absurd rfl h⟩ (by repeat (first | exact EnvSub.nil _ | refine EnvSub.cons rfl ?_)) (Ent.refl _) ?_
    rintro ⟨i, y, c⟩ ⟨hi0, hi1, hc1, hc2⟩
    simp only [] at hi0 hi1 hc1 hc2 ⊢
    repeat (first | refine run ?_ | intro _)
    (first | with_reducible refine CB.dec (fun _ => ?_) (fun _ => ?_) | with_reducible refine GB.dec (fun _ => ?_) (fun _ => ?_) | with_reducible refine CB.bool (fun _ => ?_) (fun _ => ?_) | with_reducible refine GB.bool (fun _ => ?_) (fun _ => ?_))
    case refine_2 =>
      repeat (first | refine run ?_ | intro _)
      have hh : i.toNat = n := by omega
      rw [hh]
      refine ⟨c, fun h => ?_, (by repeat (first | exact EnvSub.nil _ | refine EnvSub.cons rfl ?_)), by repeat (first | exact Ent.refl _ | exact Ent.nil _ | refine Ent.take' ?_ | refine Ent.trans Ent.drop ?_)⟩
      rcases hc1 h with h | h
      · exact h
      · rcases Nat.eq_zero_or_pos n with h' | h'
        · exact h'
        · have := hcb h'
          omega
    rename_i hi2
    have hcb' := hcb (by omega)
    have hly : ([y]).length = 1 := rfl
    have hok := ordE_ok (w := w0) (ms := bytesN i.toNat) (a := 0) (d := 0) (ow := false) hw.1 hw.2 (by rw [bytesN_len]; omega) (by omega)
    have hsend : (ordE w0 (bytesN i.toNat) 0 0 false).send [i] = ordE w0 (bytesN (i + 1).toNat) 0 0 false := by
      rw [show (i + 1).toNat = i.toNat + 1 by omega, bytesN_succ, show ((i.toNat : Nat) : Int) = i by omega]
      simp [EndS.send, ordE]
    have hwl : (ordE w0 (bytesN i.toNat) 0 0 false).waiting.length < 1000 := by simp [ordE, bytesN_len]; omega
    repeat (first | refine run ?_ | intro _)
    (first | ((with_reducible apply GO.atPlain); first | refine GO.ef (Ef.call (around_spec cut n h2.1 h2.2 (by omega) (by omega)) rfl (by repeat (first | exact Ent.refl _ | refine Ent.take ?_))) (by decide) ?_ | refine GO.ef (by exact Ef.call (around_spec cut n h2.1 h2.2 (by omega) (by omega)) rfl (by repeat (first | exact Ent.refl _ | refine Ent.take ?_))) (by decide) ?_) | ((with_reducible apply GPW.atEf); first | refine GPW.ef (Ef.call (around_spec cut n h2.1 h2.2 (by omega) (by omega)) rfl (by repeat (first | exact Ent.refl _ | refine Ent.take ?_))) (by decide) ?_ | refine GPW.ef (by exact Ef.call (around_spec cut n h2.1 h2.2 (by omega) (by omega)) rfl (by repeat (first | exact Ent.refl _ | refine Ent.take ?_))) (by decide) ?_))
    rintro _ _ ⟨_, ⟨rfl, rfl⟩, hL⟩
    simp only [List.cons_append, List.nil_append] at hL; subst hL
    cases c with
    | none =>
      have hc3 := hc1 rfl
      simp only [cpL]
      by_cases hcut : i = around cut n
      · repeat (first | refine run ?_ | intro _)
        rw [show ([a, b])[(0 : Int).toNat]! = a from rfl]
        (first | ((with_reducible apply GO.atPlain); first | refine GO.ef (Ef.callAt (copy_spec a _ hok) rfl) (by decide) ?_ | refine GO.ef (by exact Ef.callAt (copy_spec a _ hok) rfl) (by decide) ?_) | ((with_reducible apply GPW.atEf); first | refine GPW.ef (Ef.callAt (copy_spec a _ hok) rfl) (by decide) ?_ | refine GPW.ef (by exact Ef.callAt (copy_spec a _ hok) rfl) (by decide) ?_))
        rintro _ _ ⟨c, rfl, rfl⟩
        repeat (first | refine run ?_ | intro _)
        rw [show ([y]).set (0 : Int).toNat i = [i] from rfl, show ([a, b])[(0 : Int).toNat]! = a from rfl]
        (first | ((with_reducible apply GO.atPlain); first | refine GO.ef (Ef.callAt (send_spec a _ (some ⟨cb, 0, none⟩) 1 1 [i] rfl hok (by decide) hwl) rfl) (by decide) ?_ | refine GO.ef (by exact Ef.callAt (send_spec a _ (some ⟨cb, 0, none⟩) 1 1 [i] rfl hok (by decide) hwl) rfl) (by decide) ?_) | ((with_reducible apply GPW.atEf); first | refine GPW.ef (Ef.callAt (send_spec a _ (some ⟨cb, 0, none⟩) 1 1 [i] rfl hok (by decide) hwl) rfl) (by decide) ?_ | refine GPW.ef (by exact Ef.callAt (send_spec a _ (some ⟨cb, 0, none⟩) 1 1 [i] rfl hok (by decide) hwl) rfl) (by decide) ?_))
        rintro _ _ ⟨rfl, rfl⟩
        repeat (first | refine run ?_ | intro _)
        (first | ((with_reducible apply GO.atPlain); first | refine GO.ef (Ef.callAt (send_spec c _ (some ⟨cb, 0, none⟩) 1 1 [i] rfl hok (by decide) hwl) rfl) (by decide) ?_ | refine GO.ef (by exact Ef.callAt (send_spec c _ (some ⟨cb, 0, none⟩) 1 1 [i] rfl hok (by decide) hwl) rfl) (by decide) ?_) | ((with_reducible apply GPW.atEf); first | refine GPW.ef (Ef.callAt (send_spec c _ (some ⟨cb, 0, none⟩) 1 1 [i] rfl hok (by decide) hwl) rfl) (by decide) ?_ | refine GPW.ef (by exact Ef.callAt (send_spec c _ (some ⟨cb, 0, none⟩) 1 1 [i] rfl hok (by decide) hwl) rfl) (by decide) ?_))
        rintro _ _ ⟨rfl, rfl⟩
        rw [hsend]
        repeat (first | refine run ?_ | intro _)
        refine ⟨(i + 1, i, some c), ⟨by simp only []; omega, by simp only []; omega, (by simp), fun _ => by simp only []; omega⟩, by simp only []; omega, (by repeat (first | exact EnvSub.nil _ | refine EnvSub.cons rfl ?_)), ?_⟩
        simp only [cpL]
        repeat (first | exact Ent.refl _ | exact Ent.nil _ | refine Ent.take' ?_ | refine Ent.trans Ent.drop ?_)
      · repeat (first | refine run ?_ | intro _)
        rw [show ([y]).set (0 : Int).toNat i = [i] from rfl, show ([a, b])[(0 : Int).toNat]! = a from rfl]
        (first | ((with_reducible apply GO.atPlain); first | refine GO.ef (Ef.callAt (send_spec a _ (some ⟨cb, 0, none⟩) 1 1 [i] rfl hok (by decide) hwl) rfl) (by decide) ?_ | refine GO.ef (by exact Ef.callAt (send_spec a _ (some ⟨cb, 0, none⟩) 1 1 [i] rfl hok (by decide) hwl) rfl) (by decide) ?_) | ((with_reducible apply GPW.atEf); first | refine GPW.ef (Ef.callAt (send_spec a _ (some ⟨cb, 0, none⟩) 1 1 [i] rfl hok (by decide) hwl) rfl) (by decide) ?_ | refine GPW.ef (by exact Ef.callAt (send_spec a _ (some ⟨cb, 0, none⟩) 1 1 [i] rfl hok (by decide) hwl) rfl) (by decide) ?_))
        rintro _ _ ⟨rfl, rfl⟩
        rw [hsend]
        repeat (first | refine run ?_ | intro _)
        (first | ((with_reducible apply GO.atPlain); first | refine GO.ev (Ev.nilneNil rfl rfl) (by decide) ?_ | refine GO.ev (by exact Ev.nilneNil rfl rfl) (by decide) ?_) | ((with_reducible apply GPW.atEv); first | refine GPW.evP (Ev.nilneNil rfl rfl) (by decide) ?_ | refine GPW.evP (by exact Ev.nilneNil rfl rfl) (by decide) ?_) | ((with_reducible apply GPW.atEv); first | refine GPW.evL (Ev.nilneNil rfl rfl) (by decide) ?_ | refine GPW.evL (by exact Ev.nilneNil rfl rfl) (by decide) ?_))
        repeat (first | refine run ?_ | intro _)
        refine ⟨(i + 1, i, none), ⟨by simp only []; omega, by simp only []; omega, fun _ => by simp only []; omega, fun h => absurd rfl h⟩, by simp only []; omega, (by repeat (first | exact EnvSub.nil _ | refine EnvSub.cons rfl ?_)), ?_⟩
        simp only [cpL]
        repeat (first | exact Ent.refl _ | exact Ent.nil _ | refine Ent.take' ?_ | refine Ent.trans Ent.drop ?_)
    | some c =>
      have hc3 := hc2 (by simp)
      simp only [cpL]
      repeat (first | refine run ?_ | intro _)
      rw [show ([y]).set (0 : Int).toNat i = [i] from rfl, show ([a, b])[(0 : Int).toNat]! = a from rfl]
      (first | ((with_reducible apply GO.atPlain); first | refine GO.ef (Ef.callAt (send_spec a _ (some ⟨cb, 0, none⟩) 1 1 [i] rfl hok (by decide) hwl) rfl) (by decide) ?_ | refine GO.ef (by exact Ef.callAt (send_spec a _ (some ⟨cb, 0, none⟩) 1 1 [i] rfl hok (by decide) hwl) rfl) (by decide) ?_) | ((with_reducible apply GPW.atEf); first | refine GPW.ef (Ef.callAt (send_spec a _ (some ⟨cb, 0, none⟩) 1 1 [i] rfl hok (by decide) hwl) rfl) (by decide) ?_ | refine GPW.ef (by exact Ef.callAt (send_spec a _ (some ⟨cb, 0, none⟩) 1 1 [i] rfl hok (by decide) hwl) rfl) (by decide) ?_))
      rintro _ _ ⟨rfl, rfl⟩
      repeat (first | refine run ?_ | intro _)
      (first | ((with_reducible apply GO.atPlain); first | refine GO.ef (Ef.callAt (send_spec c _ (some ⟨cb, 0, none⟩) 1 1 [i] rfl hok (by decide) hwl) rfl) (by decide) ?_ | refine GO.ef (by exact Ef.callAt (send_spec c _ (some ⟨cb, 0, none⟩) 1 1 [i] rfl hok (by decide) hwl) rfl) (by decide) ?_) | ((with_reducible apply GPW.atEf); first | refine GPW.ef (Ef.callAt (send_spec c _ (some ⟨cb, 0, none⟩) 1 1 [i] rfl hok (by decide) hwl) rfl) (by decide) ?_ | refine GPW.ef (by exact Ef.callAt (send_spec c _ (some ⟨cb, 0, none⟩) 1 1 [i] rfl hok (by decide) hwl) rfl) (by decide) ?_))
      rintro _ _ ⟨rfl, rfl⟩
      rw [hsend]
      repeat (first | refine run ?_ | intro _)
      refine ⟨(i + 1, i, some c), ⟨by simp only []; omega, by simp only []; omega, (by simp), fun _ => by simp only []; omega⟩, by simp only []; omega, (by repeat (first | exact EnvSub.nil _ | refine EnvSub.cons rfl ?_)), ?_⟩
      simp only [cpL]
      repeat (first | exact Ent.refl _ | exact Ent.nil _ | refine Ent.take' ?_ | refine Ent.trans Ent.drop ?_)
  rintro c hc
  have hok := ordE_ok (w := w0) (ms := bytesN n) (a := 0) (d := 0) (ow := false) hw.1 hw.2 (by rw [bytesN_len]; omega) (by omega)
  have hout : ∀ {ps : List Pkt}, ps.map Pkt.abs = (ordE w0 (bytesN n) 0 0 false).out → ps.length = min w0.toNat n ∧ ∀ i, i < ps.length → (ps[i]!).seq = i + 1 ∧ (ps[i]!).m.bs = [(i : Int)] := fun h => ordE_out_bytes hw.1 h (fun _ => rfl)
  have hsm : ∀ m ∈ (ordE w0 (bytesN n) 0 0 false).waiting, m.length ≤ 65536 := fun m hm => bytesN_small (n := n) (a := 0) hm
  have hq : ({ ordE w0 (bytesN n) 0 0 false with owing := false } : EndS) = ordE w0 (bytesN n) 0 0 false := rfl
  have hfirst : ∀ L, Ent (cpL a (ordE w0 (bytesN n) 0 0 false) c ++ L) (EndR a (ordE w0 (bytesN n) 0 0 false) :: (cpL a (ordE w0 (bytesN n) 0 0 false) c).dropLast ++ L) := by
    intro L
    cases c with
    | none => exact Ent.refl _
    | some c => exact Ent.swap
  have hst : Ent (osl encP 1 33 (some ⟨ce, 0, none⟩) 2 [a, b] :: cpL a (ordE w0 (bytesN n) 0 0 false) c) (EndR a (ordE w0 (bytesN n) 0 0 false) :: osl encP 1 33 (some ⟨ce, 0, none⟩) 2 [a, b] :: (cpL a (ordE w0 (bytesN n) 0 0 false) c).dropLast) := by
    have := hfirst []
    simp only [List.append_nil] at this
    exact (Ent.consR this).trans Ent.swap
  refine G.ent hst ?_
  repeat (first | refine run ?_ | intro _)
  rw [show ([a, b])[(0 : Int).toNat]! = a from rfl]
  (first | ((with_reducible apply GO.atPlain); first | refine GO.ef (Ef.callAt (out_spec a _ hok hsm) rfl) (by decide) ?_ | refine GO.ef (by exact Ef.callAt (out_spec a _ hok hsm) rfl) (by decide) ?_) | ((with_reducible apply GPW.atEf); first | refine GPW.ef (Ef.callAt (out_spec a _ hok hsm) rfl) (by decide) ?_ | refine GPW.ef (by exact Ef.callAt (out_spec a _ hok hsm) rfl) (by decide) ?_))
  rintro _ _ ⟨ad, cap, ps, rfl, hps, rfl⟩
  rw [hq]
  obtain ⟨hpl, hpx⟩ := hout hps
  repeat (first | ((fail_if_success (with_reducible refine G.atSS 17 ?_)); (with_reducible apply G.seq)) | refine runS ?_ | intro _)
  refine G.join (α := Unit) (fun _ => True) (fun _ => [(7, .slice (some ⟨ce, 0, none⟩) 2 2), (8, .int .i64 n), (10, ptrO c), (12, .slice ad ps.length cap)]) (fun _ => EndR a (ordE w0 (bytesN n) 0 0 false) :: osl encP 1 33 (some ⟨ce, 0, none⟩) 2 [a, b] :: (cpL a (ordE w0 (bytesN n) 0 0 false) c).dropLast) ?_ ?_
  · repeat (first | refine run ?_ | intro _)
    refine G.loop (α := Int) (fun i => 0 ≤ i ∧ i ≤ ps.length) (fun i => [(7, .slice (some ⟨ce, 0, none⟩) 2 2), (8, .int .i64 n), (10, ptrO c), (12, .slice ad ps.length cap), (13, .int .i64 i)])
      (fun i => osl encPk 3 44 ad cap ps :: bigO pkO (ps.drop i.toNat) :: EndR a (ordE w0 (bytesN n) 0 0 false) :: osl encP 1 33 (some ⟨ce, 0, none⟩) 2 [a, b] :: (cpL a (ordE w0 (bytesN n) 0 0 false) c).dropLast)
      (fun i => (ps.length - i).toNat) 0 ⟨by omega, by omega⟩ (by repeat (first | exact EnvSub.nil _ | refine EnvSub.cons rfl ?_)) (Ent.refl _) ?_
    rintro i ⟨hi0, hi1⟩
    repeat (first | refine run ?_ | intro _)
    (first | with_reducible refine CB.dec (fun _ => ?_) (fun _ => ?_) | with_reducible refine GB.dec (fun _ => ?_) (fun _ => ?_) | with_reducible refine CB.bool (fun _ => ?_) (fun _ => ?_) | with_reducible refine GB.bool (fun _ => ?_) (fun _ => ?_))
    case refine_2 =>
      repeat (first | refine run ?_ | intro _)
      exact ⟨(), trivial, (by repeat (first | exact EnvSub.nil _ | refine EnvSub.cons rfl ?_)), Ent.trans Ent.drop Ent.drop⟩
    rename_i hi2
    have hdr : ps.drop i.toNat = ps[i.toNat]! :: ps.drop (i.toNat + 1) := by
      rw [List.drop_eq_getElem_cons (show i.toNat < ps.length by omega), List.getElem!_eq_getElem?_getD, List.getElem?_eq_getElem (by omega)]
      rfl
    obtain ⟨hx1, hx2⟩ := hpx i.toNat (by omega)
    have hbl : (ps[i.toNat]!).m.bs.length = 1 := by rw [hx2]; rfl
    have hbv : ((ps[i.toNat]!).m.bs)[(0 : Int).toNat]! = i := by rw [hx2]; simp; omega
    rw [hdr]
    refine G.ent (Ent.at (A := bigO pkO (ps[i.toNat]! :: ps.drop (i.toNat + 1))) Ent.bigO_uncons) ?_
    simp only [pkO]
    repeat (first | refine run ?_ | intro _)
    refine ⟨i + 1, ⟨by omega, by omega⟩, by omega, (by repeat (first | exact EnvSub.nil _ | refine EnvSub.cons rfl ?_)), ?_⟩
    rw [show (i + 1).toNat = i.toNat + 1 by omega]
    refine Ent.trans Ent.drop ?_
    exact Ent.swap
  rintro _ _
  cases c with
  | none =>
    have hn0 := hc rfl
    subst hn0
    simp only [cpL, ptrO, Option.map_none, List.dropLast_singleton]
    repeat (first | refine run ?_ | intro _)
    (first | ((with_reducible apply GO.atPlain); first | refine GO.ef (Ef.call (lives_spec) rfl (by repeat (first | exact Ent.refl _ | refine Ent.take ?_))) (by decide) ?_ | refine GO.ef (by exact Ef.call (lives_spec) rfl (by repeat (first | exact Ent.refl _ | refine Ent.take ?_))) (by decide) ?_) | ((with_reducible apply GPW.atEf); first | refine GPW.ef (Ef.call (lives_spec) rfl (by repeat (first | exact Ent.refl _ | refine Ent.take ?_))) (by decide) ?_ | refine GPW.ef (by exact Ef.call (lives_spec) rfl (by repeat (first | exact Ent.refl _ | refine Ent.take ?_))) (by decide) ?_))
    rintro _ _ ⟨_, ⟨rfl, rfl⟩, hL⟩
    simp only [List.cons_append, List.nil_append] at hL; subst hL
    repeat (first | refine run ?_ | intro _)
    exact KX.ends (by first | exact ResOk.tmps rfl | (repeat (first | exact ResOk.nil | refine ResOk.tmp rfl ?_ | refine ResOk.cell rfl (by rfl) ?_ | refine ResOk.cell1 rfl ?_))) (Ent.nil _) ⟨rfl, rfl⟩
  | some c =>
    simp only [cpL, ptrO, Option.map_some, List.dropLast_cons_cons, List.dropLast_singleton]
    have hin := ordE_in w0 (bytesN n) 0 0 false 0 n [] (by omega) (by rw [bytesN_len]; omega) (by simp [validB]) (by omega)
    rw [if_pos rfl, Nat.max_eq_right (Nat.zero_le n)] at hin
    have hbn0 : (ordE w0 (bytesN n) n 0 false).waiting.length = 0 := by simp [ordE, bytesN_len]
    have hbn1 : (ordE w0 (bytesN n) 0 0 false).waiting.length = n := by simp [ordE, bytesN_len]
    repeat (first | refine run ?_ | intro _)
    rw [show ([a, b])[(0 : Int).toNat]! = a from rfl]
    refine GO.ent (Ent.nilIsl (encI .u8) 1 none) ?_
    (first | ((with_reducible apply GO.atPlain); first | refine GO.ef (Ef.callAt (in_spec a _ ((0 : Nat) : Int) n none 0 0 [] rfl hok) rfl) (by decide) ?_ | refine GO.ef (by exact Ef.callAt (in_spec a _ ((0 : Nat) : Int) n none 0 0 [] rfl hok) rfl) (by decide) ?_) | ((with_reducible apply GPW.atEf); first | refine GPW.ef (Ef.callAt (in_spec a _ ((0 : Nat) : Int) n none 0 0 [] rfl hok) rfl) (by decide) ?_ | refine GPW.ef (by exact Ef.callAt (in_spec a _ ((0 : Nat) : Int) n none 0 0 [] rfl hok) rfl) (by decide) ?_))
    rw [hin]
    rintro _ _ ⟨ad1, cap1, ms1, rfl, hms1, rfl⟩
    repeat (first | refine run ?_ | intro _)
    (first | ((with_reducible apply GO.atPlain); first | refine GO.ef (Ef.callAt (out_spec c _ hok hsm) rfl) (by decide) ?_ | refine GO.ef (by exact Ef.callAt (out_spec c _ hok hsm) rfl) (by decide) ?_) | ((with_reducible apply GPW.atEf); first | refine GPW.ef (Ef.callAt (out_spec c _ hok hsm) rfl) (by decide) ?_ | refine GPW.ef (by exact Ef.callAt (out_spec c _ hok hsm) rfl) (by decide) ?_))
    rintro _ _ ⟨qad, qcap, qs, rfl, hqs, rfl⟩
    rw [hq]
    obtain ⟨hql, hqx⟩ := hout hqs
    refine GO.ent (Ent.at (A := bigO pkO qs) (Ent.bigO_all (fun _ => msgP_m _) (fun x L => Ent.freezeSl) qs _)) ?_
    repeat (first | ((fail_if_success (with_reducible refine G.atSS 27 ?_)); (with_reducible apply G.seq)) | refine runS ?_ | intro _)
    refine G.join (α := Unit) (fun _ => True) (fun _ => [(7, .slice (some ⟨ce, 0, none⟩) 2 2), (8, .int .i64 n), (10, .pointer (some ⟨c, 0, none⟩)), (12, .slice ad ps.length cap), (14, .slice qad qs.length qcap)]) (fun _ => [EndR c (ordE w0 (bytesN n) 0 0 false), EndR a (ordE w0 (bytesN n) n 0 false), osl encP 1 33 (some ⟨ce, 0, none⟩) 2 [a, b]]) ?_ ?_
    · repeat (first | refine run ?_ | intro _)
      refine G.loop (α := Int) (fun i => 0 ≤ i ∧ i ≤ qs.length) (fun i => [(7, .slice (some ⟨ce, 0, none⟩) 2 2), (8, .int .i64 n), (10, .pointer (some ⟨c, 0, none⟩)), (12, .slice ad ps.length cap), (14, .slice qad qs.length qcap), (15, .int .i64 i)])
        (fun i => [osl encPk 3 44 qad qcap qs, allP (fun p : Pkt => msgP p.m) qs, EndR c (ordE w0 (bytesN n) 0 0 false), EndR a (ordE w0 (bytesN n) n 0 false), osl encP 1 33 (some ⟨ce, 0, none⟩) 2 [a, b]])
        (fun i => (qs.length - i).toNat) 0 ⟨by omega, by omega⟩ (by repeat (first | exact EnvSub.nil _ | refine EnvSub.cons rfl ?_)) (by repeat (first | exact Ent.refl _ | exact Ent.nil _ | refine Ent.take' ?_ | refine Ent.trans Ent.drop ?_)) ?_
      rintro i ⟨hi0, hi1⟩
      repeat (first | refine run ?_ | intro _)
      (first | with_reducible refine CB.dec (fun _ => ?_) (fun _ => ?_) | with_reducible refine GB.dec (fun _ => ?_) (fun _ => ?_) | with_reducible refine CB.bool (fun _ => ?_) (fun _ => ?_) | with_reducible refine GB.bool (fun _ => ?_) (fun _ => ?_))
      case refine_2 =>
        repeat (first | refine run ?_ | intro _)
        exact ⟨(), trivial, (by repeat (first | exact EnvSub.nil _ | refine EnvSub.cons rfl ?_)), by repeat (first | exact Ent.refl _ | exact Ent.nil _ | refine Ent.take' ?_ | refine Ent.trans Ent.drop ?_)⟩
      rename_i hi2
      obtain ⟨hx1, hx2⟩ := hqx i.toNat (by omega)
      have hbl : (qs[i.toNat]!).m.bs.length = 1 := by rw [hx2]; rfl
      have hbv : ((qs[i.toNat]!).m.bs)[(0 : Int).toNat]! = i := by rw [hx2]; simp; omega
      have hmem : qs[i.toNat]! ∈ qs := by
        rw [List.getElem!_eq_getElem?_getD, List.getElem?_eq_getElem (by omega)]
        exact List.getElem_mem _
      refine G.ent (Ent.at (A := allP (fun p : Pkt => msgP p.m) qs) (Ent.allP_get (x := qs[i.toNat]!) hmem)) ?_
      repeat (first | refine run ?_ | intro _)
      exact ⟨i + 1, ⟨by omega, by omega⟩, by omega, (by repeat (first | exact EnvSub.nil _ | refine EnvSub.cons rfl ?_)), by repeat (first | exact Ent.refl _ | exact Ent.nil _ | refine Ent.take' ?_ | refine Ent.trans Ent.drop ?_)⟩
    rintro _ _
    repeat (first | refine run ?_ | intro _)
    (first | ((with_reducible apply GO.atPlain); first | refine GO.ef (Ef.callAt (waiting_spec c (ordE w0 (bytesN n) 0 0 false)) rfl) (by decide) ?_ | refine GO.ef (by exact Ef.callAt (waiting_spec c (ordE w0 (bytesN n) 0 0 false)) rfl) (by decide) ?_) | ((with_reducible apply GPW.atEf); first | refine GPW.ef (Ef.callAt (waiting_spec c (ordE w0 (bytesN n) 0 0 false)) rfl) (by decide) ?_ | refine GPW.ef (by exact Ef.callAt (waiting_spec c (ordE w0 (bytesN n) 0 0 false)) rfl) (by decide) ?_))
    rintro _ _ ⟨rfl, rfl⟩
    repeat (first | refine run ?_ | intro _)
    rw [show ([a, b])[(0 : Int).toNat]! = a from rfl]
    (first | ((with_reducible apply GO.atPlain); first | refine GO.ef (Ef.callAt (waiting_spec a (ordE w0 (bytesN n) n 0 false)) rfl) (by decide) ?_ | refine GO.ef (by exact Ef.callAt (waiting_spec a (ordE w0 (bytesN n) n 0 false)) rfl) (by decide) ?_) | ((with_reducible apply GPW.atEf); first | refine GPW.ef (Ef.callAt (waiting_spec a (ordE w0 (bytesN n) n 0 false)) rfl) (by decide) ?_ | refine GPW.ef (by exact Ef.callAt (waiting_spec a (ordE w0 (bytesN n) n 0 false)) rfl) (by decide) ?_))
    rintro _ _ ⟨rfl, rfl⟩
    repeat (first | refine run ?_ | intro _)
    (first | ((with_reducible apply GO.atPlain); first | refine GO.ef (Ef.call (lives_spec) rfl (by repeat (first | exact Ent.refl _ | refine Ent.take ?_))) (by decide) ?_ | refine GO.ef (by exact Ef.call (lives_spec) rfl (by repeat (first | exact Ent.refl _ | refine Ent.take ?_))) (by decide) ?_) | ((with_reducible apply GPW.atEf); first | refine GPW.ef (Ef.call (lives_spec) rfl (by repeat (first | exact Ent.refl _ | refine Ent.take ?_))) (by decide) ?_ | refine GPW.ef (by exact Ef.call (lives_spec) rfl (by repeat (first | exact Ent.refl _ | refine Ent.take ?_))) (by decide) ?_))
    rintro _ _ ⟨_, ⟨rfl, rfl⟩, hL⟩
    simp only [List.cons_append, List.nil_append] at hL; subst hL
    repeat (first | refine run ?_ | intro _)
    exact KX.ends (by first | exact ResOk.tmps rfl | (repeat (first | exact ResOk.nil | refine ResOk.tmp rfl ?_ | refine ResOk.cell rfl (by rfl) ?_ | refine ResOk.cell1 rfl ?_))) (Ent.nil _) ⟨rfl, rfl⟩
end Go.Proofs.Ytnpienjfapjjoaa
