/- ChannelWindow. -/
import Derived.Test.YtnpienjfapjjoaaC5
namespace Go.Proofs.Ytnpienjfapjjoaa
open Go.V
attribute [local irreducible] G GO GP GPW GPK Ev Ef Ent CB GB validB

/-- The end after k empty messages. -/
def sentN (w : Int) (k : Nat) : EndS := ⟨w, k, List.replicate k [], 0, [], false⟩
theorem sentN_ok (w : Int) (k : Nat) (h1 : 1 ≤ w) (h2 : w ≤ 16) (hk : k ≤ 1000) : (sentN w k).Ok := ⟨⟨h1, h2⟩, by simp [sentN]; omega, by simp [sentN]; omega, by simp [sentN]⟩
theorem sentN_send (w : Int) (k : Nat) : (sentN w k).send [] = sentN w (k + 1) := by simp [sentN, EndS.send, List.replicate_succ']

/-- The end after k messages were acknowledged. -/
def sentK (w : Int) (n k : Nat) : EndS := ⟨w, n, List.replicate (n - k) [], 0, [], false⟩
theorem sentK_ok (w : Int) (n k : Nat) (h1 : 1 ≤ w) (h2 : w ≤ 16) (hk : n ≤ 1000) : (sentK w n k).Ok := ⟨⟨h1, h2⟩, by simp [sentK]; omega, by simp [sentK]; omega, by simp [sentK]⟩
theorem sentN_K (w : Int) (n : Nat) : sentN w n = sentK w n 0 := by simp [sentN, sentK]
theorem sentK_out_len (w : Int) (n k : Nat) (h1 : 1 ≤ w) : (sentK w n k).out.length = min w.toNat (n - k) := by
  simp only [EndS.out, sentK, List.length_replicate]
  split
  · rename_i h; simp [h]
  · simp [EndS.firsts]
theorem sentK_out_get (w : Int) (n k : Nat) (h1 : 1 ≤ w) (hk : k ≤ n) (j : Nat) (hj : j < (sentK w n k).out.length) : (sentK w n k).out[j] = ((k : Int) + 1 + j, 0, []) := by
  have hl := sentK_out_len w n k h1
  have hn : ¬ (min w.toNat (n - k) = 0) := by omega
  have e : (sentK w n k).out = (sentK w n k).firsts (min w.toNat (n - k)) := by
    simp only [EndS.out, sentK, List.length_replicate, hn, if_false]
  have e2 : (sentK w n k).firsts (min w.toNat (n - k)) = ((List.replicate (n - k) ([] : Bytes)).take (min w.toNat (n - k))).zipIdx.map fun p => ((n : Int) - ((n - k : Nat) : Int) + 1 + (p.2 : Int), 0, p.1) := by simp [EndS.firsts, sentK]
  have e3 := e.trans e2
  have e4 : (sentK w n k).out[j]? = some ((k : Int) + 1 + j, 0, []) := by
    rw [e3, List.getElem?_map, List.getElem?_zipIdx, List.take_replicate, List.getElem?_replicate, if_pos (by omega)]
    simp
    omega
  rw [List.getElem?_eq_getElem hj] at e4
  exact Option.some.inj e4
theorem sentK_refuse (w : Int) (n k : Nat) : (sentK w n k).inn 0 (n + 1) [] = (sentK w n k, []) := by
  have : (n : Int) < n + 1 := by omega
  simp [EndS.inn, sentK, this]
theorem sentK_take (w : Int) (n k : Nat) (hk : k ≤ n) : (sentK w n 0).inn 0 k [] = (sentK w n k, []) := by
  have e1 : ¬ ((n : Int) < k) := by omega
  simp only [EndS.inn, validB, sentK, List.length_nil, e1]
  simp
  rw [EndS.ackd]
  simp
  intro h
  omega
theorem abs_get {ps : List Pkt} {l : List PktS} (h : ps.map Pkt.abs = l) (j : Nat) (hj : j < l.length) : (ps[j]!).abs = l[j] := by
  subst h
  simp at hj
  simp [List.getElem!_eq_getElem?_getD, hj]

theorem window_spec (window : Int) (_h0 : -9223372036854775808 ≤ window ∧ window ≤ 9223372036854775807) (many : Int) (h1 : -9223372036854775808 ≤ many ∧ many ≤ 9223372036854775807) (ack : Int) (h2 : -9223372036854775808 ≤ ack ∧ ack ≤ 9223372036854775807) : Tri Try.prog 6 #[.int .i64 window, .int .i64 many, .int .i64 ack] [] (fun v L => v = .bool true ∧ L = []) := by
  refine Tri.body (args := [.int .i64 window, .int .i64 many, .int .i64 ack]) 149 en6 Try.func6 rfl rfl rfl (by simp) ?_
  repeat (first | refine run ?_ | intro _)
  by_cases hw : 1 ≤ window ∧ window ≤ 16
  case neg =>
    (first | ((with_reducible apply GO.atPlain); first | refine GO.ef (Ef.call (new_err window hw) rfl (by repeat (first | exact Ent.refl _ | refine Ent.take ?_))) (by decide) ?_ | refine GO.ef (by exact Ef.call (new_err window hw) rfl (by repeat (first | exact Ent.refl _ | refine Ent.take ?_))) (by decide) ?_) | ((with_reducible apply GPW.atEf); first | refine GPW.ef (Ef.call (new_err window hw) rfl (by repeat (first | exact Ent.refl _ | refine Ent.take ?_))) (by decide) ?_ | refine GPW.ef (by exact Ef.call (new_err window hw) rfl (by repeat (first | exact Ent.refl _ | refine Ent.take ?_))) (by decide) ?_))
    rintro _ _ ⟨_, ⟨rfl, rfl⟩, hL⟩
    simp only [List.cons_append, List.nil_append] at hL; subst hL
    repeat' (first | refine run ?_ | intro _ | with_reducible refine CB.dec (fun _ => ?_) (fun _ => ?_) | with_reducible refine GB.dec (fun _ => ?_) (fun _ => ?_) | with_reducible refine CB.bool (fun _ => ?_) (fun _ => ?_) | with_reducible refine GB.bool (fun _ => ?_) (fun _ => ?_))
    all_goals (first | ((with_reducible apply GO.atPlain); first | refine GO.ef (Ef.call (lives_spec) rfl (by repeat (first | exact Ent.refl _ | refine Ent.take ?_))) (by decide) ?_ | refine GO.ef (by exact Ef.call (lives_spec) rfl (by repeat (first | exact Ent.refl _ | refine Ent.take ?_))) (by decide) ?_) | ((with_reducible apply GPW.atEf); first | refine GPW.ef (Ef.call (lives_spec) rfl (by repeat (first | exact Ent.refl _ | refine Ent.take ?_))) (by decide) ?_ | refine GPW.ef (by exact Ef.call (lives_spec) rfl (by repeat (first | exact Ent.refl _ | refine Ent.take ?_))) (by decide) ?_))
    all_goals rintro _ _ ⟨_, ⟨rfl, rfl⟩, hL⟩
    all_goals simp only [List.cons_append, List.nil_append] at hL; subst hL
    all_goals repeat (first | refine run ?_ | intro _)
    all_goals exact KX.ends (by first | exact ResOk.tmps rfl | (repeat (first | exact ResOk.nil | refine ResOk.tmp rfl ?_ | refine ResOk.cell rfl (by rfl) ?_ | refine ResOk.cell1 rfl ?_))) (Ent.nil _) ⟨rfl, rfl⟩
  obtain ⟨hw1, hw2⟩ := hw
  (first | ((with_reducible apply GO.atPlain); first | refine GO.ef (Ef.call (new_spec window hw1 hw2) rfl (by repeat (first | exact Ent.refl _ | refine Ent.take ?_))) (by decide) ?_ | refine GO.ef (by exact Ef.call (new_spec window hw1 hw2) rfl (by repeat (first | exact Ent.refl _ | refine Ent.take ?_))) (by decide) ?_) | ((with_reducible apply GPW.atEf); first | refine GPW.ef (Ef.call (new_spec window hw1 hw2) rfl (by repeat (first | exact Ent.refl _ | refine Ent.take ?_))) (by decide) ?_ | refine GPW.ef (by exact Ef.call (new_spec window hw1 hw2) rfl (by repeat (first | exact Ent.refl _ | refine Ent.take ?_))) (by decide) ?_))
  rintro _ _ ⟨_, ⟨a, rfl, rfl⟩, hL⟩
  simp only [List.cons_append, List.nil_append] at hL; subst hL
  repeat (first | refine run ?_ | intro _)
  (first | ((with_reducible apply GO.atPlain); first | refine GO.ef (Ef.call (around_spec many 1003 h1.1 h1.2 (by decide) (by decide)) rfl (by repeat (first | exact Ent.refl _ | refine Ent.take ?_))) (by decide) ?_ | refine GO.ef (by exact Ef.call (around_spec many 1003 h1.1 h1.2 (by decide) (by decide)) rfl (by repeat (first | exact Ent.refl _ | refine Ent.take ?_))) (by decide) ?_) | ((with_reducible apply GPW.atEf); first | refine GPW.ef (Ef.call (around_spec many 1003 h1.1 h1.2 (by decide) (by decide)) rfl (by repeat (first | exact Ent.refl _ | refine Ent.take ?_))) (by decide) ?_ | refine GPW.ef (by exact Ef.call (around_spec many 1003 h1.1 h1.2 (by decide) (by decide)) rfl (by repeat (first | exact Ent.refl _ | refine Ent.take ?_))) (by decide) ?_))
  rintro _ _ ⟨_, ⟨rfl, rfl⟩, hL⟩
  simp only [List.cons_append, List.nil_append] at hL; subst hL
  have hn := around_bd many (k := 1003) (by decide)
  generalize around many 1003 = n at hn
  repeat (first | ((fail_if_success (with_reducible refine G.atSS 7 ?_)); (with_reducible apply G.seq)) | refine runS ?_ | intro _)
  rw [show EndS.new window = sentN window (min (0 : Int) 1000).toNat from rfl]
  refine G.join (α := Unit) (fun _ => True) (fun _ => [(7, .pointer (some ⟨a, 0, none⟩)), (9, .int .i64 n), (0, .int .i64 window), (2, .int .i64 ack)]) (fun _ => [EndR a (sentN window (min n 1000).toNat)]) ?_ ?_
  · repeat (first | refine run ?_ | intro _)
    refine G.loop (α := Int) (fun i => 0 ≤ i ∧ i ≤ n) (fun i => [(7, .pointer (some ⟨a, 0, none⟩)), (9, .int .i64 n), (10, .int .i64 i), (0, .int .i64 window), (2, .int .i64 ack)]) (fun i => [EndR a (sentN window (min i 1000).toNat)]) (fun i => (n - i).toNat) 0 ⟨by omega, by omega⟩ (by repeat (first | exact EnvSub.nil _ | refine EnvSub.cons rfl ?_)) (Ent.refl _) ?_
    rintro i ⟨hi0, hi1⟩
    repeat (first | refine run ?_ | intro _)
    (first | with_reducible refine CB.dec (fun _ => ?_) (fun _ => ?_) | with_reducible refine GB.dec (fun _ => ?_) (fun _ => ?_) | with_reducible refine CB.bool (fun _ => ?_) (fun _ => ?_) | with_reducible refine GB.bool (fun _ => ?_) (fun _ => ?_))
    case refine_2 =>
      repeat (first | refine run ?_ | intro _)
      have hh : i = n := by omega
      subst hh
      exact ⟨(), trivial, (by repeat (first | exact EnvSub.nil _ | refine EnvSub.cons rfl ?_)), Ent.refl _⟩
    rename_i hin
    repeat (first | refine run ?_ | intro _)
    by_cases hk : i < 1000
    · refine GO.ent (Ent.nilIsl (encI .u8) 1 none) ?_
      (first | ((with_reducible apply GO.atPlain); first | refine GO.ef (Ef.callAt (send_spec a _ none 0 0 [] rfl (sentN_ok window (min i 1000).toNat hw1 hw2 (by omega)) (by decide) (by simp [sentN]; omega)) rfl) (by decide) ?_ | refine GO.ef (by exact Ef.callAt (send_spec a _ none 0 0 [] rfl (sentN_ok window (min i 1000).toNat hw1 hw2 (by omega)) (by decide) (by simp [sentN]; omega)) rfl) (by decide) ?_) | ((with_reducible apply GPW.atEf); first | refine GPW.ef (Ef.callAt (send_spec a _ none 0 0 [] rfl (sentN_ok window (min i 1000).toNat hw1 hw2 (by omega)) (by decide) (by simp [sentN]; omega)) rfl) (by decide) ?_ | refine GPW.ef (by exact Ef.callAt (send_spec a _ none 0 0 [] rfl (sentN_ok window (min i 1000).toNat hw1 hw2 (by omega)) (by decide) (by simp [sentN]; omega)) rfl) (by decide) ?_))
      rw [sentN_send]
      rintro _ _ ⟨rfl, rfl⟩
      repeat (first | refine run ?_ | intro _)
      refine ⟨i + 1, ⟨by omega, by omega⟩, by omega, (by repeat (first | exact EnvSub.nil _ | refine EnvSub.cons rfl ?_)), ?_⟩
      rw [show (min (i + 1) 1000).toNat = (min i 1000).toNat + 1 by omega]
      repeat (first | exact Ent.refl _ | exact Ent.nil _ | refine Ent.take' ?_ | refine Ent.trans Ent.drop ?_)
    · (first | ((with_reducible apply GO.atPlain); first | refine GO.ef (Ef.callAt (send_err a (sentN window (min i 1000).toNat) none 0 0 (by simp [sentN]; omega)) rfl) (by decide) ?_ | refine GO.ef (by exact Ef.callAt (send_err a (sentN window (min i 1000).toNat) none 0 0 (by simp [sentN]; omega)) rfl) (by decide) ?_) | ((with_reducible apply GPW.atEf); first | refine GPW.ef (Ef.callAt (send_err a (sentN window (min i 1000).toNat) none 0 0 (by simp [sentN]; omega)) rfl) (by decide) ?_ | refine GPW.ef (by exact Ef.callAt (send_err a (sentN window (min i 1000).toNat) none 0 0 (by simp [sentN]; omega)) rfl) (by decide) ?_))
      rintro _ _ ⟨rfl, rfl⟩
      repeat (first | refine run ?_ | intro _)
      refine ⟨i + 1, ⟨by omega, by omega⟩, by omega, (by repeat (first | exact EnvSub.nil _ | refine EnvSub.cons rfl ?_)), ?_⟩
      rw [show (min (i + 1) 1000).toNat = (min i 1000).toNat by omega]
      repeat (first | exact Ent.refl _ | exact Ent.nil _ | refine Ent.take' ?_ | refine Ent.trans Ent.drop ?_)
  rintro _ _
  obtain ⟨m, hm⟩ : ∃ m : Nat, m = (min n 1000).toNat := ⟨_, rfl⟩
  have hm1 : min n 1000 = (m : Int) := by omega
  have hm2 : m ≤ 1000 := by omega
  rw [← hm, sentN_K]
  repeat (first | refine run ?_ | intro _)
  rw [hm1]
  (first | ((with_reducible apply GO.atPlain); first | refine GO.ef (Ef.call (around_spec ack (m + 1) h2.1 h2.2 (by omega) (by omega)) rfl (by repeat (first | exact Ent.refl _ | refine Ent.take ?_))) (by decide) ?_ | refine GO.ef (by exact Ef.call (around_spec ack (m + 1) h2.1 h2.2 (by omega) (by omega)) rfl (by repeat (first | exact Ent.refl _ | refine Ent.take ?_))) (by decide) ?_) | ((with_reducible apply GPW.atEf); first | refine GPW.ef (Ef.call (around_spec ack (m + 1) h2.1 h2.2 (by omega) (by omega)) rfl (by repeat (first | exact Ent.refl _ | refine Ent.take ?_))) (by decide) ?_ | refine GPW.ef (by exact Ef.call (around_spec ack (m + 1) h2.1 h2.2 (by omega) (by omega)) rfl (by repeat (first | exact Ent.refl _ | refine Ent.take ?_))) (by decide) ?_))
  rintro _ _ ⟨_, ⟨rfl, rfl⟩, hL⟩
  simp only [List.cons_append, List.nil_append] at hL; subst hL
  have hkk := around_bd ack (k := m + 1) (by omega)
  obtain ⟨k, hk⟩ : ∃ k : Nat, k = (around ack (m + 1)).toNat := ⟨_, rfl⟩
  have hk1 : around ack (m + 1) = (k : Int) := by omega
  rw [hk1]
  have hk2 : k ≤ m := by omega
  clear hk1 hk hkk hm1 hm hn
  repeat (first | ((fail_if_success (with_reducible refine G.atSS 14 ?_)); (with_reducible apply G.seq)) | refine runS ?_ | intro _)
  refine G.join (α := Unit) (fun _ => True) (fun _ => [(7, .pointer (some ⟨a, 0, none⟩)), (9, .int .i64 m), (0, .int .i64 window), (11, .int .i64 k)]) (fun _ => [EndR a (sentK window m 0)]) ?_ ?_
  · repeat (first | refine run ?_ | intro _)
    refine G.loop (α := Int) (fun i => 0 ≤ i ∧ i ≤ 2) (fun i => [(7, .pointer (some ⟨a, 0, none⟩)), (9, .int .i64 m), (12, .int .i64 i), (0, .int .i64 window), (11, .int .i64 k)]) (fun i => [EndR a (sentK window m 0)]) (fun i => (2 - i).toNat) 0 ⟨by omega, by omega⟩ (by repeat (first | exact EnvSub.nil _ | refine EnvSub.cons rfl ?_)) (Ent.refl _) ?_
    rintro i ⟨hi0, hi1⟩
    repeat (first | refine run ?_ | intro _)
    (first | with_reducible refine CB.dec (fun _ => ?_) (fun _ => ?_) | with_reducible refine GB.dec (fun _ => ?_) (fun _ => ?_) | with_reducible refine CB.bool (fun _ => ?_) (fun _ => ?_) | with_reducible refine GB.bool (fun _ => ?_) (fun _ => ?_))
    case refine_2 =>
      repeat (first | refine run ?_ | intro _)
      exact ⟨(), trivial, (by repeat (first | exact EnvSub.nil _ | refine EnvSub.cons rfl ?_)), Ent.refl _⟩
    rename_i hin
    repeat (first | refine run ?_ | intro _)
    (first | ((with_reducible apply GO.atPlain); first | refine GO.ef (Ef.callAt (out_spec a _ (sentK_ok window m 0 hw1 hw2 hm2) (by simp [sentK])) rfl) (by decide) ?_ | refine GO.ef (by exact Ef.callAt (out_spec a _ (sentK_ok window m 0 hw1 hw2 hm2) (by simp [sentK])) rfl) (by decide) ?_) | ((with_reducible apply GPW.atEf); first | refine GPW.ef (Ef.callAt (out_spec a _ (sentK_ok window m 0 hw1 hw2 hm2) (by simp [sentK])) rfl) (by decide) ?_ | refine GPW.ef (by exact Ef.callAt (out_spec a _ (sentK_ok window m 0 hw1 hw2 hm2) (by simp [sentK])) rfl) (by decide) ?_))
    rintro _ _ ⟨ad, cap, ps, rfl, hps, rfl⟩
    rw [show ({ sentK window m 0 with owing := false } : EndS) = sentK window m 0 from rfl]
    have hpl := len_of hps
    rw [sentK_out_len window m 0 hw1] at hpl
    repeat (first | refine run ?_ | intro _)
    refine G.loop (α := Int) (fun j => 0 ≤ j ∧ j ≤ ps.length) (fun j => [(7, .pointer (some ⟨a, 0, none⟩)), (9, .int .i64 m), (12, .int .i64 i), (0, .int .i64 window), (11, .int .i64 k), (13, .slice ad ps.length cap), (14, .int .i64 j)]) (fun j => [osl encPk 3 44 ad cap ps, EndR a (sentK window m 0)]) (fun j => (ps.length - j).toNat) 0 ⟨by omega, by omega⟩ (by repeat (first | exact EnvSub.nil _ | refine EnvSub.cons rfl ?_)) (by repeat (first | exact Ent.refl _ | exact Ent.nil _ | refine Ent.take' ?_ | refine Ent.trans Ent.drop ?_)) ?_
    rintro j ⟨hj0, hj1⟩
    repeat (first | refine run ?_ | intro _)
    (first | with_reducible refine CB.dec (fun _ => ?_) (fun _ => ?_) | with_reducible refine GB.dec (fun _ => ?_) (fun _ => ?_) | with_reducible refine CB.bool (fun _ => ?_) (fun _ => ?_) | with_reducible refine GB.bool (fun _ => ?_) (fun _ => ?_))
    case refine_2 =>
      repeat (first | refine run ?_ | intro _)
      exact ⟨i + 1, ⟨by omega, by omega⟩, by omega, (by repeat (first | exact EnvSub.nil _ | refine EnvSub.cons rfl ?_)), by repeat (first | exact Ent.refl _ | exact Ent.nil _ | refine Ent.take' ?_ | refine Ent.trans Ent.drop ?_)⟩
    rename_i hjn
    have hg := abs_get hps j.toNat (by rw [← len_of hps]; omega)
    rw [sentK_out_get window m 0 hw1 (by omega)] at hg
    simp only [Pkt.abs, Prod.mk.injEq] at hg
    obtain ⟨hg1, hg2, hg3⟩ := hg
    repeat (first | refine run ?_ | intro _)
    exact ⟨j + 1, ⟨by omega, by omega⟩, by omega, (by repeat (first | exact EnvSub.nil _ | refine EnvSub.cons rfl ?_)), by repeat (first | exact Ent.refl _ | exact Ent.nil _ | refine Ent.take' ?_ | refine Ent.trans Ent.drop ?_)⟩
  rintro _ _
  have ok0 := sentK_ok window m 0 hw1 hw2 hm2
  have okk := sentK_ok window m k hw1 hw2 hm2
  repeat (first | refine run ?_ | intro _)
  refine GO.ent (Ent.nilIsl (encI .u8) 1 none) ?_
  (first | ((with_reducible apply GO.atPlain); first | refine GO.ef (Ef.callAt (in_spec a _ 0 (m + 1) none 0 0 [] rfl ok0) rfl) (by decide) ?_ | refine GO.ef (by exact Ef.callAt (in_spec a _ 0 (m + 1) none 0 0 [] rfl ok0) rfl) (by decide) ?_) | ((with_reducible apply GPW.atEf); first | refine GPW.ef (Ef.callAt (in_spec a _ 0 (m + 1) none 0 0 [] rfl ok0) rfl) (by decide) ?_ | refine GPW.ef (by exact Ef.callAt (in_spec a _ 0 (m + 1) none 0 0 [] rfl ok0) rfl) (by decide) ?_))
  rw [sentK_refuse]
  rintro _ _ ⟨ad1, cap1, ms1, rfl, hms1, rfl⟩
  repeat (first | refine run ?_ | intro _)
  (first | ((with_reducible apply GO.atPlain); first | refine GO.ef (Ef.callAt (waiting_spec a (sentK window m 0)) rfl) (by decide) ?_ | refine GO.ef (by exact Ef.callAt (waiting_spec a (sentK window m 0)) rfl) (by decide) ?_) | ((with_reducible apply GPW.atEf); first | refine GPW.ef (Ef.callAt (waiting_spec a (sentK window m 0)) rfl) (by decide) ?_ | refine GPW.ef (by exact Ef.callAt (waiting_spec a (sentK window m 0)) rfl) (by decide) ?_))
  rintro _ _ ⟨rfl, rfl⟩
  rw [show (sentK window m 0).waiting.length = m by simp [sentK]]
  repeat (first | refine run ?_ | intro _)
  (first | ((with_reducible apply GO.atPlain); first | refine GO.ef (Ef.callAt (in_spec a _ 0 k none 0 0 [] rfl ok0) rfl) (by decide) ?_ | refine GO.ef (by exact Ef.callAt (in_spec a _ 0 k none 0 0 [] rfl ok0) rfl) (by decide) ?_) | ((with_reducible apply GPW.atEf); first | refine GPW.ef (Ef.callAt (in_spec a _ 0 k none 0 0 [] rfl ok0) rfl) (by decide) ?_ | refine GPW.ef (by exact Ef.callAt (in_spec a _ 0 k none 0 0 [] rfl ok0) rfl) (by decide) ?_))
  rw [sentK_take window m k hk2]
  rintro _ _ ⟨ad2, cap2, ms2, rfl, hms2, rfl⟩
  repeat (first | refine run ?_ | intro _)
  (first | ((with_reducible apply GO.atPlain); first | refine GO.ef (Ef.callAt (out_spec a _ okk (by simp [sentK])) rfl) (by decide) ?_ | refine GO.ef (by exact Ef.callAt (out_spec a _ okk (by simp [sentK])) rfl) (by decide) ?_) | ((with_reducible apply GPW.atEf); first | refine GPW.ef (Ef.callAt (out_spec a _ okk (by simp [sentK])) rfl) (by decide) ?_ | refine GPW.ef (by exact Ef.callAt (out_spec a _ okk (by simp [sentK])) rfl) (by decide) ?_))
  rintro _ _ ⟨ad, cap, ps, rfl, hps, rfl⟩
  rw [show ({ sentK window m k with owing := false } : EndS) = sentK window m k from rfl]
  have hpl := len_of hps
  rw [sentK_out_len window m k hw1] at hpl
  have hg : 0 < ps.length → (ps[(0 : Int).toNat]!).seq = k + 1 := by
    intro h
    have hg := abs_get hps 0 (by rw [← len_of hps]; omega)
    rw [sentK_out_get window m k hw1 hk2] at hg
    simp only [Pkt.abs, Prod.mk.injEq] at hg
    have h1 := hg.1
    simp only [Int.toNat_zero]
    omega
  repeat (first | refine run ?_ | intro _)
  (first | ((with_reducible apply GO.atPlain); first | refine GO.ef (Ef.callAt (waiting_spec a (sentK window m k)) rfl) (by decide) ?_ | refine GO.ef (by exact Ef.callAt (waiting_spec a (sentK window m k)) rfl) (by decide) ?_) | ((with_reducible apply GPW.atEf); first | refine GPW.ef (Ef.callAt (waiting_spec a (sentK window m k)) rfl) (by decide) ?_ | refine GPW.ef (by exact Ef.callAt (waiting_spec a (sentK window m k)) rfl) (by decide) ?_))
  rintro _ _ ⟨rfl, rfl⟩
  rw [show (sentK window m k).waiting.length = m - k by simp [sentK]]
  repeat (first | refine run ?_ | intro _)
  (first | with_reducible refine CB.dec (fun _ => ?_) (fun _ => ?_) | with_reducible refine GB.dec (fun _ => ?_) (fun _ => ?_) | with_reducible refine CB.bool (fun _ => ?_) (fun _ => ?_) | with_reducible refine GB.bool (fun _ => ?_) (fun _ => ?_))
  · repeat (first | refine run ?_ | intro _)
    (first | ((with_reducible apply GO.atPlain); first | refine GO.ef (Ef.makeSlice (encI .u8) 0 rfl rfl rfl (by decide) (by decide) (by decide)) (by decide) ?_ | refine GO.ef (by exact Ef.makeSlice (encI .u8) 0 rfl rfl rfl (by decide) (by decide) (by decide)) (by decide) ?_) | ((with_reducible apply GPW.atEf); first | refine GPW.ef (Ef.makeSlice (encI .u8) 0 rfl rfl rfl (by decide) (by decide) (by decide)) (by decide) ?_ | refine GPW.ef (by exact Ef.makeSlice (encI .u8) 0 rfl rfl rfl (by decide) (by decide) (by decide)) (by decide) ?_) | ((with_reducible apply GO.atUnit); first | refine GO.efu (Ef.makeSlice (encI .u8) 0 rfl rfl rfl (by decide) (by decide) (by decide)) ?_ | refine GO.efu (by exact Ef.makeSlice (encI .u8) 0 rfl rfl rfl (by decide) (by decide) (by decide)) ?_) | ((with_reducible apply GPW.atEfu); first | refine GPW.efu (Ef.makeSlice (encI .u8) 0 rfl rfl rfl (by decide) (by decide) (by decide)) ?_ | refine GPW.efu (by exact Ef.makeSlice (encI .u8) 0 rfl rfl rfl (by decide) (by decide) (by decide)) ?_))
    rintro _ _ ⟨b2, rfl, rfl⟩
    repeat (first | refine run ?_ | intro _)
    (first | ((with_reducible apply GO.atPlain); first | refine GO.ef (Ef.callAt (send_err a (sentK window m k) (some ⟨b2, 0, none⟩) 65537 65537 (.inl (by decide))) rfl) (by decide) ?_ | refine GO.ef (by exact Ef.callAt (send_err a (sentK window m k) (some ⟨b2, 0, none⟩) 65537 65537 (.inl (by decide))) rfl) (by decide) ?_) | ((with_reducible apply GPW.atEf); first | refine GPW.ef (Ef.callAt (send_err a (sentK window m k) (some ⟨b2, 0, none⟩) 65537 65537 (.inl (by decide))) rfl) (by decide) ?_ | refine GPW.ef (by exact Ef.callAt (send_err a (sentK window m k) (some ⟨b2, 0, none⟩) 65537 65537 (.inl (by decide))) rfl) (by decide) ?_))
    rintro _ _ ⟨rfl, rfl⟩
    repeat (first | refine run ?_ | intro _)
    (first | ((with_reducible apply GO.atPlain); first | refine GO.ef (Ef.call (lives_spec) rfl (by repeat (first | exact Ent.refl _ | refine Ent.take ?_))) (by decide) ?_ | refine GO.ef (by exact Ef.call (lives_spec) rfl (by repeat (first | exact Ent.refl _ | refine Ent.take ?_))) (by decide) ?_) | ((with_reducible apply GPW.atEf); first | refine GPW.ef (Ef.call (lives_spec) rfl (by repeat (first | exact Ent.refl _ | refine Ent.take ?_))) (by decide) ?_ | refine GPW.ef (by exact Ef.call (lives_spec) rfl (by repeat (first | exact Ent.refl _ | refine Ent.take ?_))) (by decide) ?_))
    rintro _ _ ⟨_, ⟨rfl, rfl⟩, hL⟩
    simp only [List.cons_append, List.nil_append] at hL; subst hL
    repeat (first | refine run ?_ | intro _)
    exact KX.ends (by first | exact ResOk.tmps rfl | (repeat (first | exact ResOk.nil | refine ResOk.tmp rfl ?_ | refine ResOk.cell rfl (by rfl) ?_ | refine ResOk.cell1 rfl ?_))) (Ent.nil _) ⟨rfl, rfl⟩
  · repeat (first | refine run ?_ | intro _)
    (first | ((with_reducible apply GO.atPlain); first | refine GO.ef (Ef.makeSlice (encI .u8) 0 rfl rfl rfl (by decide) (by decide) (by decide)) (by decide) ?_ | refine GO.ef (by exact Ef.makeSlice (encI .u8) 0 rfl rfl rfl (by decide) (by decide) (by decide)) (by decide) ?_) | ((with_reducible apply GPW.atEf); first | refine GPW.ef (Ef.makeSlice (encI .u8) 0 rfl rfl rfl (by decide) (by decide) (by decide)) (by decide) ?_ | refine GPW.ef (by exact Ef.makeSlice (encI .u8) 0 rfl rfl rfl (by decide) (by decide) (by decide)) (by decide) ?_) | ((with_reducible apply GO.atUnit); first | refine GO.efu (Ef.makeSlice (encI .u8) 0 rfl rfl rfl (by decide) (by decide) (by decide)) ?_ | refine GO.efu (by exact Ef.makeSlice (encI .u8) 0 rfl rfl rfl (by decide) (by decide) (by decide)) ?_) | ((with_reducible apply GPW.atEfu); first | refine GPW.efu (Ef.makeSlice (encI .u8) 0 rfl rfl rfl (by decide) (by decide) (by decide)) ?_ | refine GPW.efu (by exact Ef.makeSlice (encI .u8) 0 rfl rfl rfl (by decide) (by decide) (by decide)) ?_))
    rintro _ _ ⟨b2, rfl, rfl⟩
    repeat (first | refine run ?_ | intro _)
    (first | ((with_reducible apply GO.atPlain); first | refine GO.ef (Ef.callAt (send_err a (sentK window m k) (some ⟨b2, 0, none⟩) 65537 65537 (.inl (by decide))) rfl) (by decide) ?_ | refine GO.ef (by exact Ef.callAt (send_err a (sentK window m k) (some ⟨b2, 0, none⟩) 65537 65537 (.inl (by decide))) rfl) (by decide) ?_) | ((with_reducible apply GPW.atEf); first | refine GPW.ef (Ef.callAt (send_err a (sentK window m k) (some ⟨b2, 0, none⟩) 65537 65537 (.inl (by decide))) rfl) (by decide) ?_ | refine GPW.ef (by exact Ef.callAt (send_err a (sentK window m k) (some ⟨b2, 0, none⟩) 65537 65537 (.inl (by decide))) rfl) (by decide) ?_))
    rintro _ _ ⟨rfl, rfl⟩
    repeat (first | refine run ?_ | intro _)
    (first | ((with_reducible apply GO.atPlain); first | refine GO.ef (Ef.call (lives_spec) rfl (by repeat (first | exact Ent.refl _ | refine Ent.take ?_))) (by decide) ?_ | refine GO.ef (by exact Ef.call (lives_spec) rfl (by repeat (first | exact Ent.refl _ | refine Ent.take ?_))) (by decide) ?_) | ((with_reducible apply GPW.atEf); first | refine GPW.ef (Ef.call (lives_spec) rfl (by repeat (first | exact Ent.refl _ | refine Ent.take ?_))) (by decide) ?_ | refine GPW.ef (by exact Ef.call (lives_spec) rfl (by repeat (first | exact Ent.refl _ | refine Ent.take ?_))) (by decide) ?_))
    rintro _ _ ⟨_, ⟨rfl, rfl⟩, hL⟩
    simp only [List.cons_append, List.nil_append] at hL; subst hL
    repeat (first | refine run ?_ | intro _)
    exact KX.ends (by first | exact ResOk.tmps rfl | (repeat (first | exact ResOk.nil | refine ResOk.tmp rfl ?_ | refine ResOk.cell rfl (by rfl) ?_ | refine ResOk.cell1 rfl ?_))) (Ent.nil _) ⟨rfl, rfl⟩
end Go.Proofs.Ytnpienjfapjjoaa
