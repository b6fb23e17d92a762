/- Contracts of package channel: taking a packet. -/
import Derived.Test.YtnpienjfapjjoaaC2
namespace Go.Proofs.Ytnpienjfapjjoaa
open Go.V
attribute [local irreducible] G GO GP GPW GPK Ev Ef Ent CB GB validB

def EndS.ackd (E : EndS) (ack : Int) : EndS := if 0 < ack - (E.sent - E.waiting.length) then { E with waiting := E.waiting.drop (ack - (E.sent - E.waiting.length)).toNat } else E
def EndS.deliver : Nat → EndS → List Bytes → EndS × List Bytes
  | 0, E, acc => (E, acc)
  | n + 1, E, acc => match E.held.lookup (E.delivered + 1) with
    | none => (E, acc)
    | some b => EndS.deliver n { E with delivered := E.delivered + 1, held := aera E.held (E.delivered + 1) } (acc ++ [b])
def EndS.hold (E : EndS) (seq : Int) (xs : Bytes) : EndS := if E.held.lookup seq = none ∧ E.delivered < seq then { E with held := ains E.held seq xs } else E
def EndS.inn (E : EndS) (seq ack : Int) (xs : Bytes) : EndS × List Bytes :=
  if validB seq ack xs.length = false ∨ E.sent < ack ∨ E.delivered + 16 < seq then (E, [])
  else if seq = 0 then (E.ackd ack, [])
  else (({ E.ackd ack with owing := true } : EndS).hold seq xs).deliver (({ E.ackd ack with owing := true } : EndS).hold seq xs).held.length []

theorem deliver_fuel : ∀ (n m : Nat) (E : EndS) (acc : List Bytes), E.held.length ≤ n → E.held.length ≤ m → E.deliver n acc = E.deliver m acc
  | 0, 0, _, _, _, _ => rfl
  | 0, m + 1, E, acc, h, _ => by
    have : E.held = [] := List.eq_nil_of_length_eq_zero (by omega)
    simp [EndS.deliver, this]
  | n + 1, 0, E, acc, _, h => by
    have : E.held = [] := List.eq_nil_of_length_eq_zero (by omega)
    simp [EndS.deliver, this]
  | n + 1, m + 1, E, acc, h, h' => by
    simp only [EndS.deliver]
    cases hl : E.held.lookup (E.delivered + 1) with
    | none => rfl
    | some b =>
      have := aera_lt hl
      exact deliver_fuel n m _ _ (by simp only []; omega) (by simp only []; omega)
theorem deliver_none {E : EndS} {acc : List Bytes} (h : E.held.lookup (E.delivered + 1) = none) : E.deliver E.held.length acc = (E, acc) := by
  cases E.held.length <;> simp [EndS.deliver, h]
theorem deliver_some {E : EndS} {acc : List Bytes} {b : Bytes} (h : E.held.lookup (E.delivered + 1) = some b) : E.deliver E.held.length acc = EndS.deliver (aera E.held (E.delivered + 1)).length { E with delivered := E.delivered + 1, held := aera E.held (E.delivered + 1) } (acc ++ [b]) := by
  have h1 := aera_lt h
  cases hn : E.held.length with
  | zero => omega
  | succ n =>
    simp only [EndS.deliver, h]
    exact deliver_fuel _ _ _ _ (by simp only []; omega) (by simp only []; omega)

theorem ackd_del (E : EndS) (a : Int) : (E.ackd a).delivered = E.delivered := by unfold EndS.ackd; split <;> rfl
theorem ackd_held (E : EndS) (a : Int) : (E.ackd a).held = E.held := by unfold EndS.ackd; split <;> rfl
theorem ackd_sent (E : EndS) (a : Int) : (E.ackd a).sent = E.sent := by unfold EndS.ackd; split <;> rfl
theorem hold_del (E : EndS) (a : Int) (xs : Bytes) : (E.hold a xs).delivered = E.delivered := by unfold EndS.hold; split <;> rfl
theorem hold_len (E : EndS) (a : Int) (xs : Bytes) : (E.hold a xs).held.length ≤ E.held.length + 1 := by
  unfold EndS.hold
  split
  · rename_i h
    simp [ains_new h.1]
  · omega
abbrev ghostOk (E : EndS) (x : EndX) : Prop := x.ms.map (·.bs) = E.waiting ∧ x.hs.map (fun p => (p.1, p.2.bs)) = E.held
abbrev pkA (w : Nat) (seq ack : Int) (ad : Option Addr) (n c : Nat) : HP := obj w 44 [.int .i64 seq, .int .i64 ack, .slice ad n c]
abbrev inEnv (w b : Nat) (seq ack : Int) (ad : Option Addr) (n c : Nat) : Env := [(4, .slice none 0 0), (3, .pointer (some ⟨w, 0, none⟩)), (0, .pointer (some ⟨b, 0, none⟩))]

abbrev plC3_19_1 : List Stp := [.ev 0, .ef 1, .ev 2, .ev 3, .ev 4, .ev 5, .ev 6, .ev 7, .ev 8, .ev 9, .ev 10, .ev 11, .ev 12, .ev 13, .ev 14, .ev 15, .ev 16, .ev 17, .ev 18, .ev 19, .ev 20, .ev 21]
abbrev plC3_19_3 : List Stp := [.ev 0, .ev 1, .ev 2, .ev 3, .ev 4, .ev 5, .ev 6, .ev 7, .ev 8, .ev 9, .ev 10, .ev 11, .ev 12, .ev 13]
abbrev plC3_19_9 : List Stp := [.ev 0, .ev 1, .ev 2, .ev 3, .ev 4, .ev 5, .ev 6, .ev 7, .ev 8, .ev 9, .ev 10, .ev 11]
abbrev plC3_19_10 : List Stp := [.ev 0, .ev 1, .ev 2, .ev 3, .ev 4, .ev 5, .ev 6, .ev 7, .ev 8, .ev 9, .ev 10]
abbrev plC3_19_11 : List Stp := [.ev 0, .ev 1, .ev 2, .ev 3, .ev 4, .ev 5, .ev 6, .ev 7, .ef 8, .ef 9]
abbrev plC3_19_13 : List Stp := [.ev 0, .ev 1, .ev 2, .ev 3, .ev 4, .ev 5, .ev 6, .ev 7, .ev 8, .ev 9, .ev 10, .ev 11, .ev 12, .ev 13, .ev 14]
abbrev plC3_19_17 : List Stp := [.ev 0, .ev 1, .ev 2, .ev 3, .ev 4, .ev 5, .ev 6, .ev 7, .ef 8]
set_option maxHeartbeats 1000000 in
theorem in_spec {L : List HP} (b : Nat) (E : EndS) (seq ack : Int) (ad : Option Addr) (n c : Nat) (xs : Bytes) [Rds L ad Int (encI .u8) 1 xs] (hn : n = xs.length) (hE : E.Ok) :
    Tri Try.prog 19 #[.pointer (some ⟨b, 0, none⟩), .agg #[.int .i64 seq, .int .i64 ack, .slice ad n c]] (EndR b E :: L)
      (fun v L' => ∃ ad' cap' ms, v = .slice ad' ms.length cap' ∧ ms.map (·.bs) = (E.inn seq ack xs).2 ∧ L' = osl encM 1 31 ad' cap' ms :: allP msgP ms :: EndR b (E.inn seq ack xs).1 :: L) := by
  refine Tri.body (args := [.pointer (some ⟨b, 0, none⟩), .agg #[.int .i64 seq, .int .i64 ack, .slice ad n c]]) 129 en19 Try.func19 rfl rfl rfl (by simp) ?_
  refine G.openX (f := endAtoms b E) ?_
  intro x
  simp only [endAtoms, List.cons_append, List.nil_append]
  refine G.pureE ?_
  rintro ⟨hms, hhs⟩
  have hlen : x.ms.length = E.waiting.length := by rw [← hms]; simp
  have hhl : x.hs.length = E.held.length := by rw [← hhs]; simp
  have h1 := hE.sent
  have h4 := hE.del
  refine G.fact (osl_cap (ad := x.ad)) ?_
  rintro ⟨hcap, _⟩
  repeat (first | refine run ?_ | intro _ | ((with_reducible apply G.atDraw); first | refine G.draw (id := 1) plC3_19_1 mixed (by kernel_rfl) ?_ | refine G.draw (id := 3) plC3_19_3 mixed (by kernel_rfl) ?_ | refine G.draw (id := 9) plC3_19_9 mixed (by kernel_rfl) ?_ | refine G.draw (id := 10) plC3_19_10 mixed (by kernel_rfl) ?_ | refine G.draw (id := 11) plC3_19_11 mixed (by kernel_rfl) ?_ | refine G.draw (id := 13) plC3_19_13 mixed (by kernel_rfl) ?_ | refine G.draw (id := 17) plC3_19_17 mixed (by kernel_rfl) ?_))
  (first | ((with_reducible apply GO.atPlain); first | refine GO.ef (Ef.call (valid_spec seq ack ad n c) rfl (by repeat (first | exact Ent.refl _ | refine Ent.take ?_))) (by decide) ?_ | refine GO.ef (by exact Ef.call (valid_spec seq ack ad n c) rfl (by repeat (first | exact Ent.refl _ | refine Ent.take ?_))) (by decide) ?_) | ((with_reducible apply GPW.atEf); first | refine GPW.ef (Ef.call (valid_spec seq ack ad n c) rfl (by repeat (first | exact Ent.refl _ | refine Ent.take ?_))) (by decide) ?_ | refine GPW.ef (by exact Ef.call (valid_spec seq ack ad n c) rfl (by repeat (first | exact Ent.refl _ | refine Ent.take ?_))) (by decide) ?_))
  rintro _ _ ⟨_, ⟨rfl, rfl⟩, hL⟩
  simp only [List.cons_append, List.nil_append] at hL; subst hL
  rename_i w
  repeat (first | refine run ?_ | intro _ | ((with_reducible apply G.atDraw); first | refine G.draw (id := 1) plC3_19_1 mixed (by kernel_rfl) ?_ | refine G.draw (id := 3) plC3_19_3 mixed (by kernel_rfl) ?_ | refine G.draw (id := 9) plC3_19_9 mixed (by kernel_rfl) ?_ | refine G.draw (id := 10) plC3_19_10 mixed (by kernel_rfl) ?_ | refine G.draw (id := 11) plC3_19_11 mixed (by kernel_rfl) ?_ | refine G.draw (id := 13) plC3_19_13 mixed (by kernel_rfl) ?_ | refine G.draw (id := 17) plC3_19_17 mixed (by kernel_rfl) ?_))
  (first | with_reducible refine CB.dec (fun _ => ?_) (fun _ => ?_) | with_reducible refine GB.dec (fun _ => ?_) (fun _ => ?_) | with_reducible refine CB.bool (fun _ => ?_) (fun _ => ?_) | with_reducible refine GB.bool (fun _ => ?_) (fun _ => ?_))
  · rename_i hv
    have hv' : validB seq ack xs.length = false := by rw [← hn]; simpa using hv
    repeat (first | refine run ?_ | intro _ | ((with_reducible apply G.atDraw); first | refine G.draw (id := 1) plC3_19_1 mixed (by kernel_rfl) ?_ | refine G.draw (id := 3) plC3_19_3 mixed (by kernel_rfl) ?_ | refine G.draw (id := 9) plC3_19_9 mixed (by kernel_rfl) ?_ | refine G.draw (id := 10) plC3_19_10 mixed (by kernel_rfl) ?_ | refine G.draw (id := 11) plC3_19_11 mixed (by kernel_rfl) ?_ | refine G.draw (id := 13) plC3_19_13 mixed (by kernel_rfl) ?_ | refine G.draw (id := 17) plC3_19_17 mixed (by kernel_rfl) ?_))
    refine KX.ends (by first | exact ResOk.tmps rfl | (repeat (first | exact ResOk.nil | refine ResOk.tmp rfl ?_ | refine ResOk.cell rfl (by rfl) ?_ | refine ResOk.cell1 rfl ?_))) ?_ ⟨none, 0, [], rfl, ?_, rfl⟩
    · rw [show (E.inn seq ack xs) = (E, []) by simp [EndS.inn, hv']]
      refine (Ent.nilSl encM 1 31).trans (Ent.consR ((Ent.allP_nil msgP).trans (Ent.consR (Ent.trans ?_ (endClose x ⟨hms, hhs⟩)))))
      repeat (first | exact Ent.refl _ | exact Ent.nil _ | refine Ent.take' ?_ | refine Ent.trans Ent.drop ?_)
    · simp [EndS.inn, hv']
  rename_i hv
  have hv' : validB seq ack xs.length = true := by rw [← hn]; simpa using hv
  repeat (first | refine run ?_ | intro _ | ((with_reducible apply G.atDraw); first | refine G.draw (id := 1) plC3_19_1 mixed (by kernel_rfl) ?_ | refine G.draw (id := 3) plC3_19_3 mixed (by kernel_rfl) ?_ | refine G.draw (id := 9) plC3_19_9 mixed (by kernel_rfl) ?_ | refine G.draw (id := 10) plC3_19_10 mixed (by kernel_rfl) ?_ | refine G.draw (id := 11) plC3_19_11 mixed (by kernel_rfl) ?_ | refine G.draw (id := 13) plC3_19_13 mixed (by kernel_rfl) ?_ | refine G.draw (id := 17) plC3_19_17 mixed (by kernel_rfl) ?_))
  (first | with_reducible refine CB.dec (fun _ => ?_) (fun _ => ?_) | with_reducible refine GB.dec (fun _ => ?_) (fun _ => ?_) | with_reducible refine CB.bool (fun _ => ?_) (fun _ => ?_) | with_reducible refine GB.bool (fun _ => ?_) (fun _ => ?_))
  · rename_i hs
    have he : E.inn seq ack xs = (E, []) := by simp [EndS.inn, hs]
    repeat (first | refine run ?_ | intro _ | ((with_reducible apply G.atDraw); first | refine G.draw (id := 1) plC3_19_1 mixed (by kernel_rfl) ?_ | refine G.draw (id := 3) plC3_19_3 mixed (by kernel_rfl) ?_ | refine G.draw (id := 9) plC3_19_9 mixed (by kernel_rfl) ?_ | refine G.draw (id := 10) plC3_19_10 mixed (by kernel_rfl) ?_ | refine G.draw (id := 11) plC3_19_11 mixed (by kernel_rfl) ?_ | refine G.draw (id := 13) plC3_19_13 mixed (by kernel_rfl) ?_ | refine G.draw (id := 17) plC3_19_17 mixed (by kernel_rfl) ?_))
    refine KX.ends (by first | exact ResOk.tmps rfl | (repeat (first | exact ResOk.nil | refine ResOk.tmp rfl ?_ | refine ResOk.cell rfl (by rfl) ?_ | refine ResOk.cell1 rfl ?_))) ?_ ⟨none, 0, [], rfl, by simp [he], rfl⟩
    rw [he]
    refine (Ent.nilSl encM 1 31).trans (Ent.consR ((Ent.allP_nil msgP).trans (Ent.consR (Ent.trans ?_ (endClose x ⟨hms, hhs⟩)))))
    repeat (first | exact Ent.refl _ | exact Ent.nil _ | refine Ent.take' ?_ | refine Ent.trans Ent.drop ?_)
  rename_i hs
  repeat (first | refine run ?_ | intro _ | ((with_reducible apply G.atDraw); first | refine G.draw (id := 1) plC3_19_1 mixed (by kernel_rfl) ?_ | refine G.draw (id := 3) plC3_19_3 mixed (by kernel_rfl) ?_ | refine G.draw (id := 9) plC3_19_9 mixed (by kernel_rfl) ?_ | refine G.draw (id := 10) plC3_19_10 mixed (by kernel_rfl) ?_ | refine G.draw (id := 11) plC3_19_11 mixed (by kernel_rfl) ?_ | refine G.draw (id := 13) plC3_19_13 mixed (by kernel_rfl) ?_ | refine G.draw (id := 17) plC3_19_17 mixed (by kernel_rfl) ?_))
  (first | with_reducible refine CB.dec (fun _ => ?_) (fun _ => ?_) | with_reducible refine GB.dec (fun _ => ?_) (fun _ => ?_) | with_reducible refine CB.bool (fun _ => ?_) (fun _ => ?_) | with_reducible refine GB.bool (fun _ => ?_) (fun _ => ?_))
  · rename_i hs2
    have he : E.inn seq ack xs = (E, []) := by simp [EndS.inn, hs2]
    repeat (first | refine run ?_ | intro _ | ((with_reducible apply G.atDraw); first | refine G.draw (id := 1) plC3_19_1 mixed (by kernel_rfl) ?_ | refine G.draw (id := 3) plC3_19_3 mixed (by kernel_rfl) ?_ | refine G.draw (id := 9) plC3_19_9 mixed (by kernel_rfl) ?_ | refine G.draw (id := 10) plC3_19_10 mixed (by kernel_rfl) ?_ | refine G.draw (id := 11) plC3_19_11 mixed (by kernel_rfl) ?_ | refine G.draw (id := 13) plC3_19_13 mixed (by kernel_rfl) ?_ | refine G.draw (id := 17) plC3_19_17 mixed (by kernel_rfl) ?_))
    refine KX.ends (by first | exact ResOk.tmps rfl | (repeat (first | exact ResOk.nil | refine ResOk.tmp rfl ?_ | refine ResOk.cell rfl (by rfl) ?_ | refine ResOk.cell1 rfl ?_))) ?_ ⟨none, 0, [], rfl, by simp [he], rfl⟩
    rw [he]
    refine (Ent.nilSl encM 1 31).trans (Ent.consR ((Ent.allP_nil msgP).trans (Ent.consR (Ent.trans ?_ (endClose x ⟨hms, hhs⟩)))))
    repeat (first | exact Ent.refl _ | exact Ent.nil _ | refine Ent.take' ?_ | refine Ent.trans Ent.drop ?_)
  rename_i hs2
  have hvb := validB_props hv'
  repeat (first | ((fail_if_success (with_reducible refine G.atSS 3 ?_)); (with_reducible apply G.seq)) | refine runS ?_ | intro _ | ((with_reducible apply G.atDraw); first | refine G.draw (id := 1) plC3_19_1 mixed (by kernel_rfl) ?_ | refine G.draw (id := 3) plC3_19_3 mixed (by kernel_rfl) ?_ | refine G.draw (id := 9) plC3_19_9 mixed (by kernel_rfl) ?_ | refine G.draw (id := 10) plC3_19_10 mixed (by kernel_rfl) ?_ | refine G.draw (id := 11) plC3_19_11 mixed (by kernel_rfl) ?_ | refine G.draw (id := 13) plC3_19_13 mixed (by kernel_rfl) ?_ | refine G.draw (id := 17) plC3_19_17 mixed (by kernel_rfl) ?_))
  refine G.join (fun x => ghostOk (E.ackd ack) x) (fun _ => inEnv w b seq ack ad n c) (fun x => endL b (E.ackd ack) x (pkA w seq ack ad n c :: L)) ?_ ?_
  · repeat (first | refine run ?_ | intro _ | ((with_reducible apply G.atDraw); first | refine G.draw (id := 1) plC3_19_1 mixed (by kernel_rfl) ?_ | refine G.draw (id := 3) plC3_19_3 mixed (by kernel_rfl) ?_ | refine G.draw (id := 9) plC3_19_9 mixed (by kernel_rfl) ?_ | refine G.draw (id := 10) plC3_19_10 mixed (by kernel_rfl) ?_ | refine G.draw (id := 11) plC3_19_11 mixed (by kernel_rfl) ?_ | refine G.draw (id := 13) plC3_19_13 mixed (by kernel_rfl) ?_ | refine G.draw (id := 17) plC3_19_17 mixed (by kernel_rfl) ?_))
    (first | with_reducible refine CB.dec (fun _ => ?_) (fun _ => ?_) | with_reducible refine GB.dec (fun _ => ?_) (fun _ => ?_) | with_reducible refine CB.bool (fun _ => ?_) (fun _ => ?_) | with_reducible refine GB.bool (fun _ => ?_) (fun _ => ?_))
    · rename_i hpos
      have he : E.ackd ack = { E with waiting := E.waiting.drop (ack - (E.sent - x.ms.length)).toNat } := by rw [EndS.ackd, hlen, if_pos (by omega)]
      repeat (first | refine run ?_ | intro _ | ((with_reducible apply G.atDraw); first | refine G.draw (id := 1) plC3_19_1 mixed (by kernel_rfl) ?_ | refine G.draw (id := 3) plC3_19_3 mixed (by kernel_rfl) ?_ | refine G.draw (id := 9) plC3_19_9 mixed (by kernel_rfl) ?_ | refine G.draw (id := 10) plC3_19_10 mixed (by kernel_rfl) ?_ | refine G.draw (id := 11) plC3_19_11 mixed (by kernel_rfl) ?_ | refine G.draw (id := 13) plC3_19_13 mixed (by kernel_rfl) ?_ | refine G.draw (id := 17) plC3_19_17 mixed (by kernel_rfl) ?_))
      (first | ((with_reducible apply GO.atPlain); first | refine GO.ef (Ef.callAll (cloneM_spec _ _ _ (x.ms.drop (ack - (E.sent - x.ms.length)).toNat) (by simp) (by omega)) rfl) (by decide) ?_ | refine GO.ef (by exact Ef.callAll (cloneM_spec _ _ _ (x.ms.drop (ack - (E.sent - x.ms.length)).toNat) (by simp) (by omega)) rfl) (by decide) ?_) | ((with_reducible apply GPW.atEf); first | refine GPW.ef (Ef.callAll (cloneM_spec _ _ _ (x.ms.drop (ack - (E.sent - x.ms.length)).toNat) (by simp) (by omega)) rfl) (by decide) ?_ | refine GPW.ef (by exact Ef.callAll (cloneM_spec _ _ _ (x.ms.drop (ack - (E.sent - x.ms.length)).toNat) (by simp) (by omega)) rfl) (by decide) ?_))
      rintro _ _ ⟨ad1, cap1, rfl, rfl⟩
      repeat (first | refine run ?_ | intro _ | ((with_reducible apply G.atDraw); first | refine G.draw (id := 1) plC3_19_1 mixed (by kernel_rfl) ?_ | refine G.draw (id := 3) plC3_19_3 mixed (by kernel_rfl) ?_ | refine G.draw (id := 9) plC3_19_9 mixed (by kernel_rfl) ?_ | refine G.draw (id := 10) plC3_19_10 mixed (by kernel_rfl) ?_ | refine G.draw (id := 11) plC3_19_11 mixed (by kernel_rfl) ?_ | refine G.draw (id := 13) plC3_19_13 mixed (by kernel_rfl) ?_ | refine G.draw (id := 17) plC3_19_17 mixed (by kernel_rfl) ?_))
      rw [he]
      refine ⟨⟨ad1, cap1, x.mb, x.ms.drop (ack - (E.sent - x.ms.length)).toNat, x.hs⟩, ⟨by simp [List.map_drop, hms], hhs⟩, (by repeat (first | exact EnvSub.nil _ | refine EnvSub.cons rfl ?_)), ?_⟩
      refine (Ent.at (A := allP msgP x.ms) (Ent.allP_sub (l' := x.ms.drop (ack - (E.sent - x.ms.length)).toNat) (fun y hy => List.mem_of_mem_drop hy))).trans ?_
      repeat (first | exact Ent.refl _ | exact Ent.nil _ | refine Ent.take' ?_ | refine Ent.trans Ent.drop ?_)
    · rename_i hneg
      have he : E.ackd ack = E := by rw [EndS.ackd, if_neg (by omega)]
      repeat (first | refine run ?_ | intro _ | ((with_reducible apply G.atDraw); first | refine G.draw (id := 1) plC3_19_1 mixed (by kernel_rfl) ?_ | refine G.draw (id := 3) plC3_19_3 mixed (by kernel_rfl) ?_ | refine G.draw (id := 9) plC3_19_9 mixed (by kernel_rfl) ?_ | refine G.draw (id := 10) plC3_19_10 mixed (by kernel_rfl) ?_ | refine G.draw (id := 11) plC3_19_11 mixed (by kernel_rfl) ?_ | refine G.draw (id := 13) plC3_19_13 mixed (by kernel_rfl) ?_ | refine G.draw (id := 17) plC3_19_17 mixed (by kernel_rfl) ?_))
      rw [he]
      exact ⟨x, ⟨hms, hhs⟩, (by repeat (first | exact EnvSub.nil _ | refine EnvSub.cons rfl ?_)), by repeat (first | exact Ent.refl _ | exact Ent.nil _ | refine Ent.take' ?_ | refine Ent.trans Ent.drop ?_)⟩
  have e1 := ackd_del E ack
  have e2 := ackd_held E ack
  have e3 := ackd_sent E ack
  have hin : E.inn seq ack xs = if seq = 0 then (E.ackd ack, []) else (({ E.ackd ack with owing := true } : EndS).hold seq xs).deliver (({ E.ackd ack with owing := true } : EndS).hold seq xs).held.length [] := by
    rw [EndS.inn, if_neg]
    rintro (h | h | h)
    · rw [hv'] at h; cases h
    · exact hs h
    · exact hs2 h
  rw [hin]
  generalize E.ackd ack = E1 at e1 e2 e3
  clear hms hhs hlen hhl hcap hin
  rename_i hcc
  clear hcc
  clear x
  intro x ⟨hms, hhs⟩
  have hlen : x.ms.length = E1.waiting.length := by rw [← hms]; simp
  have hhl : x.hs.length = E1.held.length := by rw [← hhs]; simp
  repeat (first | refine run ?_ | intro _ | ((with_reducible apply G.atDraw); first | refine G.draw (id := 1) plC3_19_1 mixed (by kernel_rfl) ?_ | refine G.draw (id := 3) plC3_19_3 mixed (by kernel_rfl) ?_ | refine G.draw (id := 9) plC3_19_9 mixed (by kernel_rfl) ?_ | refine G.draw (id := 10) plC3_19_10 mixed (by kernel_rfl) ?_ | refine G.draw (id := 11) plC3_19_11 mixed (by kernel_rfl) ?_ | refine G.draw (id := 13) plC3_19_13 mixed (by kernel_rfl) ?_ | refine G.draw (id := 17) plC3_19_17 mixed (by kernel_rfl) ?_))
  (first | with_reducible refine CB.dec (fun _ => ?_) (fun _ => ?_) | with_reducible refine GB.dec (fun _ => ?_) (fun _ => ?_) | with_reducible refine CB.bool (fun _ => ?_) (fun _ => ?_) | with_reducible refine GB.bool (fun _ => ?_) (fun _ => ?_))
  · rename_i hz
    rw [if_pos hz]
    repeat (first | refine run ?_ | intro _ | ((with_reducible apply G.atDraw); first | refine G.draw (id := 1) plC3_19_1 mixed (by kernel_rfl) ?_ | refine G.draw (id := 3) plC3_19_3 mixed (by kernel_rfl) ?_ | refine G.draw (id := 9) plC3_19_9 mixed (by kernel_rfl) ?_ | refine G.draw (id := 10) plC3_19_10 mixed (by kernel_rfl) ?_ | refine G.draw (id := 11) plC3_19_11 mixed (by kernel_rfl) ?_ | refine G.draw (id := 13) plC3_19_13 mixed (by kernel_rfl) ?_ | refine G.draw (id := 17) plC3_19_17 mixed (by kernel_rfl) ?_))
    refine KX.ends (by first | exact ResOk.tmps rfl | (repeat (first | exact ResOk.nil | refine ResOk.tmp rfl ?_ | refine ResOk.cell rfl (by rfl) ?_ | refine ResOk.cell1 rfl ?_))) ?_ ⟨none, 0, [], rfl, rfl, rfl⟩
    refine (Ent.nilSl encM 1 31).trans (Ent.consR ((Ent.allP_nil msgP).trans (Ent.consR (Ent.trans ?_ (endClose x ⟨hms, hhs⟩)))))
    repeat (first | exact Ent.refl _ | exact Ent.nil _ | refine Ent.take' ?_ | refine Ent.trans Ent.drop ?_)
  rename_i hz
  rw [if_neg hz]
  have e4 := hold_del { E1 with owing := true } seq xs
  have e5 := hold_len { E1 with owing := true } seq xs
  simp only [] at e4 e5
  repeat (first | ((fail_if_success (with_reducible refine G.atSS 9 ?_)); (with_reducible apply G.seq)) | refine runS ?_ | intro _ | ((with_reducible apply G.atDraw); first | refine G.draw (id := 1) plC3_19_1 mixed (by kernel_rfl) ?_ | refine G.draw (id := 3) plC3_19_3 mixed (by kernel_rfl) ?_ | refine G.draw (id := 9) plC3_19_9 mixed (by kernel_rfl) ?_ | refine G.draw (id := 10) plC3_19_10 mixed (by kernel_rfl) ?_ | refine G.draw (id := 11) plC3_19_11 mixed (by kernel_rfl) ?_ | refine G.draw (id := 13) plC3_19_13 mixed (by kernel_rfl) ?_ | refine G.draw (id := 17) plC3_19_17 mixed (by kernel_rfl) ?_))
  refine G.join (fun x => ghostOk (({ E1 with owing := true } : EndS).hold seq xs) x) (fun _ => inEnv w b seq ack ad n c) (fun x => endL b (({ E1 with owing := true } : EndS).hold seq xs) x L) ?_ ?_
  · cases hk : x.hs.lookup seq with
    | some m =>
      have hk2 : E1.held.lookup seq = some m.bs := by rw [← hhs, lookup_map (fun m : Msg => m.bs), hk]; rfl
      have he : ({ E1 with owing := true } : EndS).hold seq xs = { E1 with owing := true } := by simp [EndS.hold, hk2]
      repeat (first | refine run ?_ | intro _ | ((with_reducible apply G.atDraw); first | refine G.draw (id := 1) plC3_19_1 mixed (by kernel_rfl) ?_ | refine G.draw (id := 3) plC3_19_3 mixed (by kernel_rfl) ?_ | refine G.draw (id := 9) plC3_19_9 mixed (by kernel_rfl) ?_ | refine G.draw (id := 10) plC3_19_10 mixed (by kernel_rfl) ?_ | refine G.draw (id := 11) plC3_19_11 mixed (by kernel_rfl) ?_ | refine G.draw (id := 13) plC3_19_13 mixed (by kernel_rfl) ?_ | refine G.draw (id := 17) plC3_19_17 mixed (by kernel_rfl) ?_))
      (first | ((with_reducible apply GO.atPlain); first | refine GO.ev (Ev.lookupYes rfl rfl hk) (by decide) ?_ | refine GO.ev (by exact Ev.lookupYes rfl rfl hk) (by decide) ?_) | ((with_reducible apply GPW.atEv); first | refine GPW.evP (Ev.lookupYes rfl rfl hk) (by decide) ?_ | refine GPW.evP (by exact Ev.lookupYes rfl rfl hk) (by decide) ?_) | ((with_reducible apply GPW.atEv); first | refine GPW.evL (Ev.lookupYes rfl rfl hk) (by decide) ?_ | refine GPW.evL (by exact Ev.lookupYes rfl rfl hk) (by decide) ?_))
      repeat (first | refine run ?_ | intro _ | ((with_reducible apply G.atDraw); first | refine G.draw (id := 1) plC3_19_1 mixed (by kernel_rfl) ?_ | refine G.draw (id := 3) plC3_19_3 mixed (by kernel_rfl) ?_ | refine G.draw (id := 9) plC3_19_9 mixed (by kernel_rfl) ?_ | refine G.draw (id := 10) plC3_19_10 mixed (by kernel_rfl) ?_ | refine G.draw (id := 11) plC3_19_11 mixed (by kernel_rfl) ?_ | refine G.draw (id := 13) plC3_19_13 mixed (by kernel_rfl) ?_ | refine G.draw (id := 17) plC3_19_17 mixed (by kernel_rfl) ?_))
      rw [he]
      refine ⟨x, ⟨hms, hhs⟩, (by repeat (first | exact EnvSub.nil _ | refine EnvSub.cons rfl ?_)), ?_⟩
      repeat (first | exact Ent.refl _ | exact Ent.nil _ | refine Ent.take' ?_ | refine Ent.trans Ent.drop ?_)
    | none =>
      have hk2 : E1.held.lookup seq = none := by rw [← hhs, lookup_map (fun m : Msg => m.bs), hk]; rfl
      repeat (first | refine run ?_ | intro _ | ((with_reducible apply G.atDraw); first | refine G.draw (id := 1) plC3_19_1 mixed (by kernel_rfl) ?_ | refine G.draw (id := 3) plC3_19_3 mixed (by kernel_rfl) ?_ | refine G.draw (id := 9) plC3_19_9 mixed (by kernel_rfl) ?_ | refine G.draw (id := 10) plC3_19_10 mixed (by kernel_rfl) ?_ | refine G.draw (id := 11) plC3_19_11 mixed (by kernel_rfl) ?_ | refine G.draw (id := 13) plC3_19_13 mixed (by kernel_rfl) ?_ | refine G.draw (id := 17) plC3_19_17 mixed (by kernel_rfl) ?_))
      (first | ((with_reducible apply GO.atPlain); first | refine GO.ev (Ev.lookupNo rfl rfl hk) (by decide) ?_ | refine GO.ev (by exact Ev.lookupNo rfl rfl hk) (by decide) ?_) | ((with_reducible apply GPW.atEv); first | refine GPW.evP (Ev.lookupNo rfl rfl hk) (by decide) ?_ | refine GPW.evP (by exact Ev.lookupNo rfl rfl hk) (by decide) ?_) | ((with_reducible apply GPW.atEv); first | refine GPW.evL (Ev.lookupNo rfl rfl hk) (by decide) ?_ | refine GPW.evL (by exact Ev.lookupNo rfl rfl hk) (by decide) ?_))
      repeat (first | refine run ?_ | intro _ | ((with_reducible apply G.atDraw); first | refine G.draw (id := 1) plC3_19_1 mixed (by kernel_rfl) ?_ | refine G.draw (id := 3) plC3_19_3 mixed (by kernel_rfl) ?_ | refine G.draw (id := 9) plC3_19_9 mixed (by kernel_rfl) ?_ | refine G.draw (id := 10) plC3_19_10 mixed (by kernel_rfl) ?_ | refine G.draw (id := 11) plC3_19_11 mixed (by kernel_rfl) ?_ | refine G.draw (id := 13) plC3_19_13 mixed (by kernel_rfl) ?_ | refine G.draw (id := 17) plC3_19_17 mixed (by kernel_rfl) ?_))
      (first | with_reducible refine CB.dec (fun _ => ?_) (fun _ => ?_) | with_reducible refine GB.dec (fun _ => ?_) (fun _ => ?_) | with_reducible refine CB.bool (fun _ => ?_) (fun _ => ?_) | with_reducible refine GB.bool (fun _ => ?_) (fun _ => ?_))
      · rename_i hd
        repeat (first | refine run ?_ | intro _ | ((with_reducible apply G.atDraw); first | refine G.draw (id := 1) plC3_19_1 mixed (by kernel_rfl) ?_ | refine G.draw (id := 3) plC3_19_3 mixed (by kernel_rfl) ?_ | refine G.draw (id := 9) plC3_19_9 mixed (by kernel_rfl) ?_ | refine G.draw (id := 10) plC3_19_10 mixed (by kernel_rfl) ?_ | refine G.draw (id := 11) plC3_19_11 mixed (by kernel_rfl) ?_ | refine G.draw (id := 13) plC3_19_13 mixed (by kernel_rfl) ?_ | refine G.draw (id := 17) plC3_19_17 mixed (by kernel_rfl) ?_))
        (first | ((with_reducible apply GO.atPlain); first | refine GO.ef (Ef.callAll (cloneB_spec _ _ _ xs hn (by omega)) rfl) (by decide) ?_ | refine GO.ef (by exact Ef.callAll (cloneB_spec _ _ _ xs hn (by omega)) rfl) (by decide) ?_) | ((with_reducible apply GPW.atEf); first | refine GPW.ef (Ef.callAll (cloneB_spec _ _ _ xs hn (by omega)) rfl) (by decide) ?_ | refine GPW.ef (by exact Ef.callAll (cloneB_spec _ _ _ xs hn (by omega)) rfl) (by decide) ?_))
        rintro _ _ ⟨ad1, cap1, rfl, rfl⟩
        repeat (first | refine run ?_ | intro _ | ((with_reducible apply G.atDraw); first | refine G.draw (id := 1) plC3_19_1 mixed (by kernel_rfl) ?_ | refine G.draw (id := 3) plC3_19_3 mixed (by kernel_rfl) ?_ | refine G.draw (id := 9) plC3_19_9 mixed (by kernel_rfl) ?_ | refine G.draw (id := 10) plC3_19_10 mixed (by kernel_rfl) ?_ | refine G.draw (id := 11) plC3_19_11 mixed (by kernel_rfl) ?_ | refine G.draw (id := 13) plC3_19_13 mixed (by kernel_rfl) ?_ | refine G.draw (id := 17) plC3_19_17 mixed (by kernel_rfl) ?_))
        (first | ((with_reducible apply GO.atPlain); first | refine GO.ef (Ef.mapUpdate (⟨ad1, cap1, xs⟩ : Msg) rfl rfl rfl rfl) (by decide) ?_ | refine GO.ef (by exact Ef.mapUpdate (⟨ad1, cap1, xs⟩ : Msg) rfl rfl rfl rfl) (by decide) ?_) | ((with_reducible apply GPW.atEf); first | refine GPW.ef (Ef.mapUpdate (⟨ad1, cap1, xs⟩ : Msg) rfl rfl rfl rfl) (by decide) ?_ | refine GPW.ef (by exact Ef.mapUpdate (⟨ad1, cap1, xs⟩ : Msg) rfl rfl rfl rfl) (by decide) ?_) | ((with_reducible apply GO.atUnit); first | refine GO.efu (Ef.mapUpdate (⟨ad1, cap1, xs⟩ : Msg) rfl rfl rfl rfl) ?_ | refine GO.efu (by exact Ef.mapUpdate (⟨ad1, cap1, xs⟩ : Msg) rfl rfl rfl rfl) ?_) | ((with_reducible apply GPW.atEfu); first | refine GPW.efu (Ef.mapUpdate (⟨ad1, cap1, xs⟩ : Msg) rfl rfl rfl rfl) ?_ | refine GPW.efu (by exact Ef.mapUpdate (⟨ad1, cap1, xs⟩ : Msg) rfl rfl rfl rfl) ?_))
        rintro _ _ rfl
        repeat (first | refine run ?_ | intro _ | ((with_reducible apply G.atDraw); first | refine G.draw (id := 1) plC3_19_1 mixed (by kernel_rfl) ?_ | refine G.draw (id := 3) plC3_19_3 mixed (by kernel_rfl) ?_ | refine G.draw (id := 9) plC3_19_9 mixed (by kernel_rfl) ?_ | refine G.draw (id := 10) plC3_19_10 mixed (by kernel_rfl) ?_ | refine G.draw (id := 11) plC3_19_11 mixed (by kernel_rfl) ?_ | refine G.draw (id := 13) plC3_19_13 mixed (by kernel_rfl) ?_ | refine G.draw (id := 17) plC3_19_17 mixed (by kernel_rfl) ?_))
        have he : ({ E1 with owing := true } : EndS).hold seq xs = { E1 with owing := true, held := ains E1.held seq xs } := by simp [EndS.hold, hk2, hd]
        rw [he]
        refine ⟨⟨x.ad, x.cap, x.mb, x.ms, ains x.hs seq ⟨ad1, cap1, xs⟩⟩, ⟨hms, ?_⟩, (by repeat (first | exact EnvSub.nil _ | refine EnvSub.cons rfl ?_)), ?_⟩
        · simp only []
          rw [← hhs]
          exact (ains_map (fun m : Msg => m.bs) x.hs seq ⟨ad1, cap1, xs⟩).symm
        · refine (Ent.frz ad1).trans ?_
          refine (Ent.allP_one (f := fun p : Int × Msg => msgP p.2) (x := (seq, ⟨ad1, cap1, xs⟩)) (fun _ => msgP_m _)).trans ?_
          refine (Ent.at (A := allP (fun p : Int × Msg => msgP p.2) x.hs) (Ent.allP_app (fun _ => msgP_m _))).trans ?_
          rw [ains_new hk]
          repeat (first | exact Ent.refl _ | exact Ent.nil _ | refine Ent.take' ?_ | refine Ent.trans Ent.drop ?_)
      · rename_i hd
        have he : ({ E1 with owing := true } : EndS).hold seq xs = { E1 with owing := true } := by
          rw [EndS.hold, if_neg]
          rintro ⟨_, h⟩
          exact hd h
        repeat (first | refine run ?_ | intro _ | ((with_reducible apply G.atDraw); first | refine G.draw (id := 1) plC3_19_1 mixed (by kernel_rfl) ?_ | refine G.draw (id := 3) plC3_19_3 mixed (by kernel_rfl) ?_ | refine G.draw (id := 9) plC3_19_9 mixed (by kernel_rfl) ?_ | refine G.draw (id := 10) plC3_19_10 mixed (by kernel_rfl) ?_ | refine G.draw (id := 11) plC3_19_11 mixed (by kernel_rfl) ?_ | refine G.draw (id := 13) plC3_19_13 mixed (by kernel_rfl) ?_ | refine G.draw (id := 17) plC3_19_17 mixed (by kernel_rfl) ?_))
        rw [he]
        refine ⟨x, ⟨hms, hhs⟩, (by repeat (first | exact EnvSub.nil _ | refine EnvSub.cons rfl ?_)), ?_⟩
        repeat (first | exact Ent.refl _ | exact Ent.nil _ | refine Ent.take' ?_ | refine Ent.trans Ent.drop ?_)
  generalize ({ E1 with owing := true } : EndS).hold seq xs = E2 at e4 e5
  clear hms hhs hlen hhl
  clear x
  intro x ⟨hms, hhs⟩
  have h5 : 0 ≤ E2.delivered ∧ E2.delivered + E2.held.length ≤ 1000000001 := by
    rw [e2] at e5
    omega
  repeat (first | refine run ?_ | intro _ | ((with_reducible apply G.atDraw); first | refine G.draw (id := 1) plC3_19_1 mixed (by kernel_rfl) ?_ | refine G.draw (id := 3) plC3_19_3 mixed (by kernel_rfl) ?_ | refine G.draw (id := 9) plC3_19_9 mixed (by kernel_rfl) ?_ | refine G.draw (id := 10) plC3_19_10 mixed (by kernel_rfl) ?_ | refine G.draw (id := 11) plC3_19_11 mixed (by kernel_rfl) ?_ | refine G.draw (id := 13) plC3_19_13 mixed (by kernel_rfl) ?_ | refine G.draw (id := 17) plC3_19_17 mixed (by kernel_rfl) ?_))
  refine G.loop (α := EndS × EndX × Option Addr × Nat × List Msg) (fun (E', x, _, _, acc) => ghostOk E' x ∧ E'.deliver E'.held.length (acc.map (·.bs)) = E2.deliver E2.held.length [] ∧ (0 ≤ E'.delivered ∧ E'.delivered + E'.held.length ≤ 1000000001) ∧ acc.length + E'.held.length ≤ E2.held.length)
    (fun (_, _, ad', cap', acc) => [(8, .slice ad' acc.length cap'), (0, .pointer (some ⟨b, 0, none⟩))]) (fun (E', x, ad', cap', acc) => endL b E' x (osl encM 1 31 ad' cap' acc :: allP msgP acc :: L)) (fun (E', _) => E'.held.length)
    (E2, x, none, 0, []) ⟨⟨hms, hhs⟩, rfl, h5, by simp⟩ (by repeat (first | exact EnvSub.nil _ | refine EnvSub.cons rfl ?_)) ((Ent.nilSl encM 1 31).trans ((Ent.allP_nil msgP).trans (by repeat (first | exact Ent.refl _ | exact Ent.nil _ | refine Ent.take' ?_ | refine Ent.trans Ent.drop ?_)))) ?_
  rintro ⟨E', x, ad', cap', acc⟩ ⟨⟨hms, hhs⟩, hdel, h6, h7⟩
  simp only [] at hms hhs hdel h6 h7 ⊢
  have hhl : x.hs.length = E'.held.length := by rw [← hhs]; simp
  cases hk : x.hs.lookup (E'.delivered + 1) with
  | none =>
    have hk2 : E'.held.lookup (E'.delivered + 1) = none := by rw [← hhs, lookup_map (fun m : Msg => m.bs), hk]; rfl
    rw [deliver_none hk2] at hdel
    rw [← hdel]
    repeat (first | refine run ?_ | intro _ | ((with_reducible apply G.atDraw); first | refine G.draw (id := 1) plC3_19_1 mixed (by kernel_rfl) ?_ | refine G.draw (id := 3) plC3_19_3 mixed (by kernel_rfl) ?_ | refine G.draw (id := 9) plC3_19_9 mixed (by kernel_rfl) ?_ | refine G.draw (id := 10) plC3_19_10 mixed (by kernel_rfl) ?_ | refine G.draw (id := 11) plC3_19_11 mixed (by kernel_rfl) ?_ | refine G.draw (id := 13) plC3_19_13 mixed (by kernel_rfl) ?_ | refine G.draw (id := 17) plC3_19_17 mixed (by kernel_rfl) ?_))
    (first | ((with_reducible apply GO.atPlain); first | refine GO.ev (Ev.lookupNo rfl rfl hk) (by decide) ?_ | refine GO.ev (by exact Ev.lookupNo rfl rfl hk) (by decide) ?_) | ((with_reducible apply GPW.atEv); first | refine GPW.evP (Ev.lookupNo rfl rfl hk) (by decide) ?_ | refine GPW.evP (by exact Ev.lookupNo rfl rfl hk) (by decide) ?_) | ((with_reducible apply GPW.atEv); first | refine GPW.evL (Ev.lookupNo rfl rfl hk) (by decide) ?_ | refine GPW.evL (by exact Ev.lookupNo rfl rfl hk) (by decide) ?_))
    repeat (first | refine run ?_ | intro _ | ((with_reducible apply G.atDraw); first | refine G.draw (id := 1) plC3_19_1 mixed (by kernel_rfl) ?_ | refine G.draw (id := 3) plC3_19_3 mixed (by kernel_rfl) ?_ | refine G.draw (id := 9) plC3_19_9 mixed (by kernel_rfl) ?_ | refine G.draw (id := 10) plC3_19_10 mixed (by kernel_rfl) ?_ | refine G.draw (id := 11) plC3_19_11 mixed (by kernel_rfl) ?_ | refine G.draw (id := 13) plC3_19_13 mixed (by kernel_rfl) ?_ | refine G.draw (id := 17) plC3_19_17 mixed (by kernel_rfl) ?_))
    refine KX.ends (by first | exact ResOk.tmps rfl | (repeat (first | exact ResOk.nil | refine ResOk.tmp rfl ?_ | refine ResOk.cell rfl (by rfl) ?_ | refine ResOk.cell1 rfl ?_))) ?_ ⟨ad', cap', acc, rfl, rfl, rfl⟩
    refine Ent.take' (Ent.take' (Ent.trans ?_ (endClose x ⟨hms, hhs⟩)))
    repeat (first | exact Ent.refl _ | exact Ent.nil _ | refine Ent.take' ?_ | refine Ent.trans Ent.drop ?_)
  | some m =>
    have hk2 : E'.held.lookup (E'.delivered + 1) = some m.bs := by rw [← hhs, lookup_map (fun m : Msg => m.bs), hk]; rfl
    rw [deliver_some hk2] at hdel
    have hlt := aera_lt hk2
    repeat (first | refine run ?_ | intro _ | ((with_reducible apply G.atDraw); first | refine G.draw (id := 1) plC3_19_1 mixed (by kernel_rfl) ?_ | refine G.draw (id := 3) plC3_19_3 mixed (by kernel_rfl) ?_ | refine G.draw (id := 9) plC3_19_9 mixed (by kernel_rfl) ?_ | refine G.draw (id := 10) plC3_19_10 mixed (by kernel_rfl) ?_ | refine G.draw (id := 11) plC3_19_11 mixed (by kernel_rfl) ?_ | refine G.draw (id := 13) plC3_19_13 mixed (by kernel_rfl) ?_ | refine G.draw (id := 17) plC3_19_17 mixed (by kernel_rfl) ?_))
    (first | ((with_reducible apply GO.atPlain); first | refine GO.ev (Ev.lookupYes rfl rfl hk) (by decide) ?_ | refine GO.ev (by exact Ev.lookupYes rfl rfl hk) (by decide) ?_) | ((with_reducible apply GPW.atEv); first | refine GPW.evP (Ev.lookupYes rfl rfl hk) (by decide) ?_ | refine GPW.evP (by exact Ev.lookupYes rfl rfl hk) (by decide) ?_) | ((with_reducible apply GPW.atEv); first | refine GPW.evL (Ev.lookupYes rfl rfl hk) (by decide) ?_ | refine GPW.evL (by exact Ev.lookupYes rfl rfl hk) (by decide) ?_))
    repeat (first | refine run ?_ | intro _ | ((with_reducible apply G.atDraw); first | refine G.draw (id := 1) plC3_19_1 mixed (by kernel_rfl) ?_ | refine G.draw (id := 3) plC3_19_3 mixed (by kernel_rfl) ?_ | refine G.draw (id := 9) plC3_19_9 mixed (by kernel_rfl) ?_ | refine G.draw (id := 10) plC3_19_10 mixed (by kernel_rfl) ?_ | refine G.draw (id := 11) plC3_19_11 mixed (by kernel_rfl) ?_ | refine G.draw (id := 13) plC3_19_13 mixed (by kernel_rfl) ?_ | refine G.draw (id := 17) plC3_19_17 mixed (by kernel_rfl) ?_))
    (first | ((with_reducible apply GO.atPlain); first | refine GO.ef (Ef.delete rfl rfl) (by decide) ?_ | refine GO.ef (by exact Ef.delete rfl rfl) (by decide) ?_) | ((with_reducible apply GPW.atEf); first | refine GPW.ef (Ef.delete rfl rfl) (by decide) ?_ | refine GPW.ef (by exact Ef.delete rfl rfl) (by decide) ?_) | ((with_reducible apply GO.atUnit); first | refine GO.efu (Ef.delete rfl rfl) ?_ | refine GO.efu (by exact Ef.delete rfl rfl) ?_) | ((with_reducible apply GPW.atEfu); first | refine GPW.efu (Ef.delete rfl rfl) ?_ | refine GPW.efu (by exact Ef.delete rfl rfl) ?_))
    rintro _ _ rfl
    repeat (first | refine run ?_ | intro _ | ((with_reducible apply G.atDraw); first | refine G.draw (id := 1) plC3_19_1 mixed (by kernel_rfl) ?_ | refine G.draw (id := 3) plC3_19_3 mixed (by kernel_rfl) ?_ | refine G.draw (id := 9) plC3_19_9 mixed (by kernel_rfl) ?_ | refine G.draw (id := 10) plC3_19_10 mixed (by kernel_rfl) ?_ | refine G.draw (id := 11) plC3_19_11 mixed (by kernel_rfl) ?_ | refine G.draw (id := 13) plC3_19_13 mixed (by kernel_rfl) ?_ | refine G.draw (id := 17) plC3_19_17 mixed (by kernel_rfl) ?_))
    (first | ((with_reducible apply GO.atPlain); first | refine GO.ef (Ef.append1 (e := m) rfl rfl rfl rfl rfl (by rfl) (encM_one _) (by omega) (by omega)) (by decide) ?_ | refine GO.ef (by exact Ef.append1 (e := m) rfl rfl rfl rfl rfl (by rfl) (encM_one _) (by omega) (by omega)) (by decide) ?_) | ((with_reducible apply GPW.atEf); first | refine GPW.ef (Ef.append1 (e := m) rfl rfl rfl rfl rfl (by rfl) (encM_one _) (by omega) (by omega)) (by decide) ?_ | refine GPW.ef (by exact Ef.append1 (e := m) rfl rfl rfl rfl rfl (by rfl) (encM_one _) (by omega) (by omega)) (by decide) ?_) | ((with_reducible apply GO.atUnit); first | refine GO.efu (Ef.append1 (e := m) rfl rfl rfl rfl rfl (by rfl) (encM_one _) (by omega) (by omega)) ?_ | refine GO.efu (by exact Ef.append1 (e := m) rfl rfl rfl rfl rfl (by rfl) (encM_one _) (by omega) (by omega)) ?_) | ((with_reducible apply GPW.atEfu); first | refine GPW.efu (Ef.append1 (e := m) rfl rfl rfl rfl rfl (by rfl) (encM_one _) (by omega) (by omega)) ?_ | refine GPW.efu (by exact Ef.append1 (e := m) rfl rfl rfl rfl rfl (by rfl) (encM_one _) (by omega) (by omega)) ?_))
    rintro _ _ ⟨ad2, cap2, rfl, rfl⟩
    repeat (first | refine run ?_ | intro _ | ((with_reducible apply G.atDraw); first | refine G.draw (id := 1) plC3_19_1 mixed (by kernel_rfl) ?_ | refine G.draw (id := 3) plC3_19_3 mixed (by kernel_rfl) ?_ | refine G.draw (id := 9) plC3_19_9 mixed (by kernel_rfl) ?_ | refine G.draw (id := 10) plC3_19_10 mixed (by kernel_rfl) ?_ | refine G.draw (id := 11) plC3_19_11 mixed (by kernel_rfl) ?_ | refine G.draw (id := 13) plC3_19_13 mixed (by kernel_rfl) ?_ | refine G.draw (id := 17) plC3_19_17 mixed (by kernel_rfl) ?_))
    refine ⟨({ E' with delivered := E'.delivered + 1, held := aera E'.held (E'.delivered + 1) }, ⟨x.ad, x.cap, x.mb, x.ms, aera x.hs (E'.delivered + 1)⟩, ad2, cap2, acc ++ [m]), ⟨⟨hms, ?_⟩, ?_, ⟨?_, ?_⟩, ?_⟩, hlt, (by repeat (first | exact EnvSub.nil _ | refine EnvSub.cons rfl ?_)), ?_⟩
    · simp only []
      rw [← hhs]
      exact (aera_map (fun m : Msg => m.bs) x.hs _).symm
    · simpa using hdel
    · simp only []
      omega
    · simp only []
      omega
    · simp only [List.length_append, List.length_singleton]
      omega
    · refine (Ent.at (A := allP (fun p : Int × Msg => msgP p.2) x.hs) (Ent.allP_get (x := (E'.delivered + 1, m)) (lookup_mem hk))).trans ?_
      refine (Ent.allP_one (f := msgP) (x := m) msgP_m).trans ?_
      refine (Ent.at (A := allP msgP acc) (Ent.consR (Ent.at (A := allP msgP [m]) (Ent.refl _)))).trans ?_
      refine (Ent.allP_app msgP_m).trans ?_
      refine (Ent.at (A := allP (fun p : Int × Msg => msgP p.2) x.hs) (Ent.allP_sub (l' := aera x.hs (E'.delivered + 1)) aera_sub)).trans ?_
      repeat (first | exact Ent.refl _ | exact Ent.nil _ | refine Ent.take' ?_ | refine Ent.trans Ent.drop ?_)
end Go.Proofs.Ytnpienjfapjjoaa
