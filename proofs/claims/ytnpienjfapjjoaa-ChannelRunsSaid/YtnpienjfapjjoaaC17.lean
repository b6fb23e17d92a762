/- What holds of an end beside its model; lists held against each other. -/
import Derived.Test.YtnpienjfapjjoaaC16
import Derived.Test.YtnpienjfapjjoaaC7
namespace Go.Proofs.Ytnpienjfapjjoaa
open Go.V

structure RInv (msgs : List Bytes) (i : Nat) (E : EndS) : Prop where
  win : 1 ≤ E.window ∧ E.window ≤ 16
  fit : Fit msgs E
  len : msgs.length ≤ i
  del : 0 ≤ E.delivered ∧ E.delivered + E.held.length ≤ i
  held : HeldOk E
  small : ∀ b ∈ msgs, b.length ≤ 2
  hsm : ∀ p ∈ E.held, p.2.length ≤ 65536
theorem RInv.ok {msgs : List Bytes} {i : Nat} {E : EndS} (h : RInv msgs i E) (hi : i ≤ 60) : E.Ok := by
  have h1 := h.fit.sent
  have h2 := h.fit.le
  have h3 := h.len
  have h4 := h.del
  exact ⟨h.win, by omega, by omega, by omega⟩
theorem RInv.wsmall {msgs : List Bytes} {i : Nat} {E : EndS} (h : RInv msgs i E) : ∀ b ∈ E.waiting, b.length ≤ 65536 := by
  intro b hb
  rw [h.fit.wait] at hb
  have := h.small b (List.mem_of_mem_drop hb)
  omega
theorem RInv.more {msgs : List Bytes} {i : Nat} {E : EndS} (h : RInv msgs i E) : RInv msgs (i + 1) E := ⟨h.win, h.fit, by have := h.len; omega, by have := h.del; omega, h.held, h.small, h.hsm⟩
theorem RInv.new (w : Int) (h : 1 ≤ w ∧ w ≤ 16) : RInv [] 0 (EndS.new w) := ⟨h, ⟨rfl, by simp [EndS.new], by simp [EndS.new]⟩, by simp, by simp [EndS.new], ⟨by simp [EndS.new], by simp [EndS.new]⟩, by simp, by simp [EndS.new]⟩
theorem RInv.send {msgs : List Bytes} {i : Nat} {E : EndS} (h : RInv msgs i E) {b : Bytes} (hb : b.length ≤ 2) : RInv (msgs ++ [b]) (i + 1) (E.send b) := by
  have h1 := h.fit.sent
  have h2 := h.fit.le
  have h3 := h.len
  have h4 := h.del
  refine ⟨h.win, ⟨by simp [EndS.send, h1], by simp [EndS.send]; omega, ?_⟩, by simp; omega, by simp only [EndS.send]; omega, ⟨h.held.nd, h.held.next⟩, ?_, h.hsm⟩
  · simp only [EndS.send, List.length_append, List.length_singleton]
    rw [show msgs.length + 1 - (E.waiting.length + 1) = msgs.length - E.waiting.length by omega, List.drop_append_of_le_length (by omega), ← h.fit.wait]
  · intro x hx
    rcases List.mem_append.1 hx with hx | hx
    · exact h.small x hx
    · simp at hx; subst hx; exact hb
theorem RInv.quiet {msgs : List Bytes} {i : Nat} {E : EndS} (h : RInv msgs i E) : RInv msgs (i + 1) { E with owing := false } := ⟨h.win, ⟨h.fit.sent, h.fit.le, h.fit.wait⟩, by have := h.len; omega, by have := h.del; simp only []; omega, ⟨h.held.nd, h.held.next⟩, h.small, h.hsm⟩
theorem deliver_rinv {msgs : List Bytes} {i : Nat} : ∀ (n : Nat) (E : EndS) (acc : List Bytes), E.held.length ≤ n → (1 ≤ E.window ∧ E.window ≤ 16) → Fit msgs E → (0 ≤ E.delivered ∧ E.delivered + E.held.length ≤ i) → (E.held.map (·.1)).Nodup → msgs.length ≤ i → (∀ b ∈ msgs, b.length ≤ 2) → (∀ p ∈ E.held, p.2.length ≤ 65536) → (∀ b ∈ acc, b.length ≤ 65536) → acc.length + E.held.length ≤ i →
    RInv msgs i (E.deliver n acc).1 ∧ (∀ b ∈ (E.deliver n acc).2, b.length ≤ 65536) ∧ (E.deliver n acc).2.length ≤ i
  | 0, E, acc, hl, h1, h2, h3, h4, h5, h6, h7, h8, h9 => by
    have : E.held = [] := List.eq_nil_of_length_eq_zero (by omega)
    exact ⟨⟨h1, h2, h5, h3, ⟨h4, by simp only [EndS.deliver]; rw [this]; rfl⟩, h6, h7⟩, h8, by simp only [EndS.deliver]; omega⟩
  | n + 1, E, acc, hl, h1, h2, h3, h4, h5, h6, h7, h8, h9 => by
    simp only [EndS.deliver]
    cases hk : E.held.lookup (E.delivered + 1) with
    | none => exact ⟨⟨h1, h2, h5, h3, ⟨h4, hk⟩, h6, h7⟩, h8, by simp only []; omega⟩
    | some b =>
      have hlt := aera_lt hk
      refine deliver_rinv n _ _ (by simp only []; omega) h1 ⟨h2.sent, h2.le, h2.wait⟩ ⟨by simp only []; omega, by simp only []; omega⟩ (aera_nd h4) h5 h6 (fun p hp => h7 p (aera_sub p hp)) ?_ (by simp; omega)
      intro x hx
      rcases List.mem_append.1 hx with hx | hx
      · exact h8 x hx
      · simp at hx
        subst hx
        exact h7 _ (lookup_mem hk)
theorem RInv.take {msgs : List Bytes} {i : Nat} {E : EndS} (h : RInv msgs i E) (s k : Int) (xs : Bytes) : RInv msgs (i + 1) (E.inn s k xs).1 ∧ (∀ b ∈ (E.inn s k xs).2, b.length ≤ 65536) ∧ (E.inn s k xs).2.length ≤ i + 1 := by
  unfold EndS.inn
  split
  · exact ⟨h.more, by simp, by simp⟩
  · rename_i hbad
    have hxs : xs.length ≤ 65536 := by
      cases hv : validB s k xs.length with
      | false => exact absurd (.inl hv) hbad
      | true => exact (validB_props hv).2.2.1
    have hk : k ≤ msgs.length := by
      have h1 := h.fit.sent
      have : ¬ E.sent < k := fun h => hbad (.inr (.inl h))
      omega
    have hf := h.fit.ackd hk
    have e1 := ackd_del E k
    have e2 := ackd_held E k
    have e3 : (E.ackd k).window = E.window := by unfold EndS.ackd; split <;> rfl
    have h4 := h.del
    have h5 := h.len
    split
    · exact ⟨⟨by rw [e3]; exact h.win, hf, by omega, by rw [e1, e2]; omega, ⟨by rw [e2]; exact h.held.nd, by rw [e1, e2]; exact h.held.next⟩, h.small, by rw [e2]; exact h.hsm⟩, by simp, by simp⟩
    · have hl := hold_len { E.ackd k with owing := true } s xs
      have hd := hold_del { E.ackd k with owing := true } s xs
      have hw : (({ E.ackd k with owing := true } : EndS).hold s xs).window = E.window := by unfold EndS.hold; split <;> exact e3
      have hnd : ((({ E.ackd k with owing := true } : EndS).hold s xs).held.map (·.1)).Nodup := by
        unfold EndS.hold
        split
        · exact ains_keys (by simp only [e2]; exact h.held.nd)
        · simp only [e2]; exact h.held.nd
      have hfit : Fit msgs (({ E.ackd k with owing := true } : EndS).hold s xs) := by
        unfold EndS.hold
        split
        · exact ⟨hf.sent, hf.le, hf.wait⟩
        · exact ⟨hf.sent, hf.le, hf.wait⟩
      have hh : ∀ p ∈ (({ E.ackd k with owing := true } : EndS).hold s xs).held, p.2.length ≤ 65536 := by
        unfold EndS.hold
        split
        · rename_i hc
          intro p hp
          simp only [] at hc hp
          rw [ains_new hc.1, e2] at hp
          rcases List.mem_append.1 hp with hp | hp
          · exact h.hsm p hp
          · simp at hp; subst hp; exact hxs
        · simp only [e2]; exact h.hsm
      rw [show ({ E.ackd k with owing := true } : EndS).held = E.held from e2] at hl
      rw [show ({ E.ackd k with owing := true } : EndS).delivered = E.delivered from e1] at hd
      exact deliver_rinv _ _ _ (Nat.le_refl _) (by rw [hw]; exact h.win) hfit ⟨by rw [hd]; omega, by rw [hd]; omega⟩ hnd (by omega) h.small hh (by simp) (by rw [List.length_nil, Nat.zero_add]; omega)
theorem abs_at {ps qs : List Pkt} (h : ps.map Pkt.abs = qs.map Pkt.abs) {i : Nat} (hi : i < ps.length) : (ps[i]!).abs = (qs[i]!).abs := by
  have hl : ps.length = qs.length := by have := congrArg List.length h; simpa using this
  have h2 := congrArg (fun l => l[i]?) h
  simp only [List.getElem?_map, List.getElem?_eq_getElem hi, List.getElem?_eq_getElem (show i < qs.length by omega)] at h2
  rw [List.getElem!_eq_getElem?_getD, List.getElem!_eq_getElem?_getD, List.getElem?_eq_getElem hi, List.getElem?_eq_getElem (by omega)]
  simpa using h2
theorem bs_at {ps qs : List Msg} (h : ps.map (·.bs) = qs.map (·.bs)) {i : Nat} (hi : i < ps.length) : (ps[i]!).bs = (qs[i]!).bs := by
  have hl : ps.length = qs.length := by have := congrArg List.length h; simpa using this
  have h2 := congrArg (fun l => l[i]?) h
  simp only [List.getElem?_map, List.getElem?_eq_getElem hi, List.getElem?_eq_getElem (show i < qs.length by omega)] at h2
  rw [List.getElem!_eq_getElem?_getD, List.getElem!_eq_getElem?_getD, List.getElem?_eq_getElem hi, List.getElem?_eq_getElem (by omega)]
  simpa using h2
theorem get_mem! {α : Type} [Inhabited α] {l : List α} {i : Nat} (h : i < l.length) : l[i]! ∈ l := by
  rw [List.getElem!_eq_getElem?_getD, List.getElem?_eq_getElem h]
  exact List.getElem_mem _
attribute [local irreducible] G GO GP GPW GPK Ev Ef Ent CB GB validB
abbrev plC17_17_6 : List Stp := [.ev 0, .ev 1, .ev 2, .ev 3, .ev 5, .ev 6, .ev 7, .ev 8, .ef 4, .ef 9, .ev 10]
theorem same_spec {L : List HP} (ad ad' : Option Addr) (c c' : Nat) (ps qs : List Pkt) [Rds L ad Pkt encPk 3 ps] [Rds L ad' Pkt encPk 3 qs] (h : ps.map Pkt.abs = qs.map Pkt.abs) (hl : ps.length ≤ 1000) (hb : ∀ p ∈ ps, p.m.bs.length ≤ 65536) :
    Tri Try.prog 17 #[.slice ad ps.length c, .slice ad' qs.length c'] (allP (fun p : Pkt => msgP p.m) ps :: allP (fun p : Pkt => msgP p.m) qs :: L) (fun v L' => v = .bool true ∧ L' = allP (fun p : Pkt => msgP p.m) ps :: allP (fun p : Pkt => msgP p.m) qs :: L) := by
  have hln : ps.length = qs.length := by have := congrArg List.length h; simpa using this
  refine Tri.body (args := [.slice ad ps.length c, .slice ad' qs.length c']) 28 en17 Try.func17 rfl rfl rfl (by simp) ?_
  repeat (first | refine run ?_ | intro _ | ((with_reducible apply G.atDraw); first | refine G.draw (id := 6) plC17_17_6 mixed (by kernel_rfl) ?_))
  refine G.loop (α := Int) (fun i => 0 ≤ i ∧ i ≤ ps.length) (fun i => [(0, .slice ad ps.length c), (1, .slice ad' qs.length c'), (5, .int .i64 i)]) (fun _ => allP (fun p : Pkt => msgP p.m) ps :: allP (fun p : Pkt => msgP p.m) qs :: L) (fun i => (ps.length - i).toNat) 0 ⟨by omega, by omega⟩ (by repeat (first | exact EnvSub.nil _ | refine EnvSub.cons rfl ?_)) (Ent.refl _) ?_
  rintro i ⟨hi0, hi1⟩
  repeat (first | refine run ?_ | intro _ | ((with_reducible apply G.atDraw); first | refine G.draw (id := 6) plC17_17_6 mixed (by kernel_rfl) ?_))
  (first | with_reducible refine CB.dec (fun _ => ?_) (fun _ => ?_) | with_reducible refine GB.dec (fun _ => ?_) (fun _ => ?_) | with_reducible refine CB.bool (fun _ => ?_) (fun _ => ?_) | with_reducible refine GB.bool (fun _ => ?_) (fun _ => ?_))
  case refine_2 =>
    repeat (first | refine run ?_ | intro _ | ((with_reducible apply G.atDraw); first | refine G.draw (id := 6) plC17_17_6 mixed (by kernel_rfl) ?_))
    exact KX.ends (by first | exact ResOk.tmps rfl | (repeat (first | exact ResOk.nil | refine ResOk.tmp rfl ?_ | refine ResOk.cell rfl (by rfl) ?_ | refine ResOk.cell1 rfl ?_))) (Ent.refl _) ⟨rfl, rfl⟩
  rename_i hi2
  refine G.ent (Ent.at (A := allP (fun p : Pkt => msgP p.m) ps) (Ent.allP_get (x := ps[i.toNat]!) (get_mem! (by omega)))) ?_
  refine G.ent (Ent.at (A := allP (fun p : Pkt => msgP p.m) qs) (Ent.allP_get (x := qs[i.toNat]!) (get_mem! (by omega)))) ?_
  repeat (first | refine run ?_ | intro _ | ((with_reducible apply G.atDraw); first | refine G.draw (id := 6) plC17_17_6 mixed (by kernel_rfl) ?_))
  (first | ((with_reducible apply GO.atPlain); first | refine GO.ef (Ef.call (plain_spec (ps[i.toNat]!).seq (ps[i.toNat]!).ack (ps[i.toNat]!).m.ad (ps[i.toNat]!).m.bs.length (ps[i.toNat]!).m.cap) rfl (by repeat (first | exact Ent.refl _ | refine Ent.take ?_))) (by decide) ?_ | refine GO.ef (by exact Ef.call (plain_spec (ps[i.toNat]!).seq (ps[i.toNat]!).ack (ps[i.toNat]!).m.ad (ps[i.toNat]!).m.bs.length (ps[i.toNat]!).m.cap) rfl (by repeat (first | exact Ent.refl _ | refine Ent.take ?_))) (by decide) ?_) | ((with_reducible apply GPW.atEf); first | refine GPW.ef (Ef.call (plain_spec (ps[i.toNat]!).seq (ps[i.toNat]!).ack (ps[i.toNat]!).m.ad (ps[i.toNat]!).m.bs.length (ps[i.toNat]!).m.cap) rfl (by repeat (first | exact Ent.refl _ | refine Ent.take ?_))) (by decide) ?_ | refine GPW.ef (by exact Ef.call (plain_spec (ps[i.toNat]!).seq (ps[i.toNat]!).ack (ps[i.toNat]!).m.ad (ps[i.toNat]!).m.bs.length (ps[i.toNat]!).m.cap) rfl (by repeat (first | exact Ent.refl _ | refine Ent.take ?_))) (by decide) ?_))
  rintro _ _ ⟨_, ⟨rfl, rfl⟩, hL⟩
  simp only [List.cons_append, List.nil_append] at hL; subst hL
  repeat (first | refine run ?_ | intro _ | ((with_reducible apply G.atDraw); first | refine G.draw (id := 6) plC17_17_6 mixed (by kernel_rfl) ?_))
  (first | ((with_reducible apply GO.atPlain); first | refine GO.ef (Ef.callAll (samePk_spec (ps[i.toNat]!) (qs[i.toNat]!) (abs_at h (by omega)) (by have := hb _ (get_mem! (l := ps) (i := i.toNat) (by omega)); omega)) rfl) (by decide) ?_ | refine GO.ef (by exact Ef.callAll (samePk_spec (ps[i.toNat]!) (qs[i.toNat]!) (abs_at h (by omega)) (by have := hb _ (get_mem! (l := ps) (i := i.toNat) (by omega)); omega)) rfl) (by decide) ?_) | ((with_reducible apply GPW.atEf); first | refine GPW.ef (Ef.callAll (samePk_spec (ps[i.toNat]!) (qs[i.toNat]!) (abs_at h (by omega)) (by have := hb _ (get_mem! (l := ps) (i := i.toNat) (by omega)); omega)) rfl) (by decide) ?_ | refine GPW.ef (by exact Ef.callAll (samePk_spec (ps[i.toNat]!) (qs[i.toNat]!) (abs_at h (by omega)) (by have := hb _ (get_mem! (l := ps) (i := i.toNat) (by omega)); omega)) rfl) (by decide) ?_))
  rintro _ _ ⟨rfl, rfl⟩
  repeat (first | refine run ?_ | intro _ | ((with_reducible apply G.atDraw); first | refine G.draw (id := 6) plC17_17_6 mixed (by kernel_rfl) ?_))
  exact ⟨i + 1, ⟨by omega, by omega⟩, by omega, (by repeat (first | exact EnvSub.nil _ | refine EnvSub.cons rfl ?_)), by repeat (first | exact Ent.refl _ | exact Ent.nil _ | refine Ent.take' ?_ | refine Ent.trans Ent.drop ?_)⟩
abbrev plC17_18_6 : List Stp := [.ev 0, .ev 1, .ev 2, .ev 3, .ev 4, .ev 5, .ev 6, .ev 7, .ef 8, .ev 9]
theorem sameLists_spec {L : List HP} (ad ad' : Option Addr) (c c' : Nat) (ps qs : List Msg) [Rds L ad Msg encM 1 ps] [Rds L ad' Msg encM 1 qs] (h : ps.map (·.bs) = qs.map (·.bs)) (hl : ps.length ≤ 1000000001) (hs : ∀ p ∈ ps, p.bs.length ≤ 65536) :
    Tri Try.prog 18 #[.slice ad ps.length c, .slice ad' qs.length c'] (allP msgP ps :: allP msgP qs :: L) (fun v L' => v = .bool true ∧ L' = allP msgP ps :: allP msgP qs :: L) := by
  have hln : ps.length = qs.length := by have := congrArg List.length h; simpa using this
  refine Tri.body (args := [.slice ad ps.length c, .slice ad' qs.length c']) 27 en18 Try.func18 rfl rfl rfl (by simp) ?_
  repeat (first | refine run ?_ | intro _ | ((with_reducible apply G.atDraw); first | refine G.draw (id := 6) plC17_18_6 mixed (by kernel_rfl) ?_))
  refine G.loop (α := Int) (fun i => 0 ≤ i ∧ i ≤ ps.length) (fun i => [(0, .slice ad ps.length c), (1, .slice ad' qs.length c'), (5, .int .i64 i)]) (fun _ => allP msgP ps :: allP msgP qs :: L) (fun i => (ps.length - i).toNat) 0 ⟨by omega, by omega⟩ (by repeat (first | exact EnvSub.nil _ | refine EnvSub.cons rfl ?_)) (Ent.refl _) ?_
  rintro i ⟨hi0, hi1⟩
  repeat (first | refine run ?_ | intro _ | ((with_reducible apply G.atDraw); first | refine G.draw (id := 6) plC17_18_6 mixed (by kernel_rfl) ?_))
  (first | with_reducible refine CB.dec (fun _ => ?_) (fun _ => ?_) | with_reducible refine GB.dec (fun _ => ?_) (fun _ => ?_) | with_reducible refine CB.bool (fun _ => ?_) (fun _ => ?_) | with_reducible refine GB.bool (fun _ => ?_) (fun _ => ?_))
  case refine_2 =>
    repeat (first | refine run ?_ | intro _ | ((with_reducible apply G.atDraw); first | refine G.draw (id := 6) plC17_18_6 mixed (by kernel_rfl) ?_))
    exact KX.ends (by first | exact ResOk.tmps rfl | (repeat (first | exact ResOk.nil | refine ResOk.tmp rfl ?_ | refine ResOk.cell rfl (by rfl) ?_ | refine ResOk.cell1 rfl ?_))) (Ent.refl _) ⟨rfl, rfl⟩
  rename_i hi2
  have hb := bs_at h (i := i.toNat) (by omega)
  refine G.ent (Ent.at (A := allP msgP ps) (Ent.allP_get (x := ps[i.toNat]!) (get_mem! (by omega)))) ?_
  refine G.ent (Ent.at (A := allP msgP qs) (Ent.allP_get (x := qs[i.toNat]!) (get_mem! (by omega)))) ?_
  repeat (first | refine run ?_ | intro _ | ((with_reducible apply G.atDraw); first | refine G.draw (id := 6) plC17_18_6 mixed (by kernel_rfl) ?_))
  (first | ((with_reducible apply GO.atPlain); first | refine GO.ef (Ef.callAll (sameBytes_spec (ps[i.toNat]!).ad _ (ps[i.toNat]!).cap (ps[i.toNat]!).bs (qs[i.toNat]!).ad _ (qs[i.toNat]!).cap (qs[i.toNat]!).bs rfl rfl (by have := hs _ (get_mem! (l := ps) (i := i.toNat) (by omega)); omega)) rfl) (by decide) ?_ | refine GO.ef (by exact Ef.callAll (sameBytes_spec (ps[i.toNat]!).ad _ (ps[i.toNat]!).cap (ps[i.toNat]!).bs (qs[i.toNat]!).ad _ (qs[i.toNat]!).cap (qs[i.toNat]!).bs rfl rfl (by have := hs _ (get_mem! (l := ps) (i := i.toNat) (by omega)); omega)) rfl) (by decide) ?_) | ((with_reducible apply GPW.atEf); first | refine GPW.ef (Ef.callAll (sameBytes_spec (ps[i.toNat]!).ad _ (ps[i.toNat]!).cap (ps[i.toNat]!).bs (qs[i.toNat]!).ad _ (qs[i.toNat]!).cap (qs[i.toNat]!).bs rfl rfl (by have := hs _ (get_mem! (l := ps) (i := i.toNat) (by omega)); omega)) rfl) (by decide) ?_ | refine GPW.ef (by exact Ef.callAll (sameBytes_spec (ps[i.toNat]!).ad _ (ps[i.toNat]!).cap (ps[i.toNat]!).bs (qs[i.toNat]!).ad _ (qs[i.toNat]!).cap (qs[i.toNat]!).bs rfl rfl (by have := hs _ (get_mem! (l := ps) (i := i.toNat) (by omega)); omega)) rfl) (by decide) ?_))
  rintro _ _ ⟨rfl, rfl⟩
  rw [dB_pos hb]
  repeat (first | refine run ?_ | intro _ | ((with_reducible apply G.atDraw); first | refine G.draw (id := 6) plC17_18_6 mixed (by kernel_rfl) ?_))
  exact ⟨i + 1, ⟨by omega, by omega⟩, by omega, (by repeat (first | exact EnvSub.nil _ | refine EnvSub.cons rfl ?_)), by repeat (first | exact Ent.refl _ | exact Ent.nil _ | refine Ent.take' ?_ | refine Ent.trans Ent.drop ?_)⟩
end Go.Proofs.Ytnpienjfapjjoaa
