/- Contracts of the model of package channel: taking a packet; packets and lists held against each other. -/
import Derived.Test.YtnpienjfapjjoaaC14
namespace Go.Proofs.Ytnpienjfapjjoaa
open Go.V

theorem Fit.ackd_len {msgs : List Bytes} {E : EndS} (h : Fit msgs E) {k : Int} (hk : k ≤ msgs.length) : max ((msgs.length : Int) - E.waiting.length) k = (msgs.length : Int) - (E.ackd k).waiting.length := by
  have h1 := h.sent
  have h2 := h.le
  unfold EndS.ackd
  split
  · simp only [List.length_drop]
    omega
  · omega
theorem Fit.ackd {msgs : List Bytes} {E : EndS} (h : Fit msgs E) {k : Int} (hk : k ≤ msgs.length) : Fit msgs (E.ackd k) := by
  have h1 := h.sent
  have h2 := h.le
  unfold EndS.ackd
  split
  · refine ⟨h1, by simp; omega, ?_⟩
    simp only [List.length_drop]
    generalize hd : (k - (E.sent - (E.waiting.length : Int))).toNat = d
    have e : msgs.length - (E.waiting.length - d) = (msgs.length - E.waiting.length) + d := by omega
    rw [e, ← List.drop_drop, ← h.wait]
  · exact h
theorem aera_nd {α : Type} {m : List (Int × α)} {k : Int} (h : (m.map (·.1)).Nodup) : ((aera m k).map (·.1)).Nodup := by
  unfold aera
  exact List.Nodup.sublist (List.Sublist.map _ List.filter_sublist) h
theorem lookup_none_mem {α : Type} {m : List (Int × α)} {k : Int} (h : m.lookup k = none) : k ∉ m.map (·.1) := by
  induction m with
  | nil => simp
  | cons p m ih =>
    obtain ⟨k', v⟩ := p
    simp only [List.lookup_cons] at h
    cases hk : k == k' with
    | true => rw [hk] at h; cases h
    | false =>
      rw [hk] at h
      simp only [List.map_cons, List.mem_cons, not_or]
      exact ⟨by simpa using hk, ih h⟩
theorem erase_take_drop {α : Type} (l : List α) (j : Nat) : l.take j ++ l.drop (j + 1) = l.eraseIdx j := (List.eraseIdx_eq_take_drop_succ l j).symm
theorem aera_find {hs : List (Int × Msg)} {s : Int} {j : Nat} (hnd : (hs.map (·.1)).Nodup) (h : hs.findIdx? (fun p => p.1 == s) = some j) : hs.take j ++ hs.drop (j + 1) = aera hs s := by
  rw [erase_take_drop, aera_idx hnd h]
theorem nd_map {hs : List (Int × Msg)} {l : List (Int × Bytes)} (h : hs.map (fun p => (p.1, p.2.bs)) = l) : hs.map (·.1) = l.map (·.1) := by
  rw [← h, List.map_map]
  rfl
theorem find_lt {hs : List (Int × Msg)} {s : Int} {j : Nat} (h : hs.findIdx? (fun p => p.1 == s) = some j) : j < hs.length := (List.findIdx?_eq_some_iff_getElem.1 h).1
attribute [local irreducible] G GO GP GPW GPK Ev Ef Ent CB GB validB
abbrev rpA (w : Nat) (seq ack : Int) (m : Msg) : HP := obj w 40 [.int .i64 seq, .int .i64 ack, .slice m.ad m.bs.length m.cap]
abbrev plC16_21_2 : List Stp := [.ev 0, .ev 1, .ev 2, .ev 3, .ev 4, .ev 5, .ev 6, .ev 7, .ev 8, .ev 9, .ev 10, .ev 11, .ev 12, .ev 13, .ev 14, .ev 15, .ev 16, .ev 17, .ev 18, .ev 19, .ev 20, .ev 21]
abbrev plC16_21_4 : List Stp := [.ev 0, .ev 1, .ev 2, .ev 3, .ev 4, .ev 5, .ev 6, .ev 7, .ev 8, .ev 9, .ef 10]
abbrev plC16_21_8 : List Stp := [.ev 0, .ev 1, .ev 2, .ev 3, .ev 4, .ev 5, .ev 6, .ev 7, .ev 8, .ev 9, .ev 10, .ef 11, .ev 12, .ev 13]
abbrev plC16_21_10 : List Stp := [.ev 0, .ev 1, .ev 2, .ev 3, .ev 4, .ev 5, .ev 6, .ev 7, .ev 8, .ev 9, .ef 10, .ef 11, .ev 12, .ev 13, .ef 14]
set_option maxHeartbeats 1000000 in
theorem rin_spec {L : List HP} (b : Nat) (msgs : List Bytes) (E : EndS) (seq ack : Int) (m : Msg) (hE : E.Ok) (hF : Fit msgs E) (hH : HeldOk E) (hl1 : msgs.length ≤ 1000) :
    Tri Try.prog 21 #[.pointer (some ⟨b, 0, none⟩), .agg #[.int .i64 seq, .int .i64 ack, .slice m.ad m.bs.length m.cap]] (RefR b msgs E :: msgP m :: L)
      (fun v L' => ∃ ad' cap' ms, v = .slice ad' ms.length cap' ∧ ms.map (·.bs) = (E.inn seq ack m.bs).2 ∧ L' = osl encM 1 31 ad' cap' ms :: allP msgP ms :: RefR b msgs (E.inn seq ack m.bs).1 :: msgP m :: L) := by
  refine Tri.body (args := [.pointer (some ⟨b, 0, none⟩), .agg #[.int .i64 seq, .int .i64 ack, .slice m.ad m.bs.length m.cap]]) 132 en21 Try.func21 rfl rfl rfl (by simp) ?_
  refine G.openX (f := refAtoms b msgs E) ?_
  intro x
  simp only [refAtoms, List.cons_append, List.nil_append]
  refine G.pureE ?_
  rintro ⟨hms, hhs⟩
  have hlen : x.ms.length = msgs.length := by rw [← hms]; simp
  have hhl : x.hs.length = E.held.length := by rw [← hhs]; simp
  have h1 := hE.sent
  have h4 := hE.del
  have h2 := hF.sent
  have h3 := hF.le
  simp only [refL, refCells]
  repeat (first | refine run ?_ | intro _ | ((with_reducible apply G.atDraw); first | refine G.draw (id := 2) plC16_21_2 mixed (by kernel_rfl) ?_ | refine G.draw (id := 4) plC16_21_4 mixed (by kernel_rfl) ?_ | refine G.draw (id := 8) plC16_21_8 mixed (by kernel_rfl) ?_ | refine G.draw (id := 10) plC16_21_10 mixed (by kernel_rfl) ?_))
  (first | ((with_reducible apply GO.atPlain); first | refine GO.ef (Ef.call (rvalid_spec seq ack m.ad m.bs.length m.cap) rfl (by repeat (first | exact Ent.refl _ | refine Ent.take ?_))) (by decide) ?_ | refine GO.ef (by exact Ef.call (rvalid_spec seq ack m.ad m.bs.length m.cap) rfl (by repeat (first | exact Ent.refl _ | refine Ent.take ?_))) (by decide) ?_) | ((with_reducible apply GPW.atEf); first | refine GPW.ef (Ef.call (rvalid_spec seq ack m.ad m.bs.length m.cap) rfl (by repeat (first | exact Ent.refl _ | refine Ent.take ?_))) (by decide) ?_ | refine GPW.ef (by exact Ef.call (rvalid_spec seq ack m.ad m.bs.length m.cap) rfl (by repeat (first | exact Ent.refl _ | refine Ent.take ?_))) (by decide) ?_))
  rintro _ _ ⟨_, ⟨rfl, rfl⟩, hL⟩
  simp only [List.cons_append, List.nil_append] at hL; subst hL
  rename_i w
  have hret : ∀ E' x', refOk msgs E' x' → Ent (refL b msgs E' x' (rpA w seq ack m :: msgP m :: L)) (osl encM 1 31 none 0 [] :: allP msgP [] :: RefR b msgs E' :: msgP m :: L) := by
    intro E' x' h
    refine (Ent.nilSl encM 1 31).trans (Ent.consR ((Ent.allP_nil msgP).trans (Ent.consR (Ent.trans ?_ (refClose x' h)))))
    repeat (first | exact Ent.refl _ | exact Ent.nil _ | refine Ent.take' ?_ | refine Ent.trans Ent.drop ?_)
  by_cases hbad : validB seq ack m.bs.length = false ∨ E.sent < ack ∨ E.delivered + 16 < seq
  · have he : E.inn seq ack m.bs = (E, []) := by rw [EndS.inn, if_pos hbad]
    rw [he]
    have hfin : Ent (obj b 50 (refCells msgs E x) :: rpA w seq ack m :: osl encM 1 31 x.ad x.cap x.ms :: osl encH 2 92 x.had x.hcap x.hs :: allP msgP x.ms :: allP (fun p : Int × Msg => msgP p.2) x.hs :: msgP m :: L) (osl encM 1 31 none 0 [] :: allP msgP [] :: RefR b msgs E :: msgP m :: L) := by
      refine Ent.trans ?_ (hret E x ⟨hms, hhs⟩)
      simp only [refL]
      repeat (first | exact Ent.refl _ | exact Ent.nil _ | refine Ent.take' ?_ | refine Ent.trans Ent.drop ?_)
    cases hv : validB seq ack m.bs.length with
    | false =>
      repeat (first | refine run ?_ | intro _ | ((with_reducible apply G.atDraw); first | refine G.draw (id := 2) plC16_21_2 mixed (by kernel_rfl) ?_ | refine G.draw (id := 4) plC16_21_4 mixed (by kernel_rfl) ?_ | refine G.draw (id := 8) plC16_21_8 mixed (by kernel_rfl) ?_ | refine G.draw (id := 10) plC16_21_10 mixed (by kernel_rfl) ?_))
      refine KX.ends (by first | exact ResOk.tmps rfl | (repeat (first | exact ResOk.nil | refine ResOk.tmp rfl ?_ | refine ResOk.cell rfl (by rfl) ?_ | refine ResOk.cell1 rfl ?_))) ?_ ⟨none, 0, [], rfl, rfl, rfl⟩
      refine Ent.trans ?_ hfin
      repeat (first | exact Ent.refl _ | exact Ent.nil _ | refine Ent.take' ?_ | refine Ent.trans Ent.drop ?_)
    | true =>
      rw [hv] at hbad
      by_cases hs : E.sent < ack
      · repeat (first | refine run ?_ | intro _ | ((with_reducible apply G.atDraw); first | refine G.draw (id := 2) plC16_21_2 mixed (by kernel_rfl) ?_ | refine G.draw (id := 4) plC16_21_4 mixed (by kernel_rfl) ?_ | refine G.draw (id := 8) plC16_21_8 mixed (by kernel_rfl) ?_ | refine G.draw (id := 10) plC16_21_10 mixed (by kernel_rfl) ?_))
        refine KX.ends (by first | exact ResOk.tmps rfl | (repeat (first | exact ResOk.nil | refine ResOk.tmp rfl ?_ | refine ResOk.cell rfl (by rfl) ?_ | refine ResOk.cell1 rfl ?_))) ?_ ⟨none, 0, [], rfl, rfl, rfl⟩
        refine Ent.trans ?_ hfin
        repeat (first | exact Ent.refl _ | exact Ent.nil _ | refine Ent.take' ?_ | refine Ent.trans Ent.drop ?_)
      · have hs2 : E.delivered + 16 < seq := by
          rcases hbad with h | h | h
          · cases h
          · exact absurd h hs
          · exact h
        clear hbad
        repeat (first | refine run ?_ | intro _ | ((with_reducible apply G.atDraw); first | refine G.draw (id := 2) plC16_21_2 mixed (by kernel_rfl) ?_ | refine G.draw (id := 4) plC16_21_4 mixed (by kernel_rfl) ?_ | refine G.draw (id := 8) plC16_21_8 mixed (by kernel_rfl) ?_ | refine G.draw (id := 10) plC16_21_10 mixed (by kernel_rfl) ?_))
        refine KX.ends (by first | exact ResOk.tmps rfl | (repeat (first | exact ResOk.nil | refine ResOk.tmp rfl ?_ | refine ResOk.cell rfl (by rfl) ?_ | refine ResOk.cell1 rfl ?_))) ?_ ⟨none, 0, [], rfl, rfl, rfl⟩
        refine Ent.trans ?_ hfin
        repeat (first | exact Ent.refl _ | exact Ent.nil _ | refine Ent.take' ?_ | refine Ent.trans Ent.drop ?_)
  have hv : validB seq ack m.bs.length = true := by
    cases h : validB seq ack m.bs.length with
    | false => exact absurd (.inl h) hbad
    | true => rfl
  have hs : ¬ E.sent < ack := fun h => hbad (.inr (.inl h))
  have hs2 : ¬ E.delivered + 16 < seq := fun h => hbad (.inr (.inr h))
  have hin : E.inn seq ack m.bs = if seq = 0 then (E.ackd ack, []) else (({ E.ackd ack with owing := true } : EndS).hold seq m.bs).deliver (({ E.ackd ack with owing := true } : EndS).hold seq m.bs).held.length [] := by
    rw [EndS.inn, if_neg hbad]
  have hvb := validB_props hv
  rw [hv, hin]
  clear hbad hin
  have e1 := ackd_del E ack
  have e2 := ackd_held E ack
  have ea := hF.ackd_len (k := ack) (by omega)
  have hwin : (E.ackd ack).window = E.window := by unfold EndS.ackd; split <;> rfl
  have how : (E.ackd ack).owing = E.owing := by unfold EndS.ackd; split <;> rfl
  repeat (first | refine run ?_ | intro _ | ((with_reducible apply G.atDraw); first | refine G.draw (id := 2) plC16_21_2 mixed (by kernel_rfl) ?_ | refine G.draw (id := 4) plC16_21_4 mixed (by kernel_rfl) ?_ | refine G.draw (id := 8) plC16_21_8 mixed (by kernel_rfl) ?_ | refine G.draw (id := 10) plC16_21_10 mixed (by kernel_rfl) ?_))
  rw [ea, ← e1, ← hwin]
  rw [← e2] at hhs hhl h4
  rw [← e1] at h4
  have hH1 : HeldOk (E.ackd ack) := ⟨by rw [e2]; exact hH.nd, by rw [e2, e1]; exact hH.next⟩
  by_cases hz : seq = 0
  · rw [if_pos hz]
    repeat (first | refine run ?_ | intro _ | ((with_reducible apply G.atDraw); first | refine G.draw (id := 2) plC16_21_2 mixed (by kernel_rfl) ?_ | refine G.draw (id := 4) plC16_21_4 mixed (by kernel_rfl) ?_ | refine G.draw (id := 8) plC16_21_8 mixed (by kernel_rfl) ?_ | refine G.draw (id := 10) plC16_21_10 mixed (by kernel_rfl) ?_))
    refine KX.ends (by first | exact ResOk.tmps rfl | (repeat (first | exact ResOk.nil | refine ResOk.tmp rfl ?_ | refine ResOk.cell rfl (by rfl) ?_ | refine ResOk.cell1 rfl ?_))) ?_ ⟨none, 0, [], rfl, rfl, rfl⟩
    rw [← how]
    refine Ent.trans ?_ (hret (E.ackd ack) x ⟨hms, hhs⟩)
    simp only [refL, refCells]
    repeat (first | exact Ent.refl _ | exact Ent.nil _ | refine Ent.take' ?_ | refine Ent.trans Ent.drop ?_)
  rw [if_neg hz]
  generalize E.ackd ack = E1 at *
  have hnx : E1.held.lookup (E1.delivered + 1) = none := hH1.next
  have hd0 : ({ E1 with owing := true } : EndS).deliver ({ E1 with owing := true } : EndS).held.length [] = ({ E1 with owing := true }, []) := deliver_none (E := { E1 with owing := true }) hnx
  have hret2 := hret { E1 with owing := true } x ⟨hms, hhs⟩
  simp only [refL, refCells] at hret2
  by_cases hd : seq ≤ E1.delivered
  · have hh : ({ E1 with owing := true } : EndS).hold seq m.bs = { E1 with owing := true } := by
      rw [EndS.hold, if_neg]
      rintro ⟨_, h⟩
      simp only [] at h
      omega
    rw [hh, hd0]
    repeat (first | refine run ?_ | intro _ | ((with_reducible apply G.atDraw); first | refine G.draw (id := 2) plC16_21_2 mixed (by kernel_rfl) ?_ | refine G.draw (id := 4) plC16_21_4 mixed (by kernel_rfl) ?_ | refine G.draw (id := 8) plC16_21_8 mixed (by kernel_rfl) ?_ | refine G.draw (id := 10) plC16_21_10 mixed (by kernel_rfl) ?_))
    refine KX.ends (by first | exact ResOk.tmps rfl | (repeat (first | exact ResOk.nil | refine ResOk.tmp rfl ?_ | refine ResOk.cell rfl (by rfl) ?_ | refine ResOk.cell1 rfl ?_))) ?_ ⟨none, 0, [], rfl, rfl, rfl⟩
    refine Ent.trans ?_ hret2
    repeat (first | exact Ent.refl _ | exact Ent.nil _ | refine Ent.take' ?_ | refine Ent.trans Ent.drop ?_)
  repeat (first | refine run ?_ | intro _ | ((with_reducible apply G.atDraw); first | refine G.draw (id := 2) plC16_21_2 mixed (by kernel_rfl) ?_ | refine G.draw (id := 4) plC16_21_4 mixed (by kernel_rfl) ?_ | refine G.draw (id := 8) plC16_21_8 mixed (by kernel_rfl) ?_ | refine G.draw (id := 10) plC16_21_10 mixed (by kernel_rfl) ?_))
  refine GPW.ent (L' := [obj b 50 [.int .i64 E1.window, .slice x.ad x.ms.length x.cap, .int .i64 ((msgs.length : Int) - E1.waiting.length), .int .i64 E1.delivered, .slice x.had x.hs.length x.hcap, .bool true], osl encH 2 92 x.had x.hcap x.hs] ++ (rpA w seq ack m :: osl encM 1 31 x.ad x.cap x.ms :: allP msgP x.ms :: allP (fun p : Int × Msg => msgP p.2) x.hs :: msgP m :: L)) ?_ ?_
  · refine Ent.take ?_
    refine Ent.take ?_
    exact Ent.refl _
  (first | ((with_reducible apply GO.atPlain); first | refine GO.ef (Ef.call (find_spec b (.int .i64 E1.window) (.slice x.ad x.ms.length x.cap) (.int .i64 ((msgs.length : Int) - E1.waiting.length)) (.int .i64 E1.delivered) (.bool true) x.had x.hcap x.hs seq (by omega)) rfl (by repeat (first | exact Ent.refl _ | refine Ent.take ?_))) (by decide) ?_ | refine GO.ef (by exact Ef.call (find_spec b (.int .i64 E1.window) (.slice x.ad x.ms.length x.cap) (.int .i64 ((msgs.length : Int) - E1.waiting.length)) (.int .i64 E1.delivered) (.bool true) x.had x.hcap x.hs seq (by omega)) rfl (by repeat (first | exact Ent.refl _ | refine Ent.take ?_))) (by decide) ?_) | ((with_reducible apply GPW.atEf); first | refine GPW.ef (Ef.call (find_spec b (.int .i64 E1.window) (.slice x.ad x.ms.length x.cap) (.int .i64 ((msgs.length : Int) - E1.waiting.length)) (.int .i64 E1.delivered) (.bool true) x.had x.hcap x.hs seq (by omega)) rfl (by repeat (first | exact Ent.refl _ | refine Ent.take ?_))) (by decide) ?_ | refine GPW.ef (by exact Ef.call (find_spec b (.int .i64 E1.window) (.slice x.ad x.ms.length x.cap) (.int .i64 ((msgs.length : Int) - E1.waiting.length)) (.int .i64 E1.delivered) (.bool true) x.had x.hcap x.hs seq (by omega)) rfl (by repeat (first | exact Ent.refl _ | refine Ent.take ?_))) (by decide) ?_))
  rintro _ _ ⟨_, ⟨rfl, rfl⟩, hL⟩
  simp only [List.cons_append, List.nil_append] at hL; subst hL
  cases hf : x.hs.findIdx? (fun p => p.1 == seq) with
  | some j =>
    rw [findI_some hf]
    have hj := find_lt hf
    have hh : ({ E1 with owing := true } : EndS).hold seq m.bs = { E1 with owing := true } := by
      rw [EndS.hold, if_neg]
      rintro ⟨h, _⟩
      simp only [← hhs] at h
      rw [lookup_of_find, hf] at h
      simp [hj] at h
    rw [hh, hd0]
    repeat (first | refine run ?_ | intro _ | ((with_reducible apply G.atDraw); first | refine G.draw (id := 2) plC16_21_2 mixed (by kernel_rfl) ?_ | refine G.draw (id := 4) plC16_21_4 mixed (by kernel_rfl) ?_ | refine G.draw (id := 8) plC16_21_8 mixed (by kernel_rfl) ?_ | refine G.draw (id := 10) plC16_21_10 mixed (by kernel_rfl) ?_))
    refine KX.ends (by first | exact ResOk.tmps rfl | (repeat (first | exact ResOk.nil | refine ResOk.tmp rfl ?_ | refine ResOk.cell rfl (by rfl) ?_ | refine ResOk.cell1 rfl ?_))) ?_ ⟨none, 0, [], rfl, rfl, rfl⟩
    refine Ent.trans ?_ hret2
    repeat (first | exact Ent.refl _ | exact Ent.nil _ | refine Ent.take' ?_ | refine Ent.trans Ent.drop ?_)
  | none =>
    rw [findI_none hf]
    have hlk : E1.held.lookup seq = none := by rw [← hhs, lookup_of_find, hf]; rfl
    have hh : ({ E1 with owing := true } : EndS).hold seq m.bs = { E1 with owing := true, held := E1.held ++ [(seq, m.bs)] } := by
      rw [EndS.hold, if_pos ⟨hlk, by simp only []; omega⟩]
      simp only [ains_new hlk]
    rw [hh]
    repeat (first | refine run ?_ | intro _ | ((with_reducible apply G.atDraw); first | refine G.draw (id := 2) plC16_21_2 mixed (by kernel_rfl) ?_ | refine G.draw (id := 4) plC16_21_4 mixed (by kernel_rfl) ?_ | refine G.draw (id := 8) plC16_21_8 mixed (by kernel_rfl) ?_ | refine G.draw (id := 10) plC16_21_10 mixed (by kernel_rfl) ?_))
    (first | ((with_reducible apply GO.atPlain); first | refine GO.ef (Ef.append1 (e := ((seq, m) : Int × Msg)) rfl rfl rfl rfl rfl (by rfl) (encH_one _) (by omega) (by omega)) (by decide) ?_ | refine GO.ef (by exact Ef.append1 (e := ((seq, m) : Int × Msg)) rfl rfl rfl rfl rfl (by rfl) (encH_one _) (by omega) (by omega)) (by decide) ?_) | ((with_reducible apply GPW.atEf); first | refine GPW.ef (Ef.append1 (e := ((seq, m) : Int × Msg)) rfl rfl rfl rfl rfl (by rfl) (encH_one _) (by omega) (by omega)) (by decide) ?_ | refine GPW.ef (by exact Ef.append1 (e := ((seq, m) : Int × Msg)) rfl rfl rfl rfl rfl (by rfl) (encH_one _) (by omega) (by omega)) (by decide) ?_) | ((with_reducible apply GO.atUnit); first | refine GO.efu (Ef.append1 (e := ((seq, m) : Int × Msg)) rfl rfl rfl rfl rfl (by rfl) (encH_one _) (by omega) (by omega)) ?_ | refine GO.efu (by exact Ef.append1 (e := ((seq, m) : Int × Msg)) rfl rfl rfl rfl rfl (by rfl) (encH_one _) (by omega) (by omega)) ?_) | ((with_reducible apply GPW.atEfu); first | refine GPW.efu (Ef.append1 (e := ((seq, m) : Int × Msg)) rfl rfl rfl rfl rfl (by rfl) (encH_one _) (by omega) (by omega)) ?_ | refine GPW.efu (by exact Ef.append1 (e := ((seq, m) : Int × Msg)) rfl rfl rfl rfl rfl (by rfl) (encH_one _) (by omega) (by omega)) ?_))
    rintro _ _ ⟨had2, hcap2, rfl, rfl⟩
    repeat (first | refine run ?_ | intro _ | ((with_reducible apply G.atDraw); first | refine G.draw (id := 2) plC16_21_2 mixed (by kernel_rfl) ?_ | refine G.draw (id := 4) plC16_21_4 mixed (by kernel_rfl) ?_ | refine G.draw (id := 8) plC16_21_8 mixed (by kernel_rfl) ?_ | refine G.draw (id := 10) plC16_21_10 mixed (by kernel_rfl) ?_))
    obtain ⟨E3, hE3⟩ : ∃ E3 : EndS, E3 = { E1 with owing := true, held := E1.held ++ [(seq, m.bs)] } := ⟨_, rfl⟩
    rw [← hE3]
    have hnd3 : (E3.held.map (·.1)).Nodup := by
      rw [hE3]
      simp only [List.map_append, List.map_cons, List.map_nil]
      rw [List.nodup_append]
      refine ⟨hH1.nd, by simp, ?_⟩
      intro a ha b' hb' e
      simp at hb'
      subst hb'
      subst e
      exact lookup_none_mem hlk ha
    have h53 : 0 ≤ E3.delivered ∧ E3.delivered + E3.held.length ≤ 1000000001 := by
      rw [hE3]
      simp
      omega
    have hst : Ent (obj b 50 [.int .i64 E1.window, .slice x.ad x.ms.length x.cap, .int .i64 ((msgs.length : Int) - E1.waiting.length), .int .i64 E1.delivered, .slice had2 (x.hs ++ [(seq, m)]).length hcap2, .bool true] :: osl encH 2 92 had2 hcap2 (x.hs ++ [(seq, m)]) :: rpA w seq ack m :: osl encM 1 31 x.ad x.cap x.ms :: allP msgP x.ms :: allP (fun p : Int × Msg => msgP p.2) x.hs :: msgP m :: L)
        (refL b msgs E3 ⟨x.ad, x.cap, x.ms, had2, hcap2, x.hs ++ [(seq, m)]⟩ (osl encM 1 31 none 0 [] :: allP msgP [] :: msgP m :: L)) := by
      refine (Ent.at (A := msgP m) (Ent.dup (isl_pers _ _ _ _))).trans ?_
      refine (Ent.allP_one (f := fun p : Int × Msg => msgP p.2) (x := (seq, m)) (fun _ => msgP_m _)).trans ?_
      refine (Ent.at (A := allP (fun p : Int × Msg => msgP p.2) x.hs) (Ent.consR (Ent.at (A := allP (fun p : Int × Msg => msgP p.2) [(seq, m)]) (Ent.refl _)))).trans ?_
      refine (Ent.allP_app (fun _ => msgP_m _)).trans ?_
      refine (Ent.nilSl encM 1 31).trans ((Ent.allP_nil msgP).trans ?_)
      subst hE3
      simp only [refL, refCells]
      repeat (first | exact Ent.refl _ | exact Ent.nil _ | refine Ent.take' ?_ | refine Ent.trans Ent.drop ?_)
    refine G.ent (Ent.trans (by repeat (first | exact Ent.refl _ | exact Ent.nil _ | refine Ent.take' ?_ | refine Ent.trans Ent.drop ?_)) hst) ?_
    clear hst hret2 hd0
    refine G.loop (α := EndS × RefX × Option Addr × Nat × List Msg) (fun (E', x, _, _, acc) => refOk msgs E' x ∧ E'.deliver E'.held.length (acc.map (·.bs)) = E3.deliver E3.held.length [] ∧ (0 ≤ E'.delivered ∧ E'.delivered + E'.held.length ≤ 1000000001) ∧ acc.length + E'.held.length ≤ E3.held.length ∧ (E'.held.map (·.1)).Nodup)
      (fun (_, _, ad', cap', acc) => [(6, .slice ad' acc.length cap'), (0, .pointer (some ⟨b, 0, none⟩))]) (fun (E', x, ad', cap', acc) => refL b msgs E' x (osl encM 1 31 ad' cap' acc :: allP msgP acc :: msgP m :: L)) (fun (E', _) => E'.held.length)
      (E3, ⟨x.ad, x.cap, x.ms, had2, hcap2, x.hs ++ [(seq, m)]⟩, none, 0, []) ⟨⟨hms, by rw [hE3]; simp [hhs]⟩, rfl, h53, by simp, hnd3⟩ (by repeat (first | exact EnvSub.nil _ | refine EnvSub.cons rfl ?_)) (Ent.refl _) ?_
    have h5 : E3.held.length ≤ 1000000001 := by omega
    clear hms hhs hlen hhl hf hE3
    clear x
    rintro ⟨E', x, ad', cap', acc⟩ ⟨⟨hms, hhs⟩, hdel, h6, h7, hnd⟩
    simp only [refL, refCells] at hms hhs hdel h6 h7 hnd ⊢
    have hhl : x.hs.length = E'.held.length := by rw [← hhs]; simp
    have hord : ∀ {X : List HP}, Ent (obj b 50 (refCells msgs E' x) :: osl encM 1 31 x.ad x.cap x.ms :: osl encH 2 92 x.had x.hcap x.hs :: X) ([obj b 50 (refCells msgs E' x), osl encH 2 92 x.had x.hcap x.hs] ++ (osl encM 1 31 x.ad x.cap x.ms :: X)) := Ent.consR Ent.swap
    have hback : ∀ {X : List HP}, Ent ([obj b 50 (refCells msgs E' x), osl encH 2 92 x.had x.hcap x.hs] ++ (osl encM 1 31 x.ad x.cap x.ms :: X)) (obj b 50 (refCells msgs E' x) :: osl encM 1 31 x.ad x.cap x.ms :: osl encH 2 92 x.had x.hcap x.hs :: X) := Ent.consR Ent.swap
    repeat (first | refine run ?_ | intro _ | ((with_reducible apply G.atDraw); first | refine G.draw (id := 2) plC16_21_2 mixed (by kernel_rfl) ?_ | refine G.draw (id := 4) plC16_21_4 mixed (by kernel_rfl) ?_ | refine G.draw (id := 8) plC16_21_8 mixed (by kernel_rfl) ?_ | refine G.draw (id := 10) plC16_21_10 mixed (by kernel_rfl) ?_))
    refine GO.ent hord ?_
    (first | ((with_reducible apply GO.atPlain); first | refine GO.ef (Ef.call (find_spec b (.int .i64 E'.window) (.slice x.ad x.ms.length x.cap) (.int .i64 ((msgs.length : Int) - E'.waiting.length)) (.int .i64 E'.delivered) (.bool E'.owing) x.had x.hcap x.hs (E'.delivered + 1) (by omega)) rfl (by repeat (first | exact Ent.refl _ | refine Ent.take ?_))) (by decide) ?_ | refine GO.ef (by exact Ef.call (find_spec b (.int .i64 E'.window) (.slice x.ad x.ms.length x.cap) (.int .i64 ((msgs.length : Int) - E'.waiting.length)) (.int .i64 E'.delivered) (.bool E'.owing) x.had x.hcap x.hs (E'.delivered + 1) (by omega)) rfl (by repeat (first | exact Ent.refl _ | refine Ent.take ?_))) (by decide) ?_) | ((with_reducible apply GPW.atEf); first | refine GPW.ef (Ef.call (find_spec b (.int .i64 E'.window) (.slice x.ad x.ms.length x.cap) (.int .i64 ((msgs.length : Int) - E'.waiting.length)) (.int .i64 E'.delivered) (.bool E'.owing) x.had x.hcap x.hs (E'.delivered + 1) (by omega)) rfl (by repeat (first | exact Ent.refl _ | refine Ent.take ?_))) (by decide) ?_ | refine GPW.ef (by exact Ef.call (find_spec b (.int .i64 E'.window) (.slice x.ad x.ms.length x.cap) (.int .i64 ((msgs.length : Int) - E'.waiting.length)) (.int .i64 E'.delivered) (.bool E'.owing) x.had x.hcap x.hs (E'.delivered + 1) (by omega)) rfl (by repeat (first | exact Ent.refl _ | refine Ent.take ?_))) (by decide) ?_))
    rintro _ _ ⟨_, ⟨rfl, rfl⟩, hL⟩
    simp only [List.cons_append, List.nil_append] at hL; subst hL
    refine GO.ent hback ?_
    simp only [refCells]
    cases hf : x.hs.findIdx? (fun p => p.1 == E'.delivered + 1) with
    | none =>
      have hk2 : E'.held.lookup (E'.delivered + 1) = none := by rw [← hhs, lookup_of_find, hf]; rfl
      rw [deliver_none hk2] at hdel
      rw [← hdel, findI_none hf]
      repeat (first | refine run ?_ | intro _ | ((with_reducible apply G.atDraw); first | refine G.draw (id := 2) plC16_21_2 mixed (by kernel_rfl) ?_ | refine G.draw (id := 4) plC16_21_4 mixed (by kernel_rfl) ?_ | refine G.draw (id := 8) plC16_21_8 mixed (by kernel_rfl) ?_ | refine G.draw (id := 10) plC16_21_10 mixed (by kernel_rfl) ?_))
      refine KX.ends (by first | exact ResOk.tmps rfl | (repeat (first | exact ResOk.nil | refine ResOk.tmp rfl ?_ | refine ResOk.cell rfl (by rfl) ?_ | refine ResOk.cell1 rfl ?_))) ?_ ⟨ad', cap', acc, rfl, rfl, rfl⟩
      refine Ent.take' (Ent.take' (Ent.trans ?_ (refClose x ⟨hms, hhs⟩)))
      simp only [refL, refCells]
      repeat (first | exact Ent.refl _ | exact Ent.nil _ | refine Ent.take' ?_ | refine Ent.trans Ent.drop ?_)
    | some j =>
      have hj := find_lt hf
      have hjs := List.findIdx?_eq_some_iff_getElem.1 hf
      obtain ⟨_, hj2, _⟩ := hjs
      have hk : x.hs[j]! = x.hs[j] := by rw [List.getElem!_eq_getElem?_getD, List.getElem?_eq_getElem hj]; rfl
      have hk2 : E'.held.lookup (E'.delivered + 1) = some (x.hs[j]!).2.bs := by rw [← hhs, lookup_of_find, hf, hk]; simp [hj]
      rw [deliver_some hk2] at hdel
      have hlt := aera_lt hk2
      have hmem : x.hs[j]! ∈ x.hs := by rw [hk]; exact List.getElem_mem _
      have hnd' : (x.hs.map (·.1)).Nodup := by rw [nd_map hhs]; exact hnd
      have haf := aera_find hnd' hf
      rw [findI_some hf]
      repeat (first | refine run ?_ | intro _ | ((with_reducible apply G.atDraw); first | refine G.draw (id := 2) plC16_21_2 mixed (by kernel_rfl) ?_ | refine G.draw (id := 4) plC16_21_4 mixed (by kernel_rfl) ?_ | refine G.draw (id := 8) plC16_21_8 mixed (by kernel_rfl) ?_ | refine G.draw (id := 10) plC16_21_10 mixed (by kernel_rfl) ?_))
      refine GO.ent hord ?_
      (first | ((with_reducible apply GO.atPlain); first | refine GO.ef (Ef.call (find_spec b (.int .i64 E'.window) (.slice x.ad x.ms.length x.cap) (.int .i64 ((msgs.length : Int) - E'.waiting.length)) (.int .i64 E'.delivered) (.bool E'.owing) x.had x.hcap x.hs (E'.delivered + 1) (by omega)) rfl (by repeat (first | exact Ent.refl _ | refine Ent.take ?_))) (by decide) ?_ | refine GO.ef (by exact Ef.call (find_spec b (.int .i64 E'.window) (.slice x.ad x.ms.length x.cap) (.int .i64 ((msgs.length : Int) - E'.waiting.length)) (.int .i64 E'.delivered) (.bool E'.owing) x.had x.hcap x.hs (E'.delivered + 1) (by omega)) rfl (by repeat (first | exact Ent.refl _ | refine Ent.take ?_))) (by decide) ?_) | ((with_reducible apply GPW.atEf); first | refine GPW.ef (Ef.call (find_spec b (.int .i64 E'.window) (.slice x.ad x.ms.length x.cap) (.int .i64 ((msgs.length : Int) - E'.waiting.length)) (.int .i64 E'.delivered) (.bool E'.owing) x.had x.hcap x.hs (E'.delivered + 1) (by omega)) rfl (by repeat (first | exact Ent.refl _ | refine Ent.take ?_))) (by decide) ?_ | refine GPW.ef (by exact Ef.call (find_spec b (.int .i64 E'.window) (.slice x.ad x.ms.length x.cap) (.int .i64 ((msgs.length : Int) - E'.waiting.length)) (.int .i64 E'.delivered) (.bool E'.owing) x.had x.hcap x.hs (E'.delivered + 1) (by omega)) rfl (by repeat (first | exact Ent.refl _ | refine Ent.take ?_))) (by decide) ?_))
      rintro _ _ ⟨_, ⟨rfl, rfl⟩, hL⟩
      simp only [List.cons_append, List.nil_append] at hL; subst hL
      refine GO.ent hback ?_
      simp only [refCells]
      rw [findI_some hf]
      repeat (first | refine run ?_ | intro _ | ((with_reducible apply G.atDraw); first | refine G.draw (id := 2) plC16_21_2 mixed (by kernel_rfl) ?_ | refine G.draw (id := 4) plC16_21_4 mixed (by kernel_rfl) ?_ | refine G.draw (id := 8) plC16_21_8 mixed (by kernel_rfl) ?_ | refine G.draw (id := 10) plC16_21_10 mixed (by kernel_rfl) ?_))
      rw [Int.toNat_natCast]
      (first | ((with_reducible apply GO.atPlain); first | refine GO.ef (Ef.append1 (e := (x.hs[j]!).2) rfl rfl rfl rfl rfl (by rfl) (encM_one _) (by omega) (by omega)) (by decide) ?_ | refine GO.ef (by exact Ef.append1 (e := (x.hs[j]!).2) rfl rfl rfl rfl rfl (by rfl) (encM_one _) (by omega) (by omega)) (by decide) ?_) | ((with_reducible apply GPW.atEf); first | refine GPW.ef (Ef.append1 (e := (x.hs[j]!).2) rfl rfl rfl rfl rfl (by rfl) (encM_one _) (by omega) (by omega)) (by decide) ?_ | refine GPW.ef (by exact Ef.append1 (e := (x.hs[j]!).2) rfl rfl rfl rfl rfl (by rfl) (encM_one _) (by omega) (by omega)) (by decide) ?_) | ((with_reducible apply GO.atUnit); first | refine GO.efu (Ef.append1 (e := (x.hs[j]!).2) rfl rfl rfl rfl rfl (by rfl) (encM_one _) (by omega) (by omega)) ?_ | refine GO.efu (by exact Ef.append1 (e := (x.hs[j]!).2) rfl rfl rfl rfl rfl (by rfl) (encM_one _) (by omega) (by omega)) ?_) | ((with_reducible apply GPW.atEfu); first | refine GPW.efu (Ef.append1 (e := (x.hs[j]!).2) rfl rfl rfl rfl rfl (by rfl) (encM_one _) (by omega) (by omega)) ?_ | refine GPW.efu (by exact Ef.append1 (e := (x.hs[j]!).2) rfl rfl rfl rfl rfl (by rfl) (encM_one _) (by omega) (by omega)) ?_))
      rintro _ _ ⟨ad2, cap2, rfl, rfl⟩
      refine GO.ent (Ent.nilSl encH 2 92) ?_
      refine GO.fact (osl_cap (ad := x.had)) ?_
      rintro ⟨hcp, _⟩
      repeat (first | refine run ?_ | intro _ | ((with_reducible apply G.atDraw); first | refine G.draw (id := 2) plC16_21_2 mixed (by kernel_rfl) ?_ | refine G.draw (id := 4) plC16_21_4 mixed (by kernel_rfl) ?_ | refine G.draw (id := 8) plC16_21_8 mixed (by kernel_rfl) ?_ | refine G.draw (id := 10) plC16_21_10 mixed (by kernel_rfl) ?_))
      rw [Int.toNat_natCast]
      (first | ((with_reducible apply GO.atPlain); first | refine GO.ef (Ef.appendS (ys := x.hs.take j) (hq := Rds.take inferInstance j) rfl rfl rfl rfl (by simp; omega) (fun e _ => encH_one e) (by simp; omega) (by simp; omega)) (by decide) ?_ | refine GO.ef (by exact Ef.appendS (ys := x.hs.take j) (hq := Rds.take inferInstance j) rfl rfl rfl rfl (by simp; omega) (fun e _ => encH_one e) (by simp; omega) (by simp; omega)) (by decide) ?_) | ((with_reducible apply GPW.atEf); first | refine GPW.ef (Ef.appendS (ys := x.hs.take j) (hq := Rds.take inferInstance j) rfl rfl rfl rfl (by simp; omega) (fun e _ => encH_one e) (by simp; omega) (by simp; omega)) (by decide) ?_ | refine GPW.ef (by exact Ef.appendS (ys := x.hs.take j) (hq := Rds.take inferInstance j) rfl rfl rfl rfl (by simp; omega) (fun e _ => encH_one e) (by simp; omega) (by simp; omega)) (by decide) ?_) | ((with_reducible apply GO.atUnit); first | refine GO.efu (Ef.appendS (ys := x.hs.take j) (hq := Rds.take inferInstance j) rfl rfl rfl rfl (by simp; omega) (fun e _ => encH_one e) (by simp; omega) (by simp; omega)) ?_ | refine GO.efu (by exact Ef.appendS (ys := x.hs.take j) (hq := Rds.take inferInstance j) rfl rfl rfl rfl (by simp; omega) (fun e _ => encH_one e) (by simp; omega) (by simp; omega)) ?_) | ((with_reducible apply GPW.atEfu); first | refine GPW.efu (Ef.appendS (ys := x.hs.take j) (hq := Rds.take inferInstance j) rfl rfl rfl rfl (by simp; omega) (fun e _ => encH_one e) (by simp; omega) (by simp; omega)) ?_ | refine GPW.efu (by exact Ef.appendS (ys := x.hs.take j) (hq := Rds.take inferInstance j) rfl rfl rfl rfl (by simp; omega) (fun e _ => encH_one e) (by simp; omega) (by simp; omega)) ?_))
      rintro _ _ ⟨ad3, cap3, rfl, rfl⟩
      rw [List.nil_append]
      repeat (first | refine run ?_ | intro _ | ((with_reducible apply G.atDraw); first | refine G.draw (id := 2) plC16_21_2 mixed (by kernel_rfl) ?_ | refine G.draw (id := 4) plC16_21_4 mixed (by kernel_rfl) ?_ | refine G.draw (id := 8) plC16_21_8 mixed (by kernel_rfl) ?_ | refine G.draw (id := 10) plC16_21_10 mixed (by kernel_rfl) ?_))
      (first | ((with_reducible apply GO.atPlain); first | refine GO.ef (Ef.appendS (ys := x.hs.drop ((j : Int) + 1).toNat) rfl rfl rfl rfl (by simp) (fun e _ => encH_one e) (by simp; omega) (by simp; omega)) (by decide) ?_ | refine GO.ef (by exact Ef.appendS (ys := x.hs.drop ((j : Int) + 1).toNat) rfl rfl rfl rfl (by simp) (fun e _ => encH_one e) (by simp; omega) (by simp; omega)) (by decide) ?_) | ((with_reducible apply GPW.atEf); first | refine GPW.ef (Ef.appendS (ys := x.hs.drop ((j : Int) + 1).toNat) rfl rfl rfl rfl (by simp) (fun e _ => encH_one e) (by simp; omega) (by simp; omega)) (by decide) ?_ | refine GPW.ef (by exact Ef.appendS (ys := x.hs.drop ((j : Int) + 1).toNat) rfl rfl rfl rfl (by simp) (fun e _ => encH_one e) (by simp; omega) (by simp; omega)) (by decide) ?_) | ((with_reducible apply GO.atUnit); first | refine GO.efu (Ef.appendS (ys := x.hs.drop ((j : Int) + 1).toNat) rfl rfl rfl rfl (by simp) (fun e _ => encH_one e) (by simp; omega) (by simp; omega)) ?_ | refine GO.efu (by exact Ef.appendS (ys := x.hs.drop ((j : Int) + 1).toNat) rfl rfl rfl rfl (by simp) (fun e _ => encH_one e) (by simp; omega) (by simp; omega)) ?_) | ((with_reducible apply GPW.atEfu); first | refine GPW.efu (Ef.appendS (ys := x.hs.drop ((j : Int) + 1).toNat) rfl rfl rfl rfl (by simp) (fun e _ => encH_one e) (by simp; omega) (by simp; omega)) ?_ | refine GPW.efu (by exact Ef.appendS (ys := x.hs.drop ((j : Int) + 1).toNat) rfl rfl rfl rfl (by simp) (fun e _ => encH_one e) (by simp; omega) (by simp; omega)) ?_))
      rintro _ _ ⟨ad4, cap4, rfl, rfl⟩
      rw [show ((j : Int) + 1).toNat = j + 1 by omega, haf]
      repeat (first | refine run ?_ | intro _ | ((with_reducible apply G.atDraw); first | refine G.draw (id := 2) plC16_21_2 mixed (by kernel_rfl) ?_ | refine G.draw (id := 4) plC16_21_4 mixed (by kernel_rfl) ?_ | refine G.draw (id := 8) plC16_21_8 mixed (by kernel_rfl) ?_ | refine G.draw (id := 10) plC16_21_10 mixed (by kernel_rfl) ?_))
      refine ⟨({ E' with delivered := E'.delivered + 1, held := aera E'.held (E'.delivered + 1) }, ⟨x.ad, x.cap, x.ms, ad4, cap4, aera x.hs (E'.delivered + 1)⟩, ad2, cap2, acc ++ [(x.hs[j]!).2]), ⟨⟨hms, ?_⟩, ?_, ⟨?_, ?_⟩, ?_, aera_nd hnd⟩, hlt, (by repeat (first | exact EnvSub.nil _ | refine EnvSub.cons rfl ?_)), ?_⟩
      · simp only []
        rw [← hhs]
        exact (aera_map (fun m : Msg => m.bs) x.hs _).symm
      · simpa using hdel
      · simp only []
        omega
      · simp only []
        omega
      · simp only [List.length_append, List.length_singleton]
        omega
      · refine (Ent.at (A := allP (fun p : Int × Msg => msgP p.2) x.hs) (Ent.allP_get (x := x.hs[j]!) hmem)).trans ?_
        refine (Ent.allP_one (f := msgP) (x := (x.hs[j]!).2) msgP_m).trans ?_
        refine (Ent.at (A := allP msgP acc) (Ent.consR (Ent.at (A := allP msgP [(x.hs[j]!).2]) (Ent.refl _)))).trans ?_
        refine (Ent.allP_app msgP_m).trans ?_
        refine (Ent.at (A := allP (fun p : Int × Msg => msgP p.2) x.hs) (Ent.allP_sub (l' := aera x.hs (E'.delivered + 1)) aera_sub)).trans ?_
        simp only [refL, refCells]
        repeat (first | exact Ent.refl _ | exact Ent.nil _ | refine Ent.take' ?_ | refine Ent.trans Ent.drop ?_)
theorem plain_spec (s k : Int) (ad : Option Addr) (n c : Nat) : Tri Try.prog 30 #[.agg #[.int .i64 s, .int .i64 k, .slice ad n c]] [] (fun v L => v = .agg #[.int .i64 s, .int .i64 k, .slice ad n c] ∧ L = []) := by
  refine Tri.body (args := [.agg #[.int .i64 s, .int .i64 k, .slice ad n c]]) 10 en30 Try.func30 rfl rfl rfl (by simp) ?_
  repeat (first | refine run ?_ | intro _)
  exact KX.ends (vs := [.agg #[.int .i64 s, .int .i64 k, .slice ad n c]]) (ResOk.cell (cs := [.int .i64 s, .int .i64 k, .slice ad n c]) rfl (by rfl) ResOk.nil) (Ent.nil _) ⟨rfl, rfl⟩
theorem of_spec (s k : Int) (ad : Option Addr) (n c : Nat) : Tri Try.prog 20 #[.agg #[.int .i64 s, .int .i64 k, .slice ad n c]] [] (fun v L => v = .agg #[.int .i64 s, .int .i64 k, .slice ad n c] ∧ L = []) := by
  refine Tri.body (args := [.agg #[.int .i64 s, .int .i64 k, .slice ad n c]]) 10 en20 Try.func20 rfl rfl rfl (by simp) ?_
  repeat (first | refine run ?_ | intro _)
  exact KX.ends (vs := [.agg #[.int .i64 s, .int .i64 k, .slice ad n c]]) (ResOk.cell (cs := [.int .i64 s, .int .i64 k, .slice ad n c]) rfl (by rfl) ResOk.nil) (Ent.nil _) ⟨rfl, rfl⟩
theorem samePk_spec {L : List HP} (p q : Pkt) [Rds L p.m.ad Int (encI .u8) 1 p.m.bs] [Rds L q.m.ad Int (encI .u8) 1 q.m.bs] (he : p.abs = q.abs) (hb : p.m.bs.length ≤ 9223372036854775807) :
    Tri Try.prog 34 #[.agg #[.int .i64 p.seq, .int .i64 p.ack, .slice p.m.ad p.m.bs.length p.m.cap], .agg #[.int .i64 q.seq, .int .i64 q.ack, .slice q.m.ad q.m.bs.length q.m.cap]] L (fun v L' => v = .bool true ∧ L' = L) := by
  simp only [Pkt.abs, Prod.mk.injEq] at he
  obtain ⟨h1, h2, h3⟩ := he
  refine Tri.body (args := [.agg #[.int .i64 p.seq, .int .i64 p.ack, .slice p.m.ad p.m.bs.length p.m.cap], .agg #[.int .i64 q.seq, .int .i64 q.ack, .slice q.m.ad q.m.bs.length q.m.cap]]) 24 en34 Try.func34 rfl rfl rfl (by simp) ?_
  repeat (first | refine run ?_ | intro _)
  (first | ((with_reducible apply GO.atPlain); first | refine GO.ef (Ef.callAll (sameBytes_spec p.m.ad _ p.m.cap p.m.bs q.m.ad _ q.m.cap q.m.bs rfl rfl hb) rfl) (by decide) ?_ | refine GO.ef (by exact Ef.callAll (sameBytes_spec p.m.ad _ p.m.cap p.m.bs q.m.ad _ q.m.cap q.m.bs rfl rfl hb) rfl) (by decide) ?_) | ((with_reducible apply GPW.atEf); first | refine GPW.ef (Ef.callAll (sameBytes_spec p.m.ad _ p.m.cap p.m.bs q.m.ad _ q.m.cap q.m.bs rfl rfl hb) rfl) (by decide) ?_ | refine GPW.ef (by exact Ef.callAll (sameBytes_spec p.m.ad _ p.m.cap p.m.bs q.m.ad _ q.m.cap q.m.bs rfl rfl hb) rfl) (by decide) ?_))
  rintro _ _ ⟨rfl, rfl⟩
  rw [dB_pos h3]
  repeat (first | refine run ?_ | intro _)
  refine KX.ends (by first | exact ResOk.tmps rfl | (repeat (first | exact ResOk.nil | refine ResOk.tmp rfl ?_ | refine ResOk.cell rfl (by rfl) ?_ | refine ResOk.cell1 rfl ?_))) (Ent.trans Ent.drop Ent.drop) ⟨rfl, rfl⟩
end Go.Proofs.Ytnpienjfapjjoaa
