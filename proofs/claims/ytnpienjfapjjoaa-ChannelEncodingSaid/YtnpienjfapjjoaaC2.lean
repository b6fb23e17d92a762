/- Contracts of package channel: what is to be sent now. -/
import Derived.Test.YtnpienjfapjjoaaC1
namespace Go.Proofs.Ytnpienjfapjjoaa
open Go.V
attribute [local irreducible] G GO GP GPW GPK Ev Ef Ent CB GB

/-- A packet. -/
structure Pkt where
  seq : Int
  ack : Int
  m : Msg
  deriving Inhabited
def encPk (p : Pkt) : List Value := [.int .i64 p.seq, .int .i64 p.ack, .slice p.m.ad p.m.bs.length p.m.cap]
theorem encPk_one (p : Pkt) : ∀ u ∈ encPk p, u.oneCell' = true := by simp [encPk, Value.oneCell']
abbrev PktS := Int × Int × Bytes
def Pkt.abs (p : Pkt) : PktS := (p.seq, p.ack, p.m.bs)
/-- The packet's message is owned. -/
def pkO (p : Pkt) : HP := osl (encI .u8) 1 5 p.m.ad p.m.cap p.m.bs

/-- The first k packets of Out. -/
def EndS.firsts (E : EndS) (k : Nat) : List PktS := (E.waiting.take k).zipIdx.map fun p => (E.sent - E.waiting.length + 1 + p.2, E.delivered, p.1)
def EndS.out (E : EndS) : List PktS :=
  if min E.window.toNat E.waiting.length = 0 then (if E.owing then [(0, E.delivered, [])] else []) else E.firsts (min E.window.toNat E.waiting.length)
theorem firsts_succ (E : EndS) (k : Nat) (h : k < E.waiting.length) : E.firsts (k + 1) = E.firsts k ++ [(E.sent - E.waiting.length + 1 + k, E.delivered, E.waiting[k])] := by
  unfold EndS.firsts
  rw [List.take_succ_eq_append_getElem h, List.zipIdx_append]
  simp [Nat.min_eq_left (Nat.le_of_lt h)]

abbrev plC2_15_2 : List Stp := [.ev 0, .ev 1, .ev 2, .ev 3, .ev 4, .ev 5, .ev 6, .ev 7, .ev 8, .ev 9, .ev 10, .ev 11]
abbrev plC2_15_3 : List Stp := [.ev 0, .ev 1, .ev 2, .ev 3, .ev 4, .ev 5, .ev 6, .ev 7, .ev 8, .ev 9, .ev 10, .ev 11, .ev 12, .ev 13, .ev 14, .ev 15, .ev 16]
abbrev plC2_15_6 : List Stp := [.ev 0, .ev 1, .ev 2, .ev 3, .ev 4, .ev 5, .ev 6, .ev 7, .ev 8, .ef 9, .ev 10, .ef 11, .ef 12, .ev 13]
theorem out_spec {L : List HP} (b : Nat) (E : EndS) (hE : E.Ok) (hm : ∀ m ∈ E.waiting, m.length ≤ 65536) :
    Tri Try.prog 15 #[.pointer (some ⟨b, 0, none⟩)] (EndR b E :: L) (fun v L' => ∃ ad cap ps, v = .slice ad ps.length cap ∧ ps.map Pkt.abs = E.out ∧ L' = osl encPk 3 44 ad cap ps :: bigO pkO ps :: EndR b { E with owing := false } :: L) := by
  refine Tri.body (args := [.pointer (some ⟨b, 0, none⟩)]) 72 en15 Try.func15 rfl rfl rfl (by simp) ?_
  refine G.openX (f := endAtoms b E) ?_
  intro x
  simp only [endAtoms, List.cons_append, List.nil_append]
  refine G.pureE ?_
  rintro ⟨hms, hhs⟩
  have hlen : x.ms.length = E.waiting.length := by rw [← hms]; simp
  have h1 := hE.sent
  have h2 := hE.win
  have h3 := hE.wait
  refine G.fact (osl_cap (ad := x.ad)) ?_
  rintro ⟨hcap, _⟩
  repeat (first | refine run ?_ | intro _ | ((with_reducible apply G.atDraw); first | refine G.draw (id := 2) plC2_15_2 mixed (by kernel_rfl) ?_ | refine G.draw (id := 3) plC2_15_3 mixed (by kernel_rfl) ?_ | refine G.draw (id := 6) plC2_15_6 mixed (by kernel_rfl) ?_))
  obtain ⟨n, hn⟩ : ∃ n : Nat, n = (min E.window ↑x.ms.length).toNat := ⟨_, rfl⟩
  rw [← hn]
  have hn1 : n ≤ x.ms.length ∧ n ≤ 16 := by omega
  refine G.loop (α := Int × Option Addr × Nat × List Pkt) (Inv := fun g => 0 ≤ g.1 ∧ g.1 ≤ n ∧ g.2.2.2.map Pkt.abs = E.firsts g.1.toNat)
    (e := fun g => [(0, .pointer (some ⟨b, 0, none⟩)), (3, .slice g.2.1 g.2.2.2.length g.2.2.1), (4, .int .i64 (E.sent - ↑x.ms.length + 1)), (32, .slice x.ad n x.cap), (33, .int .i64 n), (34, .int .i64 g.1)])
    (l := fun g => osl encPk 3 44 g.2.1 g.2.2.1 g.2.2.2 :: bigO pkO g.2.2.2 :: endL b E x L) (m := fun g => n - g.1.toNat) (0, none, 0, [])
    ⟨by simp, by simp, by simp [EndS.firsts]⟩ (by repeat (first | exact EnvSub.nil _ | refine EnvSub.cons rfl ?_)) ((Ent.bigO_nil pkO).trans (Ent.nilSl encPk 3 _)) ?_
  rintro ⟨k, ad, cap, ps⟩ ⟨hk0, hk, hps⟩
  dsimp only at hk0 hk hps ⊢
  have hpl : ps.length ≤ 16 := by
    have := congrArg List.length hps
    simp [EndS.firsts] at this
    omega
  repeat (first | refine run ?_ | intro _ | ((with_reducible apply G.atDraw); first | refine G.draw (id := 2) plC2_15_2 mixed (by kernel_rfl) ?_ | refine G.draw (id := 3) plC2_15_3 mixed (by kernel_rfl) ?_ | refine G.draw (id := 6) plC2_15_6 mixed (by kernel_rfl) ?_))
  (first | with_reducible refine CB.dec (fun _ => ?_) (fun _ => ?_) | with_reducible refine GB.dec (fun _ => ?_) (fun _ => ?_) | with_reducible refine CB.bool (fun _ => ?_) (fun _ => ?_) | with_reducible refine GB.bool (fun _ => ?_) (fun _ => ?_))
  · have hlt : k < n := by assumption
    have hmem : x.ms[k.toNat]! ∈ x.ms := by
      rw [List.getElem!_eq_getElem?_getD, List.getElem?_eq_getElem (by omega)]
      exact List.getElem_mem _
    have hbl : (x.ms[k.toNat]!).bs.length ≤ 65536 := hm _ (by rw [← hms]; exact List.mem_map_of_mem hmem)
    refine G.ent (Ent.at (A := allP msgP x.ms) (Ent.allP_get (x := x.ms[k.toNat]!) hmem)) ?_
    repeat (first | refine run ?_ | intro _ | ((with_reducible apply G.atDraw); first | refine G.draw (id := 2) plC2_15_2 mixed (by kernel_rfl) ?_ | refine G.draw (id := 3) plC2_15_3 mixed (by kernel_rfl) ?_ | refine G.draw (id := 6) plC2_15_6 mixed (by kernel_rfl) ?_))
    (first | ((with_reducible apply GO.atPlain); first | refine GO.ef (Ef.callAll (cloneB_spec _ _ _ (x.ms[k.toNat]!).bs rfl (by omega)) rfl) (by decide) ?_ | refine GO.ef (by exact Ef.callAll (cloneB_spec _ _ _ (x.ms[k.toNat]!).bs rfl (by omega)) rfl) (by decide) ?_) | ((with_reducible apply GPW.atEf); first | refine GPW.ef (Ef.callAll (cloneB_spec _ _ _ (x.ms[k.toNat]!).bs rfl (by omega)) rfl) (by decide) ?_ | refine GPW.ef (by exact Ef.callAll (cloneB_spec _ _ _ (x.ms[k.toNat]!).bs rfl (by omega)) rfl) (by decide) ?_))
    rintro _ _ ⟨ad1, cap1, rfl, rfl⟩
    repeat (first | refine run ?_ | intro _ | ((with_reducible apply G.atDraw); first | refine G.draw (id := 2) plC2_15_2 mixed (by kernel_rfl) ?_ | refine G.draw (id := 3) plC2_15_3 mixed (by kernel_rfl) ?_ | refine G.draw (id := 6) plC2_15_6 mixed (by kernel_rfl) ?_))
    (first | ((with_reducible apply GO.atPlain); first | refine GO.ef (Ef.append1 (e := (⟨E.sent - ↑x.ms.length + 1 + k, E.delivered, ⟨ad1, cap1, (x.ms[k.toNat]!).bs⟩⟩ : Pkt)) rfl rfl rfl rfl rfl (by rfl) (encPk_one _) (by omega) (by omega)) (by decide) ?_ | refine GO.ef (by exact Ef.append1 (e := (⟨E.sent - ↑x.ms.length + 1 + k, E.delivered, ⟨ad1, cap1, (x.ms[k.toNat]!).bs⟩⟩ : Pkt)) rfl rfl rfl rfl rfl (by rfl) (encPk_one _) (by omega) (by omega)) (by decide) ?_) | ((with_reducible apply GPW.atEf); first | refine GPW.ef (Ef.append1 (e := (⟨E.sent - ↑x.ms.length + 1 + k, E.delivered, ⟨ad1, cap1, (x.ms[k.toNat]!).bs⟩⟩ : Pkt)) rfl rfl rfl rfl rfl (by rfl) (encPk_one _) (by omega) (by omega)) (by decide) ?_ | refine GPW.ef (by exact Ef.append1 (e := (⟨E.sent - ↑x.ms.length + 1 + k, E.delivered, ⟨ad1, cap1, (x.ms[k.toNat]!).bs⟩⟩ : Pkt)) rfl rfl rfl rfl rfl (by rfl) (encPk_one _) (by omega) (by omega)) (by decide) ?_) | ((with_reducible apply GO.atUnit); first | refine GO.efu (Ef.append1 (e := (⟨E.sent - ↑x.ms.length + 1 + k, E.delivered, ⟨ad1, cap1, (x.ms[k.toNat]!).bs⟩⟩ : Pkt)) rfl rfl rfl rfl rfl (by rfl) (encPk_one _) (by omega) (by omega)) ?_ | refine GO.efu (by exact Ef.append1 (e := (⟨E.sent - ↑x.ms.length + 1 + k, E.delivered, ⟨ad1, cap1, (x.ms[k.toNat]!).bs⟩⟩ : Pkt)) rfl rfl rfl rfl rfl (by rfl) (encPk_one _) (by omega) (by omega)) ?_) | ((with_reducible apply GPW.atEfu); first | refine GPW.efu (Ef.append1 (e := (⟨E.sent - ↑x.ms.length + 1 + k, E.delivered, ⟨ad1, cap1, (x.ms[k.toNat]!).bs⟩⟩ : Pkt)) rfl rfl rfl rfl rfl (by rfl) (encPk_one _) (by omega) (by omega)) ?_ | refine GPW.efu (by exact Ef.append1 (e := (⟨E.sent - ↑x.ms.length + 1 + k, E.delivered, ⟨ad1, cap1, (x.ms[k.toNat]!).bs⟩⟩ : Pkt)) rfl rfl rfl rfl rfl (by rfl) (encPk_one _) (by omega) (by omega)) ?_))
    rintro _ _ ⟨ad2, cap2, rfl, rfl⟩
    repeat (first | refine run ?_ | intro _ | ((with_reducible apply G.atDraw); first | refine G.draw (id := 2) plC2_15_2 mixed (by kernel_rfl) ?_ | refine G.draw (id := 3) plC2_15_3 mixed (by kernel_rfl) ?_ | refine G.draw (id := 6) plC2_15_6 mixed (by kernel_rfl) ?_))
    refine ⟨(k + 1, ad2, cap2, ps ++ [⟨E.sent - ↑x.ms.length + 1 + k, E.delivered, ⟨ad1, cap1, (x.ms[k.toNat]!).bs⟩⟩]), ⟨by simp; omega, by simp; omega, ?_⟩, ?_, (by repeat (first | exact EnvSub.nil _ | refine EnvSub.cons rfl ?_)), ?_⟩
    · have e1 : (k + 1).toNat = k.toNat + 1 := by omega
      have e2 : (x.ms[k.toNat]!).bs = E.waiting[k.toNat]'(by omega) := by
        simp only [← hms]
        rw [List.getElem!_eq_getElem?_getD, List.getElem?_eq_getElem (by omega)]
        simp
      simp only [e1]
      rw [firsts_succ E k.toNat (by omega), List.map_append, hps, hlen]
      simp only [List.map_cons, List.map_nil, Pkt.abs, e2]
      have e3 : ((k.toNat : Nat) : Int) = k := by omega
      rw [e3]
    · simp only []
      omega
    · refine (Ent.at (A := osl (encI .u8) 1 5 ad1 cap1 (x.ms[k.toNat]!).bs) ?_)
      refine (Ent.consR (Ent.at (A := bigO pkO ps) (Ent.refl _))).trans ?_
      refine (Ent.bigO_snoc (f := pkO) (x := ⟨E.sent - ↑x.ms.length + 1 + k, E.delivered, ⟨ad1, cap1, (x.ms[k.toNat]!).bs⟩⟩)).trans ?_
      repeat (first | exact Ent.refl _ | exact Ent.nil _ | refine Ent.take' ?_ | refine Ent.trans Ent.drop ?_)
  · have hkn : k = n := by omega
    subst hkn
    have hpn : ps.length = n := by
      have := congrArg List.length hps
      simp [EndS.firsts] at this
      omega
    have hn2 : n = min E.window.toNat E.waiting.length := by omega
    repeat' (first | refine run ?_ | intro _ | ((with_reducible apply G.atDraw); first | refine G.draw (id := 2) plC2_15_2 mixed (by kernel_rfl) ?_ | refine G.draw (id := 3) plC2_15_3 mixed (by kernel_rfl) ?_ | refine G.draw (id := 6) plC2_15_6 mixed (by kernel_rfl) ?_) | with_reducible refine CB.dec (fun _ => ?_) (fun _ => ?_) | with_reducible refine GB.dec (fun _ => ?_) (fun _ => ?_) | with_reducible refine CB.bool (fun _ => ?_) (fun _ => ?_) | with_reducible refine GB.bool (fun _ => ?_) (fun _ => ?_))
    · rename_i b2
      have hz : n = 0 := by omega
      have ho : E.owing = true := by assumption
      have hp0 : ps = [] := List.eq_nil_of_length_eq_zero (by omega)
      subst hp0
      refine KX.ends (by first | exact ResOk.tmps rfl | (repeat (first | exact ResOk.nil | refine ResOk.tmp rfl ?_ | refine ResOk.cell rfl (by rfl) ?_ | refine ResOk.cell1 rfl ?_))) ?_ ⟨some ⟨b2, 0, none⟩, 1, [⟨0, E.delivered, ⟨none, 0, []⟩⟩], rfl, ?_, rfl⟩
      · refine (Ent.at (A := obj b2 44 [.int .i64 0, .int .i64 E.delivered, .slice none 0 0]) (Ent.objSl (enc := encPk) (sz := 3) (xs := [⟨0, E.delivered, ⟨none, 0, []⟩⟩]) rfl rfl (by simp [encPk]) (by simp))).trans ?_
        refine Ent.take' ?_
        refine (Ent.at (A := bigO pkO []) ((Ent.nilSl (encI .u8) 1 5).trans (Ent.bigO_cons (f := pkO) (x := ⟨0, E.delivered, ⟨none, 0, []⟩⟩)))).trans ?_
        refine Ent.take' ?_
        refine Ent.trans ?_ (endClose x ⟨hms, hhs⟩)
        repeat (first | exact Ent.refl _ | exact Ent.nil _ | refine Ent.take' ?_ | refine Ent.trans Ent.drop ?_)
      · simp [EndS.out, ← hn2, hz, ho, Pkt.abs]
    · have hz : n = 0 := by omega
      have ho : E.owing = false := by assumption
      refine KX.ends (by first | exact ResOk.tmps rfl | (repeat (first | exact ResOk.nil | refine ResOk.tmp rfl ?_ | refine ResOk.cell rfl (by rfl) ?_ | refine ResOk.cell1 rfl ?_))) ?_ ⟨ad, cap, ps, rfl, ?_, rfl⟩
      · refine Ent.take' (Ent.take' (Ent.trans ?_ (endClose x ⟨hms, hhs⟩)))
        repeat (first | exact Ent.refl _ | exact Ent.nil _ | refine Ent.take' ?_ | refine Ent.trans Ent.drop ?_)
      · simp [EndS.out, ← hn2, hz, ho, hps, EndS.firsts]
    · refine KX.ends (by first | exact ResOk.tmps rfl | (repeat (first | exact ResOk.nil | refine ResOk.tmp rfl ?_ | refine ResOk.cell rfl (by rfl) ?_ | refine ResOk.cell1 rfl ?_))) ?_ ⟨ad, cap, ps, rfl, ?_, rfl⟩
      · refine Ent.take' (Ent.take' (Ent.trans ?_ (endClose x ⟨hms, hhs⟩)))
        repeat (first | exact Ent.refl _ | exact Ent.nil _ | refine Ent.take' ?_ | refine Ent.trans Ent.drop ?_)
      · have hz : ¬ n = 0 := by omega
        simp [EndS.out, ← hn2, hz, hps]
end Go.Proofs.Ytnpienjfapjjoaa
