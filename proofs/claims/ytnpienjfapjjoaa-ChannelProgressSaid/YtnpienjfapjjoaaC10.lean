/- ChannelProgress. -/
import Derived.Test.YtnpienjfapjjoaaC7
namespace Go.Proofs.Ytnpienjfapjjoaa
open Go.V

def bytesN (m : Nat) : List Bytes := (List.range m).map fun i : Nat => ([(i : Int)] : Bytes)
theorem bytesN_len (m : Nat) : (bytesN m).length = m := by simp [bytesN]
theorem bytesN_succ (m : Nat) : bytesN (m + 1) = bytesN m ++ [[(m : Int)]] := by simp [bytesN, List.range_succ]
theorem bytesN_get (m i : Nat) (h : i < m) : (bytesN m)[i]! = [(i : Int)] := by simp [bytesN, List.getElem!_eq_getElem?_getD, List.getElem?_eq_getElem, h]
theorem bytesN_mem {m : Nat} {b : Bytes} (h : b ∈ bytesN m) : b.length = 1 := by
  simp [bytesN] at h
  obtain ⟨i, _, rfl⟩ := h
  rfl
def sel {α : Type} (k : Int) (x y : α) : α := if k = 0 then x else y

/-- How far a leg has come: behind i packets of a sender whose n messages are on their way. -/
structure LegInv (aS n dS aT dT : Nat) (oT : Bool) (i a d : Nat) (o : Bool) : Prop where
  ale : a ≤ dS
  apos : 0 < i → a = dS
  azero : i = 0 → a = aT
  deq : d = max dT (aS + min i n)
  opos : 0 < min i n → o = true
  ozero : min i n = 0 → o = oT
theorem LegInv.start {aS n dS aT dT : Nat} {oT : Bool} (h : aT ≤ dS) (h2 : aS ≤ dT) : LegInv aS n dS aT dT oT 0 aT dT oT := ⟨h, by omega, fun _ => rfl, by simp; omega, by simp, fun _ => rfl⟩
theorem leg_packet {wS wT : Int} {mS mT : Nat} {aS dS aT dT i a d : Nat} {oS oT o : Bool} {ps : List Pkt} (hw : 1 ≤ wS) (hps : ps.map Pkt.abs = (ordE wS (bytesN mS) aS dS oS).out) (hd : dS ≤ mT) (ha : aS ≤ dT) (hdT : dT ≤ mS)
    (hi : i < ps.length) (h : LegInv aS (min wS.toNat (mS - aS)) dS aT dT oT i a d o) :
    ∃ (a' d' : Nat) (o' : Bool) (xs : List Bytes), (ordE wT (bytesN mT) a d o).inn (ps[i]!).seq (ps[i]!).ack (ps[i]!).m.bs = (ordE wT (bytesN mT) a' d' o', xs) ∧ LegInv aS (min wS.toNat (mS - aS)) dS aT dT oT (i + 1) a' d' o' ∧ d' = d + xs.length ∧ xs.length ≤ 1 ∧ ∀ x ∈ xs, x = [(d : Int)] := by
  have hl := len_of hps
  by_cases hn : aS < mS
  · rw [ordE_out_len _ _ _ _ _ hw (by rw [bytesN_len]; exact hn), bytesN_len] at hl
    have hg := abs_get hps i (by rw [← len_of hps]; exact hi)
    rw [ordE_out_get _ _ _ _ _ hw (by rw [bytesN_len]; exact hn)] at hg
    simp only [Pkt.abs, Prod.mk.injEq] at hg
    obtain ⟨g1, g2, g3⟩ := hg
    rw [bytesN_get _ _ (by omega)] at g3
    rw [g1, g2, g3]
    have h1 := h.deq
    have h2 := h.ale
    rw [ordE_in _ _ _ _ _ _ _ _ (by rw [bytesN_len]; omega) (by rw [bytesN_len]; omega) (by simp [validB]; omega) (by omega)]
    rw [if_neg (by omega)]
    by_cases he : aS + 1 + i = d + 1
    · rw [if_pos he]
      refine ⟨_, _, _, _, rfl, ⟨by omega, by omega, by omega, by omega, fun _ => rfl, by omega⟩, by simp, by simp, ?_⟩
      intro x hx
      simp at hx
      subst hx
      congr 1
      omega
    · rw [if_neg he]
      exact ⟨_, _, _, _, rfl, ⟨by omega, by omega, by omega, by omega, fun _ => rfl, by omega⟩, by simp, by simp, by simp⟩
  · have e := ordE_out_none wS (bytesN mS) dS oS aS (by rw [bytesN_len]; omega)
    rw [e] at hps hl
    cases oS with
    | false =>
      have : ps.length = 0 := by simpa using hl
      omega
    | true =>
      simp only [if_true] at hps hl
      obtain ⟨ad, cap, rfl⟩ := abs_one hps
      have hi0 : i = 0 := by simp at hi; omega
      subst hi0
      have h1 := h.deq
      have h2 := h.ale
      have h3 := h.ozero (by omega)
      show ∃ (a' d' : Nat) (o' : Bool) (xs : List Bytes), (ordE wT (bytesN mT) a d o).inn ((0 : Nat) : Int) (dS : Int) [] = (ordE wT (bytesN mT) a' d' o', xs) ∧ _
      rw [ordE_in _ _ _ _ _ _ _ _ (by rw [bytesN_len]; omega) (by rw [bytesN_len]; omega) (by simp [validB]) (by omega), if_pos rfl]
      exact ⟨_, _, _, _, rfl, ⟨by omega, by omega, by omega, by omega, by omega, fun _ => h3⟩, by simp, by simp, by simp⟩
theorem LegInv.done {wS : Int} {mS : Nat} {aS dS aT dT a d : Nat} {oS oT o : Bool} {ps : List Pkt} (hw : 1 ≤ wS) (hps : ps.map Pkt.abs = (ordE wS (bytesN mS) aS dS oS).out) (hT : aT ≤ dS) (hS : aT < dS → oS = true)
    (h : LegInv aS (min wS.toNat (mS - aS)) dS aT dT oT ps.length a d o) : a = dS ∧ d = max dT (aS + min wS.toNat (mS - aS)) ∧ (0 < min wS.toNat (mS - aS) → o = true) := by
  have hl := len_of hps
  by_cases hn : aS < mS
  · rw [ordE_out_len _ _ _ _ _ hw (by rw [bytesN_len]; exact hn), bytesN_len] at hl
    have h1 := h.deq
    have h2 := h.apos (by omega)
    rw [hl, Nat.min_self] at h1
    exact ⟨h2, h1, fun hp => h.opos (by omega)⟩
  · rw [ordE_out_none wS (bytesN mS) dS oS aS (by rw [bytesN_len]; omega)] at hl
    have h1 := h.deq
    refine ⟨?_, by omega, by omega⟩
    cases oS with
    | true => exact h.apos (by simp at hl; omega)
    | false =>
      have h2 := h.azero (by simpa using hl)
      have h3 : ¬ (aT < dS) := fun hh => by cases hS hh
      omega
/-- What was got, by the side that receives. -/
def gl (k : Int) (s t : Nat) : List Int := if k = 0 then [(s : Int), (t : Int)] else [(t : Int), (s : Int)]
theorem gl_len (k : Int) (s t : Nat) : (gl k s t).length = 2 := by unfold gl; split <;> rfl
theorem gl_get {k : Int} (h : k = 0 ∨ k = 1) (s t : Nat) : (gl k s t)[(1 - k).toNat]! = (t : Int) := by rcases h with rfl | rfl <;> rfl
theorem gl_set {k : Int} (h : k = 0 ∨ k = 1) (s t t' : Nat) : (gl k s t).set (1 - k).toNat (t' : Int) = gl k s t' := by rcases h with rfl | rfl <;> rfl
theorem pk_frz (x : Pkt) (L : List HP) : Ent (pkO x :: L) (msgP x.m :: L) := Ent.freezeSl

structure St where
  a0 : Nat
  d0 : Nat
  o0 : Bool
  a1 : Nat
  d1 : Nat
  o1 : Bool
/-- At the head of round r. -/
structure RdInv (r m0 m1 : Nat) (s : St) : Prop where
  eq : s.a0 = s.d1
  a0 : min r m0 ≤ s.a0 ∧ s.a0 ≤ m0
  d0 : min r m1 ≤ s.d0 ∧ s.d0 ≤ m1
  a1 : min (r - 1) m1 ≤ s.a1 ∧ s.a1 ≤ s.d0
  o : s.a1 < s.d0 → s.o0 = true
/-- Between its two legs. -/
structure MidInv (r m0 m1 : Nat) (s : St) : Prop where
  eq : s.a1 = s.d0
  a0 : s.a0 ≤ s.d1
  d1 : min (r + 1) m0 ≤ s.d1 ∧ s.d1 ≤ m0
  d0 : min r m1 ≤ s.d0 ∧ s.d0 ≤ m1
  o : s.a0 < s.d1 → s.o1 = true
def KInv (k : Int) (r m0 m1 : Nat) (s : St) : Prop := (k = 0 ∧ RdInv r m0 m1 s) ∨ (k = 1 ∧ MidInv r m0 m1 s) ∨ (k = 2 ∧ RdInv (r + 1) m0 m1 s)
abbrev stL (c cm cg a b : Nat) (w0 w1 : Int) (m0 m1 : Nat) (s : St) : List HP :=
  [osl (encI .i64) 1 3 (some ⟨cg, 0, none⟩) 2 [(s.d0 : Int), (s.d1 : Int)], osl (encI .i64) 1 3 (some ⟨cm, 0, none⟩) 2 [(m0 : Int), (m1 : Int)], osl encP 1 33 (some ⟨c, 0, none⟩) 2 [a, b], EndR a (ordE w0 (bytesN m0) s.a0 s.d0 s.o0), EndR b (ordE w1 (bytesN m1) s.a1 s.d1 s.o1)]

abbrev legL (c cm cg a b : Nat) (m0 m1 : Nat) (k : Int) (S T : EndS) (s t : Nat) : List HP :=
  [osl (encI .i64) 1 3 (some ⟨cg, 0, none⟩) 2 (gl k s t), osl (encI .i64) 1 3 (some ⟨cm, 0, none⟩) 2 [(m0 : Int), (m1 : Int)], osl encP 1 33 (some ⟨c, 0, none⟩) 2 [a, b], EndR (([a, b])[k.toNat]!) S, EndR (([a, b])[(1 - k).toNat]!) T]
theorem leg_open {c cm cg a b : Nat} {w0 w1 : Int} {m0 m1 r : Nat} {s : St} {k : Int} (hk : k = 0 ∨ k = 1) (hs : KInv k r m0 m1 s) (hw0 : 1 ≤ w0 ∧ w0 ≤ 16) (hw1 : 1 ≤ w1 ∧ w1 ≤ 16) (hm0 : m0 ≤ 40) (hm1 : m1 ≤ 40) :
    ∃ (wS wT : Int) (mS mT aS dS aT dT : Nat) (oS oT : Bool), (1 ≤ wS ∧ wS ≤ 16) ∧ (1 ≤ wT ∧ wT ≤ 16) ∧ (mS ≤ 40 ∧ mT ≤ 40) ∧ (aT ≤ dS ∧ aS ≤ dT ∧ dT ≤ mS ∧ dS ≤ mT) ∧ (aT < dS → oS = true) ∧
      Ent (stL c cm cg a b w0 w1 m0 m1 s) (legL c cm cg a b m0 m1 k (ordE wS (bytesN mS) aS dS oS) (ordE wT (bytesN mT) aT dT oT) dS dT) ∧
      ∀ (dT' : Nat) (oT' : Bool), dT' = max dT (aS + min wS.toNat (mS - aS)) → (0 < min wS.toNat (mS - aS) → oT' = true) →
        ∃ s', KInv (k + 1) r m0 m1 s' ∧ Ent (legL c cm cg a b m0 m1 k (ordE wS (bytesN mS) aS dS false) (ordE wT (bytesN mT) dS dT' oT') dS dT') (stL c cm cg a b w0 w1 m0 m1 s') := by
  rcases hk with rfl | rfl
  · have h : RdInv r m0 m1 s := by
      rcases hs with ⟨_, h⟩ | ⟨h, _⟩ | ⟨h, _⟩
      · exact h
      · omega
      · omega
    obtain ⟨h1, h2, h3, h4, h5⟩ := h
    refine ⟨w0, w1, m0, m1, s.a0, s.d0, s.a1, s.d1, s.o0, s.o1, hw0, hw1, ⟨hm0, hm1⟩, ⟨by omega, by omega, by omega, by omega⟩, h5, Ent.refl _, ?_⟩
    intro dT' oT' e1 e2
    refine ⟨⟨s.a0, s.d0, false, s.d0, dT', oT'⟩, .inr (.inl ⟨rfl, ⟨rfl, by simp only []; omega, by simp only []; omega, by simp only []; omega, fun h => e2 (by simp only [] at h; omega)⟩⟩), Ent.refl _⟩
  · have h : MidInv r m0 m1 s := by
      rcases hs with ⟨h, _⟩ | ⟨_, h⟩ | ⟨h, _⟩
      · omega
      · exact h
      · omega
    obtain ⟨h1, h2, h3, h4, h5⟩ := h
    refine ⟨w1, w0, m1, m0, s.a1, s.d1, s.a0, s.d0, s.o1, s.o0, hw1, hw0, ⟨hm1, hm0⟩, ⟨by omega, by omega, by omega, by omega⟩, h5, Ent.consR (Ent.consR (Ent.consR Ent.swap)), ?_⟩
    intro dT' oT' e1 e2
    refine ⟨⟨s.d1, dT', oT', s.a1, s.d1, false⟩, .inr (.inr ⟨rfl, ⟨rfl, by simp only []; omega, by simp only []; omega, by simp only []; omega, fun h => e2 (by simp only [] at h; omega)⟩⟩), Ent.consR (Ent.consR (Ent.consR Ent.swap))⟩

attribute [local irreducible] G GO GP GPW GPK Ev Ef Ent CB GB validB
abbrev plC10_5_19 : List Stp := [.ev 0, .ev 1, .ev 2, .ev 3, .ev 4, .ev 5, .ev 6, .ev 7, .ev 8]
abbrev plC10_5_28 : List Stp := [.ev 0, .ev 1, .ev 2, .ev 3, .ev 4, .ev 5, .ev 6, .ev 7, .ev 8, .ef 9, .ev 10]
abbrev plC10_5_32 : List Stp := [.ev 0, .ev 1, .ev 2, .ev 3, .ev 4, .ev 5, .ev 6, .ev 7, .ev 8, .ev 9, .ev 10, .ev 11, .ev 12, .ev 13, .ev 14, .ev 15, .ev 16, .ev 17, .ev 18, .ev 19, .ev 20]
abbrev plC10_5_35 : List Stp := [.ev 0, .ev 1, .ev 2, .ev 3, .ev 4, .ev 5, .ev 6, .ev 7, .ev 8, .ev 9, .ev 10, .ev 11, .ev 12, .ev 13, .ev 14, .ev 15, .ev 16, .ev 17, .ev 18, .ev 19, .ef 20, .ev 21, .ev 22, .ev 23, .ev 24, .ev 25, .ev 26, .ef 27, .ev 28, .ev 29, .ev 30, .ef 31, .ev 32, .ev 33]
set_option maxHeartbeats 2000000 in
theorem progress_spec (window : Int) (h0 : -9223372036854775808 ≤ window ∧ window ≤ 9223372036854775807) (one : Int) (h1 : -9223372036854775808 ≤ one ∧ one ≤ 9223372036854775807) (two : Int) (h2 : -9223372036854775808 ≤ two ∧ two ≤ 9223372036854775807) (lost : Int) (h3 : -9223372036854775808 ≤ lost ∧ lost ≤ 9223372036854775807) :
    Tri Try.prog 5 #[.int .i64 window, .int .i64 one, .int .i64 two, .int .i64 lost] [] (fun v L => v = .bool true ∧ L = []) := by
  refine Tri.body (args := [.int .i64 window, .int .i64 one, .int .i64 two, .int .i64 lost]) 167 en5 Try.func5 rfl rfl rfl (by simp) ?_
  repeat (first | refine run ?_ | intro _ | ((with_reducible apply G.atDraw); first | refine G.draw (id := 19) plC10_5_19 mixed (by kernel_rfl) ?_ | refine G.draw (id := 28) plC10_5_28 mixed (by kernel_rfl) ?_ | refine G.draw (id := 32) plC10_5_32 mixed (by kernel_rfl) ?_ | refine G.draw (id := 35) plC10_5_35 mixed (by kernel_rfl) ?_))
  (first | ((with_reducible apply GO.atPlain); first | refine GO.ef (Ef.call (ends_spec window h0) rfl (by repeat (first | exact Ent.refl _ | refine Ent.take ?_))) (by decide) ?_ | refine GO.ef (by exact Ef.call (ends_spec window h0) rfl (by repeat (first | exact Ent.refl _ | refine Ent.take ?_))) (by decide) ?_) | ((with_reducible apply GPW.atEf); first | refine GPW.ef (Ef.call (ends_spec window h0) rfl (by repeat (first | exact Ent.refl _ | refine Ent.take ?_))) (by decide) ?_ | refine GPW.ef (by exact Ef.call (ends_spec window h0) rfl (by repeat (first | exact Ent.refl _ | refine Ent.take ?_))) (by decide) ?_))
  rintro _ _ ⟨_, ⟨c, a, b, rfl, rfl⟩, hL⟩
  simp only [List.cons_append, List.nil_append] at hL; subst hL
  have hw0 := around_bd window (k := 16) (by decide)
  have hw1 := around_bd (window.tdiv 16) (k := 16) (by decide)
  obtain ⟨w0, e0⟩ : ∃ w0, 1 + around window 16 = w0 := ⟨_, rfl⟩
  obtain ⟨w1, e1⟩ : ∃ w1, 1 + around (window.tdiv 16) 16 = w1 := ⟨_, rfl⟩
  have hw0' : 1 ≤ w0 ∧ w0 ≤ 16 := by omega
  have hw1' : 1 ≤ w1 ∧ w1 ≤ 16 := by omega
  rw [e0, e1]
  clear e0 e1 hw0 hw1
  repeat (first | refine run ?_ | intro _ | ((with_reducible apply G.atDraw); first | refine G.draw (id := 19) plC10_5_19 mixed (by kernel_rfl) ?_ | refine G.draw (id := 28) plC10_5_28 mixed (by kernel_rfl) ?_ | refine G.draw (id := 32) plC10_5_32 mixed (by kernel_rfl) ?_ | refine G.draw (id := 35) plC10_5_35 mixed (by kernel_rfl) ?_))
  (first | ((with_reducible apply GO.atPlain); first | refine GO.ef (Ef.call (around_spec one 41 h1.1 h1.2 (by decide) (by decide)) rfl (by repeat (first | exact Ent.refl _ | refine Ent.take ?_))) (by decide) ?_ | refine GO.ef (by exact Ef.call (around_spec one 41 h1.1 h1.2 (by decide) (by decide)) rfl (by repeat (first | exact Ent.refl _ | refine Ent.take ?_))) (by decide) ?_) | ((with_reducible apply GPW.atEf); first | refine GPW.ef (Ef.call (around_spec one 41 h1.1 h1.2 (by decide) (by decide)) rfl (by repeat (first | exact Ent.refl _ | refine Ent.take ?_))) (by decide) ?_ | refine GPW.ef (by exact Ef.call (around_spec one 41 h1.1 h1.2 (by decide) (by decide)) rfl (by repeat (first | exact Ent.refl _ | refine Ent.take ?_))) (by decide) ?_))
  rintro _ _ ⟨_, ⟨rfl, rfl⟩, hL⟩
  simp only [List.cons_append, List.nil_append] at hL; subst hL
  repeat (first | refine run ?_ | intro _ | ((with_reducible apply G.atDraw); first | refine G.draw (id := 19) plC10_5_19 mixed (by kernel_rfl) ?_ | refine G.draw (id := 28) plC10_5_28 mixed (by kernel_rfl) ?_ | refine G.draw (id := 32) plC10_5_32 mixed (by kernel_rfl) ?_ | refine G.draw (id := 35) plC10_5_35 mixed (by kernel_rfl) ?_))
  (first | ((with_reducible apply GO.atPlain); first | refine GO.ef (Ef.call (around_spec two 41 h2.1 h2.2 (by decide) (by decide)) rfl (by repeat (first | exact Ent.refl _ | refine Ent.take ?_))) (by decide) ?_ | refine GO.ef (by exact Ef.call (around_spec two 41 h2.1 h2.2 (by decide) (by decide)) rfl (by repeat (first | exact Ent.refl _ | refine Ent.take ?_))) (by decide) ?_) | ((with_reducible apply GPW.atEf); first | refine GPW.ef (Ef.call (around_spec two 41 h2.1 h2.2 (by decide) (by decide)) rfl (by repeat (first | exact Ent.refl _ | refine Ent.take ?_))) (by decide) ?_ | refine GPW.ef (by exact Ef.call (around_spec two 41 h2.1 h2.2 (by decide) (by decide)) rfl (by repeat (first | exact Ent.refl _ | refine Ent.take ?_))) (by decide) ?_))
  rintro _ _ ⟨_, ⟨rfl, rfl⟩, hL⟩
  simp only [List.cons_append, List.nil_append] at hL; subst hL
  have hm0 := around_bd one (k := 41) (by decide)
  have hm1 := around_bd two (k := 41) (by decide)
  obtain ⟨m0, e0⟩ : ∃ m0 : Nat, around one 41 = m0 := ⟨(around one 41).toNat, by omega⟩
  obtain ⟨m1, e1⟩ : ∃ m1 : Nat, around two 41 = m1 := ⟨(around two 41).toNat, by omega⟩
  rw [e0, e1]
  have hm0' : m0 ≤ 40 := by omega
  have hm1' : m1 ≤ 40 := by omega
  clear e0 e1 hm0 hm1
  repeat (first | ((fail_if_success (with_reducible refine G.atSS 5 ?_)); (with_reducible apply G.seq)) | refine runS ?_ | intro _ | ((with_reducible apply G.atDraw); first | refine G.draw (id := 19) plC10_5_19 mixed (by kernel_rfl) ?_ | refine G.draw (id := 28) plC10_5_28 mixed (by kernel_rfl) ?_ | refine G.draw (id := 32) plC10_5_32 mixed (by kernel_rfl) ?_ | refine G.draw (id := 35) plC10_5_35 mixed (by kernel_rfl) ?_))
  rename_i cm
  have hlm : ([(m0 : Int), (m1 : Int)]).length = 2 := rfl
  have hla : ([a, b]).length = 2 := rfl
  refine G.ent (Ent.objSl (enc := encI .i64) (sz := 1) (xs := [(m0 : Int), (m1 : Int)]) rfl rfl (by simp [encI]) (by simp)) ?_
  refine G.join (α := Unit) (fun _ => True) (fun _ => [(3, .int .i64 lost), (9, .slice (some ⟨c, 0, none⟩) 2 2), (10, .slice (some ⟨cm, 0, none⟩) 2 2)])
    (fun _ => [osl (encI .i64) 1 3 (some ⟨cm, 0, none⟩) 2 [(m0 : Int), (m1 : Int)], osl encP 1 33 (some ⟨c, 0, none⟩) 2 [a, b], EndR a (ordE w0 (bytesN m0) 0 0 false), EndR b (ordE w1 (bytesN m1) 0 0 false)]) ?_ ?_
  · repeat (first | refine run ?_ | intro _ | ((with_reducible apply G.atDraw); first | refine G.draw (id := 19) plC10_5_19 mixed (by kernel_rfl) ?_ | refine G.draw (id := 28) plC10_5_28 mixed (by kernel_rfl) ?_ | refine G.draw (id := 32) plC10_5_32 mixed (by kernel_rfl) ?_ | refine G.draw (id := 35) plC10_5_35 mixed (by kernel_rfl) ?_))
    refine G.loop (α := Int) (fun k => 0 ≤ k ∧ k ≤ 2) (fun k => [(3, .int .i64 lost), (9, .slice (some ⟨c, 0, none⟩) 2 2), (10, .slice (some ⟨cm, 0, none⟩) 2 2), (11, .int .i64 k)])
      (fun k => [osl (encI .i64) 1 3 (some ⟨cm, 0, none⟩) 2 [(m0 : Int), (m1 : Int)], osl encP 1 33 (some ⟨c, 0, none⟩) 2 [a, b], EndR a (ordE w0 (bytesN (if 0 < k then m0 else 0)) 0 0 false), EndR b (ordE w1 (bytesN (if 1 < k then m1 else 0)) 0 0 false)])
      (fun k => (2 - k).toNat) 0 ⟨by omega, by omega⟩ (by repeat (first | exact EnvSub.nil _ | refine EnvSub.cons rfl ?_)) ?_ ?_
    · rw [if_neg (by decide), if_neg (by decide)]
      rw [show ∀ w, EndS.new w = ordE w (bytesN 0) 0 0 false from fun _ => rfl, show ∀ w, EndS.new w = ordE w (bytesN 0) 0 0 false from fun _ => rfl]
      repeat (first | exact Ent.refl _ | exact Ent.nil _ | refine Ent.take' ?_ | refine Ent.trans Ent.drop ?_)
    rintro k ⟨hk0, hk1⟩
    repeat (first | refine run ?_ | intro _ | ((with_reducible apply G.atDraw); first | refine G.draw (id := 19) plC10_5_19 mixed (by kernel_rfl) ?_ | refine G.draw (id := 28) plC10_5_28 mixed (by kernel_rfl) ?_ | refine G.draw (id := 32) plC10_5_32 mixed (by kernel_rfl) ?_ | refine G.draw (id := 35) plC10_5_35 mixed (by kernel_rfl) ?_))
    (first | with_reducible refine CB.dec (fun _ => ?_) (fun _ => ?_) | with_reducible refine GB.dec (fun _ => ?_) (fun _ => ?_) | with_reducible refine CB.bool (fun _ => ?_) (fun _ => ?_) | with_reducible refine GB.bool (fun _ => ?_) (fun _ => ?_))
    case refine_2 =>
      have hk : k = 2 := by omega
      subst hk
      repeat (first | refine run ?_ | intro _ | ((with_reducible apply G.atDraw); first | refine G.draw (id := 19) plC10_5_19 mixed (by kernel_rfl) ?_ | refine G.draw (id := 28) plC10_5_28 mixed (by kernel_rfl) ?_ | refine G.draw (id := 32) plC10_5_32 mixed (by kernel_rfl) ?_ | refine G.draw (id := 35) plC10_5_35 mixed (by kernel_rfl) ?_))
      exact ⟨(), trivial, (by repeat (first | exact EnvSub.nil _ | refine EnvSub.cons rfl ?_)), Ent.refl _⟩
    rename_i hk2
    repeat (first | refine run ?_ | intro _ | ((with_reducible apply G.atDraw); first | refine G.draw (id := 19) plC10_5_19 mixed (by kernel_rfl) ?_ | refine G.draw (id := 28) plC10_5_28 mixed (by kernel_rfl) ?_ | refine G.draw (id := 32) plC10_5_32 mixed (by kernel_rfl) ?_ | refine G.draw (id := 35) plC10_5_35 mixed (by kernel_rfl) ?_))
    have hk3 : k = 0 ∨ k = 1 := by omega
    have hmx : ([(m0 : Int), (m1 : Int)])[k.toNat]! = ((sel k m0 m1 : Nat) : Int) := by rcases hk3 with rfl | rfl <;> rfl
    have hmx2 : sel k m0 m1 ≤ 40 := by rcases hk3 with rfl | rfl <;> simp [sel] <;> omega
    have hwx : 1 ≤ sel k w0 w1 ∧ sel k w0 w1 ≤ 16 := by rcases hk3 with rfl | rfl <;> simp [sel] <;> omega
    refine G.loop (α := Int) (fun i => 0 ≤ i ∧ i ≤ sel k m0 m1) (fun i => [(3, .int .i64 lost), (9, .slice (some ⟨c, 0, none⟩) 2 2), (10, .slice (some ⟨cm, 0, none⟩) 2 2), (11, .int .i64 k), (12, .int .i64 i)])
      (fun i => [osl (encI .i64) 1 3 (some ⟨cm, 0, none⟩) 2 [(m0 : Int), (m1 : Int)], osl encP 1 33 (some ⟨c, 0, none⟩) 2 [a, b], EndR (([a, b])[k.toNat]!) (ordE (sel k w0 w1) (bytesN i.toNat) 0 0 false), EndR (([a, b])[(1 - k).toNat]!) (ordE (sel k w1 w0) (bytesN (sel k 0 m0)) 0 0 false)])
      (fun i => ((sel k m0 m1 : Nat) - i).toNat) 0 ⟨by omega, by omega⟩ (by repeat (first | exact EnvSub.nil _ | refine EnvSub.cons rfl ?_)) ?_ ?_
    · rcases hk3 with rfl | rfl
      · exact Ent.refl _
      · refine Ent.take' (Ent.take' ?_)
        exact Ent.swap
    rintro i ⟨hi0, hi1⟩
    repeat (first | refine run ?_ | intro _ | ((with_reducible apply G.atDraw); first | refine G.draw (id := 19) plC10_5_19 mixed (by kernel_rfl) ?_ | refine G.draw (id := 28) plC10_5_28 mixed (by kernel_rfl) ?_ | refine G.draw (id := 32) plC10_5_32 mixed (by kernel_rfl) ?_ | refine G.draw (id := 35) plC10_5_35 mixed (by kernel_rfl) ?_))
    (first | with_reducible refine CB.dec (fun _ => ?_) (fun _ => ?_) | with_reducible refine GB.dec (fun _ => ?_) (fun _ => ?_) | with_reducible refine CB.bool (fun _ => ?_) (fun _ => ?_) | with_reducible refine GB.bool (fun _ => ?_) (fun _ => ?_))
    case refine_2 =>
      repeat (first | refine run ?_ | intro _ | ((with_reducible apply G.atDraw); first | refine G.draw (id := 19) plC10_5_19 mixed (by kernel_rfl) ?_ | refine G.draw (id := 28) plC10_5_28 mixed (by kernel_rfl) ?_ | refine G.draw (id := 32) plC10_5_32 mixed (by kernel_rfl) ?_ | refine G.draw (id := 35) plC10_5_35 mixed (by kernel_rfl) ?_))
      have hi : i = sel k m0 m1 := by omega
      subst hi
      refine ⟨k + 1, ⟨by omega, by omega⟩, by omega, (by repeat (first | exact EnvSub.nil _ | refine EnvSub.cons rfl ?_)), ?_⟩
      rcases hk3 with rfl | rfl
      · exact Ent.refl _
      · refine Ent.take' (Ent.take' ?_)
        exact Ent.swap
    rename_i hi2
    repeat (first | refine run ?_ | intro _ | ((with_reducible apply G.atDraw); first | refine G.draw (id := 19) plC10_5_19 mixed (by kernel_rfl) ?_ | refine G.draw (id := 28) plC10_5_28 mixed (by kernel_rfl) ?_ | refine G.draw (id := 32) plC10_5_32 mixed (by kernel_rfl) ?_ | refine G.draw (id := 35) plC10_5_35 mixed (by kernel_rfl) ?_))
    rename_i cb
    refine GO.ent (Ent.objSl (enc := encI .u8) (sz := 1) (xs := [i]) rfl rfl (by simp [encI]) (by simp)) ?_
    (first | ((with_reducible apply GO.atPlain); first | refine GO.ef (Ef.callAt (send_spec _ _ (some ⟨cb, 0, none⟩) 1 1 [i] rfl (ordE_ok (w := sel k w0 w1) (ms := bytesN i.toNat) (a := 0) (d := 0) (ow := false) hwx.1 hwx.2 (by rw [bytesN_len]; omega) (by omega)) (by decide) (by simp [ordE, bytesN_len]; omega)) rfl) (by decide) ?_ | refine GO.ef (by exact Ef.callAt (send_spec _ _ (some ⟨cb, 0, none⟩) 1 1 [i] rfl (ordE_ok (w := sel k w0 w1) (ms := bytesN i.toNat) (a := 0) (d := 0) (ow := false) hwx.1 hwx.2 (by rw [bytesN_len]; omega) (by omega)) (by decide) (by simp [ordE, bytesN_len]; omega)) rfl) (by decide) ?_) | ((with_reducible apply GPW.atEf); first | refine GPW.ef (Ef.callAt (send_spec _ _ (some ⟨cb, 0, none⟩) 1 1 [i] rfl (ordE_ok (w := sel k w0 w1) (ms := bytesN i.toNat) (a := 0) (d := 0) (ow := false) hwx.1 hwx.2 (by rw [bytesN_len]; omega) (by omega)) (by decide) (by simp [ordE, bytesN_len]; omega)) rfl) (by decide) ?_ | refine GPW.ef (by exact Ef.callAt (send_spec _ _ (some ⟨cb, 0, none⟩) 1 1 [i] rfl (ordE_ok (w := sel k w0 w1) (ms := bytesN i.toNat) (a := 0) (d := 0) (ow := false) hwx.1 hwx.2 (by rw [bytesN_len]; omega) (by omega)) (by decide) (by simp [ordE, bytesN_len]; omega)) rfl) (by decide) ?_))
    rintro _ _ ⟨rfl, rfl⟩
    repeat (first | refine run ?_ | intro _ | ((with_reducible apply G.atDraw); first | refine G.draw (id := 19) plC10_5_19 mixed (by kernel_rfl) ?_ | refine G.draw (id := 28) plC10_5_28 mixed (by kernel_rfl) ?_ | refine G.draw (id := 32) plC10_5_32 mixed (by kernel_rfl) ?_ | refine G.draw (id := 35) plC10_5_35 mixed (by kernel_rfl) ?_))
    refine ⟨i + 1, ⟨by omega, by omega⟩, by omega, (by repeat (first | exact EnvSub.nil _ | refine EnvSub.cons rfl ?_)), ?_⟩
    have hs : (ordE (sel k w0 w1) (bytesN i.toNat) 0 0 false).send [i] = ordE (sel k w0 w1) (bytesN (i + 1).toNat) 0 0 false := by
      rw [show (i + 1).toNat = i.toNat + 1 by omega, bytesN_succ, show ((i.toNat : Nat) : Int) = i by omega]
      simp [EndS.send, ordE]
    rw [hs]
    repeat (first | exact Ent.refl _ | exact Ent.nil _ | refine Ent.take' ?_ | refine Ent.trans Ent.drop ?_)
  rintro _ _
  have hq := around_bd lost (k := 5) (by decide)
  repeat (first | ((fail_if_success (with_reducible refine G.atSS 13 ?_)); (with_reducible apply G.seq)) | refine runS ?_ | intro _ | ((with_reducible apply G.atDraw); first | refine G.draw (id := 19) plC10_5_19 mixed (by kernel_rfl) ?_ | refine G.draw (id := 28) plC10_5_28 mixed (by kernel_rfl) ?_ | refine G.draw (id := 32) plC10_5_32 mixed (by kernel_rfl) ?_ | refine G.draw (id := 35) plC10_5_35 mixed (by kernel_rfl) ?_))
  refine G.join (α := Unit) (fun _ => True) (fun _ => [(9, .slice (some ⟨c, 0, none⟩) 2 2), (10, .slice (some ⟨cm, 0, none⟩) 2 2)])
    (fun _ => [osl (encI .i64) 1 3 (some ⟨cm, 0, none⟩) 2 [(m0 : Int), (m1 : Int)], osl encP 1 33 (some ⟨c, 0, none⟩) 2 [a, b], EndR a (ordE w0 (bytesN m0) 0 0 false), EndR b (ordE w1 (bytesN m1) 0 0 false)]) ?_ ?_
  · repeat (first | refine run ?_ | intro _ | ((with_reducible apply G.atDraw); first | refine G.draw (id := 19) plC10_5_19 mixed (by kernel_rfl) ?_ | refine G.draw (id := 28) plC10_5_28 mixed (by kernel_rfl) ?_ | refine G.draw (id := 32) plC10_5_32 mixed (by kernel_rfl) ?_ | refine G.draw (id := 35) plC10_5_35 mixed (by kernel_rfl) ?_))
    refine G.loop (α := Int) (fun i => 0 ≤ i ∧ i ≤ around lost 5) (fun i => [(3, .int .i64 lost), (9, .slice (some ⟨c, 0, none⟩) 2 2), (10, .slice (some ⟨cm, 0, none⟩) 2 2), (13, .int .i64 i)])
      (fun _ => [osl (encI .i64) 1 3 (some ⟨cm, 0, none⟩) 2 [(m0 : Int), (m1 : Int)], osl encP 1 33 (some ⟨c, 0, none⟩) 2 [a, b], EndR a (ordE w0 (bytesN m0) 0 0 false), EndR b (ordE w1 (bytesN m1) 0 0 false)])
      (fun i => (around lost 5 - i).toNat) 0 ⟨by omega, by omega⟩ (by repeat (first | exact EnvSub.nil _ | refine EnvSub.cons rfl ?_)) (Ent.refl _) ?_
    rintro i ⟨hi0, hi1⟩
    repeat (first | refine run ?_ | intro _ | ((with_reducible apply G.atDraw); first | refine G.draw (id := 19) plC10_5_19 mixed (by kernel_rfl) ?_ | refine G.draw (id := 28) plC10_5_28 mixed (by kernel_rfl) ?_ | refine G.draw (id := 32) plC10_5_32 mixed (by kernel_rfl) ?_ | refine G.draw (id := 35) plC10_5_35 mixed (by kernel_rfl) ?_))
    (first | ((with_reducible apply GO.atPlain); first | refine GO.ef (Ef.call (around_spec lost 5 h3.1 h3.2 (by decide) (by decide)) rfl (by repeat (first | exact Ent.refl _ | refine Ent.take ?_))) (by decide) ?_ | refine GO.ef (by exact Ef.call (around_spec lost 5 h3.1 h3.2 (by decide) (by decide)) rfl (by repeat (first | exact Ent.refl _ | refine Ent.take ?_))) (by decide) ?_) | ((with_reducible apply GPW.atEf); first | refine GPW.ef (Ef.call (around_spec lost 5 h3.1 h3.2 (by decide) (by decide)) rfl (by repeat (first | exact Ent.refl _ | refine Ent.take ?_))) (by decide) ?_ | refine GPW.ef (by exact Ef.call (around_spec lost 5 h3.1 h3.2 (by decide) (by decide)) rfl (by repeat (first | exact Ent.refl _ | refine Ent.take ?_))) (by decide) ?_))
    rintro _ _ ⟨_, ⟨rfl, rfl⟩, hL⟩
    simp only [List.cons_append, List.nil_append] at hL; subst hL
    repeat (first | refine run ?_ | intro _ | ((with_reducible apply G.atDraw); first | refine G.draw (id := 19) plC10_5_19 mixed (by kernel_rfl) ?_ | refine G.draw (id := 28) plC10_5_28 mixed (by kernel_rfl) ?_ | refine G.draw (id := 32) plC10_5_32 mixed (by kernel_rfl) ?_ | refine G.draw (id := 35) plC10_5_35 mixed (by kernel_rfl) ?_))
    (first | with_reducible refine CB.dec (fun _ => ?_) (fun _ => ?_) | with_reducible refine GB.dec (fun _ => ?_) (fun _ => ?_) | with_reducible refine CB.bool (fun _ => ?_) (fun _ => ?_) | with_reducible refine GB.bool (fun _ => ?_) (fun _ => ?_))
    case refine_2 =>
      repeat (first | refine run ?_ | intro _ | ((with_reducible apply G.atDraw); first | refine G.draw (id := 19) plC10_5_19 mixed (by kernel_rfl) ?_ | refine G.draw (id := 28) plC10_5_28 mixed (by kernel_rfl) ?_ | refine G.draw (id := 32) plC10_5_32 mixed (by kernel_rfl) ?_ | refine G.draw (id := 35) plC10_5_35 mixed (by kernel_rfl) ?_))
      exact ⟨(), trivial, (by repeat (first | exact EnvSub.nil _ | refine EnvSub.cons rfl ?_)), Ent.refl _⟩
    rename_i hi2
    repeat (first | refine run ?_ | intro _ | ((with_reducible apply G.atDraw); first | refine G.draw (id := 19) plC10_5_19 mixed (by kernel_rfl) ?_ | refine G.draw (id := 28) plC10_5_28 mixed (by kernel_rfl) ?_ | refine G.draw (id := 32) plC10_5_32 mixed (by kernel_rfl) ?_ | refine G.draw (id := 35) plC10_5_35 mixed (by kernel_rfl) ?_))
    have hk3 : i % 2 = 0 ∨ i % 2 = 1 := by omega
    rcases hk3 with hk | hk
    · rw [show ([a, b])[(i % 2).toNat]! = a by rw [hk]; rfl]
      (first | ((with_reducible apply GO.atPlain); first | refine GO.ef (Ef.callAt (out_spec a _ (ordE_ok (w := w0) (ms := bytesN m0) (a := 0) (d := 0) (ow := false) hw0'.1 hw0'.2 (by rw [bytesN_len]; omega) (by omega)) (fun m hm => by have := bytesN_mem hm; omega)) rfl) (by decide) ?_ | refine GO.ef (by exact Ef.callAt (out_spec a _ (ordE_ok (w := w0) (ms := bytesN m0) (a := 0) (d := 0) (ow := false) hw0'.1 hw0'.2 (by rw [bytesN_len]; omega) (by omega)) (fun m hm => by have := bytesN_mem hm; omega)) rfl) (by decide) ?_) | ((with_reducible apply GPW.atEf); first | refine GPW.ef (Ef.callAt (out_spec a _ (ordE_ok (w := w0) (ms := bytesN m0) (a := 0) (d := 0) (ow := false) hw0'.1 hw0'.2 (by rw [bytesN_len]; omega) (by omega)) (fun m hm => by have := bytesN_mem hm; omega)) rfl) (by decide) ?_ | refine GPW.ef (by exact Ef.callAt (out_spec a _ (ordE_ok (w := w0) (ms := bytesN m0) (a := 0) (d := 0) (ow := false) hw0'.1 hw0'.2 (by rw [bytesN_len]; omega) (by omega)) (fun m hm => by have := bytesN_mem hm; omega)) rfl) (by decide) ?_))
      rintro _ _ ⟨ad, cap, ps, rfl, hps, rfl⟩
      repeat (first | refine run ?_ | intro _ | ((with_reducible apply G.atDraw); first | refine G.draw (id := 19) plC10_5_19 mixed (by kernel_rfl) ?_ | refine G.draw (id := 28) plC10_5_28 mixed (by kernel_rfl) ?_ | refine G.draw (id := 32) plC10_5_32 mixed (by kernel_rfl) ?_ | refine G.draw (id := 35) plC10_5_35 mixed (by kernel_rfl) ?_))
      exact ⟨i + 1, ⟨by omega, by omega⟩, by omega, (by repeat (first | exact EnvSub.nil _ | refine EnvSub.cons rfl ?_)), by repeat (first | exact Ent.refl _ | exact Ent.nil _ | refine Ent.take' ?_ | refine Ent.trans Ent.drop ?_)⟩
    · rw [show ([a, b])[(i % 2).toNat]! = b by rw [hk]; rfl]
      (first | ((with_reducible apply GO.atPlain); first | refine GO.ef (Ef.callAt (out_spec b _ (ordE_ok (w := w1) (ms := bytesN m1) (a := 0) (d := 0) (ow := false) hw1'.1 hw1'.2 (by rw [bytesN_len]; omega) (by omega)) (fun m hm => by have := bytesN_mem hm; omega)) rfl) (by decide) ?_ | refine GO.ef (by exact Ef.callAt (out_spec b _ (ordE_ok (w := w1) (ms := bytesN m1) (a := 0) (d := 0) (ow := false) hw1'.1 hw1'.2 (by rw [bytesN_len]; omega) (by omega)) (fun m hm => by have := bytesN_mem hm; omega)) rfl) (by decide) ?_) | ((with_reducible apply GPW.atEf); first | refine GPW.ef (Ef.callAt (out_spec b _ (ordE_ok (w := w1) (ms := bytesN m1) (a := 0) (d := 0) (ow := false) hw1'.1 hw1'.2 (by rw [bytesN_len]; omega) (by omega)) (fun m hm => by have := bytesN_mem hm; omega)) rfl) (by decide) ?_ | refine GPW.ef (by exact Ef.callAt (out_spec b _ (ordE_ok (w := w1) (ms := bytesN m1) (a := 0) (d := 0) (ow := false) hw1'.1 hw1'.2 (by rw [bytesN_len]; omega) (by omega)) (fun m hm => by have := bytesN_mem hm; omega)) rfl) (by decide) ?_))
      rintro _ _ ⟨ad, cap, ps, rfl, hps, rfl⟩
      repeat (first | refine run ?_ | intro _ | ((with_reducible apply G.atDraw); first | refine G.draw (id := 19) plC10_5_19 mixed (by kernel_rfl) ?_ | refine G.draw (id := 28) plC10_5_28 mixed (by kernel_rfl) ?_ | refine G.draw (id := 32) plC10_5_32 mixed (by kernel_rfl) ?_ | refine G.draw (id := 35) plC10_5_35 mixed (by kernel_rfl) ?_))
      exact ⟨i + 1, ⟨by omega, by omega⟩, by omega, (by repeat (first | exact EnvSub.nil _ | refine EnvSub.cons rfl ?_)), by repeat (first | exact Ent.refl _ | exact Ent.nil _ | refine Ent.take' ?_ | refine Ent.trans Ent.drop ?_)⟩
  rintro _ _
  repeat (first | ((fail_if_success (with_reducible refine G.atSS 18 ?_)); (with_reducible apply G.seq)) | refine runS ?_ | intro _ | ((with_reducible apply G.atDraw); first | refine G.draw (id := 19) plC10_5_19 mixed (by kernel_rfl) ?_ | refine G.draw (id := 28) plC10_5_28 mixed (by kernel_rfl) ?_ | refine G.draw (id := 32) plC10_5_32 mixed (by kernel_rfl) ?_ | refine G.draw (id := 35) plC10_5_35 mixed (by kernel_rfl) ?_))
  rename_i cg
  refine G.ent (Ent.objSl (enc := encI .i64) (sz := 1) (xs := [((0 : Nat) : Int), ((0 : Nat) : Int)]) rfl rfl (by simp [encI]) (by simp)) ?_
  refine G.join (α := St) (fun s => RdInv (max m0 m1 + 1) m0 m1 s) (fun _ => [(9, .slice (some ⟨c, 0, none⟩) 2 2), (10, .slice (some ⟨cm, 0, none⟩) 2 2), (14, .slice (some ⟨cg, 0, none⟩) 2 2)]) (fun s => stL c cm cg a b w0 w1 m0 m1 s) ?_ ?_
  · repeat (first | refine run ?_ | intro _ | ((with_reducible apply G.atDraw); first | refine G.draw (id := 19) plC10_5_19 mixed (by kernel_rfl) ?_ | refine G.draw (id := 28) plC10_5_28 mixed (by kernel_rfl) ?_ | refine G.draw (id := 32) plC10_5_32 mixed (by kernel_rfl) ?_ | refine G.draw (id := 35) plC10_5_35 mixed (by kernel_rfl) ?_))
    refine G.loop (α := Int × St) (fun (r, s) => 0 ≤ r ∧ r ≤ (max m0 m1 : Nat) + 1 ∧ RdInv r.toNat m0 m1 s) (fun (r, _) => [(9, .slice (some ⟨c, 0, none⟩) 2 2), (10, .slice (some ⟨cm, 0, none⟩) 2 2), (14, .slice (some ⟨cg, 0, none⟩) 2 2), (15, .int .i64 r)])
      (fun (_, s) => stL c cm cg a b w0 w1 m0 m1 s) (fun (r, _) => ((max m0 m1 : Nat) + 1 - r).toNat) (0, ⟨0, 0, false, 0, 0, false⟩) ⟨by omega, by omega, ⟨rfl, by simp, by simp, by simp, by simp⟩⟩ (by repeat (first | exact EnvSub.nil _ | refine EnvSub.cons rfl ?_)) (Ent.refl _) ?_
    rintro ⟨r, s⟩ ⟨hr0, hr1, hs⟩
    simp only [stL] at hr0 hr1 hs ⊢
    have hmm0 : ([(m0 : Int), (m1 : Int)])[(0 : Int).toNat]! = (m0 : Int) := rfl
    have hmm1 : ([(m0 : Int), (m1 : Int)])[(1 : Int).toNat]! = (m1 : Int) := rfl
    repeat (first | refine run ?_ | intro _ | ((with_reducible apply G.atDraw); first | refine G.draw (id := 19) plC10_5_19 mixed (by kernel_rfl) ?_ | refine G.draw (id := 28) plC10_5_28 mixed (by kernel_rfl) ?_ | refine G.draw (id := 32) plC10_5_32 mixed (by kernel_rfl) ?_ | refine G.draw (id := 35) plC10_5_35 mixed (by kernel_rfl) ?_))
    (first | with_reducible refine CB.dec (fun _ => ?_) (fun _ => ?_) | with_reducible refine GB.dec (fun _ => ?_) (fun _ => ?_) | with_reducible refine CB.bool (fun _ => ?_) (fun _ => ?_) | with_reducible refine GB.bool (fun _ => ?_) (fun _ => ?_))
    case refine_2 =>
      repeat (first | refine run ?_ | intro _ | ((with_reducible apply G.atDraw); first | refine G.draw (id := 19) plC10_5_19 mixed (by kernel_rfl) ?_ | refine G.draw (id := 28) plC10_5_28 mixed (by kernel_rfl) ?_ | refine G.draw (id := 32) plC10_5_32 mixed (by kernel_rfl) ?_ | refine G.draw (id := 35) plC10_5_35 mixed (by kernel_rfl) ?_))
      have hh : r.toNat = max m0 m1 + 1 := by omega
      rw [hh] at hs
      exact ⟨s, hs, (by repeat (first | exact EnvSub.nil _ | refine EnvSub.cons rfl ?_)), Ent.refl _⟩
    rename_i hr2
    have hr3 : r.toNat ≤ max m0 m1 := by omega
    repeat (first | refine run ?_ | intro _ | ((with_reducible apply G.atDraw); first | refine G.draw (id := 19) plC10_5_19 mixed (by kernel_rfl) ?_ | refine G.draw (id := 28) plC10_5_28 mixed (by kernel_rfl) ?_ | refine G.draw (id := 32) plC10_5_32 mixed (by kernel_rfl) ?_ | refine G.draw (id := 35) plC10_5_35 mixed (by kernel_rfl) ?_))
    refine G.loop (α := Int × St) (fun (k, s) => KInv k r.toNat m0 m1 s) (fun (k, _) => [(9, .slice (some ⟨c, 0, none⟩) 2 2), (10, .slice (some ⟨cm, 0, none⟩) 2 2), (14, .slice (some ⟨cg, 0, none⟩) 2 2), (15, .int .i64 r), (16, .int .i64 k)])
      (fun (_, s) => stL c cm cg a b w0 w1 m0 m1 s) (fun (k, _) => (2 - k).toNat) (0, s) (.inl ⟨rfl, hs⟩) (by repeat (first | exact EnvSub.nil _ | refine EnvSub.cons rfl ?_)) (Ent.refl _) ?_
    clear hs
    clear s
    rintro ⟨k, s⟩ hs
    simp only [stL] at hs ⊢
    repeat (first | refine run ?_ | intro _ | ((with_reducible apply G.atDraw); first | refine G.draw (id := 19) plC10_5_19 mixed (by kernel_rfl) ?_ | refine G.draw (id := 28) plC10_5_28 mixed (by kernel_rfl) ?_ | refine G.draw (id := 32) plC10_5_32 mixed (by kernel_rfl) ?_ | refine G.draw (id := 35) plC10_5_35 mixed (by kernel_rfl) ?_))
    (first | with_reducible refine CB.dec (fun _ => ?_) (fun _ => ?_) | with_reducible refine GB.dec (fun _ => ?_) (fun _ => ?_) | with_reducible refine CB.bool (fun _ => ?_) (fun _ => ?_) | with_reducible refine GB.bool (fun _ => ?_) (fun _ => ?_))
    case refine_2 =>
      repeat (first | refine run ?_ | intro _ | ((with_reducible apply G.atDraw); first | refine G.draw (id := 19) plC10_5_19 mixed (by kernel_rfl) ?_ | refine G.draw (id := 28) plC10_5_28 mixed (by kernel_rfl) ?_ | refine G.draw (id := 32) plC10_5_32 mixed (by kernel_rfl) ?_ | refine G.draw (id := 35) plC10_5_35 mixed (by kernel_rfl) ?_))
      have hs2 : RdInv (r.toNat + 1) m0 m1 s := by
        rcases hs with ⟨h, _⟩ | ⟨h, _⟩ | ⟨_, h⟩
        · omega
        · omega
        · exact h
      refine ⟨(r + 1, s), ⟨by simp only []; omega, by simp only []; omega, ?_⟩, by simp only []; omega, (by repeat (first | exact EnvSub.nil _ | refine EnvSub.cons rfl ?_)), Ent.refl _⟩
      simp only []
      rw [show (r + 1).toNat = r.toNat + 1 by omega]
      exact hs2
    rename_i hk2
    have hk3 : k = 0 ∨ k = 1 := by
      rcases hs with ⟨h, _⟩ | ⟨h, _⟩ | ⟨h, _⟩
      · exact .inl h
      · exact .inr h
      · omega
    obtain ⟨wS, wT, mS, mT, aS, dS, aT, dT, oS, oT, hwS, hwT, hm, hd, ho, hE, hC⟩ := leg_open (c := c) (cm := cm) (cg := cg) (a := a) (b := b) hk3 hs hw0' hw1' hm0' hm1'
    refine G.ent hE ?_
    simp only [legL]
    clear hE hs
    repeat (first | refine run ?_ | intro _ | ((with_reducible apply G.atDraw); first | refine G.draw (id := 19) plC10_5_19 mixed (by kernel_rfl) ?_ | refine G.draw (id := 28) plC10_5_28 mixed (by kernel_rfl) ?_ | refine G.draw (id := 32) plC10_5_32 mixed (by kernel_rfl) ?_ | refine G.draw (id := 35) plC10_5_35 mixed (by kernel_rfl) ?_))
    (first | ((with_reducible apply GO.atPlain); first | refine GO.ef (Ef.callAt (out_spec _ _ (ordE_ok (w := wS) (ms := bytesN mS) (a := aS) (d := dS) (ow := oS) hwS.1 hwS.2 (by rw [bytesN_len]; omega) (by omega)) (fun m hm => by have := bytesN_mem (List.mem_of_mem_drop hm); omega)) rfl) (by decide) ?_ | refine GO.ef (by exact Ef.callAt (out_spec _ _ (ordE_ok (w := wS) (ms := bytesN mS) (a := aS) (d := dS) (ow := oS) hwS.1 hwS.2 (by rw [bytesN_len]; omega) (by omega)) (fun m hm => by have := bytesN_mem (List.mem_of_mem_drop hm); omega)) rfl) (by decide) ?_) | ((with_reducible apply GPW.atEf); first | refine GPW.ef (Ef.callAt (out_spec _ _ (ordE_ok (w := wS) (ms := bytesN mS) (a := aS) (d := dS) (ow := oS) hwS.1 hwS.2 (by rw [bytesN_len]; omega) (by omega)) (fun m hm => by have := bytesN_mem (List.mem_of_mem_drop hm); omega)) rfl) (by decide) ?_ | refine GPW.ef (by exact Ef.callAt (out_spec _ _ (ordE_ok (w := wS) (ms := bytesN mS) (a := aS) (d := dS) (ow := oS) hwS.1 hwS.2 (by rw [bytesN_len]; omega) (by omega)) (fun m hm => by have := bytesN_mem (List.mem_of_mem_drop hm); omega)) rfl) (by decide) ?_))
    rintro _ _ ⟨ad, cap, ps, rfl, hps, rfl⟩
    rw [show ({ ordE wS (bytesN mS) aS dS oS with owing := false } : EndS) = ordE wS (bytesN mS) aS dS false from rfl]
    refine GO.ent (Ent.at (A := bigO pkO ps) (Ent.bigO_all (fun _ => msgP_m _) pk_frz ps _)) ?_
    have hpl : ps.length ≤ 16 := by
      rw [len_of hps]
      by_cases hh : aS < mS
      · rw [ordE_out_len _ _ _ _ _ hwS.1 (by rw [bytesN_len]; exact hh)]
        omega
      · rw [ordE_out_none _ _ _ _ _ (by rw [bytesN_len]; omega)]
        split <;> simp
    repeat (first | refine run ?_ | intro _ | ((with_reducible apply G.atDraw); first | refine G.draw (id := 19) plC10_5_19 mixed (by kernel_rfl) ?_ | refine G.draw (id := 28) plC10_5_28 mixed (by kernel_rfl) ?_ | refine G.draw (id := 32) plC10_5_32 mixed (by kernel_rfl) ?_ | refine G.draw (id := 35) plC10_5_35 mixed (by kernel_rfl) ?_))
    refine G.loop (α := Int × Nat × Nat × Bool) (fun (i, x, d, o) => 0 ≤ i ∧ i ≤ ps.length ∧ LegInv aS (min wS.toNat (mS - aS)) dS aT dT oT i.toNat x d o)
      (fun (i, _) => [(9, .slice (some ⟨c, 0, none⟩) 2 2), (10, .slice (some ⟨cm, 0, none⟩) 2 2), (14, .slice (some ⟨cg, 0, none⟩) 2 2), (15, .int .i64 r), (16, .int .i64 k), (17, .slice ad ps.length cap), (18, .int .i64 i)])
      (fun (_, x, d, o) => osl encPk 3 44 ad cap ps :: allP (fun p : Pkt => msgP p.m) ps :: legL c cm cg a b m0 m1 k (ordE wS (bytesN mS) aS dS false) (ordE wT (bytesN mT) x d o) dS d)
      (fun (i, _) => (ps.length - i).toNat) (0, aT, dT, oT) ⟨by omega, by omega, LegInv.start hd.1 hd.2.1⟩ (by repeat (first | exact EnvSub.nil _ | refine EnvSub.cons rfl ?_)) (by repeat (first | exact Ent.refl _ | exact Ent.nil _ | refine Ent.take' ?_ | refine Ent.trans Ent.drop ?_)) ?_
    rintro ⟨i, x, d, o⟩ ⟨hi0, hi1, hL⟩
    simp only [legL] at hi0 hi1 hL ⊢
    repeat (first | refine run ?_ | intro _ | ((with_reducible apply G.atDraw); first | refine G.draw (id := 19) plC10_5_19 mixed (by kernel_rfl) ?_ | refine G.draw (id := 28) plC10_5_28 mixed (by kernel_rfl) ?_ | refine G.draw (id := 32) plC10_5_32 mixed (by kernel_rfl) ?_ | refine G.draw (id := 35) plC10_5_35 mixed (by kernel_rfl) ?_))
    (first | with_reducible refine CB.dec (fun _ => ?_) (fun _ => ?_) | with_reducible refine GB.dec (fun _ => ?_) (fun _ => ?_) | with_reducible refine CB.bool (fun _ => ?_) (fun _ => ?_) | with_reducible refine GB.bool (fun _ => ?_) (fun _ => ?_))
    case refine_2 =>
      repeat (first | refine run ?_ | intro _ | ((with_reducible apply G.atDraw); first | refine G.draw (id := 19) plC10_5_19 mixed (by kernel_rfl) ?_ | refine G.draw (id := 28) plC10_5_28 mixed (by kernel_rfl) ?_ | refine G.draw (id := 32) plC10_5_32 mixed (by kernel_rfl) ?_ | refine G.draw (id := 35) plC10_5_35 mixed (by kernel_rfl) ?_))
      have hh : i.toNat = ps.length := by omega
      rw [hh] at hL
      obtain ⟨e1, e2, e3⟩ := hL.done hwS.1 hps hd.1 ho
      subst e1
      obtain ⟨s', hs', hE⟩ := hC d o e2 e3
      refine ⟨(k + 1, s'), hs', by simp only []; omega, (by repeat (first | exact EnvSub.nil _ | refine EnvSub.cons rfl ?_)), Ent.trans ?_ hE⟩
      simp only [legL]
      repeat (first | exact Ent.refl _ | exact Ent.nil _ | refine Ent.take' ?_ | refine Ent.trans Ent.drop ?_)
    rename_i hi2
    have hmem : ps[i.toNat]! ∈ ps := by
      rw [List.getElem!_eq_getElem?_getD, List.getElem?_eq_getElem (by omega)]
      exact List.getElem_mem _
    obtain ⟨x', d', o', xs, hin, hL', hd', hx1, hxs⟩ := leg_packet (wT := wT) (mT := mT) hwS.1 hps hd.2.2.2 hd.2.1 hd.2.2.1 (by omega) hL
    have hdb := hL.deq
    have hxb := hL.ale
    refine G.ent (Ent.at (A := allP (fun p : Pkt => msgP p.m) ps) (Ent.allP_get (x := ps[i.toNat]!) hmem)) ?_
    repeat (first | refine run ?_ | intro _ | ((with_reducible apply G.atDraw); first | refine G.draw (id := 19) plC10_5_19 mixed (by kernel_rfl) ?_ | refine G.draw (id := 28) plC10_5_28 mixed (by kernel_rfl) ?_ | refine G.draw (id := 32) plC10_5_32 mixed (by kernel_rfl) ?_ | refine G.draw (id := 35) plC10_5_35 mixed (by kernel_rfl) ?_))
    (first | ((with_reducible apply GO.atPlain); first | refine GO.ef (Ef.callAt (in_spec _ (ordE wT (bytesN mT) x d o) (ps[i.toNat]!).seq (ps[i.toNat]!).ack (ps[i.toNat]!).m.ad (ps[i.toNat]!).m.bs.length (ps[i.toNat]!).m.cap (ps[i.toNat]!).m.bs rfl (ordE_ok (w := wT) (ms := bytesN mT) (a := x) (d := d) (ow := o) hwT.1 hwT.2 (by rw [bytesN_len]; omega) (by omega))) rfl) (by decide) ?_ | refine GO.ef (by exact Ef.callAt (in_spec _ (ordE wT (bytesN mT) x d o) (ps[i.toNat]!).seq (ps[i.toNat]!).ack (ps[i.toNat]!).m.ad (ps[i.toNat]!).m.bs.length (ps[i.toNat]!).m.cap (ps[i.toNat]!).m.bs rfl (ordE_ok (w := wT) (ms := bytesN mT) (a := x) (d := d) (ow := o) hwT.1 hwT.2 (by rw [bytesN_len]; omega) (by omega))) rfl) (by decide) ?_) | ((with_reducible apply GPW.atEf); first | refine GPW.ef (Ef.callAt (in_spec _ (ordE wT (bytesN mT) x d o) (ps[i.toNat]!).seq (ps[i.toNat]!).ack (ps[i.toNat]!).m.ad (ps[i.toNat]!).m.bs.length (ps[i.toNat]!).m.cap (ps[i.toNat]!).m.bs rfl (ordE_ok (w := wT) (ms := bytesN mT) (a := x) (d := d) (ow := o) hwT.1 hwT.2 (by rw [bytesN_len]; omega) (by omega))) rfl) (by decide) ?_ | refine GPW.ef (by exact Ef.callAt (in_spec _ (ordE wT (bytesN mT) x d o) (ps[i.toNat]!).seq (ps[i.toNat]!).ack (ps[i.toNat]!).m.ad (ps[i.toNat]!).m.bs.length (ps[i.toNat]!).m.cap (ps[i.toNat]!).m.bs rfl (ordE_ok (w := wT) (ms := bytesN mT) (a := x) (d := d) (ow := o) hwT.1 hwT.2 (by rw [bytesN_len]; omega) (by omega))) rfl) (by decide) ?_))
    rw [hin]
    rintro _ _ ⟨ad', cap', ms, rfl, hms, rfl⟩
    have hml := len_of hms
    simp only [] at hml hms ⊢
    have hglen := gl_len k dS
    repeat (first | refine run ?_ | intro _ | ((with_reducible apply G.atDraw); first | refine G.draw (id := 19) plC10_5_19 mixed (by kernel_rfl) ?_ | refine G.draw (id := 28) plC10_5_28 mixed (by kernel_rfl) ?_ | refine G.draw (id := 32) plC10_5_32 mixed (by kernel_rfl) ?_ | refine G.draw (id := 35) plC10_5_35 mixed (by kernel_rfl) ?_))
    refine G.loop (α := Int) (fun j => 0 ≤ j ∧ j ≤ ms.length)
      (fun j => [(9, .slice (some ⟨c, 0, none⟩) 2 2), (10, .slice (some ⟨cm, 0, none⟩) 2 2), (14, .slice (some ⟨cg, 0, none⟩) 2 2), (15, .int .i64 r), (16, .int .i64 k), (17, .slice ad ps.length cap), (18, .int .i64 i), (19, .slice ad' ms.length cap'), (20, .int .i64 j)])
      (fun j => osl encM 1 31 ad' cap' ms :: allP msgP ms :: osl encPk 3 44 ad cap ps :: allP (fun p : Pkt => msgP p.m) ps :: legL c cm cg a b m0 m1 k (ordE wS (bytesN mS) aS dS false) (ordE wT (bytesN mT) x' d' o') dS (d + j.toNat))
      (fun j => (ms.length - j).toNat) 0 ⟨by omega, by omega⟩ (by repeat (first | exact EnvSub.nil _ | refine EnvSub.cons rfl ?_)) (by rw [show d + (0 : Int).toNat = d from rfl]; simp only [legL]; repeat (first | exact Ent.refl _ | exact Ent.nil _ | refine Ent.take' ?_ | refine Ent.trans Ent.drop ?_)) ?_
    rintro j ⟨hj0, hj1⟩
    have hgl := hglen (d + j.toNat)
    have hgg := gl_get hk3 dS (d + j.toNat)
    simp only [legL]
    repeat (first | refine run ?_ | intro _ | ((with_reducible apply G.atDraw); first | refine G.draw (id := 19) plC10_5_19 mixed (by kernel_rfl) ?_ | refine G.draw (id := 28) plC10_5_28 mixed (by kernel_rfl) ?_ | refine G.draw (id := 32) plC10_5_32 mixed (by kernel_rfl) ?_ | refine G.draw (id := 35) plC10_5_35 mixed (by kernel_rfl) ?_))
    (first | with_reducible refine CB.dec (fun _ => ?_) (fun _ => ?_) | with_reducible refine GB.dec (fun _ => ?_) (fun _ => ?_) | with_reducible refine CB.bool (fun _ => ?_) (fun _ => ?_) | with_reducible refine GB.bool (fun _ => ?_) (fun _ => ?_))
    case refine_2 =>
      repeat (first | refine run ?_ | intro _ | ((with_reducible apply G.atDraw); first | refine G.draw (id := 19) plC10_5_19 mixed (by kernel_rfl) ?_ | refine G.draw (id := 28) plC10_5_28 mixed (by kernel_rfl) ?_ | refine G.draw (id := 32) plC10_5_32 mixed (by kernel_rfl) ?_ | refine G.draw (id := 35) plC10_5_35 mixed (by kernel_rfl) ?_))
      have hh : d + j.toNat = d' := by omega
      rw [hh]
      refine ⟨(i + 1, x', d', o'), ⟨by simp only []; omega, by simp only []; omega, ?_⟩, by simp only []; omega, (by repeat (first | exact EnvSub.nil _ | refine EnvSub.cons rfl ?_)), ?_⟩
      · simp only []
        rw [show (i + 1).toNat = i.toNat + 1 by omega]
        exact hL'
      · simp only [legL]
        repeat (first | exact Ent.refl _ | exact Ent.nil _ | refine Ent.take' ?_ | refine Ent.trans Ent.drop ?_)
    rename_i hj2
    have hmem2 : ms[j.toNat]! ∈ ms := by
      rw [List.getElem!_eq_getElem?_getD, List.getElem?_eq_getElem (by omega)]
      exact List.getElem_mem _
    have hb : (ms[j.toNat]!).bs = [(d : Int)] := hxs _ (by rw [← hms]; exact List.mem_map_of_mem hmem2)
    have hbl : (ms[j.toNat]!).bs.length = 1 := by rw [hb]; rfl
    have hbv : ((ms[j.toNat]!).bs)[(0 : Int).toNat]! = (d : Int) := by rw [hb]; rfl
    have hj3 : j = 0 := by omega
    refine G.ent (Ent.at (A := allP msgP ms) (Ent.allP_get (x := ms[j.toNat]!) hmem2)) ?_
    repeat (first | refine run ?_ | intro _ | ((with_reducible apply G.atDraw); first | refine G.draw (id := 19) plC10_5_19 mixed (by kernel_rfl) ?_ | refine G.draw (id := 28) plC10_5_28 mixed (by kernel_rfl) ?_ | refine G.draw (id := 32) plC10_5_32 mixed (by kernel_rfl) ?_ | refine G.draw (id := 35) plC10_5_35 mixed (by kernel_rfl) ?_))
    have hset : (gl k dS (d + j.toNat)).set (1 - k).toNat ((gl k dS (d + j.toNat))[(1 - k).toNat]! + 1) = gl k dS (d + (j + 1).toNat) := by
      rw [hgg, show ((d + j.toNat : Nat) : Int) + 1 = ((d + (j + 1).toNat : Nat) : Int) by omega]
      exact gl_set hk3 _ _ _
    rw [hset]
    exact ⟨j + 1, ⟨by omega, by omega⟩, by omega, (by repeat (first | exact EnvSub.nil _ | refine EnvSub.cons rfl ?_)), by repeat (first | exact Ent.refl _ | exact Ent.nil _ | refine Ent.take' ?_ | refine Ent.trans Ent.drop ?_)⟩
  rintro s ⟨h4, h5, h6, h7, h8⟩
  have e1 : s.a0 = m0 := by omega
  have e2 : s.d1 = m0 := by omega
  have e3 : s.d0 = m1 := by omega
  have e4 : s.a1 = m1 := by omega
  simp only [stL]
  rw [e1, e2, e3, e4]
  have hmm0 : ([(m0 : Int), (m1 : Int)])[(0 : Int).toNat]! = (m0 : Int) := rfl
  have hmm1 : ([(m0 : Int), (m1 : Int)])[(1 : Int).toNat]! = (m1 : Int) := rfl
  have hmm2 : ([(m1 : Int), (m0 : Int)])[(0 : Int).toNat]! = (m1 : Int) := rfl
  have hmm3 : ([(m1 : Int), (m0 : Int)])[(1 : Int).toNat]! = (m0 : Int) := rfl
  have hlg : ([(m1 : Int), (m0 : Int)]).length = 2 := rfl
  have hbn0 : (ordE w0 (bytesN m0) m0 m1 s.o0).waiting.length = 0 := by simp [ordE, bytesN_len]
  have hbn1 : (ordE w1 (bytesN m1) m1 m0 s.o1).waiting.length = 0 := by simp [ordE, bytesN_len]
  repeat (first | refine run ?_ | intro _ | ((with_reducible apply G.atDraw); first | refine G.draw (id := 19) plC10_5_19 mixed (by kernel_rfl) ?_ | refine G.draw (id := 28) plC10_5_28 mixed (by kernel_rfl) ?_ | refine G.draw (id := 32) plC10_5_32 mixed (by kernel_rfl) ?_ | refine G.draw (id := 35) plC10_5_35 mixed (by kernel_rfl) ?_))
  rw [show ([a, b])[(0 : Int).toNat]! = a from rfl]
  (first | ((with_reducible apply GO.atPlain); first | refine GO.ef (Ef.callAt (waiting_spec a (ordE w0 (bytesN m0) m0 m1 s.o0)) rfl) (by decide) ?_ | refine GO.ef (by exact Ef.callAt (waiting_spec a (ordE w0 (bytesN m0) m0 m1 s.o0)) rfl) (by decide) ?_) | ((with_reducible apply GPW.atEf); first | refine GPW.ef (Ef.callAt (waiting_spec a (ordE w0 (bytesN m0) m0 m1 s.o0)) rfl) (by decide) ?_ | refine GPW.ef (by exact Ef.callAt (waiting_spec a (ordE w0 (bytesN m0) m0 m1 s.o0)) rfl) (by decide) ?_))
  rintro _ _ ⟨rfl, rfl⟩
  repeat (first | refine run ?_ | intro _ | ((with_reducible apply G.atDraw); first | refine G.draw (id := 19) plC10_5_19 mixed (by kernel_rfl) ?_ | refine G.draw (id := 28) plC10_5_28 mixed (by kernel_rfl) ?_ | refine G.draw (id := 32) plC10_5_32 mixed (by kernel_rfl) ?_ | refine G.draw (id := 35) plC10_5_35 mixed (by kernel_rfl) ?_))
  rw [show ([a, b])[(1 : Int).toNat]! = b from rfl]
  (first | ((with_reducible apply GO.atPlain); first | refine GO.ef (Ef.callAt (waiting_spec b (ordE w1 (bytesN m1) m1 m0 s.o1)) rfl) (by decide) ?_ | refine GO.ef (by exact Ef.callAt (waiting_spec b (ordE w1 (bytesN m1) m1 m0 s.o1)) rfl) (by decide) ?_) | ((with_reducible apply GPW.atEf); first | refine GPW.ef (Ef.callAt (waiting_spec b (ordE w1 (bytesN m1) m1 m0 s.o1)) rfl) (by decide) ?_ | refine GPW.ef (by exact Ef.callAt (waiting_spec b (ordE w1 (bytesN m1) m1 m0 s.o1)) rfl) (by decide) ?_))
  rintro _ _ ⟨rfl, rfl⟩
  repeat (first | refine run ?_ | intro _ | ((with_reducible apply G.atDraw); first | refine G.draw (id := 19) plC10_5_19 mixed (by kernel_rfl) ?_ | refine G.draw (id := 28) plC10_5_28 mixed (by kernel_rfl) ?_ | refine G.draw (id := 32) plC10_5_32 mixed (by kernel_rfl) ?_ | refine G.draw (id := 35) plC10_5_35 mixed (by kernel_rfl) ?_))
  (first | ((with_reducible apply GO.atPlain); first | refine GO.ef (Ef.call (lives_spec) rfl (by repeat (first | exact Ent.refl _ | refine Ent.take ?_))) (by decide) ?_ | refine GO.ef (by exact Ef.call (lives_spec) rfl (by repeat (first | exact Ent.refl _ | refine Ent.take ?_))) (by decide) ?_) | ((with_reducible apply GPW.atEf); first | refine GPW.ef (Ef.call (lives_spec) rfl (by repeat (first | exact Ent.refl _ | refine Ent.take ?_))) (by decide) ?_ | refine GPW.ef (by exact Ef.call (lives_spec) rfl (by repeat (first | exact Ent.refl _ | refine Ent.take ?_))) (by decide) ?_))
  rintro _ _ ⟨_, ⟨rfl, rfl⟩, hL⟩
  simp only [List.cons_append, List.nil_append] at hL; subst hL
  repeat (first | refine run ?_ | intro _ | ((with_reducible apply G.atDraw); first | refine G.draw (id := 19) plC10_5_19 mixed (by kernel_rfl) ?_ | refine G.draw (id := 28) plC10_5_28 mixed (by kernel_rfl) ?_ | refine G.draw (id := 32) plC10_5_32 mixed (by kernel_rfl) ?_ | refine G.draw (id := 35) plC10_5_35 mixed (by kernel_rfl) ?_))
  exact KX.ends (by first | exact ResOk.tmps rfl | (repeat (first | exact ResOk.nil | refine ResOk.tmp rfl ?_ | refine ResOk.cell rfl (by rfl) ?_ | refine ResOk.cell1 rfl ?_))) (Ent.nil _) ⟨rfl, rfl⟩
end Go.Proofs.Ytnpienjfapjjoaa
