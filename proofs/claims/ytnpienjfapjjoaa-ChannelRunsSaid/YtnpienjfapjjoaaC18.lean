/- ChannelRuns. -/
import Derived.Test.YtnpienjfapjjoaaC17
namespace Go.Proofs.Ytnpienjfapjjoaa
open Go.V

structure RSys where
  E : Int → EndS
  m : Int → List Bytes
structure RSys.Inv (S : RSys) (i : Nat) (ps : List Pkt) (ts : List Int) : Prop where
  e : ∀ j, j = 0 ∨ j = 1 → RInv (S.m j) i (S.E j)
  tl : ts.length = ps.length ∧ ps.length ≤ 16 * i
  to : ∀ r, r < ps.length → ts[r]! = 0 ∨ ts[r]! = 1
theorem RSys.Inv.more {S : RSys} {i : Nat} {ps : List Pkt} {ts : List Int} (h : S.Inv i ps ts) : S.Inv (i + 1) ps ts := ⟨fun j hj => (h.e j hj).more, by have := h.tl; omega, h.to⟩
theorem RSys.Inv.send {S : RSys} {i : Nat} {ps : List Pkt} {ts : List Int} (h : S.Inv i ps ts) {k : Int} (hk : k = 0 ∨ k = 1) {b : Bytes} (hb : b.length ≤ 2) : (⟨upd S.E k ((S.E k).send b), upd S.m k (S.m k ++ [b])⟩ : RSys).Inv (i + 1) ps ts := by
  refine ⟨?_, by have := h.tl; omega, h.to⟩
  intro j hj
  by_cases hjk : j = k
  · subst hjk
    simp only [upd_same]
    exact (h.e j hj).send hb
  · simp only [upd_ne _ hjk]
    exact (h.e j hj).more
theorem RSys.Inv.one {S : RSys} {i : Nat} {ps : List Pkt} {ts : List Int} (h : S.Inv i ps ts) {k : Int} {E' : EndS} (hE : RInv (S.m k) (i + 1) E') : (⟨upd S.E k E', S.m⟩ : RSys).Inv (i + 1) ps ts := by
  refine ⟨?_, by have := h.tl; omega, h.to⟩
  intro j hj
  by_cases hjk : j = k
  · subst hjk
    simp only [upd_same]
    exact hE
  · simp only [upd_ne _ hjk]
    exact (h.e j hj).more
theorem RSys.Inv.link {S : RSys} {i : Nat} {ps : List Pkt} {ts : List Int} (h : S.Inv i ps ts) {k : Int} (hk : k = 0 ∨ k = 1) {E' : EndS} (hE : RInv (S.m k) (i + 1) E') (q : List Pkt) (hl : q.length ≤ 16) : (⟨upd S.E k E', S.m⟩ : RSys).Inv (i + 1) (ps ++ q) (ts ++ List.replicate q.length (1 - k)) := by
  have h1 := h.one hE
  have htl := h.tl
  refine ⟨h1.e, by simp; omega, ?_⟩
  intro r hr
  by_cases hrp : r < ps.length
  · have e2 : (ts ++ List.replicate q.length (1 - k))[r]! = ts[r]! := by simp [List.getElem!_eq_getElem?_getD, List.getElem?_append_left (show r < ts.length by omega)]
    rw [e2]
    exact h.to r hrp
  · simp at hr
    have e2 : (ts ++ List.replicate q.length (1 - k))[r]! = 1 - k := by
      rw [List.getElem!_eq_getElem?_getD, List.getElem?_append_right (show ts.length ≤ r by omega), List.getElem?_replicate, if_pos (by omega)]
      rfl
    rw [e2]
    exact one_sub_cases hk
theorem out_len_le {E : EndS} (h : 1 ≤ E.window ∧ E.window ≤ 16) : E.out.length ≤ 16 := by
  rw [EndS.out]
  split
  · split <;> simp
  · simp [EndS.firsts]; omega
theorem out_small {E : EndS} (h : ∀ b ∈ E.waiting, b.length ≤ 65536) : ∀ p ∈ E.out, p.2.2.length ≤ 65536 := by
  intro p hp
  unfold EndS.out at hp
  split at hp
  · split at hp
    · simp at hp; subst hp; simp
    · simp at hp
  · simp only [EndS.firsts, List.mem_map] at hp
    obtain ⟨⟨x, i⟩, hx, rfl⟩ := hp
    have hx' := List.mem_zipIdx' hx
    obtain ⟨hi, hxe⟩ := hx'
    simp only [hxe]
    exact h _ (List.mem_of_mem_take (List.getElem_mem _))
def rside (es rs : Int → Nat) (S : RSys) (j : Int) : List HP := [EndR (es j) (S.E j), RefR (rs j) (S.m j) (S.E j)]
structure RLk where
  lad : Option Addr
  lcap : Nat
  ps : List Pkt
  tad : Option Addr
  tcap : Nat
  ts : List Int
abbrev rlinkL (l : RLk) (L : List HP) : List HP := osl encPk 3 40 l.lad l.lcap l.ps :: allP (fun p : Pkt => msgP p.m) l.ps :: osl (encI .i64) 1 3 l.tad l.tcap l.ts :: L
abbrev rsysL (ce : Nat) (mad : Option Addr) (mcap : Nat) (es rs : Int → Nat) (S : RSys) (L : List HP) : List HP :=
  osl encP 1 33 (some ⟨ce, 0, none⟩) 2 (pr es) :: osl encP 1 26 mad mcap (pr rs) :: twoL (rside es rs S) :: L
abbrev runEnv (ad : Option Addr) (n c ce : Nat) (mad : Option Addr) (mcap : Nat) (lk : RLk) (i : Int) : Env := [(1, .slice ad n c), (5, .slice (some ⟨ce, 0, none⟩) 2 2), (6, .slice mad 2 mcap), (10, .slice lk.lad lk.ps.length lk.lcap), (11, .slice lk.tad lk.ts.length lk.tcap), (12, .int .i64 i)]
/-- The models made so far. -/
def rls (w0 w1 : Int) : List Nat → List HP
  | [] => []
  | [r] => [RefR r [] (EndS.new w0)]
  | r :: r' :: _ => [RefR r' [] (EndS.new w1), RefR r [] (EndS.new w0)]
theorem encP_one (b : Nat) : ∀ u ∈ encP b, u.oneCell' = true := by simp [encP, Value.oneCell']
attribute [local irreducible] G GO GP GPW GPK Ev Ef Ent CB GB validB
attribute [local simp] encPk
abbrev plC18_3_34 : List Stp := [.ev 0, .ev 1, .ev 2, .ev 3, .ev 4, .ev 6, .ev 7, .ev 8, .ev 9, .ev 10, .ef 5, .ef 11, .ev 12]
abbrev plC18_3_29 : List Stp := [.ev 0, .ev 1, .ev 2, .ev 3, .ev 4, .ev 5, .ev 6, .ev 7, .ev 10, .ev 11, .ev 12, .ev 13, .ev 14, .ev 15, .ev 16, .ev 17, .ef 8, .ef 9, .ef 18, .ef 19, .ev 20]
abbrev plC18_3_50 : List Stp := [.ev 0, .ev 1, .ev 2, .ev 3, .ev 5, .ev 6, .ev 7, .ev 8, .ev 9, .ev 10, .ev 11, .ev 12, .ev 13, .ev 14, .ev 15, .ev 16, .ev 17, .ev 18, .ev 19, .ev 20, .ef 4, .ev 21]
set_option maxHeartbeats 2000000 in
theorem runs_spec (window : Int) (h0 : -9223372036854775808 ≤ window ∧ window ≤ 9223372036854775807) (ad : Option Addr) (n c : Nat) (l : List Int) (hn : n = l.length) (hm : n ≤ maxLen) (hl : ∀ x ∈ l, -9223372036854775808 ≤ x ∧ x ≤ 9223372036854775807) :
    Tri Try.prog 3 #[.int .i64 window, .slice ad n c] [isl (encI .i64) 1 ad l] (fun v L => v = .bool true ∧ True) := by
  have hm' : n ≤ 9223372036854775807 := hm
  refine Tri.body (args := [.int .i64 window, .slice ad n c]) 215 en3 Try.func3 rfl rfl rfl (by simp) ?_
  repeat (first | refine run ?_ | intro _ | ((with_reducible apply G.atDraw); first | refine G.draw (id := 34) plC18_3_34 mixed (by kernel_rfl) ?_ | refine G.draw (id := 29) plC18_3_29 mixed (by kernel_rfl) ?_ | refine G.draw (id := 50) plC18_3_50 mixed (by kernel_rfl) ?_))
  (first | ((with_reducible apply GO.atPlain); first | refine GO.ef (Ef.call (ends_spec window h0) rfl (by repeat (first | exact Ent.refl _ | refine Ent.take ?_))) (by decide) ?_ | refine GO.ef (by exact Ef.call (ends_spec window h0) rfl (by repeat (first | exact Ent.refl _ | refine Ent.take ?_))) (by decide) ?_) | ((with_reducible apply GPW.atEf); first | refine GPW.ef (Ef.call (ends_spec window h0) rfl (by repeat (first | exact Ent.refl _ | refine Ent.take ?_))) (by decide) ?_ | refine GPW.ef (by exact Ef.call (ends_spec window h0) rfl (by repeat (first | exact Ent.refl _ | refine Ent.take ?_))) (by decide) ?_))
  rintro _ _ ⟨_, ⟨ce, a, b, rfl, rfl⟩, hL⟩
  simp only [List.cons_append, List.nil_append] at hL; subst hL
  have hw0 := around_bd window (k := 16) (by decide)
  have hw1 := around_bd (window.tdiv 16) (k := 16) (by decide)
  have hwq := tdiv_bounds h0.1 h0.2 (b := 16) (by decide)
  obtain ⟨w0, e0⟩ : ∃ w0, 1 + around window 16 = w0 := ⟨_, rfl⟩
  obtain ⟨w1, e1⟩ : ∃ w1, 1 + around (window.tdiv 16) 16 = w1 := ⟨_, rfl⟩
  have hw0' : 1 ≤ w0 ∧ w0 ≤ 16 := by omega
  have hw1' : 1 ≤ w1 ∧ w1 ≤ 16 := by omega
  rw [e0, e1]
  repeat (first | ((fail_if_success (with_reducible refine G.atSS 5 ?_)); (with_reducible apply G.seq)) | refine runS ?_ | intro _ | ((with_reducible apply G.atDraw); first | refine G.draw (id := 34) plC18_3_34 mixed (by kernel_rfl) ?_ | refine G.draw (id := 29) plC18_3_29 mixed (by kernel_rfl) ?_ | refine G.draw (id := 50) plC18_3_50 mixed (by kernel_rfl) ?_))
  refine G.ent (Ent.nilSl encP 1 26) ?_
  refine G.join (α := Option Addr × Nat × Nat × Nat) (fun _ => True) (fun g => [(1, .slice ad n c), (5, .slice (some ⟨ce, 0, none⟩) 2 2), (6, .slice g.1 2 g.2.1)]) (fun g => [osl encP 1 26 g.1 g.2.1 [g.2.2.1, g.2.2.2], RefR g.2.2.2 [] (EndS.new w1), RefR g.2.2.1 [] (EndS.new w0), osl encP 1 33 (some ⟨ce, 0, none⟩) 2 [a, b], EndR b (EndS.new w1), EndR a (EndS.new w0), isl (encI .i64) 1 ad l]) ?_ ?_
  · repeat (first | refine run ?_ | intro _ | ((with_reducible apply G.atDraw); first | refine G.draw (id := 34) plC18_3_34 mixed (by kernel_rfl) ?_ | refine G.draw (id := 29) plC18_3_29 mixed (by kernel_rfl) ?_ | refine G.draw (id := 50) plC18_3_50 mixed (by kernel_rfl) ?_))
    refine G.loop (α := Int × Option Addr × Nat × List Nat) (fun g => g.1 = g.2.2.2.length ∧ g.2.2.2.length ≤ 2) (fun g => [(0, .int .i64 window), (1, .slice ad n c), (5, .slice (some ⟨ce, 0, none⟩) 2 2), (6, .slice g.2.1 g.2.2.2.length g.2.2.1), (7, .int .i64 g.1)])
      (fun g => osl encP 1 26 g.2.1 g.2.2.1 g.2.2.2 :: (rls w0 w1 g.2.2.2 ++ [osl encP 1 33 (some ⟨ce, 0, none⟩) 2 [a, b], EndR b (EndS.new w1), EndR a (EndS.new w0), isl (encI .i64) 1 ad l])) (fun g => (2 - g.1).toNat) (0, none, 0, []) ⟨by simp, by simp⟩ (by repeat (first | exact EnvSub.nil _ | refine EnvSub.cons rfl ?_)) (Ent.refl _) ?_
    rintro ⟨i, mad, mcap, rl⟩ ⟨hi1, hi2⟩
    simp only [] at hi1 hi2 ⊢
    have hlw : ([window, window.tdiv 16]).length = 2 := rfl
    match rl, hi1, hi2 with
    | [], hi1, _ =>
      have hi : i = 0 := by simpa using hi1
      subst hi
      simp only [rls, List.nil_append]
      repeat (first | refine run ?_ | intro _ | ((with_reducible apply G.atDraw); first | refine G.draw (id := 34) plC18_3_34 mixed (by kernel_rfl) ?_ | refine G.draw (id := 29) plC18_3_29 mixed (by kernel_rfl) ?_ | refine G.draw (id := 50) plC18_3_50 mixed (by kernel_rfl) ?_))
      (first | ((with_reducible apply GO.atPlain); first | refine GO.ef (Ef.call (around_spec window 16 h0.1 h0.2 (by decide) (by decide)) rfl (by repeat (first | exact Ent.refl _ | refine Ent.take ?_))) (by decide) ?_ | refine GO.ef (by exact Ef.call (around_spec window 16 h0.1 h0.2 (by decide) (by decide)) rfl (by repeat (first | exact Ent.refl _ | refine Ent.take ?_))) (by decide) ?_) | ((with_reducible apply GPW.atEf); first | refine GPW.ef (Ef.call (around_spec window 16 h0.1 h0.2 (by decide) (by decide)) rfl (by repeat (first | exact Ent.refl _ | refine Ent.take ?_))) (by decide) ?_ | refine GPW.ef (by exact Ef.call (around_spec window 16 h0.1 h0.2 (by decide) (by decide)) rfl (by repeat (first | exact Ent.refl _ | refine Ent.take ?_))) (by decide) ?_))
      rintro _ _ ⟨_, ⟨rfl, rfl⟩, hL⟩
      simp only [List.cons_append, List.nil_append] at hL; subst hL
      repeat (first | refine run ?_ | intro _ | ((with_reducible apply G.atDraw); first | refine G.draw (id := 34) plC18_3_34 mixed (by kernel_rfl) ?_ | refine G.draw (id := 29) plC18_3_29 mixed (by kernel_rfl) ?_ | refine G.draw (id := 50) plC18_3_50 mixed (by kernel_rfl) ?_))
      rw [e0]
      (first | ((with_reducible apply GO.atPlain); first | refine GO.ef (Ef.call (rnew_spec w0 hw0'.1 hw0'.2) rfl (by repeat (first | exact Ent.refl _ | refine Ent.take ?_))) (by decide) ?_ | refine GO.ef (by exact Ef.call (rnew_spec w0 hw0'.1 hw0'.2) rfl (by repeat (first | exact Ent.refl _ | refine Ent.take ?_))) (by decide) ?_) | ((with_reducible apply GPW.atEf); first | refine GPW.ef (Ef.call (rnew_spec w0 hw0'.1 hw0'.2) rfl (by repeat (first | exact Ent.refl _ | refine Ent.take ?_))) (by decide) ?_ | refine GPW.ef (by exact Ef.call (rnew_spec w0 hw0'.1 hw0'.2) rfl (by repeat (first | exact Ent.refl _ | refine Ent.take ?_))) (by decide) ?_))
      rintro _ _ ⟨_, ⟨rn, rfl, rfl⟩, hL⟩
      simp only [List.cons_append, List.nil_append] at hL; subst hL
      repeat (first | refine run ?_ | intro _ | ((with_reducible apply G.atDraw); first | refine G.draw (id := 34) plC18_3_34 mixed (by kernel_rfl) ?_ | refine G.draw (id := 29) plC18_3_29 mixed (by kernel_rfl) ?_ | refine G.draw (id := 50) plC18_3_50 mixed (by kernel_rfl) ?_))
      (first | ((with_reducible apply GO.atPlain); first | refine GO.ef (Ef.append1 (e := rn) rfl rfl rfl rfl rfl (by rfl) (encP_one _) (by simp) (by simp)) (by decide) ?_ | refine GO.ef (by exact Ef.append1 (e := rn) rfl rfl rfl rfl rfl (by rfl) (encP_one _) (by simp) (by simp)) (by decide) ?_) | ((with_reducible apply GPW.atEf); first | refine GPW.ef (Ef.append1 (e := rn) rfl rfl rfl rfl rfl (by rfl) (encP_one _) (by simp) (by simp)) (by decide) ?_ | refine GPW.ef (by exact Ef.append1 (e := rn) rfl rfl rfl rfl rfl (by rfl) (encP_one _) (by simp) (by simp)) (by decide) ?_) | ((with_reducible apply GO.atUnit); first | refine GO.efu (Ef.append1 (e := rn) rfl rfl rfl rfl rfl (by rfl) (encP_one _) (by simp) (by simp)) ?_ | refine GO.efu (by exact Ef.append1 (e := rn) rfl rfl rfl rfl rfl (by rfl) (encP_one _) (by simp) (by simp)) ?_) | ((with_reducible apply GPW.atEfu); first | refine GPW.efu (Ef.append1 (e := rn) rfl rfl rfl rfl rfl (by rfl) (encP_one _) (by simp) (by simp)) ?_ | refine GPW.efu (by exact Ef.append1 (e := rn) rfl rfl rfl rfl rfl (by rfl) (encP_one _) (by simp) (by simp)) ?_))
      rintro _ _ ⟨mad2, mcap2, rfl, rfl⟩
      repeat (first | refine run ?_ | intro _ | ((with_reducible apply G.atDraw); first | refine G.draw (id := 34) plC18_3_34 mixed (by kernel_rfl) ?_ | refine G.draw (id := 29) plC18_3_29 mixed (by kernel_rfl) ?_ | refine G.draw (id := 50) plC18_3_50 mixed (by kernel_rfl) ?_))
      refine ⟨(1, mad2, mcap2, [rn]), ⟨rfl, by simp⟩, by simp only []; omega, (by repeat (first | exact EnvSub.nil _ | refine EnvSub.cons rfl ?_)), ?_⟩
      simp only [rls, List.cons_append, List.nil_append]
      repeat (first | exact Ent.refl _ | exact Ent.nil _ | refine Ent.take' ?_ | refine Ent.trans Ent.drop ?_)
    | [r], hi1, _ =>
      have hi : i = 1 := by simpa using hi1
      subst hi
      simp only [rls, List.cons_append, List.nil_append]
      repeat (first | refine run ?_ | intro _ | ((with_reducible apply G.atDraw); first | refine G.draw (id := 34) plC18_3_34 mixed (by kernel_rfl) ?_ | refine G.draw (id := 29) plC18_3_29 mixed (by kernel_rfl) ?_ | refine G.draw (id := 50) plC18_3_50 mixed (by kernel_rfl) ?_))
      (first | ((with_reducible apply GO.atPlain); first | refine GO.ef (Ef.call (around_spec (window.tdiv 16) 16 hwq.1 hwq.2 (by decide) (by decide)) rfl (by repeat (first | exact Ent.refl _ | refine Ent.take ?_))) (by decide) ?_ | refine GO.ef (by exact Ef.call (around_spec (window.tdiv 16) 16 hwq.1 hwq.2 (by decide) (by decide)) rfl (by repeat (first | exact Ent.refl _ | refine Ent.take ?_))) (by decide) ?_) | ((with_reducible apply GPW.atEf); first | refine GPW.ef (Ef.call (around_spec (window.tdiv 16) 16 hwq.1 hwq.2 (by decide) (by decide)) rfl (by repeat (first | exact Ent.refl _ | refine Ent.take ?_))) (by decide) ?_ | refine GPW.ef (by exact Ef.call (around_spec (window.tdiv 16) 16 hwq.1 hwq.2 (by decide) (by decide)) rfl (by repeat (first | exact Ent.refl _ | refine Ent.take ?_))) (by decide) ?_))
      rintro _ _ ⟨_, ⟨rfl, rfl⟩, hL⟩
      simp only [List.cons_append, List.nil_append] at hL; subst hL
      repeat (first | refine run ?_ | intro _ | ((with_reducible apply G.atDraw); first | refine G.draw (id := 34) plC18_3_34 mixed (by kernel_rfl) ?_ | refine G.draw (id := 29) plC18_3_29 mixed (by kernel_rfl) ?_ | refine G.draw (id := 50) plC18_3_50 mixed (by kernel_rfl) ?_))
      rw [e1]
      (first | ((with_reducible apply GO.atPlain); first | refine GO.ef (Ef.call (rnew_spec w1 hw1'.1 hw1'.2) rfl (by repeat (first | exact Ent.refl _ | refine Ent.take ?_))) (by decide) ?_ | refine GO.ef (by exact Ef.call (rnew_spec w1 hw1'.1 hw1'.2) rfl (by repeat (first | exact Ent.refl _ | refine Ent.take ?_))) (by decide) ?_) | ((with_reducible apply GPW.atEf); first | refine GPW.ef (Ef.call (rnew_spec w1 hw1'.1 hw1'.2) rfl (by repeat (first | exact Ent.refl _ | refine Ent.take ?_))) (by decide) ?_ | refine GPW.ef (by exact Ef.call (rnew_spec w1 hw1'.1 hw1'.2) rfl (by repeat (first | exact Ent.refl _ | refine Ent.take ?_))) (by decide) ?_))
      rintro _ _ ⟨_, ⟨rn, rfl, rfl⟩, hL⟩
      simp only [List.cons_append, List.nil_append] at hL; subst hL
      repeat (first | refine run ?_ | intro _ | ((with_reducible apply G.atDraw); first | refine G.draw (id := 34) plC18_3_34 mixed (by kernel_rfl) ?_ | refine G.draw (id := 29) plC18_3_29 mixed (by kernel_rfl) ?_ | refine G.draw (id := 50) plC18_3_50 mixed (by kernel_rfl) ?_))
      (first | ((with_reducible apply GO.atPlain); first | refine GO.ef (Ef.append1 (e := rn) rfl rfl rfl rfl rfl (by rfl) (encP_one _) (by simp) (by simp)) (by decide) ?_ | refine GO.ef (by exact Ef.append1 (e := rn) rfl rfl rfl rfl rfl (by rfl) (encP_one _) (by simp) (by simp)) (by decide) ?_) | ((with_reducible apply GPW.atEf); first | refine GPW.ef (Ef.append1 (e := rn) rfl rfl rfl rfl rfl (by rfl) (encP_one _) (by simp) (by simp)) (by decide) ?_ | refine GPW.ef (by exact Ef.append1 (e := rn) rfl rfl rfl rfl rfl (by rfl) (encP_one _) (by simp) (by simp)) (by decide) ?_) | ((with_reducible apply GO.atUnit); first | refine GO.efu (Ef.append1 (e := rn) rfl rfl rfl rfl rfl (by rfl) (encP_one _) (by simp) (by simp)) ?_ | refine GO.efu (by exact Ef.append1 (e := rn) rfl rfl rfl rfl rfl (by rfl) (encP_one _) (by simp) (by simp)) ?_) | ((with_reducible apply GPW.atEfu); first | refine GPW.efu (Ef.append1 (e := rn) rfl rfl rfl rfl rfl (by rfl) (encP_one _) (by simp) (by simp)) ?_ | refine GPW.efu (by exact Ef.append1 (e := rn) rfl rfl rfl rfl rfl (by rfl) (encP_one _) (by simp) (by simp)) ?_))
      rintro _ _ ⟨mad2, mcap2, rfl, rfl⟩
      repeat (first | refine run ?_ | intro _ | ((with_reducible apply G.atDraw); first | refine G.draw (id := 34) plC18_3_34 mixed (by kernel_rfl) ?_ | refine G.draw (id := 29) plC18_3_29 mixed (by kernel_rfl) ?_ | refine G.draw (id := 50) plC18_3_50 mixed (by kernel_rfl) ?_))
      refine ⟨(2, mad2, mcap2, [r, rn]), ⟨rfl, by simp⟩, by simp only []; omega, (by repeat (first | exact EnvSub.nil _ | refine EnvSub.cons rfl ?_)), ?_⟩
      simp only [rls, List.cons_append, List.nil_append]
      repeat (first | exact Ent.refl _ | exact Ent.nil _ | refine Ent.take' ?_ | refine Ent.trans Ent.drop ?_)
    | [r, r'], hi1, _ =>
      have hi : i = 2 := by simpa using hi1
      subst hi
      simp only [rls, List.cons_append, List.nil_append]
      repeat (first | refine run ?_ | intro _ | ((with_reducible apply G.atDraw); first | refine G.draw (id := 34) plC18_3_34 mixed (by kernel_rfl) ?_ | refine G.draw (id := 29) plC18_3_29 mixed (by kernel_rfl) ?_ | refine G.draw (id := 50) plC18_3_50 mixed (by kernel_rfl) ?_))
      exact ⟨(mad, mcap, r, r'), trivial, (by repeat (first | exact EnvSub.nil _ | refine EnvSub.cons rfl ?_)), by repeat (first | exact Ent.refl _ | exact Ent.nil _ | refine Ent.take' ?_ | refine Ent.trans Ent.drop ?_)⟩
  rintro ⟨mad, mcap, r0, r1⟩ _
  simp only []
  clear e0 e1 hw0 hw1
  repeat (first | ((fail_if_success (with_reducible refine G.atSS 14 ?_)); (with_reducible apply G.seq)) | refine runS ?_ | intro _ | ((with_reducible apply G.atDraw); first | refine G.draw (id := 34) plC18_3_34 mixed (by kernel_rfl) ?_ | refine G.draw (id := 29) plC18_3_29 mixed (by kernel_rfl) ?_ | refine G.draw (id := 50) plC18_3_50 mixed (by kernel_rfl) ?_))
  obtain ⟨es, hes⟩ : ∃ es : Int → Nat, es = fun j => if j = 0 then a else b := ⟨_, rfl⟩
  obtain ⟨rs, hrs⟩ : ∃ rs : Int → Nat, rs = fun j => if j = 0 then r0 else r1 := ⟨_, rfl⟩
  have hpe : [a, b] = pr es := by rw [hes]; rfl
  have hpr : [r0, r1] = pr rs := by rw [hrs]; rfl
  have hst : Ent [osl encP 1 26 mad mcap [r0, r1], RefR r1 [] (EndS.new w1), RefR r0 [] (EndS.new w0), osl encP 1 33 (some ⟨ce, 0, none⟩) 2 [a, b], EndR b (EndS.new w1), EndR a (EndS.new w0), isl (encI .i64) 1 ad l]
      (rsysL ce mad mcap es rs ⟨fun j => if j = 0 then EndS.new w0 else EndS.new w1, fun _ => []⟩ (rlinkL ⟨none, 0, [], none, 0, []⟩ [isl (encI .i64) 1 ad l])) := by
    rw [hpe, hpr]
    refine (Ent.nilSl encPk 3 40).trans ((Ent.allP_nil (fun p : Pkt => msgP p.m)).trans ((Ent.nilSl (encI .i64) 1 3).trans ?_))
    refine Ent.take' (Ent.take' (Ent.trans ?_ (Ent.twoClose (k := 0) (.inl rfl))))
    subst hes hrs
    show Ent _ [EndR a (EndS.new w0), RefR r0 [] (EndS.new w0), EndR b (EndS.new w1), RefR r1 [] (EndS.new w1), osl encPk 3 40 none 0 [], allP (fun p : Pkt => msgP p.m) [], osl (encI .i64) 1 3 none 0 [], isl (encI .i64) 1 ad l]
    repeat (first | exact Ent.refl _ | exact Ent.nil _ | refine Ent.take' ?_ | refine Ent.trans Ent.drop ?_)
  refine G.ent hst ?_
  clear hst hpe hes hpr hrs
  have hle := pr_len es
  have hlr := pr_len rs
  have hinv0 : (⟨fun j => if j = 0 then EndS.new w0 else EndS.new w1, fun _ => []⟩ : RSys).Inv 0 [] [] := by
    refine ⟨?_, by simp, by simp⟩
    intro j hj
    rcases hj with rfl | rfl
    · exact RInv.new w0 hw0'
    · exact RInv.new w1 hw1'
  refine G.join (α := Unit) (fun _ => True) (fun _ => []) (fun _ => []) ?_ ?_
  · repeat (first | refine run ?_ | intro _ | ((with_reducible apply G.atDraw); first | refine G.draw (id := 34) plC18_3_34 mixed (by kernel_rfl) ?_ | refine G.draw (id := 29) plC18_3_29 mixed (by kernel_rfl) ?_ | refine G.draw (id := 50) plC18_3_50 mixed (by kernel_rfl) ?_))
    refine G.loop (α := Int × RSys × RLk) (fun (i, S, lk) => 0 ≤ i ∧ i ≤ n ∧ i ≤ 60 ∧ S.Inv i.toNat lk.ps lk.ts) (fun (i, _, lk) => runEnv ad n c ce mad mcap lk i) (fun (_, S, lk) => rsysL ce mad mcap es rs S (rlinkL lk [isl (encI .i64) 1 ad l])) (fun (i, _) => (n - i).toNat)
      (0, _, ⟨none, 0, [], none, 0, []⟩) ⟨by omega, by omega, by omega, hinv0⟩ (by repeat (first | exact EnvSub.nil _ | refine EnvSub.cons rfl ?_)) (Ent.refl _) ?_
    rintro ⟨i, S, lk⟩ ⟨hi0, hi1, hi2, hS⟩
    simp only [runEnv, rsysL, rlinkL] at hi0 hi1 hi2 hS ⊢
    by_cases hc : i < n ∧ i < 60
    case neg =>
      by_cases hcn : i < n
      · repeat (first | refine run ?_ | intro _ | ((with_reducible apply G.atDraw); first | refine G.draw (id := 34) plC18_3_34 mixed (by kernel_rfl) ?_ | refine G.draw (id := 29) plC18_3_29 mixed (by kernel_rfl) ?_ | refine G.draw (id := 50) plC18_3_50 mixed (by kernel_rfl) ?_))
        exact ⟨(), trivial, (by repeat (first | exact EnvSub.nil _ | refine EnvSub.cons rfl ?_)), Ent.nil _⟩
      · repeat (first | refine run ?_ | intro _ | ((with_reducible apply G.atDraw); first | refine G.draw (id := 34) plC18_3_34 mixed (by kernel_rfl) ?_ | refine G.draw (id := 29) plC18_3_29 mixed (by kernel_rfl) ?_ | refine G.draw (id := 50) plC18_3_50 mixed (by kernel_rfl) ?_))
        exact ⟨(), trivial, (by repeat (first | exact EnvSub.nil _ | refine EnvSub.cons rfl ?_)), Ent.nil _⟩
    obtain ⟨hc1, hc2⟩ := hc
    have hv := hl (l[i.toNat]!) (get_mem! (by omega))
    have hvq := tdiv_bounds hv.1 hv.2 (b := 8) (by decide)
    repeat (first | refine run ?_ | intro _ | ((with_reducible apply G.atDraw); first | refine G.draw (id := 34) plC18_3_34 mixed (by kernel_rfl) ?_ | refine G.draw (id := 29) plC18_3_29 mixed (by kernel_rfl) ?_ | refine G.draw (id := 50) plC18_3_50 mixed (by kernel_rfl) ?_))
    (first | ((with_reducible apply GO.atPlain); first | refine GO.ef (Ef.call (around_spec ((l[i.toNat]!).tdiv 8) 1073741824 hvq.1 hvq.2 (by decide) (by decide)) rfl (by repeat (first | exact Ent.refl _ | refine Ent.take ?_))) (by decide) ?_ | refine GO.ef (by exact Ef.call (around_spec ((l[i.toNat]!).tdiv 8) 1073741824 hvq.1 hvq.2 (by decide) (by decide)) rfl (by repeat (first | exact Ent.refl _ | refine Ent.take ?_))) (by decide) ?_) | ((with_reducible apply GPW.atEf); first | refine GPW.ef (Ef.call (around_spec ((l[i.toNat]!).tdiv 8) 1073741824 hvq.1 hvq.2 (by decide) (by decide)) rfl (by repeat (first | exact Ent.refl _ | refine Ent.take ?_))) (by decide) ?_ | refine GPW.ef (by exact Ef.call (around_spec ((l[i.toNat]!).tdiv 8) 1073741824 hvq.1 hvq.2 (by decide) (by decide)) rfl (by repeat (first | exact Ent.refl _ | refine Ent.take ?_))) (by decide) ?_))
    rintro _ _ ⟨_, ⟨rfl, rfl⟩, hL⟩
    simp only [List.cons_append, List.nil_append] at hL; subst hL
    have hnn := around_bd ((l[i.toNat]!).tdiv 8) (k := 1073741824) (by decide)
    generalize around ((l[i.toNat]!).tdiv 8) 1073741824 = nn at hnn
    repeat (first | ((fail_if_success (with_reducible refine G.atSS 19 ?_)); (with_reducible apply G.seq)) | refine runS ?_ | intro _ | ((with_reducible apply G.atDraw); first | refine G.draw (id := 34) plC18_3_34 mixed (by kernel_rfl) ?_ | refine G.draw (id := 29) plC18_3_29 mixed (by kernel_rfl) ?_ | refine G.draw (id := 50) plC18_3_50 mixed (by kernel_rfl) ?_))
    obtain ⟨k, hkk⟩ : ∃ k, nn % 2 = k := ⟨_, rfl⟩
    rw [hkk]
    have hk : k = 0 ∨ k = 1 := by omega
    refine G.join (α := RSys × RLk) (fun (S, lk) => S.Inv (i.toNat + 1) lk.ps lk.ts) (fun (_, lk) => runEnv ad n c ce mad mcap lk i) (fun (S, lk) => rsysL ce mad mcap es rs S (rlinkL lk [isl (encI .i64) 1 ad l])) ?_ ?_
    · repeat (first | refine run ?_ | intro _ | ((with_reducible apply G.atDraw); first | refine G.draw (id := 34) plC18_3_34 mixed (by kernel_rfl) ?_ | refine G.draw (id := 29) plC18_3_29 mixed (by kernel_rfl) ?_ | refine G.draw (id := 50) plC18_3_50 mixed (by kernel_rfl) ?_))
      (first | ((with_reducible apply GO.atPlain); first | refine GO.ef (Ef.call (around_spec (l[i.toNat]!) 8 hv.1 hv.2 (by decide) (by decide)) rfl (by repeat (first | exact Ent.refl _ | refine Ent.take ?_))) (by decide) ?_ | refine GO.ef (by exact Ef.call (around_spec (l[i.toNat]!) 8 hv.1 hv.2 (by decide) (by decide)) rfl (by repeat (first | exact Ent.refl _ | refine Ent.take ?_))) (by decide) ?_) | ((with_reducible apply GPW.atEf); first | refine GPW.ef (Ef.call (around_spec (l[i.toNat]!) 8 hv.1 hv.2 (by decide) (by decide)) rfl (by repeat (first | exact Ent.refl _ | refine Ent.take ?_))) (by decide) ?_ | refine GPW.ef (by exact Ef.call (around_spec (l[i.toNat]!) 8 hv.1 hv.2 (by decide) (by decide)) rfl (by repeat (first | exact Ent.refl _ | refine Ent.take ?_))) (by decide) ?_))
      rintro _ _ ⟨_, ⟨rfl, rfl⟩, hL⟩
      simp only [List.cons_append, List.nil_append] at hL; subst hL
      have hq := around_bd (l[i.toNat]!) (k := 8) (by decide)
      generalize around (l[i.toNat]!) 8 = q at hq
      repeat (first | ((fail_if_success (with_reducible refine G.atSS 31 ?_)); (with_reducible apply G.seq)) | refine runS ?_ | intro _ | ((with_reducible apply G.atDraw); first | refine G.draw (id := 34) plC18_3_34 mixed (by kernel_rfl) ?_ | refine G.draw (id := 29) plC18_3_29 mixed (by kernel_rfl) ?_ | refine G.draw (id := 50) plC18_3_50 mixed (by kernel_rfl) ?_))
      refine G.join (α := Bool) (fun g => g = dB (q = 0 ∨ q = 1)) (fun g => (132, .bool g) :: (71, .int .i64 q) :: (13, .int .i64 nn) :: (14, .int .i64 k) :: runEnv ad n c ce mad mcap lk i) (fun _ => rsysL ce mad mcap es rs S (rlinkL lk [isl (encI .i64) 1 ad l])) ?_ ?_
      · repeat (first | refine run ?_ | intro _ | ((with_reducible apply G.atDraw); first | refine G.draw (id := 34) plC18_3_34 mixed (by kernel_rfl) ?_ | refine G.draw (id := 29) plC18_3_29 mixed (by kernel_rfl) ?_ | refine G.draw (id := 50) plC18_3_50 mixed (by kernel_rfl) ?_))
        (first | with_reducible refine CB.dec (fun _ => ?_) (fun _ => ?_) | with_reducible refine GB.dec (fun _ => ?_) (fun _ => ?_) | with_reducible refine CB.bool (fun _ => ?_) (fun _ => ?_) | with_reducible refine GB.bool (fun _ => ?_) (fun _ => ?_))
        · rename_i h
          repeat (first | refine run ?_ | intro _ | ((with_reducible apply G.atDraw); first | refine G.draw (id := 34) plC18_3_34 mixed (by kernel_rfl) ?_ | refine G.draw (id := 29) plC18_3_29 mixed (by kernel_rfl) ?_ | refine G.draw (id := 50) plC18_3_50 mixed (by kernel_rfl) ?_))
          exact ⟨dB (q = 0), by rw [dB_pos h, dB_pos (.inl h)], (by repeat (first | exact EnvSub.nil _ | refine EnvSub.cons rfl ?_)), Ent.refl _⟩
        · rename_i h
          repeat (first | refine run ?_ | intro _ | ((with_reducible apply G.atDraw); first | refine G.draw (id := 34) plC18_3_34 mixed (by kernel_rfl) ?_ | refine G.draw (id := 29) plC18_3_29 mixed (by kernel_rfl) ?_ | refine G.draw (id := 50) plC18_3_50 mixed (by kernel_rfl) ?_))
          refine ⟨dB (q = 1), ?_, (by repeat (first | exact EnvSub.nil _ | refine EnvSub.cons rfl ?_)), Ent.refl _⟩
          congr 1
          exact propext ⟨fun h' => .inr h', fun h' => h'.resolve_left h⟩
      rintro _ rfl
      simp only [runEnv, rsysL, rlinkL]
      have hR := hS.e k hk
      have hok := hR.ok (by omega)
      have hdl := hR.del
      have hfs := hR.fit.sent
      have hfl := hR.fit.le
      have hfn := hR.len
      repeat (first | refine run ?_ | intro _ | ((with_reducible apply G.atDraw); first | refine G.draw (id := 34) plC18_3_34 mixed (by kernel_rfl) ?_ | refine G.draw (id := 29) plC18_3_29 mixed (by kernel_rfl) ?_ | refine G.draw (id := 50) plC18_3_50 mixed (by kernel_rfl) ?_))
      (first | with_reducible refine CB.dec (fun _ => ?_) (fun _ => ?_) | with_reducible refine GB.dec (fun _ => ?_) (fun _ => ?_) | with_reducible refine CB.bool (fun _ => ?_) (fun _ => ?_) | with_reducible refine GB.bool (fun _ => ?_) (fun _ => ?_))
      · rename_i hq01
        clear hq01
        refine G.ent (Ent.at (A := twoL (rside es rs S)) (Ent.twoOpen hk)) ?_
        simp only [rside, List.cons_append, List.nil_append]
        repeat (first | ((fail_if_success (with_reducible refine G.atS 34 ?_)); (with_reducible apply G.seq)) | refine runS ?_ | intro _ | ((with_reducible apply G.atDraw); first | refine G.draw (id := 34) plC18_3_34 mixed (by kernel_rfl) ?_ | refine G.draw (id := 29) plC18_3_29 mixed (by kernel_rfl) ?_ | refine G.draw (id := 50) plC18_3_50 mixed (by kernel_rfl) ?_))
        rename_i cb
        obtain ⟨y, hy⟩ : ∃ y, IntKind.u8.wrap nn = y := ⟨_, rfl⟩
        rw [hy]
        refine G.ent (Ent.at (A := obj cb 5 [.int .u8 i, .int .u8 y]) ((Ent.objSl (enc := encI .u8) (sz := 1) (n := 2) (xs := [i, y]) rfl rfl (fun _ _ => rfl) (by decide)).trans Ent.freezeSl)) ?_
        repeat (first | refine run ?_ | intro _ | ((with_reducible apply G.atDraw); first | refine G.draw (id := 34) plC18_3_34 mixed (by kernel_rfl) ?_ | refine G.draw (id := 29) plC18_3_29 mixed (by kernel_rfl) ?_ | refine G.draw (id := 50) plC18_3_50 mixed (by kernel_rfl) ?_))
        rw [pr_get es hk]
        (first | ((with_reducible apply GO.atPlain); first | refine GO.ef (Ef.callAt (send_spec _ (S.E k) (some ⟨cb, 0, none⟩) 2 2 [i, y] rfl hok (by decide) (by omega)) rfl) (by decide) ?_ | refine GO.ef (by exact Ef.callAt (send_spec _ (S.E k) (some ⟨cb, 0, none⟩) 2 2 [i, y] rfl hok (by decide) (by omega)) rfl) (by decide) ?_) | ((with_reducible apply GPW.atEf); first | refine GPW.ef (Ef.callAt (send_spec _ (S.E k) (some ⟨cb, 0, none⟩) 2 2 [i, y] rfl hok (by decide) (by omega)) rfl) (by decide) ?_ | refine GPW.ef (by exact Ef.callAt (send_spec _ (S.E k) (some ⟨cb, 0, none⟩) 2 2 [i, y] rfl hok (by decide) (by omega)) rfl) (by decide) ?_))
        rintro _ _ ⟨rfl, rfl⟩
        repeat (first | refine run ?_ | intro _ | ((with_reducible apply G.atDraw); first | refine G.draw (id := 34) plC18_3_34 mixed (by kernel_rfl) ?_ | refine G.draw (id := 29) plC18_3_29 mixed (by kernel_rfl) ?_ | refine G.draw (id := 50) plC18_3_50 mixed (by kernel_rfl) ?_))
        rw [pr_get rs hk]
        refine GPW.ent (Ent.at (A := isl (encI .u8) 1 (some ⟨cb, 0, none⟩) [i, y]) (Ent.refl _)) ?_
        (first | ((with_reducible apply GO.atPlain); first | refine GO.ef (Ef.callAt (rsend_spec (rs k) (S.m k) (S.E k) ⟨some ⟨cb, 0, none⟩, 2, [i, y]⟩ hok hR.fit (by simp) (by omega)) rfl) (by decide) ?_ | refine GO.ef (by exact Ef.callAt (rsend_spec (rs k) (S.m k) (S.E k) ⟨some ⟨cb, 0, none⟩, 2, [i, y]⟩ hok hR.fit (by simp) (by omega)) rfl) (by decide) ?_) | ((with_reducible apply GPW.atEf); first | refine GPW.ef (Ef.callAt (rsend_spec (rs k) (S.m k) (S.E k) ⟨some ⟨cb, 0, none⟩, 2, [i, y]⟩ hok hR.fit (by simp) (by omega)) rfl) (by decide) ?_ | refine GPW.ef (by exact Ef.callAt (rsend_spec (rs k) (S.m k) (S.E k) ⟨some ⟨cb, 0, none⟩, 2, [i, y]⟩ hok hR.fit (by simp) (by omega)) rfl) (by decide) ?_))
        rintro _ _ ⟨rfl, rfl⟩
        repeat (first | refine run ?_ | intro _ | ((with_reducible apply G.atDraw); first | refine G.draw (id := 34) plC18_3_34 mixed (by kernel_rfl) ?_ | refine G.draw (id := 29) plC18_3_29 mixed (by kernel_rfl) ?_ | refine G.draw (id := 50) plC18_3_50 mixed (by kernel_rfl) ?_))
        refine ⟨(⟨upd S.E k ((S.E k).send [i, y]), upd S.m k (S.m k ++ [[i, y]])⟩, lk), hS.send hk (by simp), (by repeat (first | exact EnvSub.nil _ | refine EnvSub.cons rfl ?_)), ?_⟩
        refine Ent.take' (Ent.take' (Ent.trans ?_ (Ent.twoClose hk)))
        simp only [rside, upd_same, upd_other _ hk, List.cons_append, List.nil_append]
        repeat (first | exact Ent.refl _ | exact Ent.nil _ | refine Ent.take' ?_ | refine Ent.trans Ent.drop ?_)
      · rename_i hq01
        repeat (first | ((fail_if_success (with_reducible refine G.atSS 36 ?_)); (with_reducible apply G.seq)) | refine runS ?_ | intro _ | ((with_reducible apply G.atDraw); first | refine G.draw (id := 34) plC18_3_34 mixed (by kernel_rfl) ?_ | refine G.draw (id := 29) plC18_3_29 mixed (by kernel_rfl) ?_ | refine G.draw (id := 50) plC18_3_50 mixed (by kernel_rfl) ?_))
        refine G.join (α := Bool) (fun g => g = dB (q = 2 ∨ q = 3)) (fun g => (153, .bool g) :: (71, .int .i64 q) :: (13, .int .i64 nn) :: (14, .int .i64 k) :: runEnv ad n c ce mad mcap lk i) (fun _ => rsysL ce mad mcap es rs S (rlinkL lk [isl (encI .i64) 1 ad l])) ?_ ?_
        · repeat (first | refine run ?_ | intro _ | ((with_reducible apply G.atDraw); first | refine G.draw (id := 34) plC18_3_34 mixed (by kernel_rfl) ?_ | refine G.draw (id := 29) plC18_3_29 mixed (by kernel_rfl) ?_ | refine G.draw (id := 50) plC18_3_50 mixed (by kernel_rfl) ?_))
          (first | with_reducible refine CB.dec (fun _ => ?_) (fun _ => ?_) | with_reducible refine GB.dec (fun _ => ?_) (fun _ => ?_) | with_reducible refine CB.bool (fun _ => ?_) (fun _ => ?_) | with_reducible refine GB.bool (fun _ => ?_) (fun _ => ?_))
          · rename_i h
            repeat (first | refine run ?_ | intro _ | ((with_reducible apply G.atDraw); first | refine G.draw (id := 34) plC18_3_34 mixed (by kernel_rfl) ?_ | refine G.draw (id := 29) plC18_3_29 mixed (by kernel_rfl) ?_ | refine G.draw (id := 50) plC18_3_50 mixed (by kernel_rfl) ?_))
            exact ⟨dB (q = 2), by rw [dB_pos h, dB_pos (.inl h)], (by repeat (first | exact EnvSub.nil _ | refine EnvSub.cons rfl ?_)), Ent.refl _⟩
          · rename_i h
            repeat (first | refine run ?_ | intro _ | ((with_reducible apply G.atDraw); first | refine G.draw (id := 34) plC18_3_34 mixed (by kernel_rfl) ?_ | refine G.draw (id := 29) plC18_3_29 mixed (by kernel_rfl) ?_ | refine G.draw (id := 50) plC18_3_50 mixed (by kernel_rfl) ?_))
            refine ⟨dB (q = 3), ?_, (by repeat (first | exact EnvSub.nil _ | refine EnvSub.cons rfl ?_)), Ent.refl _⟩
            congr 1
            exact propext ⟨fun h' => .inr h', fun h' => h'.resolve_left h⟩
        rintro _ rfl
        simp only [runEnv, rsysL, rlinkL]
        have htl := hS.tl
        repeat (first | refine run ?_ | intro _ | ((with_reducible apply G.atDraw); first | refine G.draw (id := 34) plC18_3_34 mixed (by kernel_rfl) ?_ | refine G.draw (id := 29) plC18_3_29 mixed (by kernel_rfl) ?_ | refine G.draw (id := 50) plC18_3_50 mixed (by kernel_rfl) ?_))
        (first | with_reducible refine CB.dec (fun _ => ?_) (fun _ => ?_) | with_reducible refine GB.dec (fun _ => ?_) (fun _ => ?_) | with_reducible refine CB.bool (fun _ => ?_) (fun _ => ?_) | with_reducible refine GB.bool (fun _ => ?_) (fun _ => ?_))
        · rename_i hq23
          clear hq23
          refine G.ent (Ent.at (A := twoL (rside es rs S)) (Ent.twoOpen hk)) ?_
          simp only [rside, List.cons_append, List.nil_append]
          repeat (first | refine run ?_ | intro _ | ((with_reducible apply G.atDraw); first | refine G.draw (id := 34) plC18_3_34 mixed (by kernel_rfl) ?_ | refine G.draw (id := 29) plC18_3_29 mixed (by kernel_rfl) ?_ | refine G.draw (id := 50) plC18_3_50 mixed (by kernel_rfl) ?_))
          rw [pr_get es hk]
          (first | ((with_reducible apply GO.atPlain); first | refine GO.ef (Ef.callAt (out_spec _ (S.E k) hok hR.wsmall) rfl) (by decide) ?_ | refine GO.ef (by exact Ef.callAt (out_spec _ (S.E k) hok hR.wsmall) rfl) (by decide) ?_) | ((with_reducible apply GPW.atEf); first | refine GPW.ef (Ef.callAt (out_spec _ (S.E k) hok hR.wsmall) rfl) (by decide) ?_ | refine GPW.ef (by exact Ef.callAt (out_spec _ (S.E k) hok hR.wsmall) rfl) (by decide) ?_))
          rintro _ _ ⟨oad, ocap, ps, rfl, hps, rfl⟩
          have hpl : ps.length ≤ 16 := by rw [len_of hps]; exact out_len_le hR.win
          refine GO.ent (Ent.at (A := bigO pkO ps) (Ent.bigO_all (fun _ => msgP_m _) (fun x L => Ent.freezeSl) ps _)) ?_
          repeat (first | refine run ?_ | intro _ | ((with_reducible apply G.atDraw); first | refine G.draw (id := 34) plC18_3_34 mixed (by kernel_rfl) ?_ | refine G.draw (id := 29) plC18_3_29 mixed (by kernel_rfl) ?_ | refine G.draw (id := 50) plC18_3_50 mixed (by kernel_rfl) ?_))
          rw [pr_get rs hk]
          (first | ((with_reducible apply GO.atPlain); first | refine GO.ef (Ef.callAt (rout_spec _ (S.m k) (S.E k) hok hR.fit (by omega)) rfl) (by decide) ?_ | refine GO.ef (by exact Ef.callAt (rout_spec _ (S.m k) (S.E k) hok hR.fit (by omega)) rfl) (by decide) ?_) | ((with_reducible apply GPW.atEf); first | refine GPW.ef (Ef.callAt (rout_spec _ (S.m k) (S.E k) hok hR.fit (by omega)) rfl) (by decide) ?_ | refine GPW.ef (by exact Ef.callAt (rout_spec _ (S.m k) (S.E k) hok hR.fit (by omega)) rfl) (by decide) ?_))
          rintro _ _ ⟨rad, rcap, qs, rfl, hqs, rfl⟩
          have hql : qs.length ≤ 16 := by rw [len_of hqs]; exact out_len_le hR.win
          repeat (first | refine run ?_ | intro _ | ((with_reducible apply G.atDraw); first | refine G.draw (id := 34) plC18_3_34 mixed (by kernel_rfl) ?_ | refine G.draw (id := 29) plC18_3_29 mixed (by kernel_rfl) ?_ | refine G.draw (id := 50) plC18_3_50 mixed (by kernel_rfl) ?_))
          refine GO.ent (Ent.at (A := allP (fun p : Pkt => msgP p.m) qs) (Ent.refl _)) ?_
          refine GO.ent (Ent.at (A := allP (fun p : Pkt => msgP p.m) ps) (Ent.refl _)) ?_
          have hpb : ∀ p ∈ ps, p.m.bs.length ≤ 65536 := by
            intro p hp
            exact out_small hR.wsmall p.abs (by rw [← hps]; exact List.mem_map_of_mem hp)
          (first | ((with_reducible apply GO.atPlain); first | refine GO.ef (Ef.callAll (same_spec oad rad ocap rcap ps qs (hps.trans hqs.symm) (by omega) hpb) rfl) (by decide) ?_ | refine GO.ef (by exact Ef.callAll (same_spec oad rad ocap rcap ps qs (hps.trans hqs.symm) (by omega) hpb) rfl) (by decide) ?_) | ((with_reducible apply GPW.atEf); first | refine GPW.ef (Ef.callAll (same_spec oad rad ocap rcap ps qs (hps.trans hqs.symm) (by omega) hpb) rfl) (by decide) ?_ | refine GPW.ef (by exact Ef.callAll (same_spec oad rad ocap rcap ps qs (hps.trans hqs.symm) (by omega) hpb) rfl) (by decide) ?_))
          rintro _ _ ⟨rfl, rfl⟩
          repeat (first | refine run ?_ | intro _ | ((with_reducible apply G.atDraw); first | refine G.draw (id := 34) plC18_3_34 mixed (by kernel_rfl) ?_ | refine G.draw (id := 29) plC18_3_29 mixed (by kernel_rfl) ?_ | refine G.draw (id := 50) plC18_3_50 mixed (by kernel_rfl) ?_))
          refine G.loop (α := Int × RLk) (fun (j, lk') => 0 ≤ j ∧ j ≤ qs.length ∧ lk'.ps = lk.ps ++ qs.take j.toNat ∧ lk'.ts = lk.ts ++ List.replicate j.toNat (1 - k))
            (fun (j, lk') => (14, .int .i64 k) :: (17, .slice rad qs.length rcap) :: (18, .int .i64 j) :: runEnv ad n c ce mad mcap lk' i)
            (fun (_, lk') => osl encPk 3 40 rad rcap qs :: allP (fun p : Pkt => msgP p.m) qs :: rsysL ce mad mcap es rs ⟨upd S.E k { S.E k with owing := false }, S.m⟩ (rlinkL lk' [isl (encI .i64) 1 ad l]))
            (fun (j, _) => (qs.length - j).toNat) (0, lk) ⟨by omega, by omega, by simp, by simp⟩ (by repeat (first | exact EnvSub.nil _ | refine EnvSub.cons rfl ?_)) ?_ ?_
          · refine Ent.take' (Ent.take' (Ent.take' (Ent.take' (Ent.trans ?_ (Ent.twoClose hk)))))
            simp only [rside, upd_same, upd_other _ hk, List.cons_append, List.nil_append]
            repeat (first | exact Ent.refl _ | exact Ent.nil _ | refine Ent.take' ?_ | refine Ent.trans Ent.drop ?_)
          rintro ⟨j, lk'⟩ ⟨hj0, hj1, hj2, hj3⟩
          simp only [runEnv, rsysL, rlinkL] at hj0 hj1 hj2 hj3 ⊢
          have hl2 := congrArg List.length hj2
          have hl3 := congrArg List.length hj3
          simp at hl2 hl3
          repeat (first | refine run ?_ | intro _ | ((with_reducible apply G.atDraw); first | refine G.draw (id := 34) plC18_3_34 mixed (by kernel_rfl) ?_ | refine G.draw (id := 29) plC18_3_29 mixed (by kernel_rfl) ?_ | refine G.draw (id := 50) plC18_3_50 mixed (by kernel_rfl) ?_))
          (first | with_reducible refine CB.dec (fun _ => ?_) (fun _ => ?_) | with_reducible refine GB.dec (fun _ => ?_) (fun _ => ?_) | with_reducible refine CB.bool (fun _ => ?_) (fun _ => ?_) | with_reducible refine GB.bool (fun _ => ?_) (fun _ => ?_))
          case refine_2 =>
            repeat (first | refine run ?_ | intro _ | ((with_reducible apply G.atDraw); first | refine G.draw (id := 34) plC18_3_34 mixed (by kernel_rfl) ?_ | refine G.draw (id := 29) plC18_3_29 mixed (by kernel_rfl) ?_ | refine G.draw (id := 50) plC18_3_50 mixed (by kernel_rfl) ?_))
            have hh : j.toNat = qs.length := by omega
            rw [hh] at hj3
            rw [hh, List.take_length] at hj2
            refine ⟨(⟨upd S.E k { S.E k with owing := false }, S.m⟩, lk'), ?_, (by repeat (first | exact EnvSub.nil _ | refine EnvSub.cons rfl ?_)), ?_⟩
            · simp only [hj2, hj3]
              exact hS.link hk hR.quiet qs hql
            · repeat (first | exact Ent.refl _ | exact Ent.nil _ | refine Ent.take' ?_ | refine Ent.trans Ent.drop ?_)
          rename_i hj4
          repeat (first | refine run ?_ | intro _ | ((with_reducible apply G.atDraw); first | refine G.draw (id := 34) plC18_3_34 mixed (by kernel_rfl) ?_ | refine G.draw (id := 29) plC18_3_29 mixed (by kernel_rfl) ?_ | refine G.draw (id := 50) plC18_3_50 mixed (by kernel_rfl) ?_))
          (first | ((with_reducible apply GO.atPlain); first | refine GO.ef (Ef.append1 (e := qs[j.toNat]!) rfl rfl rfl rfl rfl (by rfl) (encPk_one _) (by omega) (by omega)) (by decide) ?_ | refine GO.ef (by exact Ef.append1 (e := qs[j.toNat]!) rfl rfl rfl rfl rfl (by rfl) (encPk_one _) (by omega) (by omega)) (by decide) ?_) | ((with_reducible apply GPW.atEf); first | refine GPW.ef (Ef.append1 (e := qs[j.toNat]!) rfl rfl rfl rfl rfl (by rfl) (encPk_one _) (by omega) (by omega)) (by decide) ?_ | refine GPW.ef (by exact Ef.append1 (e := qs[j.toNat]!) rfl rfl rfl rfl rfl (by rfl) (encPk_one _) (by omega) (by omega)) (by decide) ?_) | ((with_reducible apply GO.atUnit); first | refine GO.efu (Ef.append1 (e := qs[j.toNat]!) rfl rfl rfl rfl rfl (by rfl) (encPk_one _) (by omega) (by omega)) ?_ | refine GO.efu (by exact Ef.append1 (e := qs[j.toNat]!) rfl rfl rfl rfl rfl (by rfl) (encPk_one _) (by omega) (by omega)) ?_) | ((with_reducible apply GPW.atEfu); first | refine GPW.efu (Ef.append1 (e := qs[j.toNat]!) rfl rfl rfl rfl rfl (by rfl) (encPk_one _) (by omega) (by omega)) ?_ | refine GPW.efu (by exact Ef.append1 (e := qs[j.toNat]!) rfl rfl rfl rfl rfl (by rfl) (encPk_one _) (by omega) (by omega)) ?_))
          rintro _ _ ⟨ad2, cap2, rfl, rfl⟩
          repeat (first | refine run ?_ | intro _ | ((with_reducible apply G.atDraw); first | refine G.draw (id := 34) plC18_3_34 mixed (by kernel_rfl) ?_ | refine G.draw (id := 29) plC18_3_29 mixed (by kernel_rfl) ?_ | refine G.draw (id := 50) plC18_3_50 mixed (by kernel_rfl) ?_))
          (first | ((with_reducible apply GO.atPlain); first | refine GO.ef (Ef.append1 (e := 1 - k) rfl rfl rfl rfl rfl (by rfl) (encI_one _ _) (by omega) (by omega)) (by decide) ?_ | refine GO.ef (by exact Ef.append1 (e := 1 - k) rfl rfl rfl rfl rfl (by rfl) (encI_one _ _) (by omega) (by omega)) (by decide) ?_) | ((with_reducible apply GPW.atEf); first | refine GPW.ef (Ef.append1 (e := 1 - k) rfl rfl rfl rfl rfl (by rfl) (encI_one _ _) (by omega) (by omega)) (by decide) ?_ | refine GPW.ef (by exact Ef.append1 (e := 1 - k) rfl rfl rfl rfl rfl (by rfl) (encI_one _ _) (by omega) (by omega)) (by decide) ?_) | ((with_reducible apply GO.atUnit); first | refine GO.efu (Ef.append1 (e := 1 - k) rfl rfl rfl rfl rfl (by rfl) (encI_one _ _) (by omega) (by omega)) ?_ | refine GO.efu (by exact Ef.append1 (e := 1 - k) rfl rfl rfl rfl rfl (by rfl) (encI_one _ _) (by omega) (by omega)) ?_) | ((with_reducible apply GPW.atEfu); first | refine GPW.efu (Ef.append1 (e := 1 - k) rfl rfl rfl rfl rfl (by rfl) (encI_one _ _) (by omega) (by omega)) ?_ | refine GPW.efu (by exact Ef.append1 (e := 1 - k) rfl rfl rfl rfl rfl (by rfl) (encI_one _ _) (by omega) (by omega)) ?_))
          rintro _ _ ⟨ad3, cap3, rfl, rfl⟩
          repeat (first | refine run ?_ | intro _ | ((with_reducible apply G.atDraw); first | refine G.draw (id := 34) plC18_3_34 mixed (by kernel_rfl) ?_ | refine G.draw (id := 29) plC18_3_29 mixed (by kernel_rfl) ?_ | refine G.draw (id := 50) plC18_3_50 mixed (by kernel_rfl) ?_))
          refine ⟨(j + 1, ⟨ad2, cap2, lk'.ps ++ [qs[j.toNat]!], ad3, cap3, lk'.ts ++ [1 - k]⟩), ⟨by simp only []; omega, by simp only []; omega, ?_, ?_⟩, by simp only []; omega, (by repeat (first | exact EnvSub.nil _ | refine EnvSub.cons rfl ?_)), ?_⟩
          · simp only []
            rw [show (j + 1).toNat = j.toNat + 1 by omega, List.take_succ_eq_append_getElem (by omega), hj2, List.append_assoc]
            congr 2
            rw [List.getElem!_eq_getElem?_getD, List.getElem?_eq_getElem (by omega)]
            rfl
          · simp only []
            rw [show (j + 1).toNat = j.toNat + 1 by omega, List.replicate_succ', hj3, List.append_assoc]
          · simp only [rlinkL]
            refine (Ent.at (A := allP (fun p : Pkt => msgP p.m) qs) (Ent.allP_get (x := qs[j.toNat]!) (get_mem! (by omega)))).trans ?_
            refine (Ent.allP_one (f := fun p : Pkt => msgP p.m) (x := qs[j.toNat]!) (fun _ => msgP_m _)).trans ?_
            refine (Ent.at (A := allP (fun p : Pkt => msgP p.m) lk'.ps) (Ent.consR (Ent.at (A := allP (fun p : Pkt => msgP p.m) [qs[j.toNat]!]) (Ent.refl _)))).trans ?_
            refine (Ent.allP_app (fun _ => msgP_m _)).trans ?_
            repeat (first | exact Ent.refl _ | exact Ent.nil _ | refine Ent.take' ?_ | refine Ent.trans Ent.drop ?_)
        · rename_i hq23
          by_cases hz : lk.ps.length = 0
          · repeat (first | refine run ?_ | intro _ | ((with_reducible apply G.atDraw); first | refine G.draw (id := 34) plC18_3_34 mixed (by kernel_rfl) ?_ | refine G.draw (id := 29) plC18_3_29 mixed (by kernel_rfl) ?_ | refine G.draw (id := 50) plC18_3_50 mixed (by kernel_rfl) ?_))
            refine ⟨(i + 1, S, lk), ⟨by simp only []; omega, by simp only []; omega, by simp only []; omega, ?_⟩, by simp only []; omega, (by repeat (first | exact EnvSub.nil _ | refine EnvSub.cons rfl ?_)), Ent.refl _⟩
            simp only []
            rw [show (i + 1).toNat = i.toNat + 1 by omega]
            exact hS.more
          have hmod : 0 ≤ nn / 2 % min (lk.ps.length : Int) 20 ∧ nn / 2 % min (lk.ps.length : Int) 20 < min (lk.ps.length : Int) 20 := ⟨Int.emod_nonneg _ (by omega), Int.emod_lt_of_pos _ (by omega)⟩
          repeat (first | ((fail_if_success (with_reducible refine G.atS 22 ?_)); (with_reducible apply G.seq)) | refine runS ?_ | intro _ | ((with_reducible apply G.atDraw); first | refine G.draw (id := 34) plC18_3_34 mixed (by kernel_rfl) ?_ | refine G.draw (id := 29) plC18_3_29 mixed (by kernel_rfl) ?_ | refine G.draw (id := 50) plC18_3_50 mixed (by kernel_rfl) ?_))
          generalize nn / 2 % min (lk.ps.length : Int) 20 = jm at hmod
          obtain ⟨j, hjd⟩ : ∃ j, (lk.ps.length : Int) - 1 - jm = j := ⟨_, rfl⟩
          rw [hjd]
          have hj : 0 ≤ j ∧ j < lk.ps.length := by omega
          clear hjd hmod
          have ht1 := hS.to j.toNat (by omega)
          have hmem : lk.ps[j.toNat]! ∈ lk.ps := get_mem! (by omega)
          refine G.ent (Ent.at (A := allP (fun p : Pkt => msgP p.m) lk.ps) (Ent.allP_get (x := lk.ps[j.toNat]!) hmem)) ?_
          repeat (first | ((fail_if_success (with_reducible refine G.atSS 23 ?_)); (with_reducible apply G.seq)) | refine runS ?_ | intro _ | ((with_reducible apply G.atDraw); first | refine G.draw (id := 34) plC18_3_34 mixed (by kernel_rfl) ?_ | refine G.draw (id := 29) plC18_3_29 mixed (by kernel_rfl) ?_ | refine G.draw (id := 50) plC18_3_50 mixed (by kernel_rfl) ?_))
          rename_i cp
          simp only [encPk]
          generalize hp0 : lk.ps[j.toNat]! = p0
          clear hp0 hmem
          obtain ⟨s0, k0, m0⟩ := p0
          simp only []
          refine G.join (α := Int) (fun _ => True) (fun _ => (20, .pointer (some ⟨cp, 0, none⟩)) :: (19, .int .i64 j) :: (13, .int .i64 nn) :: runEnv ad n c ce mad mcap lk i) (fun s1 => rpA cp s1 k0 m0 :: msgP m0 :: rsysL ce mad mcap es rs S (rlinkL lk [isl (encI .i64) 1 ad l])) ?_ ?_
          · repeat (first | refine run ?_ | intro _ | ((with_reducible apply G.atDraw); first | refine G.draw (id := 34) plC18_3_34 mixed (by kernel_rfl) ?_ | refine G.draw (id := 29) plC18_3_29 mixed (by kernel_rfl) ?_ | refine G.draw (id := 50) plC18_3_50 mixed (by kernel_rfl) ?_))
            (first | with_reducible refine CB.dec (fun _ => ?_) (fun _ => ?_) | with_reducible refine GB.dec (fun _ => ?_) (fun _ => ?_) | with_reducible refine CB.bool (fun _ => ?_) (fun _ => ?_) | with_reducible refine GB.bool (fun _ => ?_) (fun _ => ?_))
            · repeat (first | refine run ?_ | intro _ | ((with_reducible apply G.atDraw); first | refine G.draw (id := 34) plC18_3_34 mixed (by kernel_rfl) ?_ | refine G.draw (id := 29) plC18_3_29 mixed (by kernel_rfl) ?_ | refine G.draw (id := 50) plC18_3_50 mixed (by kernel_rfl) ?_))
              exact ⟨nn / 41 % 40, trivial, (by repeat (first | exact EnvSub.nil _ | refine EnvSub.cons rfl ?_)), by repeat (first | exact Ent.refl _ | exact Ent.nil _ | refine Ent.take' ?_ | refine Ent.trans Ent.drop ?_)⟩
            · repeat (first | refine run ?_ | intro _ | ((with_reducible apply G.atDraw); first | refine G.draw (id := 34) plC18_3_34 mixed (by kernel_rfl) ?_ | refine G.draw (id := 29) plC18_3_29 mixed (by kernel_rfl) ?_ | refine G.draw (id := 50) plC18_3_50 mixed (by kernel_rfl) ?_))
              exact ⟨s0, trivial, (by repeat (first | exact EnvSub.nil _ | refine EnvSub.cons rfl ?_)), by repeat (first | exact Ent.refl _ | exact Ent.nil _ | refine Ent.take' ?_ | refine Ent.trans Ent.drop ?_)⟩
          rintro s1 _
          simp only [runEnv, rsysL, rlinkL, rpA]
          refine G.join (α := Int) (fun _ => True) (fun _ => (20, .pointer (some ⟨cp, 0, none⟩)) :: (19, .int .i64 j) :: (13, .int .i64 nn) :: runEnv ad n c ce mad mcap lk i) (fun k1 => rpA cp s1 k1 m0 :: msgP m0 :: rsysL ce mad mcap es rs S (rlinkL lk [isl (encI .i64) 1 ad l])) ?_ ?_
          · repeat (first | refine run ?_ | intro _ | ((with_reducible apply G.atDraw); first | refine G.draw (id := 34) plC18_3_34 mixed (by kernel_rfl) ?_ | refine G.draw (id := 29) plC18_3_29 mixed (by kernel_rfl) ?_ | refine G.draw (id := 50) plC18_3_50 mixed (by kernel_rfl) ?_))
            (first | with_reducible refine CB.dec (fun _ => ?_) (fun _ => ?_) | with_reducible refine GB.dec (fun _ => ?_) (fun _ => ?_) | with_reducible refine CB.bool (fun _ => ?_) (fun _ => ?_) | with_reducible refine GB.bool (fun _ => ?_) (fun _ => ?_))
            · repeat (first | refine run ?_ | intro _ | ((with_reducible apply G.atDraw); first | refine G.draw (id := 34) plC18_3_34 mixed (by kernel_rfl) ?_ | refine G.draw (id := 29) plC18_3_29 mixed (by kernel_rfl) ?_ | refine G.draw (id := 50) plC18_3_50 mixed (by kernel_rfl) ?_))
              exact ⟨nn / 43 % 9 - 1, trivial, (by repeat (first | exact EnvSub.nil _ | refine EnvSub.cons rfl ?_)), by repeat (first | exact Ent.refl _ | exact Ent.nil _ | refine Ent.take' ?_ | refine Ent.trans Ent.drop ?_)⟩
            · repeat (first | refine run ?_ | intro _ | ((with_reducible apply G.atDraw); first | refine G.draw (id := 34) plC18_3_34 mixed (by kernel_rfl) ?_ | refine G.draw (id := 29) plC18_3_29 mixed (by kernel_rfl) ?_ | refine G.draw (id := 50) plC18_3_50 mixed (by kernel_rfl) ?_))
              exact ⟨k0, trivial, (by repeat (first | exact EnvSub.nil _ | refine EnvSub.cons rfl ?_)), by repeat (first | exact Ent.refl _ | exact Ent.nil _ | refine Ent.take' ?_ | refine Ent.trans Ent.drop ?_)⟩
          rintro k1 _
          simp only [runEnv, rsysL, rlinkL, rpA]
          refine G.join (α := Msg) (fun _ => True) (fun _ => (20, .pointer (some ⟨cp, 0, none⟩)) :: (19, .int .i64 j) :: (13, .int .i64 nn) :: runEnv ad n c ce mad mcap lk i) (fun mm => rpA cp s1 k1 mm :: msgP mm :: rsysL ce mad mcap es rs S (rlinkL lk [isl (encI .i64) 1 ad l])) ?_ ?_
          · repeat (first | refine run ?_ | intro _ | ((with_reducible apply G.atDraw); first | refine G.draw (id := 34) plC18_3_34 mixed (by kernel_rfl) ?_ | refine G.draw (id := 29) plC18_3_29 mixed (by kernel_rfl) ?_ | refine G.draw (id := 50) plC18_3_50 mixed (by kernel_rfl) ?_))
            (first | with_reducible refine CB.dec (fun _ => ?_) (fun _ => ?_) | with_reducible refine GB.dec (fun _ => ?_) (fun _ => ?_) | with_reducible refine CB.bool (fun _ => ?_) (fun _ => ?_) | with_reducible refine GB.bool (fun _ => ?_) (fun _ => ?_))
            · repeat (first | refine run ?_ | intro _ | ((with_reducible apply G.atDraw); first | refine G.draw (id := 34) plC18_3_34 mixed (by kernel_rfl) ?_ | refine G.draw (id := 29) plC18_3_29 mixed (by kernel_rfl) ?_ | refine G.draw (id := 50) plC18_3_50 mixed (by kernel_rfl) ?_))
              rename_i c1 c2
              refine GO.ent (Ent.at (A := obj c1 5 []) (Ent.objSl (enc := encI .u8) (sz := 1) (n := 0) (xs := []) rfl rfl (by simp) (by decide))) ?_
              (first | ((with_reducible apply GO.atPlain); first | refine GO.ef (Ef.append1 (e := (5 : Int)) rfl rfl rfl rfl rfl (by rfl) (encI_one _ _) (by decide) (by decide)) (by decide) ?_ | refine GO.ef (by exact Ef.append1 (e := (5 : Int)) rfl rfl rfl rfl rfl (by rfl) (encI_one _ _) (by decide) (by decide)) (by decide) ?_) | ((with_reducible apply GPW.atEf); first | refine GPW.ef (Ef.append1 (e := (5 : Int)) rfl rfl rfl rfl rfl (by rfl) (encI_one _ _) (by decide) (by decide)) (by decide) ?_ | refine GPW.ef (by exact Ef.append1 (e := (5 : Int)) rfl rfl rfl rfl rfl (by rfl) (encI_one _ _) (by decide) (by decide)) (by decide) ?_) | ((with_reducible apply GO.atUnit); first | refine GO.efu (Ef.append1 (e := (5 : Int)) rfl rfl rfl rfl rfl (by rfl) (encI_one _ _) (by decide) (by decide)) ?_ | refine GO.efu (by exact Ef.append1 (e := (5 : Int)) rfl rfl rfl rfl rfl (by rfl) (encI_one _ _) (by decide) (by decide)) ?_) | ((with_reducible apply GPW.atEfu); first | refine GPW.efu (Ef.append1 (e := (5 : Int)) rfl rfl rfl rfl rfl (by rfl) (encI_one _ _) (by decide) (by decide)) ?_ | refine GPW.efu (by exact Ef.append1 (e := (5 : Int)) rfl rfl rfl rfl rfl (by rfl) (encI_one _ _) (by decide) (by decide)) ?_))
              rintro _ _ ⟨ad5, cap5, rfl, rfl⟩
              rw [List.nil_append]
              repeat (first | refine run ?_ | intro _ | ((with_reducible apply G.atDraw); first | refine G.draw (id := 34) plC18_3_34 mixed (by kernel_rfl) ?_ | refine G.draw (id := 29) plC18_3_29 mixed (by kernel_rfl) ?_ | refine G.draw (id := 50) plC18_3_50 mixed (by kernel_rfl) ?_))
              refine ⟨⟨ad5, cap5, [5]⟩, trivial, (by repeat (first | exact EnvSub.nil _ | refine EnvSub.cons rfl ?_)), ?_⟩
              refine (Ent.frz ad5).trans ?_
              repeat (first | exact Ent.refl _ | exact Ent.nil _ | refine Ent.take' ?_ | refine Ent.trans Ent.drop ?_)
            · repeat (first | refine run ?_ | intro _ | ((with_reducible apply G.atDraw); first | refine G.draw (id := 34) plC18_3_34 mixed (by kernel_rfl) ?_ | refine G.draw (id := 29) plC18_3_29 mixed (by kernel_rfl) ?_ | refine G.draw (id := 50) plC18_3_50 mixed (by kernel_rfl) ?_))
              exact ⟨m0, trivial, (by repeat (first | exact EnvSub.nil _ | refine EnvSub.cons rfl ?_)), by repeat (first | exact Ent.refl _ | exact Ent.nil _ | refine Ent.take' ?_ | refine Ent.trans Ent.drop ?_)⟩
          rintro mm _
          simp only [runEnv, rsysL, rlinkL, rpA]
          have hRt := hS.e _ ht1
          have hokt := hRt.ok (by omega)
          obtain ⟨hR', hsm', hln'⟩ := hRt.take s1 k1 mm.bs
          have hmt := hRt.len
          refine G.ent (Ent.at (A := twoL (rside es rs S)) (Ent.twoOpen ht1)) ?_
          simp only [rside, List.cons_append, List.nil_append]
          repeat (first | refine run ?_ | intro _ | ((with_reducible apply G.atDraw); first | refine G.draw (id := 34) plC18_3_34 mixed (by kernel_rfl) ?_ | refine G.draw (id := 29) plC18_3_29 mixed (by kernel_rfl) ?_ | refine G.draw (id := 50) plC18_3_50 mixed (by kernel_rfl) ?_))
          (first | ((with_reducible apply GO.atPlain); first | refine GO.ef (Ef.call (of_spec s1 k1 mm.ad mm.bs.length mm.cap) rfl (by repeat (first | exact Ent.refl _ | refine Ent.take ?_))) (by decide) ?_ | refine GO.ef (by exact Ef.call (of_spec s1 k1 mm.ad mm.bs.length mm.cap) rfl (by repeat (first | exact Ent.refl _ | refine Ent.take ?_))) (by decide) ?_) | ((with_reducible apply GPW.atEf); first | refine GPW.ef (Ef.call (of_spec s1 k1 mm.ad mm.bs.length mm.cap) rfl (by repeat (first | exact Ent.refl _ | refine Ent.take ?_))) (by decide) ?_ | refine GPW.ef (by exact Ef.call (of_spec s1 k1 mm.ad mm.bs.length mm.cap) rfl (by repeat (first | exact Ent.refl _ | refine Ent.take ?_))) (by decide) ?_))
          rintro _ _ ⟨_, ⟨rfl, rfl⟩, hL⟩
          simp only [List.cons_append, List.nil_append] at hL; subst hL
          repeat (first | refine run ?_ | intro _ | ((with_reducible apply G.atDraw); first | refine G.draw (id := 34) plC18_3_34 mixed (by kernel_rfl) ?_ | refine G.draw (id := 29) plC18_3_29 mixed (by kernel_rfl) ?_ | refine G.draw (id := 50) plC18_3_50 mixed (by kernel_rfl) ?_))
          rw [pr_get es ht1]
          (first | ((with_reducible apply GO.atPlain); first | refine GO.ef (Ef.callAt (in_spec _ (S.E (lk.ts[j.toNat]!)) s1 k1 mm.ad mm.bs.length mm.cap mm.bs rfl hokt) rfl) (by decide) ?_ | refine GO.ef (by exact Ef.callAt (in_spec _ (S.E (lk.ts[j.toNat]!)) s1 k1 mm.ad mm.bs.length mm.cap mm.bs rfl hokt) rfl) (by decide) ?_) | ((with_reducible apply GPW.atEf); first | refine GPW.ef (Ef.callAt (in_spec _ (S.E (lk.ts[j.toNat]!)) s1 k1 mm.ad mm.bs.length mm.cap mm.bs rfl hokt) rfl) (by decide) ?_ | refine GPW.ef (by exact Ef.callAt (in_spec _ (S.E (lk.ts[j.toNat]!)) s1 k1 mm.ad mm.bs.length mm.cap mm.bs rfl hokt) rfl) (by decide) ?_))
          rintro _ _ ⟨iad, icap, ms, rfl, hms, rfl⟩
          repeat (first | refine run ?_ | intro _ | ((with_reducible apply G.atDraw); first | refine G.draw (id := 34) plC18_3_34 mixed (by kernel_rfl) ?_ | refine G.draw (id := 29) plC18_3_29 mixed (by kernel_rfl) ?_ | refine G.draw (id := 50) plC18_3_50 mixed (by kernel_rfl) ?_))
          rw [pr_get rs ht1]
          refine GPW.ent (Ent.at (A := msgP mm) (Ent.refl _)) ?_
          (first | ((with_reducible apply GO.atPlain); first | refine GO.ef (Ef.callAt (rin_spec (rs (lk.ts[j.toNat]!)) (S.m (lk.ts[j.toNat]!)) (S.E (lk.ts[j.toNat]!)) s1 k1 mm hokt hRt.fit hRt.held (by omega)) rfl) (by decide) ?_ | refine GO.ef (by exact Ef.callAt (rin_spec (rs (lk.ts[j.toNat]!)) (S.m (lk.ts[j.toNat]!)) (S.E (lk.ts[j.toNat]!)) s1 k1 mm hokt hRt.fit hRt.held (by omega)) rfl) (by decide) ?_) | ((with_reducible apply GPW.atEf); first | refine GPW.ef (Ef.callAt (rin_spec (rs (lk.ts[j.toNat]!)) (S.m (lk.ts[j.toNat]!)) (S.E (lk.ts[j.toNat]!)) s1 k1 mm hokt hRt.fit hRt.held (by omega)) rfl) (by decide) ?_ | refine GPW.ef (by exact Ef.callAt (rin_spec (rs (lk.ts[j.toNat]!)) (S.m (lk.ts[j.toNat]!)) (S.E (lk.ts[j.toNat]!)) s1 k1 mm hokt hRt.fit hRt.held (by omega)) rfl) (by decide) ?_))
          rintro _ _ ⟨jad, jcap, ns, rfl, hns, rfl⟩
          have hml := len_of hms
          repeat (first | refine run ?_ | intro _ | ((with_reducible apply G.atDraw); first | refine G.draw (id := 34) plC18_3_34 mixed (by kernel_rfl) ?_ | refine G.draw (id := 29) plC18_3_29 mixed (by kernel_rfl) ?_ | refine G.draw (id := 50) plC18_3_50 mixed (by kernel_rfl) ?_))
          refine GPW.ent (Ent.at (A := allP msgP ns) (Ent.refl _)) ?_
          refine GPW.ent (Ent.at (A := allP msgP ms) (Ent.refl _)) ?_
          (first | ((with_reducible apply GO.atPlain); first | refine GO.ef (Ef.callAll (sameLists_spec iad jad icap jcap ms ns (hms.trans hns.symm) (by omega) (fun p hp => hsm' _ (by rw [← hms]; exact List.mem_map_of_mem hp))) rfl) (by decide) ?_ | refine GO.ef (by exact Ef.callAll (sameLists_spec iad jad icap jcap ms ns (hms.trans hns.symm) (by omega) (fun p hp => hsm' _ (by rw [← hms]; exact List.mem_map_of_mem hp))) rfl) (by decide) ?_) | ((with_reducible apply GPW.atEf); first | refine GPW.ef (Ef.callAll (sameLists_spec iad jad icap jcap ms ns (hms.trans hns.symm) (by omega) (fun p hp => hsm' _ (by rw [← hms]; exact List.mem_map_of_mem hp))) rfl) (by decide) ?_ | refine GPW.ef (by exact Ef.callAll (sameLists_spec iad jad icap jcap ms ns (hms.trans hns.symm) (by omega) (fun p hp => hsm' _ (by rw [← hms]; exact List.mem_map_of_mem hp))) rfl) (by decide) ?_))
          rintro _ _ ⟨rfl, rfl⟩
          repeat (first | refine run ?_ | intro _ | ((with_reducible apply G.atDraw); first | refine G.draw (id := 34) plC18_3_34 mixed (by kernel_rfl) ?_ | refine G.draw (id := 29) plC18_3_29 mixed (by kernel_rfl) ?_ | refine G.draw (id := 50) plC18_3_50 mixed (by kernel_rfl) ?_))
          refine ⟨(⟨upd S.E (lk.ts[j.toNat]!) ((S.E (lk.ts[j.toNat]!)).inn s1 k1 mm.bs).1, S.m⟩, lk), hS.one hR', (by repeat (first | exact EnvSub.nil _ | refine EnvSub.cons rfl ?_)), ?_⟩
          refine Ent.take' (Ent.take' (Ent.trans ?_ (Ent.twoClose ht1)))
          simp only [rside, upd_same, upd_other _ ht1, List.cons_append, List.nil_append]
          repeat (first | exact Ent.refl _ | exact Ent.nil _ | refine Ent.take' ?_ | refine Ent.trans Ent.drop ?_)
    · clear hS
      clear lk S
      rintro ⟨S, lk⟩ hS
      simp only [runEnv, rsysL, rlinkL] at hS ⊢
      repeat (first | refine run ?_ | intro _ | ((with_reducible apply G.atDraw); first | refine G.draw (id := 34) plC18_3_34 mixed (by kernel_rfl) ?_ | refine G.draw (id := 29) plC18_3_29 mixed (by kernel_rfl) ?_ | refine G.draw (id := 50) plC18_3_50 mixed (by kernel_rfl) ?_))
      refine G.loop (α := Int) (fun j => 0 ≤ j ∧ j ≤ 2) (fun j => (21, .int .i64 j) :: runEnv ad n c ce mad mcap lk i) (fun _ => rsysL ce mad mcap es rs S (rlinkL lk [isl (encI .i64) 1 ad l])) (fun j => (2 - j).toNat) 0 ⟨by omega, by omega⟩ (by repeat (first | exact EnvSub.nil _ | refine EnvSub.cons rfl ?_)) (Ent.refl _) ?_
      rintro j ⟨hj0, hj1⟩
      simp only [runEnv, rsysL, rlinkL]
      repeat (first | refine run ?_ | intro _ | ((with_reducible apply G.atDraw); first | refine G.draw (id := 34) plC18_3_34 mixed (by kernel_rfl) ?_ | refine G.draw (id := 29) plC18_3_29 mixed (by kernel_rfl) ?_ | refine G.draw (id := 50) plC18_3_50 mixed (by kernel_rfl) ?_))
      (first | with_reducible refine CB.dec (fun _ => ?_) (fun _ => ?_) | with_reducible refine GB.dec (fun _ => ?_) (fun _ => ?_) | with_reducible refine CB.bool (fun _ => ?_) (fun _ => ?_) | with_reducible refine GB.bool (fun _ => ?_) (fun _ => ?_))
      case refine_2 =>
        repeat (first | refine run ?_ | intro _ | ((with_reducible apply G.atDraw); first | refine G.draw (id := 34) plC18_3_34 mixed (by kernel_rfl) ?_ | refine G.draw (id := 29) plC18_3_29 mixed (by kernel_rfl) ?_ | refine G.draw (id := 50) plC18_3_50 mixed (by kernel_rfl) ?_))
        refine ⟨(i + 1, S, lk), ⟨by simp only []; omega, by simp only []; omega, by simp only []; omega, ?_⟩, by simp only []; omega, (by repeat (first | exact EnvSub.nil _ | refine EnvSub.cons rfl ?_)), Ent.refl _⟩
        simp only []
        rw [show (i + 1).toNat = i.toNat + 1 by omega]
        exact hS
      rename_i hj2
      have hj : j = 0 ∨ j = 1 := by omega
      have hR := hS.e j hj
      have hfs := hR.fit.sent
      have hfl := hR.fit.le
      have hfn := hR.len
      refine G.ent (Ent.at (A := twoL (rside es rs S)) (Ent.twoOpen hj)) ?_
      simp only [rside, List.cons_append, List.nil_append]
      refine G.ent (Ent.at (A := RefR (rs j) (S.m j) (S.E j)) (Ent.refl _)) ?_
      refine G.openX (f := refAtoms (rs j) (S.m j) (S.E j)) ?_
      intro x
      simp only [refAtoms, List.cons_append, List.nil_append]
      refine G.pureE ?_
      rintro ⟨hms, hhs⟩
      have hlen : x.ms.length = (S.m j).length := by rw [← hms]; simp
      simp only [refL, refCells]
      have hge := pr_get rs hj
      rw [← hge]
      repeat (first | refine run ?_ | intro _ | ((with_reducible apply G.atDraw); first | refine G.draw (id := 34) plC18_3_34 mixed (by kernel_rfl) ?_ | refine G.draw (id := 29) plC18_3_29 mixed (by kernel_rfl) ?_ | refine G.draw (id := 50) plC18_3_50 mixed (by kernel_rfl) ?_))
      rw [pr_get es hj]
      (first | ((with_reducible apply GO.atPlain); first | refine GO.ef (Ef.callAt (waiting_spec _ (S.E j)) rfl) (by decide) ?_ | refine GO.ef (by exact Ef.callAt (waiting_spec _ (S.E j)) rfl) (by decide) ?_) | ((with_reducible apply GPW.atEf); first | refine GPW.ef (Ef.callAt (waiting_spec _ (S.E j)) rfl) (by decide) ?_ | refine GPW.ef (by exact Ef.callAt (waiting_spec _ (S.E j)) rfl) (by decide) ?_))
      rintro _ _ ⟨rfl, rfl⟩
      repeat (first | refine run ?_ | intro _ | ((with_reducible apply G.atDraw); first | refine G.draw (id := 34) plC18_3_34 mixed (by kernel_rfl) ?_ | refine G.draw (id := 29) plC18_3_29 mixed (by kernel_rfl) ?_ | refine G.draw (id := 50) plC18_3_50 mixed (by kernel_rfl) ?_))
      rw [hge]
      refine ⟨j + 1, ⟨by omega, by omega⟩, by omega, (by repeat (first | exact EnvSub.nil _ | refine EnvSub.cons rfl ?_)), ?_⟩
      refine Ent.take' (Ent.take' (Ent.trans ?_ (Ent.twoClose hj)))
      simp only [rside, List.cons_append, List.nil_append]
      refine Ent.take' (Ent.trans ?_ (refClose x ⟨hms, hhs⟩))
      simp only [refL, refCells]
      repeat (first | exact Ent.refl _ | exact Ent.nil _ | refine Ent.take' ?_ | refine Ent.trans Ent.drop ?_)
  · rintro _ _
    repeat (first | refine run ?_ | intro _ | ((with_reducible apply G.atDraw); first | refine G.draw (id := 34) plC18_3_34 mixed (by kernel_rfl) ?_ | refine G.draw (id := 29) plC18_3_29 mixed (by kernel_rfl) ?_ | refine G.draw (id := 50) plC18_3_50 mixed (by kernel_rfl) ?_))
    (first | ((with_reducible apply GO.atPlain); first | refine GO.ef (Ef.call (lives_spec) rfl (by repeat (first | exact Ent.refl _ | refine Ent.take ?_))) (by decide) ?_ | refine GO.ef (by exact Ef.call (lives_spec) rfl (by repeat (first | exact Ent.refl _ | refine Ent.take ?_))) (by decide) ?_) | ((with_reducible apply GPW.atEf); first | refine GPW.ef (Ef.call (lives_spec) rfl (by repeat (first | exact Ent.refl _ | refine Ent.take ?_))) (by decide) ?_ | refine GPW.ef (by exact Ef.call (lives_spec) rfl (by repeat (first | exact Ent.refl _ | refine Ent.take ?_))) (by decide) ?_))
    rintro _ _ ⟨_, ⟨rfl, rfl⟩, hL⟩
    simp only [List.cons_append, List.nil_append] at hL; subst hL
    repeat (first | refine run ?_ | intro _ | ((with_reducible apply G.atDraw); first | refine G.draw (id := 34) plC18_3_34 mixed (by kernel_rfl) ?_ | refine G.draw (id := 29) plC18_3_29 mixed (by kernel_rfl) ?_ | refine G.draw (id := 50) plC18_3_50 mixed (by kernel_rfl) ?_))
    exact KX.ends (by first | exact ResOk.tmps rfl | (repeat (first | exact ResOk.nil | refine ResOk.tmp rfl ?_ | refine ResOk.cell rfl (by rfl) ?_ | refine ResOk.cell1 rfl ?_))) (Ent.nil _) ⟨rfl, trivial⟩
end Go.Proofs.Ytnpienjfapjjoaa
