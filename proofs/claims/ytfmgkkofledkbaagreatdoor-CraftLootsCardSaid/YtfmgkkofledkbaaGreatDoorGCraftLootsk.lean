/- Lemmas and contracts of functions, in the order: A1, A2, A3, Y9, A4, Y10. -/
import Derived.Test.YtfmgkkofledkbaaGreatDoorGCraftLootsg
import Derived.Test.YtfmgkkofledkbaaGreatDoorGCraftLootse
import Derived.Test.YtfmgkkofledkbaaGreatDoorGCraftLootsj
import Derived.Test.YtfmgkkofledkbaaGreatDoorGCraftLootsi
namespace Go.Proofs.YtfmgkkofledkbaaGreatDoor
open Go.V
/-- A ledger seen by its balances and totals. -/
structure AbsB where
  bal : Int → Int → Int
  tot : Int → Int
def AbsB.mv (A : AbsB) (m : MvM) : AbsB := ⟨fun a i => A.bal a i - (if m.frm ≠ 0 ∧ a = m.frm ∧ i = m.item then m.n else 0) + (if m.to ≠ 0 ∧ a = m.to ∧ i = m.item then m.n else 0), fun i => A.tot i + (if i = m.item then (if m.frm = 0 then m.n else 0) - (if m.to = 0 then m.n else 0) else 0)⟩
def AbsB.mvs (A : AbsB) (ms : List MvM) : AbsB := ms.foldl AbsB.mv A
/-- A move can be made. -/
def AbsB.can (A : AbsB) (m : MvM) : Prop := (m.frm = 0 ∨ m.n ≤ A.bal m.frm m.item) ∧ (A.mv m).tot m.item ≤ 1099511627776
instance (A : AbsB) (m : MvM) : Decidable (A.can m) := by unfold AbsB.can; infer_instance
def AbsB.cans : AbsB → List MvM → Prop
  | _, [] => True
  | A, m :: ms => A.can m ∧ (A.mv m).cans ms
instance decCans : ∀ (A : AbsB) (ms : List MvM), Decidable (A.cans ms)
  | _, [] => isTrue trivial
  | A, m :: ms => by unfold AbsB.cans; have := decCans (A.mv m) ms; infer_instance
structure WAbs (W : Wk) (A : AbsB) (k : Nat) : Prop where
  bal : ∀ a i, lsum (W.stk a i) = A.bal a i
  tot : ∀ i, W.tot i = A.tot i
  len : ∀ a i, (W.stk a i).length ≤ k
theorem newTot_abs {W : Wk} {A : AbsB} (h : ∀ i, W.tot i = A.tot i) (m : MvM) : newTot W m = (A.mv m).tot m.item := by
  unfold newTot AbsB.mv
  dsimp only
  rw [h, if_pos rfl]
  omega
theorem takeStk_abs {mix : Int → Bool} {W : Wk} {m : MvM} {A : AbsB} {k nf : Nat} (hO : W.Ok nf) (h : WAbs W A k) (hn : 1 ≤ m.n) (hc : m.frm = 0 ∨ m.n ≤ A.bal m.frm m.item) :
    ∀ a i, lsum (takeStk mix W m a i) = A.bal a i - (if m.frm ≠ 0 ∧ a = m.frm ∧ i = m.item then m.n else 0) ∧ (takeStk mix W m a i).length ≤ k := by
  intro a i
  unfold takeStk
  by_cases hf : m.frm = 0
  · rw [if_pos hf, if_neg (fun x => x.1 hf)]
    exact ⟨by rw [h.bal]; omega, h.len a i⟩
  · rw [if_neg hf]
    unfold upd2
    by_cases ha : a = m.frm ∧ i = m.item
    · rw [if_pos ha, if_pos ⟨hf, ha⟩]
      obtain ⟨rfl, rfl⟩ := ha
      have hb : m.n ≤ A.bal m.frm m.item := hc.resolve_left hf
      obtain ⟨o1, o2⟩ := hO.stk m.frm m.item
      refine ⟨?_, Nat.le_trans (div_len _ _ _).2 (h.len _ _)⟩
      rw [leftL_sum o2 (by omega) (by rw [h.bal]; exact hb), h.bal]
    · rw [if_neg ha, if_neg (fun x => ha x.2)]
      exact ⟨by rw [h.bal]; omega, h.len a i⟩
theorem move_abs {sh : Int} {nf : Nat} {mix : Int → Bool} {s : StM} {W : Wk} {m : MvM} {A : AbsB} {k : Nat} (hO : W.Ok nf) (h : WAbs W A k) (hk : k < 4096) (hn : 1 ≤ m.n) (hc : A.can m) :
    (moveM sh nf mix s W m).1 = 0 ∧ WAbs (moveM sh nf mix s W m).2 (A.mv m) (k + 1) := by
  have hts := takeStk_abs (mix := mix) hO h hn hc.1
  have h1 : ¬ (m.frm ≠ 0 ∧ lsum (W.stk m.frm m.item) < m.n) := by
    rintro ⟨q1, q2⟩
    have := hc.1.resolve_left q1
    rw [h.bal] at q2
    omega
  have hnt := newTot_abs h.tot m
  have h2 : ¬ newTot W m > 1099511627776 := by
    rw [hnt]
    have := hc.2
    omega
  have htot : ∀ i, upd W.tot m.item (newTot W m) i = (A.mv m).tot i := by
    intro i
    unfold upd
    split
    · rename_i q; rw [hnt, q]
    · rename_i q
      rw [h.tot]
      unfold AbsB.mv
      dsimp only
      rw [if_neg q]
      omega
  unfold moveM
  rw [if_neg h1, if_neg h2]
  by_cases h3 : m.to = 0
  · rw [if_pos h3]
    refine ⟨rfl, ?_, htot, fun a i => Nat.le_succ_of_le (hts a i).2⟩
    intro a i
    show lsum (takeStk mix W m a i) = _
    rw [(hts a i).1]
    show _ = A.bal a i - _ + (if m.to ≠ 0 ∧ a = m.to ∧ i = m.item then m.n else 0)
    rw [if_neg (c := m.to ≠ 0 ∧ a = m.to ∧ i = m.item) (fun x => x.1 h3)]
    omega
  · rw [if_neg h3, if_neg (by have := (hts m.to m.item).2; omega)]
    refine ⟨rfl, ?_, htot, ?_⟩
    · intro a i
      show lsum (upd2 (takeStk mix W m) m.to m.item _ a i) = A.bal a i - _ + _
      unfold upd2
      by_cases ha : a = m.to ∧ i = m.item
      · rw [if_pos ha, lsum_lputL, (hts m.to m.item).1, if_pos (c := m.to ≠ 0 ∧ a = m.to ∧ i = m.item) ⟨h3, ha⟩]
        obtain ⟨rfl, rfl⟩ := ha
        rfl
      · rw [if_neg ha, (hts a i).1, if_neg (c := m.to ≠ 0 ∧ a = m.to ∧ i = m.item) (fun x => ha x.2)]
        omega
    · intro a i
      show (upd2 (takeStk mix W m) m.to m.item _ a i).length ≤ _
      unfold upd2
      split
      · exact Nat.le_trans (lputL_len _ _) (by have := (hts m.to m.item).2; omega)
      · exact Nat.le_succ_of_le (hts a i).2
theorem moves_abs {sh : Int} {nf : Nat} {mix : Int → Bool} {s : StM} (hsh : 0 ≤ sh) : ∀ (ms : List MvM) {W : Wk} {A : AbsB} {k : Nat}, W.Ok nf → WAbs W A k → k + ms.length ≤ 4096 → (∀ m ∈ ms, 1 ≤ m.n ∧ m.n ≤ 1099511627776) → A.cans ms →
    (movesM sh nf mix s W ms).1 = 0 ∧ WAbs (movesM sh nf mix s W ms).2 (A.mvs ms) (k + ms.length)
  | [], _, _, _, _, h, _, _, _ => ⟨rfl, h⟩
  | m :: ms, W, A, k, hO, h, hk, hn, hc => by
    simp only [List.length_cons] at hk
    have hn1 := hn m List.mem_cons_self
    obtain ⟨e, h1⟩ := move_abs (sh := sh) (mix := mix) (s := s) hO h (by omega) hn1.1 hc.1
    obtain ⟨hO1, _⟩ := moveM_ok hO takeC hn1 hsh e
    obtain ⟨e2, h2⟩ := moves_abs (mix := mix) (s := s) hsh ms hO1 h1 (by omega) (fun x hx => hn x (List.mem_cons_of_mem _ hx)) hc.2
    have e3 : movesM sh nf mix s W (m :: ms) = movesM sh nf mix s (moveM sh nf mix s W m).2 ms := by
      show (if (moveM sh nf mix s W m).1 = 0 then _ else _) = _
      rw [if_pos e]
    rw [e3]
    refine ⟨e2, ?_⟩
    rw [List.length_cons, show k + (ms.length + 1) = k + 1 + ms.length by omega]
    exact h2
structure AbsR (S : LedM) (A : AbsB) : Prop where
  bal : ∀ a i, lsum (S.stk a i) = A.bal a i
  tot : ∀ i, S.tot i = A.tot i
  len : ∀ a i, (S.stk a i).length ≤ S.flows.length
theorem led0_abs (sh : Int) (c : CatM) : AbsR (led0 sh c) ⟨fun _ _ => 0, fun _ => 0⟩ := ⟨fun _ _ => rfl, fun _ => rfl, fun _ _ => Nat.le_refl _⟩
/-- A step that is possible and whose moves can be made is posted. -/
theorem post_abs {S : LedM} {A : AbsB} {s : StM} (hS : S.Ok) (h : AbsR S A) (hl : S.steps.length < 65536) (hf : S.flows.length + s.moves.length ≤ 4096) (hp : possP S.cat S.now s) (hc : A.cans s.moves) :
    (tryM S s).1 = 0 ∧ postM S s = postS S s ∧ AbsR (postM S s) (A.mvs s.moves) ∧ (postM S s).now = s.tick ∧ (postM S s).flows.length = S.flows.length + s.moves.length := by
  have e : tryM S s = movesM S.shard S.flows.length (mixOf S.cat) (s.at (stepId S)) (wk0 S) s.moves := by
    unfold tryM
    rw [if_neg (by omega), if_neg (fun q => q hp)]
  have hn : ∀ m ∈ s.moves, 1 ≤ m.n ∧ m.n ≤ 1099511627776 := fun m hm => by
    have h4 := hp.2.2.2.1 m hm
    unfold fitsM at h4
    rw [dB_eq] at h4
    exact (of_decide_eq_true h4).2.1
  obtain ⟨e1, h1⟩ := moves_abs (mix := mixOf S.cat) (s := s.at (stepId S)) hS.shard.1 s.moves (W := wk0 S) (A := A) (k := S.flows.length) (wk0_ok hS) ⟨h.bal, h.tot, h.len⟩ hf hn hc
  rw [← e] at e1 h1
  have e2 : postM S s = postS S s := by unfold postM; rw [if_pos e1]
  have hfl : (postM S s).flows.length = S.flows.length + s.moves.length := by
    rw [e2]
    have := (tryM_ok hS takeC e1).2.2.2
    simp only [postS, List.length_append, this]
  refine ⟨e1, e2, ⟨?_, ?_, ?_⟩, ?_, hfl⟩
  · rw [e2]; exact h1.bal
  · rw [e2]; exact h1.tot
  · intro a i
    rw [hfl, e2]
    exact h1.len a i
  · rw [e2]
    simp [LedM.now, postS, StM.at]
theorem postM_cat (S : LedM) (s : StM) : (postM S s).cat = S.cat := by unfold postM; split <;> rfl
theorem postM_steps {S : LedM} {s : StM} : (postM S s).steps.length ≤ S.steps.length + 1 := by
  unfold postM
  split
  · simp [postS]
  · omega
end Go.Proofs.YtfmgkkofledkbaaGreatDoor

namespace Go.Proofs.YtfmgkkofledkbaaGreatDoor
open Go.V
theorem fits_of {k : Nat} {fp tp : Int → Bool} {m : MvM} (h1 : 0 ≤ m.item ∧ m.item < k) (h2 : 1 ≤ m.n ∧ m.n ≤ 1099511627776) (h3 : accP m.frm) (h4 : accP m.to) (h5 : m.frm ≠ m.to) (h6 : fp m.frm = true) (h7 : tp m.to = true) (h8 : m.parts = []) : fitsM k fp tp m = true := by
  unfold fitsM
  rw [dB_pos ⟨h1, h2, h3, h4, h5, h6, h7, by rw [h8]; rfl⟩]
theorem kFrom2 {n : Int} (h : n ≠ 0) : kFrom 2 n = true := by unfold kFrom; rw [if_neg (by decide), if_neg (by decide)]; exact dB_pos h
theorem kTo2 {n : Int} (h : n ≠ 0) : kTo 2 n = true := by unfold kTo; rw [if_neg (by decide), if_neg (by decide)]; exact dB_pos h
theorem kFrom0 : kFrom 0 0 = true := by unfold kFrom; rw [if_pos rfl]; exact dB_pos rfl
theorem kTo0 {n : Int} (h : n ≠ 0) : kTo 0 n = true := by unfold kTo; rw [if_neg (by decide), if_neg (by decide)]; exact dB_pos h
theorem poss_of {c : CatM} {now kind actor tick : Int} {ms : List MvM} (hk : kind ≠ 4) (ha : accP actor) (ht : 0 ≤ tick ∧ tick ≤ 1099511627776) (hn : now ≤ tick) (hl : 1 ≤ ms.length ∧ ms.length ≤ 64) (hf : ∀ m ∈ ms, fitsM c.items.length (kFrom kind) (kTo kind) m = true) : possP c now (stepOf kind actor tick (-1) 0 ms) := by
  refine ⟨ha, ⟨ht.1, ht.2, hn⟩, hl, hf, ?_⟩
  unfold wholeM
  rw [if_neg (show ¬ (stepOf kind actor tick (-1) 0 ms).kind = 4 from hk)]
  exact ⟨rfl, rfl⟩
/-- A ledger as it is seen. -/
structure AtL (S : LedM) (c : CatM) (A : AbsB) (t : Int) (n m : Nat) : Prop where
  ok : S.Ok
  cat : S.cat = c
  abs : AbsR S A
  now : S.now = t
  steps : S.steps.length ≤ n
  flows : S.flows.length ≤ m
theorem AtL.post {S : LedM} {c : CatM} {A : AbsB} {t : Int} {n m : Nat} (h : AtL S c A t n m) {kind actor tick : Int} {ms : List MvM} (hk : kind ≠ 4) (ha : accP actor) (ht : 0 ≤ tick ∧ tick ≤ 1099511627776) (hn : t ≤ tick) (hl : 1 ≤ ms.length ∧ ms.length ≤ 64) (hf : ∀ x ∈ ms, fitsM c.items.length (kFrom kind) (kTo kind) x = true) (hc : A.cans ms) (h1 : n < 65536) (h2 : m + ms.length ≤ 4096) :
    (tryM S (stepOf kind actor tick (-1) 0 ms)).1 = 0 ∧ AtL (postM S (stepOf kind actor tick (-1) 0 ms)) c (A.mvs ms) tick (n + 1) (m + ms.length) := by
  have hp : possP S.cat S.now (stepOf kind actor tick (-1) 0 ms) := poss_of hk ha ht (by rw [h.now]; exact hn) hl (by rw [h.cat]; exact hf)
  have h3 := h.steps
  have h4 := h.flows
  obtain ⟨e1, e2, e3, e4, e5⟩ := post_abs (s := stepOf kind actor tick (-1) 0 ms) h.ok h.abs (by omega) (show S.flows.length + ms.length ≤ 4096 by omega) hp hc
  refine ⟨e1, postM_ok h.ok takeC, by rw [postM_cat, h.cat], e3, e4, ?_, ?_⟩
  · have := postM_steps (S := S) (s := stepOf kind actor tick (-1) 0 ms)
    omega
  · rw [e5]
    show S.flows.length + ms.length ≤ _
    omega
theorem AtL.led0 {sh : Int} {c : CatM} (h : 0 ≤ sh ∧ sh < 12) : AtL (led0 sh c) c ⟨fun _ _ => 0, fun _ => 0⟩ 0 0 0 := ⟨led0_ok h, rfl, led0_abs sh c, rfl, Nat.zero_le _, Nat.zero_le _⟩
/-- What a hold account has of an item is given back. -/
def AbsB.gb (acc hold : Int) (A : AbsB) (i : Int) : AbsB := if A.bal hold i = 0 then A else A.mv ⟨hold, acc, i, A.bal hold i, []⟩
def AbsB.gbs (acc hold : Int) (A : AbsB) (k : Nat) : AbsB := (List.range k).foldl (fun A (i : Nat) => A.gb acc hold (i : Int)) A
theorem AbsB.gbs_succ (acc hold : Int) (A : AbsB) (k : Nat) : A.gbs acc hold (k + 1) = (A.gbs acc hold k).gb acc hold (k : Int) := by
  unfold AbsB.gbs
  rw [List.range_succ, List.foldl_append]
  rfl
theorem AtL.gb {S : LedM} {c : CatM} {A : AbsB} {t : Int} {n m : Nat} (h : AtL S c A t n m) {acc tick hold i : Int} (ha : accP acc ∧ acc ≠ 0) (hh : accP hold ∧ hold ≠ 0) (hne : hold ≠ acc) (ht : 0 ≤ tick ∧ tick ≤ 1099511627776) (hn : t ≤ tick) (hi : 0 ≤ i ∧ i < c.items.length) (hb : 0 ≤ A.bal hold i ∧ A.bal hold i ≤ 1099511627776) (hto : A.tot i ≤ 1099511627776) (h1 : n < 65536) (h2 : m + 1 ≤ 4096) :
    ∃ t', (t' = t ∨ t' = tick) ∧ AtL (gbS acc tick hold S i) c (A.gb acc hold i) t' (n + 1) (m + 1) := by
  have hs : lsum (S.stk hold i) = A.bal hold i := h.abs.bal hold i
  unfold gbS AbsB.gb
  rw [hs]
  by_cases h0 : A.bal hold i = 0
  · rw [if_pos h0, if_pos h0]
    exact ⟨t, .inl rfl, ⟨h.ok, h.cat, h.abs, h.now, by have := h.steps; omega, by have := h.flows; omega⟩⟩
  · rw [if_neg h0, if_neg h0]
    have hp := h.post (kind := 2) (actor := acc) (tick := tick) (ms := [⟨hold, acc, i, A.bal hold i, []⟩]) (by decide) ha.1 ht hn (by simp) (by
      intro x hx
      rw [List.mem_singleton.1 hx]
      exact fits_of hi ⟨show (1 : Int) ≤ A.bal hold i by omega, hb.2⟩ hh.1 ha.1 hne (kFrom2 hh.2) (kTo2 ha.2) rfl) ⟨⟨.inr (Int.le_refl _), by
      show A.tot i + (if i = i then (if hold = 0 then A.bal hold i else 0) - (if acc = 0 then A.bal hold i else 0) else 0) ≤ _
      rw [if_pos rfl, if_neg hh.2, if_neg ha.2]
      omega⟩, trivial⟩ h1 h2
    exact ⟨tick, .inr rfl, hp.2⟩
end Go.Proofs.YtfmgkkofledkbaaGreatDoor

namespace Go.Proofs.YtfmgkkofledkbaaGreatDoor
open Go.V
def sd : List Int := [115, 101, 101, 100]
def exMs : List MvM := [⟨0, 1, 1, 6, []⟩, ⟨0, 1, 2, 3, []⟩]
noncomputable def exL1 : LedM := postM (led0 0 cat16) (stepOf 0 0 0 (-1) 0 exMs)
def A0 : AbsB := ⟨fun _ _ => 0, fun _ => 0⟩
def A1m : AbsB := A0.mvs exMs
def exT1 : List MvM := [⟨1, 536870912, 1, 4, []⟩, ⟨1, 536870912, 2, 2, []⟩]
def exT2 : List MvM := [⟨1, 536870913, 1, 2, []⟩, ⟨1, 536870913, 2, 1, []⟩]
def A2m : AbsB := A1m.mvs exT1
def A3m : AbsB := A2m.mvs exT2
noncomputable def exL2 : LedM := postM exL1 (stepOf 2 1 10 (-1) 0 exT1)
noncomputable def exL3 : LedM := postM exL2 (stepOf 2 1 10 (-1) 0 exT2)
def exJ0 : JobM := ⟨0, 1, 536870912, 1, 2, 10, 15, false, 0, 0⟩
def exJ1 : JobM := ⟨1, 1, 536870913, 1, 1, 15, 20, false, 0, 0⟩
theorem exAt1 : AtL exL1 cat16 A1m 0 1 2 := by
  refine (AtL.post (AtL.led0 (by decide)) (kind := 0) (actor := 0) (tick := 0) (ms := exMs) (by decide) ⟨by decide, by decide⟩ (by decide) (by decide) (by decide) ?_ (by decide) (by decide) (by decide)).2
  intro x hx
  simp only [exMs, List.mem_cons, List.not_mem_nil, or_false] at hx
  rcases hx with rfl | rfl
  · exact fits_of (by decide) (by decide) ⟨by decide, by decide⟩ ⟨by decide, by decide⟩ (by decide) kFrom0 (kTo0 (by decide)) rfl
  · exact fits_of (by decide) (by decide) ⟨by decide, by decide⟩ ⟨by decide, by decide⟩ (by decide) kFrom0 (kTo0 (by decide)) rfl
theorem exAt2 : (tryM exL1 (stepOf 2 1 10 (-1) 0 exT1)).1 = 0 ∧ AtL exL2 cat16 A2m 10 2 4 := by
  refine AtL.post exAt1 (kind := 2) (actor := 1) (tick := 10) (ms := exT1) (by decide) ⟨by decide, by decide⟩ (by decide) (by decide) (by decide) ?_ (by decide) (by decide) (by decide)
  intro x hx
  simp only [exT1, List.mem_cons, List.not_mem_nil, or_false] at hx
  rcases hx with rfl | rfl
  · exact fits_of (by decide) (by decide) ⟨by decide, by decide⟩ ⟨by decide, by decide⟩ (by decide) (kFrom2 (by decide)) (kTo2 (by decide)) rfl
  · exact fits_of (by decide) (by decide) ⟨by decide, by decide⟩ ⟨by decide, by decide⟩ (by decide) (kFrom2 (by decide)) (kTo2 (by decide)) rfl
theorem exAt3 : (tryM exL2 (stepOf 2 1 10 (-1) 0 exT2)).1 = 0 ∧ AtL exL3 cat16 A3m 10 3 6 := by
  refine AtL.post exAt2.2 (kind := 2) (actor := 1) (tick := 10) (ms := exT2) (by decide) ⟨by decide, by decide⟩ (by decide) (by decide) (by decide) ?_ (by decide) (by decide) (by decide)
  intro x hx
  simp only [exT2, List.mem_cons, List.not_mem_nil, or_false] at hx
  rcases hx with rfl | rfl
  · exact fits_of (by decide) (by decide) ⟨by decide, by decide⟩ ⟨by decide, by decide⟩ (by decide) (kFrom2 (by decide)) (kTo2 (by decide)) rfl
  · exact fits_of (by decide) (by decide) ⟨by decide, by decide⟩ ⟨by decide, by decide⟩ (by decide) (kFrom2 (by decide)) (kTo2 (by decide)) rfl
theorem exRule (c : CatM) (h : c = cat16) : ruleP c.rules 1 false := by subst h; exact ⟨by decide, by decide, rfl⟩
theorem exIn {Y : YardM} {S : LedM} {now : Int} (h : S.now = now) {acc tick times : Int} (h1 : playerP acc) (h2 : Y.tick ≤ tick ∧ now ≤ tick ∧ tick ≤ 1099511627776) (h3 : jtimesP times) : playerP acc ∧ tickP Y.tick S.now tick ∧ jtimesP times := ⟨h1, by rw [h]; exact h2, h3⟩
theorem exStart1 : startM exL1 (yard0 sd) 1 2 1 2 10 = ((0, 0), exL2, ⟨sd, [exJ0], 10, 0⟩) := by
  rw [startM_in (exIn exAt1.now (by decide) (by decide) (by decide)) (exRule _ exAt1.cat) (r := cat16.rules[1]!) (by rw [exAt1.cat]; rfl)]
  rw [if_neg (by decide), if_neg ?_]
  · rfl
  · rintro ⟨_, h⟩
    exact h exAt2.1
theorem exStart2 : startM exL2 ⟨sd, [exJ0], 10, 0⟩ 1 2 1 1 10 = ((1, 0), exL3, ⟨sd, [exJ0, exJ1], 10, 0⟩) := by
  rw [startM_in (exIn exAt2.2.now (by decide) (by decide) (by decide)) (exRule _ exAt2.2.cat) (r := cat16.rules[1]!) (by rw [exAt2.2.cat]; rfl)]
  rw [if_neg (by decide), if_neg ?_]
  · rfl
  · rintro ⟨_, h⟩
    exact h exAt3.1
theorem exGb : ∀ k, k ≤ 5 → ∃ t', (t' = 10 ∨ t' = 19) ∧ AtL (gbM 1 19 536870913 exL3 k) cat16 (A3m.gbs 1 536870913 k) t' (3 + k) (6 + k)
  | 0, _ => ⟨10, .inl rfl, exAt3.2⟩
  | k + 1, hk => by
    obtain ⟨t', ht, h⟩ := exGb k (by omega)
    have hb : (0 ≤ (A3m.gbs 1 536870913 k).bal 536870913 k ∧ (A3m.gbs 1 536870913 k).bal 536870913 k ≤ 1099511627776) ∧ (A3m.gbs 1 536870913 k).tot k ≤ 1099511627776 := by
      match k, hk with
      | 0, _ => decide
      | 1, _ => decide
      | 2, _ => decide
      | 3, _ => decide
      | 4, _ => decide
    obtain ⟨t2, ht2, h2⟩ := h.gb (acc := 1) (tick := 19) (hold := 536870913) (i := (k : Int)) ⟨⟨by decide, by decide⟩, by decide⟩ ⟨⟨by decide, by decide⟩, by decide⟩ (by decide) (by decide) (by omega) (by
      refine ⟨by omega, ?_⟩
      show (k : Int) < 5
      omega) hb.1 hb.2 (by omega) (by omega)
    rw [gbM_succ, AbsB.gbs_succ]
    exact ⟨t2, by omega, h2⟩
noncomputable def exL4 : LedM := gbM 1 19 536870913 exL3 5
def exJ1d : JobM := ⟨1, 1, 536870913, 1, 1, 15, 20, true, 0, 0⟩
theorem exCancel : cancelM exL3 ⟨sd, [exJ0, exJ1], 10, 0⟩ 1 1 19 = (0, exL4, ⟨sd, [exJ0, exJ1d], 19, 0⟩) := by
  unfold cancelM
  rw [if_neg, if_neg, if_neg, if_neg]
  · rw [exAt3.2.cat]
    rfl
  · decide
  · decide
  · decide
  · rintro h
    exact h ⟨by decide, by rw [exAt3.2.now]; exact ⟨by decide, by decide, by decide⟩⟩
theorem exBal : lsum (exL4.stk 1 1) = 2 ∧ lsum (exL4.stk 1 2) = 1 ∧ lsum (exL4.stk 536870912 1) = 4 := by
  obtain ⟨t', _, h⟩ := exGb 5 (by decide)
  refine ⟨?_, ?_, ?_⟩
  · show lsum ((gbM 1 19 536870913 exL3 5).stk 1 1) = 2
    rw [h.abs.bal]
    decide
  · show lsum ((gbM 1 19 536870913 exL3 5).stk 1 2) = 1
    rw [h.abs.bal]
    decide
  · show lsum ((gbM 1 19 536870913 exL3 5).stk 536870912 1) = 4
    rw [h.abs.bal]
    decide
theorem ex_ok4 : exL4.Ok := by
  obtain ⟨t', _, h⟩ := exGb 5 (by decide)
  exact h.ok
end Go.Proofs.YtfmgkkofledkbaaGreatDoor

namespace Go.Proofs.YtfmgkkofledkbaaGreatDoor
open Go.V
attribute [local irreducible] G GO GP GPW GPK Ev Ef EfR Ent CB GB V.Enters exL1 exL2 exL3 exL4
theorem exY0_ok : (yard0 sd).Ok := ⟨⟨by unfold ByteL; decide, by decide⟩, by decide, by decide, by decide, fun k hk => absurd hk (Nat.not_lt_zero k), fun k hk => absurd hk (Nat.not_lt_zero k)⟩
theorem exY1_ok : YardM.Ok ⟨sd, [exJ0], 10, 0⟩ := by
  refine ⟨⟨by unfold ByteL; decide, by decide⟩, by decide, by decide, by decide, ?_, ?_⟩
  · intro k hk
    obtain rfl : k = 0 := by simp at hk; omega
    exact ⟨rfl, rfl⟩
  · intro k hk
    obtain rfl : k = 0 := by simp at hk; omega
    refine ⟨⟨by decide, by decide⟩, ⟨by decide, by decide⟩, ⟨by decide, by decide, by decide⟩, ⟨by decide, by decide⟩⟩
theorem exY2_ok : YardM.Ok ⟨sd, [exJ0, exJ1], 10, 0⟩ := by
  refine ⟨⟨by unfold ByteL; decide, by decide⟩, by decide, by decide, by decide, ?_, ?_⟩
  · intro k hk
    obtain rfl | rfl : k = 0 ∨ k = 1 := by simp at hk; omega
    · exact ⟨rfl, rfl⟩
    · exact ⟨rfl, rfl⟩
  · intro k hk
    obtain rfl | rfl : k = 0 ∨ k = 1 := by simp at hk; omega
    · refine ⟨⟨by decide, by decide⟩, ⟨by decide, by decide⟩, ⟨by decide, by decide, by decide⟩, ⟨by decide, by decide⟩⟩
    · refine ⟨⟨by decide, by decide⟩, ⟨by decide, by decide⟩, ⟨by decide, by decide, by decide⟩, ⟨by decide, by decide⟩⟩
theorem mvs0_ent : ∀ (ms : List MvV) {L : List HP}, (∀ m ∈ ms, m.m.parts = []) → Ent L (allP mvP ms :: L)
  | [], _, _ => Ent.allP_nil mvP
  | m :: ms, L, h => by
    have h1 : mvP m = isl encLot 3 m.pad [] := by
      show isl encLot 3 m.pad m.m.parts = _
      rw [h m List.mem_cons_self]
    have h2 : Ent (mvP m :: allP mvP ms :: L) (allP mvP (m :: ms) :: L) := Ent.allP_cons (f := mvP) mvP_m
    rw [h1] at h2
    exact (mvs0_ent ms (fun x hx => h x (List.mem_cons_of_mem _ hx))).trans ((Ent.nilIsl encLot 3 m.pad).trans h2)
def exV (b : Nat) : StV := ⟨0, 0, 0, 0, -1, 0, [⟨⟨0, 1, 1, 6, []⟩, none, 0⟩, ⟨⟨0, 1, 2, 3, []⟩, none, 0⟩], some ⟨b, 0, none⟩, 2⟩
theorem exV_m (b : Nat) : (exV b).m = stepOf 0 0 0 (-1) 0 exMs := rfl
theorem exL1_eq : postM (led0 0 cat16) (stepOf 0 0 0 (-1) 0 exMs) = exL1 := by unfold exL1; rfl
attribute [local irreducible] postM tryM postR startM cancelM
set_option maxHeartbeats 4000000 in
theorem lives18_spec {L : List HP} : Tri Tryz.prog 22 #[] (kindsP :: L) (fun v L' => v = .bool true ∧ L' = L) := by
  refine Tri.body (args := []) 126 en22 Tryz.func22 rfl rfl rfl (by simp) ?_
  repeat (first | refine runB ?_ | intro _)
  refine GO.ef (Ef.callAll (catalog16_spec) rfl) (by decide) ?_
  rintro _ _ ⟨c1, rfl, ⟨hc1, hB1⟩, rfl⟩
  repeat (first | refine runB ?_ | intro _)
  refine GO.ef (Ef.callAll (ledNew_ok 0 c1 (by decide) hB1 (hc1 ▸ cat16_good)) rfl) (by decide) ?_
  rintro _ _ ⟨lb, rfl, rfl⟩
  rw [hc1]
  repeat (first | refine runB ?_ | intro _)
  rename_i b27
  refine GO.ef (Ef.convBytes sd rfl rfl) (by decide) ?_
  rintro _ _ ⟨rfl, rfl⟩
  repeat (first | refine runB ?_ | intro _)
  refine GO.ef (Ef.callAll (yardNew_spec lb (some ⟨b27, 0, none⟩) 4 4 sd rfl (by decide) (by decide)) rfl) (by decide) ?_
  rintro _ _ ⟨yb, rfl, rfl⟩
  repeat (first | refine runB ?_ | intro _)
  rename_i b40
  refine GO.ent (L' := LedR lb (led0 0 cat16) :: stM (exV b40) :: stP (exV b40) :: YardR yb lb (yard0 sd) :: L) ?_ ?_
  · refine Ent.trans (B := obj b40 tMv [.int .i64 0, .int .i64 1, .int .i64 1, .int .i64 6, .slice none 0 0, .int .i64 0, .int .i64 1, .int .i64 2, .int .i64 3, .slice none 0 0] :: LedR lb (led0 0 cat16) :: YardR yb lb (yard0 sd) :: L) (by repeat (first | exact Ent.refl _ | exact Ent.nil _ | refine Ent.take' ?_ | refine Ent.trans Ent.drop ?_)) ?_
    refine (Ent.objSl (enc := encMvV) (sz := 5) (n := 2) (xs := (exV b40).moves) rfl rfl (by intro y hy; simp [exV] at hy; rcases hy with rfl | rfl <;> rfl) (by decide)).trans (Ent.trans (B := stM (exV b40) :: LedR lb (led0 0 cat16) :: YardR yb lb (yard0 sd) :: L) Ent.freezeSl ?_)
    refine Ent.trans (B := stP (exV b40) :: stM (exV b40) :: LedR lb (led0 0 cat16) :: YardR yb lb (yard0 sd) :: L) (mvs0_ent (exV b40).moves (by intro y hy; simp [exV] at hy; rcases hy with rfl | rfl <;> rfl)) ?_
    repeat (first | exact Ent.refl _ | exact Ent.nil _ | refine Ent.take' ?_ | refine Ent.trans Ent.drop ?_)
  have hpost := post_spec (L := YardR yb lb (yard0 sd) :: L) lb (led0 0 cat16) (led0_ok (by decide)) cat16_ok (exV b40) ⟨.inl rfl, by simp [exV], by simp [exV], by simp [exV, I64], by intro y hy; simp [exV] at hy; rcases hy with rfl | rfl <;> exact Nat.zero_le _⟩ takeC
  rw [show encStV (exV b40) = [.int .i64 0, .int .i64 0, .int .i64 0, .int .i64 0, .int .i64 (-1), .int .i64 0, .slice (some ⟨b40, 0, none⟩) 2 2] from rfl] at hpost
  refine GO.ef (Ef.callAll (hpost) rfl) (by decide) ?_
  rintro _ _ ⟨rfl, rfl⟩
  rw [exV_m, exL1_eq]
  have hcg : ∀ {S : LedM}, S.cat = cat16 → CatGood S.cat ∧ S.cat.Ok ∧ S.cat.items.length ≤ 64 := fun h => by rw [h]; exact ⟨cat16_good, cat16_ok, by decide⟩
  refine GO.ent (L' := YardR yb lb (yard0 sd) :: LedR lb exL1 :: L) (by repeat (first | exact Ent.refl _ | exact Ent.nil _ | refine Ent.take' ?_ | refine Ent.trans Ent.drop ?_)) ?_
  repeat (first | refine runB ?_ | intro _)
  refine GO.ef (Ef.callAll (start_spec yb lb (yard0 sd) exY0_ok exL1 exAt1.ok (hcg exAt1.cat).1 (hcg exAt1.cat).2.1 1 2 1 2 10) rfl) (by decide) ?_
  rintro _ _ ⟨rfl, rfl⟩
  rw [exStart1]
  dsimp only
  repeat (first | refine runB ?_ | intro _)
  refine GO.ef (Ef.callAll (start_spec yb lb _ exY1_ok exL2 exAt2.2.ok (hcg exAt2.2.cat).1 (hcg exAt2.2.cat).2.1 1 2 1 1 10) rfl) (by decide) ?_
  rintro _ _ ⟨rfl, rfl⟩
  rw [exStart2]
  dsimp only
  repeat (first | refine runB ?_ | intro _)
  have hj0 : ([exJ0, exJ1] : List JobM)[0]! = exJ0 := rfl
  have hj1 : ([exJ0, exJ1] : List JobM)[1]! = exJ1 := rfl
  refine GO.ef (Ef.callAll (job_spec yb lb _ exY2_ok 0 (by decide)) rfl) (by decide) ?_
  rintro _ _ ⟨rfl, rfl⟩
  dsimp only
  rw [hj0]
  repeat (first | refine runB ?_ | intro _)
  rename_i b9
  refine GO.ent (L' := YardR yb lb ⟨sd, [exJ0, exJ1], 10, 0⟩ :: LedR lb exL3 :: obj b9 tJob (encJob exJ0) :: L) (by repeat (first | exact Ent.refl _ | exact Ent.nil _ | refine Ent.take' ?_ | refine Ent.trans Ent.drop ?_)) ?_
  refine GO.ef (Ef.callAll (job_spec yb lb _ exY2_ok 1 (by decide)) rfl) (by decide) ?_
  rintro _ _ ⟨rfl, rfl⟩
  dsimp only
  rw [hj1]
  repeat (first | refine runB ?_ | intro _)
  rename_i b11
  refine GO.ent (L' := LedR lb exL3 :: YardR yb lb ⟨sd, [exJ0, exJ1], 10, 0⟩ :: obj b9 tJob (encJob exJ0) :: obj b11 tJob (encJob exJ1) :: L) (by repeat (first | exact Ent.refl _ | exact Ent.nil _ | refine Ent.take' ?_ | refine Ent.trans Ent.drop ?_)) ?_
  refine GO.openX (f := ledA lb exL3) ?_
  intro x
  simp only [ledA, List.cons_append, List.nil_append]
  refine GO.pureE ?_
  intro hL
  refine GO.fact (osl_cap (ad := x.sad) (xs := x.steps)) ?_
  rintro ⟨hc1, _⟩
  refine GO.fact (osl_cap (ad := x.fad) (xs := x.flows)) ?_
  rintro ⟨hc2, _⟩
  have hcp := lcopy_spec (L := YardR yb lb ⟨sd, [exJ0, exJ1], 10, 0⟩ :: obj b9 tJob (encJob exJ0) :: obj b11 tJob (encJob exJ1) :: L) lb exL3 x hc1 hc2
  simp only [ledL] at hcp
  refine GO.ef (Ef.callAll (hcp) rfl) (by decide) ?_
  rintro _ _ ⟨b2, m1, m2, m3, m4, rfl, rfl⟩
  obtain ⟨x2, hx2⟩ : ∃ x2 : LedX, x2 = { x with ms := m1, mt := m2, mi := m3, mr := m4, scap := x.steps.length, fcap := x.flows.length } := ⟨_, rfl⟩
  rw [← hx2]
  refine GO.ent (L' := YardR yb lb ⟨sd, [exJ0, exJ1], 10, 0⟩ :: obj b2 tLed (ledCells exL3.shard x2) :: gmap kvP Stk.v m1 x.stk :: gmap kvI encN m2 x.tot :: gmap kvI Stk.v m3 x.imp :: gmap kvI Stk.v m4 x.ret :: obj lb tLed (ledCells exL3.shard x) :: gmap kvP Stk.v x.ms x.stk :: gmap kvI encN x.mt x.tot :: osl encStV 7 tStep x.sad x.scap x.steps :: osl encFl 11 tFlow x.fad x.fcap x.flows :: gmap kvI Stk.v x.mi x.imp :: gmap kvI Stk.v x.mr x.ret :: catP x.cat :: allP (fun p : (Int × Int) × Stk => stkP p.2) x.stk :: allP stepP x.steps :: allP flP x.flows :: allP (fun p : Int × Stk => stkP p.2) x.imp :: allP (fun p : Int × Stk => stkP p.2) x.ret :: obj b9 tJob (encJob exJ0) :: obj b11 tJob (encJob exJ1) :: L) (by repeat (first | exact Ent.refl _ | exact Ent.nil _ | refine Ent.take' ?_ | refine Ent.trans Ent.drop ?_)) ?_
  repeat (first | refine runB ?_ | intro _)
  refine GO.ef (Ef.callAll (ycopy_spec yb lb b2 _ exY2_ok) rfl) (by decide) ?_
  rintro _ _ ⟨yc, rfl, rfl⟩
  repeat (first | refine runB ?_ | intro _)
  refine GO.openX (f := yardA yc b2 ⟨sd, [exJ0, exJ1], 10, 0⟩) ?_
  intro xy
  simp only [yardA, yardL, List.cons_append, List.nil_append]
  refine GO.pureE ?_
  intro hFy
  have hs1 := hL.steps
  have hs2 := exAt3.2.ok.steps
  have hnow : (x2.steps.getLast?.map (·.tick)).getD 0 = 10 := by
    rw [hx2]
    show (x.steps.getLast?.map (·.tick)).getD 0 = 10
    rw [now_eq hL, exAt3.2.now]
  have hnl : x2.steps.length ≤ 100000 := by
    rw [hx2]
    show x.steps.length ≤ 100000
    have := congrArg List.length hs1
    rw [List.length_map] at this
    omega
  have hsad : x.sad = x2.sad := by rw [hx2]
  have hstp : x.steps = x2.steps := by rw [hx2]
  rw [hsad, hstp]
  have hnw := lnow_spec (L := obj yc tYard (yardCells b2 ⟨sd, [exJ0, exJ1], 10, 0⟩ xy) :: isl (encZ .u8) 1 xy.sad sd :: osl encJob 10 tJob xy.jad xy.jcap [exJ0, exJ1] :: gmap kvI SlI.v xy.om xy.m :: bigO idsP xy.m :: YardR yb lb ⟨sd, [exJ0, exJ1], 10, 0⟩ :: obj b2 tLed (ledCells exL3.shard x2) :: gmap kvP Stk.v m1 x.stk :: gmap kvI encN m2 x.tot :: gmap kvI Stk.v m3 x.imp :: gmap kvI Stk.v m4 x.ret :: obj lb tLed (ledCells exL3.shard x) :: gmap kvP Stk.v x.ms x.stk :: gmap kvI encN x.mt x.tot :: osl encStV 7 tStep x2.sad x.scap x2.steps :: osl encFl 11 tFlow x.fad x.fcap x.flows :: gmap kvI Stk.v x.mi x.imp :: gmap kvI Stk.v x.mr x.ret :: catP x.cat :: allP (fun p : (Int × Int) × Stk => stkP p.2) x.stk :: allP stepP x2.steps :: allP flP x.flows :: allP (fun p : Int × Stk => stkP p.2) x.imp :: allP (fun p : Int × Stk => stkP p.2) x.ret :: obj b9 tJob (encJob exJ0) :: obj b11 tJob (encJob exJ1) :: L) (b := b2) (sh := exL3.shard) (x := x2) hnl
  rw [hnow] at hnw
  refine GO.ef (Ef.callAll (cancelLate_spec (yb := yc) (lb := b2) (Y := ⟨sd, [exJ0, exJ1], 10, 0⟩) (x := xy) (by decide) 10 20 1 hnw 1 (by decide) (by decide) (by decide) rfl rfl (by decide)) rfl) (by decide) ?_
  rintro _ _ ⟨rfl, rfl⟩
  rw [← hsad, ← hstp]
  repeat (first | refine runB ?_ | intro _)
  have hlc := ledClose (b := lb) (S := exL3) (L := YardR yb lb ⟨sd, [exJ0, exJ1], 10, 0⟩ :: obj b9 tJob (encJob exJ0) :: obj b11 tJob (encJob exJ1) :: L) x hL
  simp only [ledL] at hlc
  refine GO.ent (L' := YardR yb lb ⟨sd, [exJ0, exJ1], 10, 0⟩ :: LedR lb exL3 :: obj b9 tJob (encJob exJ0) :: obj b11 tJob (encJob exJ1) :: L) ?_ ?_
  · refine Ent.trans (B := obj lb tLed (ledCells exL3.shard x) :: gmap kvP Stk.v x.ms x.stk :: gmap kvI encN x.mt x.tot :: osl encStV 7 tStep x.sad x.scap x.steps :: osl encFl 11 tFlow x.fad x.fcap x.flows :: gmap kvI Stk.v x.mi x.imp :: gmap kvI Stk.v x.mr x.ret :: catP x.cat :: allP (fun p : (Int × Int) × Stk => stkP p.2) x.stk :: allP stepP x.steps :: allP flP x.flows :: allP (fun p : Int × Stk => stkP p.2) x.imp :: allP (fun p : Int × Stk => stkP p.2) x.ret :: YardR yb lb ⟨sd, [exJ0, exJ1], 10, 0⟩ :: obj b9 tJob (encJob exJ0) :: obj b11 tJob (encJob exJ1) :: L) (by repeat (first | exact Ent.refl _ | exact Ent.nil _ | refine Ent.take' ?_ | refine Ent.trans Ent.drop ?_)) (hlc.trans (by repeat (first | exact Ent.refl _ | exact Ent.nil _ | refine Ent.take' ?_ | refine Ent.trans Ent.drop ?_)))
  refine GO.ef (Ef.callAll (cancel_spec yb lb _ exY2_ok exL3 exAt3.2.ok (hcg exAt3.2.cat).2.1 (hcg exAt3.2.cat).2.2 1 1 19) rfl) (by decide) ?_
  rintro _ _ ⟨rfl, rfl⟩
  rw [exCancel]
  dsimp only
  refine GO.ent (L' := LedR lb exL4 :: obj b9 tJob (encJob exJ0) :: obj b11 tJob (encJob exJ1) :: L) (by repeat (first | exact Ent.refl _ | exact Ent.nil _ | refine Ent.take' ?_ | refine Ent.trans Ent.drop ?_)) ?_
  simp only [encJob, exJ0, exJ1]
  repeat (first | refine runB ?_ | intro _)
  refine GO.ef (Ef.callAll (balG_spec lb exL4 ex_ok4 1 1) rfl) (by decide) ?_
  rintro _ _ ⟨rfl, rfl⟩
  rw [exBal.1]
  repeat (first | refine runB ?_ | intro _)
  refine GO.ef (Ef.callAll (balG_spec lb exL4 ex_ok4 1 2) rfl) (by decide) ?_
  rintro _ _ ⟨rfl, rfl⟩
  rw [exBal.2.1]
  repeat (first | refine runB ?_ | intro _)
  refine GO.ef (Ef.callAll (balG_spec lb exL4 ex_ok4 536870912 1) rfl) (by decide) ?_
  rintro _ _ ⟨rfl, rfl⟩
  rw [exBal.2.2]
  repeat (first | refine runB ?_ | intro _)
  refine KX.ends (by exact ResOk.tmps rfl) (by repeat (first | exact Ent.refl _ | exact Ent.nil _ | refine Ent.take' ?_ | refine Ent.trans Ent.drop ?_)) ⟨?_, rfl⟩
  rw [dB_pos (by rfl)]
  rfl
end Go.Proofs.YtfmgkkofledkbaaGreatDoor

namespace Go.Proofs.YtfmgkkofledkbaaGreatDoor
open Go.V
def ws16 : List Int := [5, 1]
theorem ws16_sum : psum ws16 ws16.length = 6 := by decide
theorem pick16 (key : Nat) : ∃ r : Nat, (r = 0 ∨ r = 1) ∧ (pickD key ws16 0).1 = r ∧ (pickD key ws16 0).2.1 = 0 := by
  have hr : (rollD key (psum ws16 ws16.length).toNat 0).2.1 = 0 := by
    rw [ws16_sum]
    unfold rollD
    exact rollN_ok (by decide) (by decide) (by decide)
  have h0 : (pickD key ws16 0).2.1 = 0 := by
    rw [pickD_of rfl, if_pos hr]
  obtain ⟨h1, h2⟩ := pickD_lt (key := key) (ws := ws16) (a := 0) (by decide) (by decide) (by decide) rfl h0
  have h3 : ws16.length = 2 := rfl
  rw [h3] at h2
  exact ⟨(pickD key ws16 0).1.toNat, by omega, by omega, h0⟩
def give16 (r : Nat) : Int × Int := if r = 0 then (0, 10) else (3, 2)
theorem give16_rows {r : Nat} (h : r = 0 ∨ r = 1) : (cat16.tables[0]!.rows[r]!).give = [give16 r] := by rcases h with rfl | rfl <;> rfl
theorem give16_bd {r : Nat} (h : r = 0 ∨ r = 1) : (0 ≤ (give16 r).1 ∧ (give16 r).1 < 5) ∧ 1 ≤ (give16 r).2 ∧ (give16 r).2 ≤ 10 := by rcases h with rfl | rfl <;> decide
/-- A loot of the examples' table. -/
theorem loot16 {S : LedM} {A : AbsB} {t n : Nat} (h : AtL S cat16 A t n n) {Y : YardM} (hY : Y.tick ≤ n) (hl : Y.loots = n) (hn : n < 8) (ht : t ≤ n) (hA : ∀ i, 0 ≤ A.tot i ∧ A.tot i ≤ 10 * n) :
    ∃ r : Nat, (r = 0 ∨ r = 1) ∧ (pickD (lootKey Y.seed Y.loots) ws16 0).1 = r ∧ (pickD (lootKey Y.seed Y.loots) ws16 0).2.1 = 0 ∧ ∃ id S' A', lootM S Y 2 0 n = (((r : Int), id, 0), S', { Y with tick := n, loots := n + 1 }) ∧ AtL S' cat16 A' n (n + 1) (n + 1) ∧ (∀ i, 0 ≤ A'.tot i ∧ A'.tot i ≤ 10 * (n + 1)) ∧ ∀ i, S'.tot i = S.tot i + (if i = (give16 r).1 then (give16 r).2 else 0) := by
  obtain ⟨r, hr, e1, e2⟩ := pick16 (lootKey Y.seed Y.loots)
  obtain ⟨g1, g2, g3⟩ := give16_bd hr
  refine ⟨r, hr, e1, e2, ?_⟩
  have hms : (spawnS 2 [give16 r] 1 n) = stepOf 0 0 n (-1) 0 [⟨0, 2, (give16 r).1, (give16 r).2 * 1, []⟩] := rfl
  have hc : A.cans [⟨0, 2, (give16 r).1, (give16 r).2 * 1, []⟩] := by
    refine ⟨⟨.inl rfl, ?_⟩, trivial⟩
    show A.tot (give16 r).1 + (if (give16 r).1 = (give16 r).1 then (if (0 : Int) = 0 then (give16 r).2 * 1 else 0) - (if (2 : Int) = 0 then (give16 r).2 * 1 else 0) else 0) ≤ 1099511627776
    rw [if_pos rfl, if_pos rfl, if_neg (by decide)]
    have := hA (give16 r).1
    omega
  obtain ⟨p1, p2⟩ := h.post (kind := 0) (actor := 0) (tick := (n : Int)) (ms := [⟨0, 2, (give16 r).1, (give16 r).2 * 1, []⟩]) (by decide) ⟨by decide, by decide⟩ (by omega) (by omega) (by simp) (by
    intro x hx
    rw [List.mem_singleton.1 hx]
    exact fits_of g1 ⟨show (1 : Int) ≤ (give16 r).2 * 1 by omega, show (give16 r).2 * 1 ≤ 1099511627776 by omega⟩ (show accP 0 from ⟨by decide, by decide⟩) (show accP 2 from ⟨by decide, by decide⟩) (show (0 : Int) ≠ 2 by decide) kFrom0 (kTo0 (show (2 : Int) ≠ 0 by decide)) rfl) hc (by omega) (by simp; omega)
  rw [← hms] at p1 p2
  have htot : ∀ i, (A.mvs [⟨0, 2, (give16 r).1, (give16 r).2 * 1, []⟩]).tot i = A.tot i + (if i = (give16 r).1 then (give16 r).2 else 0) := by
    intro i
    show A.tot i + (if i = (give16 r).1 then (if (0 : Int) = 0 then (give16 r).2 * 1 else 0) - (if (2 : Int) = 0 then (give16 r).2 * 1 else 0) else 0) = _
    rw [if_pos (c := (0 : Int) = 0) rfl, if_neg (c := (2 : Int) = 0) (by decide)]
    split <;> omega
  refine ⟨postR S (spawnS 2 [give16 r] 1 n), postM S (spawnS 2 [give16 r] 1 n), A.mvs [⟨0, 2, (give16 r).1, (give16 r).2 * 1, []⟩], ?_, p2, ?_, ?_⟩
  · rw [lootM_in (by unfold playerP; decide) ⟨by omega, by rw [h.now]; omega, by omega⟩ ⟨by decide, by rw [h.cat]; decide⟩ (rows := cat16.tables[0]!.rows) (by rw [h.cat]; rfl) (ws := ws16) rfl rfl]
    rw [if_neg (fun q => q e2), e1, Int.toNat_natCast, give16_rows hr, if_neg (by simp), if_neg (fun q => q p1), hl]
  · intro i
    rw [htot]
    have := hA i
    split <;> omega
  · intro i
    rw [p2.abs.tot, htot, h.abs.tot]
theorem totals16 {T T' : Int → Int} {r : Nat} (hr : r = 0 ∨ r = 1) (h : ∀ i, T' i = T i + (if i = (give16 r).1 then (give16 r).2 else 0)) : ((List.range 5).map fun i : Nat => T' (i : Int)) = addL ((List.range 5).map fun i : Nat => T (i : Int)) (bagL 5 [give16 r]) 5 := by
  rcases hr with rfl | rfl
  · simp only [List.range, List.range.loop, List.map_cons, List.map_nil, h, addL, bagL, give16]
    simp [List.range.loop]
  · simp only [List.range, List.range.loop, List.map_cons, List.map_nil, h, addL, bagL, give16]
    simp [List.range.loop]
theorem bag16 {r : Nat} (hr : r = 0 ∨ r = 1) : AmOk 5 [give16 r] ∧ (∀ i, i ≤ [give16 r].length → BagB (bagL 5 ([give16 r].take i))) ∧ ∀ k, k < 5 → (bagL 5 [give16 r])[k]! ≤ 10 := by
  rcases hr with rfl | rfl
  · refine ⟨by unfold AmOk; decide, ?_, by decide⟩
    intro i hi
    match i, hi with
    | 0, _ => unfold BagB; decide
    | 1, _ => unfold BagB; decide
  · refine ⟨by unfold AmOk; decide, ?_, by decide⟩
    intro i hi
    match i, hi with
    | 0, _ => unfold BagB; decide
    | 1, _ => unfold BagB; decide
end Go.Proofs.YtfmgkkofledkbaaGreatDoor

namespace Go.Proofs.YtfmgkkofledkbaaGreatDoor
open Go.V
attribute [local irreducible] G GO GP GPW GPK Ev Ef EfR Ent CB GB V.Enters
theorem dec1_tab : ∀ n : Nat, n < 10 → strOfNums [48 + (n : Int)] = decS n := by decide +kernel
theorem dec2_tab : ∀ n : Nat, n < 100 → 10 ≤ n → strOfNums [48 + (n : Int) / 10] ++ (strOfNums [48 + (n : Int) % 10] ++ ⟨#[]⟩) = decS n := by decide +kernel
theorem ba_nil (a : ByteArray) : a ++ (⟨#[]⟩ : ByteArray) = a := by
  rw [show (⟨#[]⟩ : ByteArray) = ByteArray.empty from rfl]
  exact ByteArray.append_empty
theorem decimal_spec {L : List HP} (n : Nat) (h : n < 100) : Tri Tryz.prog 17 #[.int .i64 (n : Int)] L (fun v L' => v = .string (decS n) ∧ L' = L) := by
  refine Tri.body (args := [.int .i64 (n : Int)]) 23 en17 Tryz.func17 rfl rfl rfl (by simp) ?_
  repeat (first | refine runB ?_ | intro _)
  by_cases h1 : n < 10
  · refine G.unroll 1 (GR.step ?_)
    repeat (first | refine runB ?_ | intro _)
    rename_i b1
    refine GO.ent (Ent.objSl (enc := encZ .u8) (sz := 1) (xs := [48 + (n : Int)]) rfl rfl (by simp [encZ]) (by simp)) ?_
    repeat (first | refine runB ?_ | intro _)
    have hsz : (strOfNums [48 + (n : Int)]).size + (⟨#[]⟩ : ByteArray).size ≤ 1000000000 := by rw [strOfNums_size]; exact (by decide : 1 + 0 ≤ 1000000000)
    refine GO.ev (Ev.addStr rfl rfl hsz) (by decide) ?_
    rw [ba_nil, dec1_tab n h1]
    repeat (first | refine runB ?_ | intro _)
    exact KX.ends (by exact ResOk.tmps rfl) (by repeat (first | exact Ent.refl _ | exact Ent.nil _ | refine Ent.take' ?_ | refine Ent.trans Ent.drop ?_)) ⟨rfl, rfl⟩
  · have h2 : (0 : Int) ≤ (n : Int) / 10 ∧ (n : Int) / 10 < 10 ∧ 0 ≤ (n : Int) % 10 ∧ (n : Int) % 10 < 10 := by omega
    refine G.unroll 2 (GR.step ?_)
    repeat (first | refine runB ?_ | intro _)
    rename_i b1
    refine GO.ent (Ent.objSl (enc := encZ .u8) (sz := 1) (xs := [48 + (n : Int) % 10]) rfl rfl (by simp [encZ]) (by simp)) ?_
    repeat (first | refine runB ?_ | intro _)
    have hsz : (strOfNums [48 + (n : Int) % 10]).size + (⟨#[]⟩ : ByteArray).size ≤ 1000000000 := by rw [strOfNums_size]; exact (by decide : 1 + 0 ≤ 1000000000)
    refine GO.ev (Ev.addStr rfl rfl hsz) (by decide) ?_
    repeat (first | refine runB ?_ | intro _)
    refine GR.step ?_
    repeat (first | refine runB ?_ | intro _)
    rename_i b2
    refine GO.ent (Ent.objSl (enc := encZ .u8) (sz := 1) (xs := [48 + (n : Int) / 10]) rfl rfl (by simp [encZ]) (by simp)) ?_
    repeat (first | refine runB ?_ | intro _)
    have hsz2 : (strOfNums [48 + (n : Int) / 10]).size + (strOfNums [48 + (n : Int) % 10] ++ (⟨#[]⟩ : ByteArray)).size ≤ 1000000000 := by rw [ba_nil, strOfNums_size, strOfNums_size]; exact (by decide : 1 + 1 ≤ 1000000000)
    refine GO.ev (Ev.addStr rfl rfl hsz2) (by decide) ?_
    rw [dec2_tab n h (by omega)]
    repeat (first | refine runB ?_ | intro _)
    exact KX.ends (by exact ResOk.tmps rfl) (by repeat (first | exact Ent.refl _ | exact Ent.nil _ | refine Ent.take' ?_ | refine Ent.trans Ent.drop ?_)) ⟨rfl, rfl⟩
attribute [local irreducible] lootM pickD lootKey bytesH postM tryM
def lootY (n : Int) (k : Nat) : YardM := { yard0 (seedL n) with tick := (k - 1 : Nat), loots := k }
set_option maxHeartbeats 4000000 in
theorem craftLoots_spec {L : List HP} (seed : Int) (hs : I64 seed) (many : Int) (hm : I64 many) : Tri Tryz.prog 3 #[.int .i64 seed, .int .i64 many] (kindsP :: L) (fun v L' => v = .bool true ∧ L' = L) := by
  refine Tri.body (args := [.int .i64 seed, .int .i64 many]) 156 en3 Tryz.func3 rfl rfl rfl (by simp) ?_
  repeat (first | refine runB ?_ | intro _)
  refine GO.ef (Ef.callAll (both_spec seed hs) rfl) (by decide) ?_
  rintro _ _ ⟨yb, lb, mb, rb, sb, c0, rfl, _, rfl⟩
  refine GO.ent (L' := YardR yb lb (yard0 (seedL seed)) :: LedR lb (led0 3 cat16) :: kindsP :: L) (by repeat (first | exact Ent.refl _ | exact Ent.nil _ | refine Ent.take' ?_ | refine Ent.trans Ent.drop ?_)) ?_
  repeat (first | refine runB ?_ | intro _)
  refine GO.ef (Ef.callAll (catalog16_spec) rfl) (by decide) ?_
  rintro _ _ ⟨c, rfl, ⟨hcm, hcB⟩, rfl⟩
  simp only [CatV.cells]
  repeat (first | refine runB ?_ | intro _)
  rename_i b9
  have htm : c.tables.map TbV.m = cat16.tables := by rw [← hcm]; rfl
  have htl : c.tables.length = 1 := by
    have h := congrArg List.length htm
    rw [List.length_map] at h
    exact h
  have hmem : c.tables[(0 : Int).toNat]! ∈ c.tables := mem_get! (by omega)
  have htbm : (c.tables[(0 : Int).toNat]!).m = cat16.tables[0]! := by
    rw [← htm]
    exact (tb_get c.tables (by omega)).symm
  have hrm : (c.tables[(0 : Int).toNat]!.rows).map RwV.m = cat16.tables[0]!.rows := by rw [← htbm]; rfl
  have hrl : c.tables[(0 : Int).toNat]!.rows.length = 2 := by
    have h := congrArg List.length hrm
    rw [List.length_map] at h
    exact h
  have hwm : (c.tables[(0 : Int).toNat]!.rows).map (·.weight) = ws16 := by
    have h : ((c.tables[(0 : Int).toNat]!.rows).map RwV.m).map (·.weight) = ws16 := by rw [hrm]; rfl
    rw [List.map_map] at h
    exact h
  have hwt : ∀ i, i < 2 → c.tables[(0 : Int).toNat]!.rows[i]!.weight = ws16[i]! := fun i hi => by
    rw [← hwm]
    exact (map_get! (fun r : RwV => r.weight) (by omega)).symm
  have hgt : ∀ r, r = 0 ∨ r = 1 → c.tables[(0 : Int).toNat]!.rows[r]!.give.l = [give16 r] := fun r hr => by
    rw [← give16_rows hr, ← hrm, rw_get _ (by omega)]
    rfl
  refine G.ent (L' := isl encRw 2 c.tables[(0 : Int).toNat]!.ad c.tables[(0 : Int).toNat]!.rows :: allP rwP c.tables[(0 : Int).toNat]!.rows :: isl encTb 2 c.tad c.tables :: obj b9 tCat [.slice c.iad c.items.length c.icap, .slice c.rad c.rules.length c.rcap, .slice c.tad c.tables.length c.tcap, .slice c.xad c.taxes.length c.xcap] :: YardR yb lb (yard0 (seedL seed)) :: LedR lb (led0 3 cat16) :: kindsP :: L) ?_ ?_
  · refine Ent.trans (B := catP c :: obj b9 tCat [.slice c.iad c.items.length c.icap, .slice c.rad c.rules.length c.rcap, .slice c.tad c.tables.length c.tcap, .slice c.xad c.taxes.length c.xcap] :: YardR yb lb (yard0 (seedL seed)) :: LedR lb (led0 3 cat16) :: kindsP :: L) (by repeat (first | exact Ent.refl _ | exact Ent.nil _ | refine Ent.take' ?_ | refine Ent.trans Ent.drop ?_)) ?_
    refine catOpenT.trans ?_
    refine Ent.trans (Ent.at (A := allP tbP c.tables) ((Ent.allP_get (f := tbP) hmem).trans Ent.andE)) ?_
    repeat (first | exact Ent.refl _ | exact Ent.nil _ | refine Ent.take' ?_ | refine Ent.trans Ent.drop ?_)
  refine G.loop (α := Nat × Option Addr × Nat) (fun z => z.1 ≤ 2) (fun z => [(0, .int .i64 seed), (1, .int .i64 many), (5, .pointer (some ⟨yb, 0, none⟩)), (6, .pointer (some ⟨lb, 0, none⟩)), (9, .pointer (some ⟨b9, 0, none⟩)), (10, .slice z.2.1 z.1 z.2.2), (11, .int .i64 (z.1 : Int))]) (fun z => osl (encZ .i64) 1 tInt z.2.1 z.2.2 (ws16.take z.1) :: isl encRw 2 c.tables[(0 : Int).toNat]!.ad c.tables[(0 : Int).toNat]!.rows :: allP rwP c.tables[(0 : Int).toNat]!.rows :: isl encTb 2 c.tad c.tables :: obj b9 tCat [.slice c.iad c.items.length c.icap, .slice c.rad c.rules.length c.rcap, .slice c.tad c.tables.length c.tcap, .slice c.xad c.taxes.length c.xcap] :: YardR yb lb (yard0 (seedL seed)) :: LedR lb (led0 3 cat16) :: kindsP :: L) (fun z => 2 - z.1) (0, none, 0) (by decide) (by repeat (first | exact EnvSub.nil _ | refine EnvSub.cons rfl ?_)) (Ent.nilSl (encZ .i64) 1 tInt) ?_
  rintro ⟨i, ad', cap'⟩ hi
  dsimp only at hi ⊢
  have hwl : (ws16.take i).length = i := by rw [List.length_take]; show min i 2 = i; omega
  by_cases hlt : i < 2
  case pos =>
    have hii : (i : Int).toNat = i := by omega
    have e : ws16.take i ++ [c.tables[(0 : Int).toNat]!.rows[(i : Int).toNat]!.weight] = ws16.take (i + 1) := by
      rw [hii, hwt i hlt, List.take_succ_eq_append_getElem (show i < ws16.length from hlt), getElem!_of (show i < ws16.length from hlt)]
    repeat (first | refine runB ?_ | intro _)
    refine GO.ef (Ef.append1 (enc := encZ .i64) (c.tables[(0 : Int).toNat]!.rows[(i : Int).toNat]!.weight) rfl rfl rfl hwl.symm rfl (by rfl) (encZ_one _ _) (by omega) (by omega)) (by decide) ?_
    rintro _ _ ⟨ad2, cap2, rfl, rfl⟩
    rw [e]
    repeat (first | refine runB ?_ | intro _)
    refine ⟨(i + 1, ad2, cap2), by dsimp only; omega, by dsimp only; omega, ?_, by repeat (first | exact Ent.refl _ | exact Ent.nil _ | refine Ent.take' ?_ | refine Ent.trans Ent.drop ?_)⟩
    dsimp only
    rw [show ((i + 1 : Nat) : Int) = (i : Int) + 1 by omega, show (ws16.take (i + 1)).length = i + 1 by rw [List.length_take]; show min (i + 1) 2 = i + 1; omega]
    exact (by repeat (first | exact EnvSub.nil _ | refine EnvSub.cons rfl ?_))
  obtain rfl : i = 2 := by omega
  repeat (first | refine runB ?_ | intro _)
  refine G.ent (L' := isl (encZ .i64) 1 ad' ws16 :: isl encRw 2 c.tables[(0 : Int).toNat]!.ad c.tables[(0 : Int).toNat]!.rows :: allP rwP c.tables[(0 : Int).toNat]!.rows :: isl encTb 2 c.tad c.tables :: obj b9 tCat [.slice c.iad c.items.length c.icap, .slice c.rad c.rules.length c.rcap, .slice c.tad c.tables.length c.tcap, .slice c.xad c.taxes.length c.xcap] :: YardR yb lb (lootY seed 0) :: LedR lb (led0 3 cat16) :: kindsP :: L) ((Ent.frz ad').trans (by repeat (first | exact Ent.refl _ | exact Ent.nil _ | refine Ent.take' ?_ | refine Ent.trans Ent.drop ?_))) ?_
  have hk := Int.emod_nonneg many (show (8 : Int) ≠ 0 by decide)
  have hk2 := Int.emod_lt_of_pos many (show (0 : Int) < 8 by decide)
  obtain ⟨k, hkk⟩ : ∃ k : Nat, many % 8 = (k : Int) := ⟨(many % 8).toNat, by omega⟩
  refine G.loop (α := Nat × LedM) (fun z => z.1 ≤ k ∧ ∃ A, AtL z.2 cat16 A (z.1 - 1 : Nat) z.1 z.1 ∧ ∀ i, 0 ≤ A.tot i ∧ A.tot i ≤ 10 * z.1) (fun z => [(0, .int .i64 seed), (1, .int .i64 many), (5, .pointer (some ⟨yb, 0, none⟩)), (6, .pointer (some ⟨lb, 0, none⟩)), (9, .pointer (some ⟨b9, 0, none⟩)), (10, .slice ad' 2 cap'), (12, .int .i64 (z.1 : Int))]) (fun z => YardR yb lb (lootY seed z.1) :: LedR lb z.2 :: isl (encZ .i64) 1 ad' ws16 :: isl encRw 2 c.tables[(0 : Int).toNat]!.ad c.tables[(0 : Int).toNat]!.rows :: allP rwP c.tables[(0 : Int).toNat]!.rows :: isl encTb 2 c.tad c.tables :: obj b9 tCat [.slice c.iad c.items.length c.icap, .slice c.rad c.rules.length c.rcap, .slice c.tad c.tables.length c.tcap, .slice c.xad c.taxes.length c.xcap] :: kindsP :: L) (fun z => k - z.1) (0, led0 3 cat16) ⟨Nat.zero_le _, _, AtL.led0 (by decide), fun i => ⟨Int.le_refl _, Int.le_refl _⟩⟩ (by repeat (first | exact EnvSub.nil _ | refine EnvSub.cons rfl ?_)) (by repeat (first | exact Ent.refl _ | exact Ent.nil _ | refine Ent.take' ?_ | refine Ent.trans Ent.drop ?_)) ?_
  rintro ⟨n, S⟩ ⟨hn, A, hA, hB⟩
  dsimp only at hn hA hB ⊢
  repeat (first | refine runB ?_ | intro _)
  refine GO.ef (Ef.callAll (around3_spec many 8 hm (by decide) (by decide)) rfl) (by decide) ?_
  rintro _ _ ⟨rfl, rfl⟩
  rw [hkk]
  by_cases hnk : n < k
  case pos =>
    have hYok : (lootY seed n).Ok := ⟨⟨seedL_byte seed, by show 3 ≤ 4096; decide⟩, by show 0 ≤ 60; decide, ⟨by show (0 : Int) ≤ (n : Int); omega, by show (n : Int) < 100; omega⟩, ⟨by show (0 : Int) ≤ ((n - 1 : Nat) : Int); omega, by show ((n - 1 : Nat) : Int) ≤ 1099511627776; omega⟩, fun k hk => absurd hk (Nat.not_lt_zero k), fun k hk => absurd hk (Nat.not_lt_zero k)⟩
    obtain ⟨r, hr, e1, e2, id, S', A', e3, hA', hB', hT⟩ := loot16 hA (Y := lootY seed n) (by show ((n - 1 : Nat) : Int) ≤ n; omega) rfl (by omega) (by omega) hB
    have hY' : ({ lootY seed n with tick := (n : Int), loots := (n : Int) + 1 } : YardM) = lootY seed (n + 1) := by
      unfold lootY
      rw [show n + 1 - 1 = n by omega, show ((n + 1 : Nat) : Int) = (n : Int) + 1 by omega]
    rw [hY'] at e3
    have hkey : lootKey (lootY seed n).seed (lootY seed n).loots = bytesH (numsOf (lootBA ++ decS n)) (seedL seed) := by
      show lootKey (seedL seed) (n : Int) = _
      unfold lootKey
      rw [Int.toNat_natCast]
    rw [hkey] at e1 e2
    have hrr : (r : Int).toNat = r := Int.toNat_natCast r
    have hrl2 : (r : Int).toNat < c.tables[(0 : Int).toNat]!.rows.length := by omega
    have hgr : c.tables[(0 : Int).toNat]!.rows[(r : Int).toNat]!.give.l = [give16 r] := by rw [hrr]; exact hgt r hr
    have hgl : c.tables[(0 : Int).toNat]!.rows[(r : Int).toNat]!.give.l.length = 1 := by rw [hgr]; rfl
    obtain ⟨hg1, hg2, hg3⟩ := bag16 hr
    have hds := decS_size n
    have h7 : lootBA.size = 5 := by decide
    have hsz : (lootBA ++ decS n).size ≤ 100 := by
      rw [ByteArray.size_append]
      omega
    have hcat : S.cat = cat16 := hA.cat
    repeat (first | refine runB ?_ | intro _)
    refine GO.ent (L' := LedR lb S :: YardR yb lb (lootY seed n) :: isl (encZ .i64) 1 ad' ws16 :: isl encRw 2 c.tables[(0 : Int).toNat]!.ad c.tables[(0 : Int).toNat]!.rows :: allP rwP c.tables[(0 : Int).toNat]!.rows :: isl encTb 2 c.tad c.tables :: obj b9 tCat [.slice c.iad c.items.length c.icap, .slice c.rad c.rules.length c.rcap, .slice c.tad c.tables.length c.tcap, .slice c.xad c.taxes.length c.xcap] :: kindsP :: L) (by repeat (first | exact Ent.refl _ | exact Ent.nil _ | refine Ent.take' ?_ | refine Ent.trans Ent.drop ?_)) ?_
    refine GO.ef (Ef.callAll (totals_spec lb S 5 (by decide)) rfl) (by decide) ?_
    rintro _ _ ⟨ad1, cap1, rfl, rfl⟩
    refine GO.ent (L' := YardR yb lb (lootY seed n) :: LedR lb S :: isl (encZ .i64) 1 ad1 ((List.range 5).map fun i : Nat => S.tot (i : Int)) :: isl (encZ .i64) 1 ad' ws16 :: isl encRw 2 c.tables[(0 : Int).toNat]!.ad c.tables[(0 : Int).toNat]!.rows :: allP rwP c.tables[(0 : Int).toNat]!.rows :: isl encTb 2 c.tad c.tables :: obj b9 tCat [.slice c.iad c.items.length c.icap, .slice c.rad c.rules.length c.rcap, .slice c.tad c.tables.length c.tcap, .slice c.xad c.taxes.length c.xcap] :: kindsP :: L) (by repeat (first | exact Ent.refl _ | exact Ent.nil _ | refine Ent.take' ?_ | refine Ent.trans Ent.drop ?_)) ?_
    repeat (first | refine runB ?_ | intro _)
    refine GO.ef (Ef.callAll (loot_spec yb lb (lootY seed n) hYok S hA.ok (by rw [hcat]; exact cat16_good) (by rw [hcat]; exact cat16_ok) 2 0 (n : Int)) rfl) (by decide) ?_
    rintro _ _ ⟨rfl, rfl⟩
    rw [e3]
    dsimp only
    repeat (first | refine runB ?_ | intro _)
    refine GO.ef (Ef.callAll (seed_spec seed hs) rfl) (by decide) ?_
    rintro _ _ ⟨bs, rfl, rfl⟩
    repeat (first | refine runB ?_ | intro _)
    refine GO.ef (Ef.callAll (decimal_spec n (by omega)) rfl) (by decide) ?_
    rintro _ _ ⟨rfl, rfl⟩
    repeat (first | refine runB ?_ | intro _)
    have hadd : lootBA.size + (decS n).size ≤ 1000000000 := by omega
    refine GO.ev (Ev.addStr rfl rfl hadd) (by decide) ?_
    repeat (first | refine runB ?_ | intro _)
    refine GO.ef (Ef.callAll (diceNew_spec (lootBA ++ decS n) (some ⟨bs, 0, none⟩) 3 3 (seedL seed) (seedL_byte seed) rfl (by decide) (by omega) (by decide)) rfl) (by decide) ?_
    rintro _ _ ⟨d, rfl, rfl⟩
    repeat (first | refine runB ?_ | intro _)
    refine GO.ef (Ef.callAll (pick_spec d (bytesH (numsOf (lootBA ++ decS n)) (seedL seed)) 0 ad' 2 cap' ws16 rfl (by decide) (by decide) (by decide) (by decide) (bytesH_lt _ _) (by decide)) rfl) (by decide) ?_
    rintro _ _ ⟨rfl, rfl⟩
    rw [e1, e2]
    repeat (first | refine runB ?_ | intro _)
    refine GO.ent (Ent.at (A := allP rwP c.tables[(0 : Int).toNat]!.rows) (Ent.allP_get (f := rwP) (mem_get! hrl2))) ?_
    refine GO.ef (Ef.callAll (bagOf_spec 5 c.tables[(0 : Int).toNat]!.rows[(r : Int).toNat]!.give.ad c.tables[(0 : Int).toNat]!.rows[(r : Int).toNat]!.give.l.length c.tables[(0 : Int).toNat]!.rows[(r : Int).toNat]!.give.cap c.tables[(0 : Int).toNat]!.rows[(r : Int).toNat]!.give.l rfl (by decide) (by omega) (by rw [hgr]; exact hg1) (by rw [hgr]; exact hg2)) rfl) (by decide) ?_
    rintro _ _ ⟨adg, capg, rfl, rfl⟩
    rw [hgr]
    have hxl : ∀ T : LedM, ((List.range 5).map fun i : Nat => T.tot (i : Int)).length = 5 := fun _ => by simp
    have hxg : ∀ (T : LedM) (k : Nat), k < 5 → ((List.range 5).map fun i : Nat => T.tot (i : Int))[k]! = T.tot (k : Int) := fun T k hk => map_get_range (f := fun i : Nat => T.tot (i : Int)) hk
    have hSt : ∀ i, S.tot i = A.tot i := hA.abs.tot
    have hbx : BagB ((List.range 5).map fun i : Nat => S.tot (i : Int)) := by
      intro x hx
      obtain ⟨i, _, rfl⟩ := List.mem_map.1 hx
      have := hB (i : Int)
      rw [hSt]
      omega
    have hby : BagB (bagL 5 [give16 r]) := by
      have h := hg2 1 (Nat.le_refl _)
      exact h
    have hbl : (bagL 5 [give16 r]).length = 5 := bagL_len 5 _
    have hsum : ∀ k, k < ((List.range 5).map fun i : Nat => S.tot (i : Int)).length → ((List.range 5).map fun i : Nat => S.tot (i : Int))[k]! + (bagL 5 [give16 r])[k]! ≤ 1099511627776 := by
      intro k hk
      rw [hxl] at hk
      rw [hxg S k hk, hSt]
      have h1 := hB (k : Int)
      have h2 := hg3 k hk
      omega
    repeat (first | refine runB ?_ | intro _)
    have hadd2 := bagAdd_spec (L := osl (encZ .i64) 1 tInt adg capg (bagL 5 [give16 r]) :: LedR lb S' :: YardR yb lb (lootY seed (n + 1)) :: isl (encZ .i64) 1 ad1 ((List.range 5).map fun i : Nat => S.tot (i : Int)) :: isl (encZ .i64) 1 ad' ws16 :: isl encRw 2 c.tables[(0 : Int).toNat]!.ad c.tables[(0 : Int).toNat]!.rows :: allP rwP c.tables[(0 : Int).toNat]!.rows :: isl encTb 2 c.tad c.tables :: obj b9 tCat [.slice c.iad c.items.length c.icap, .slice c.rad c.rules.length c.rcap, .slice c.tad c.tables.length c.tcap, .slice c.xad c.taxes.length c.xcap] :: kindsP :: L) ad1 adg cap1 capg ((List.range 5).map fun i : Nat => S.tot (i : Int)) (bagL 5 [give16 r]) (by rw [hbl, hxl]) (by rw [hxl]; decide) hbx hby hsum
    rw [hxl, hbl] at hadd2
    refine GO.ent (L' := osl (encZ .i64) 1 tInt adg capg (bagL 5 [give16 r]) :: LedR lb S' :: YardR yb lb (lootY seed (n + 1)) :: isl (encZ .i64) 1 ad1 ((List.range 5).map fun i : Nat => S.tot (i : Int)) :: isl (encZ .i64) 1 ad' ws16 :: isl encRw 2 c.tables[(0 : Int).toNat]!.ad c.tables[(0 : Int).toNat]!.rows :: allP rwP c.tables[(0 : Int).toNat]!.rows :: isl encTb 2 c.tad c.tables :: obj b9 tCat [.slice c.iad c.items.length c.icap, .slice c.rad c.rules.length c.rcap, .slice c.tad c.tables.length c.tcap, .slice c.xad c.taxes.length c.xcap] :: kindsP :: L) (by repeat (first | exact Ent.refl _ | exact Ent.nil _ | refine Ent.take' ?_ | refine Ent.trans Ent.drop ?_)) ?_
    refine GO.ef (Ef.callAll (hadd2) rfl) (by decide) ?_
    rintro _ _ ⟨ads, caps, rfl, rfl⟩
    rw [← totals16 hr hT]
    refine GO.ent (L' := LedR lb S' :: osl (encZ .i64) 1 tInt ads caps ((List.range 5).map fun i : Nat => S'.tot (i : Int)) :: YardR yb lb (lootY seed (n + 1)) :: isl (encZ .i64) 1 ad' ws16 :: isl encRw 2 c.tables[(0 : Int).toNat]!.ad c.tables[(0 : Int).toNat]!.rows :: allP rwP c.tables[(0 : Int).toNat]!.rows :: isl encTb 2 c.tad c.tables :: obj b9 tCat [.slice c.iad c.items.length c.icap, .slice c.rad c.rules.length c.rcap, .slice c.tad c.tables.length c.tcap, .slice c.xad c.taxes.length c.xcap] :: kindsP :: L) (by repeat (first | exact Ent.refl _ | exact Ent.nil _ | refine Ent.take' ?_ | refine Ent.trans Ent.drop ?_)) ?_
    repeat (first | refine runB ?_ | intro _)
    refine GO.ef (Ef.callAll (totals_spec lb S' 5 (by decide)) rfl) (by decide) ?_
    rintro _ _ ⟨ad2, cap2, rfl, rfl⟩
    repeat (first | refine runB ?_ | intro _)
    refine GO.ef (Ef.callAll (same3_spec ad2 ads 5 5 cap2 caps ((List.range 5).map fun i : Nat => S'.tot (i : Int)) ((List.range 5).map fun i : Nat => S'.tot (i : Int)) (by simp) (by simp) (by simp)) rfl) (by decide) ?_
    rintro _ _ ⟨rfl, rfl⟩
    rw [dB_pos rfl]
    repeat (first | refine runB ?_ | intro _)
    refine ⟨(n + 1, S'), ⟨by dsimp only; omega, A', ?_, ?_⟩, by dsimp only; omega, ?_, by repeat (first | exact Ent.refl _ | exact Ent.nil _ | refine Ent.take' ?_ | refine Ent.trans Ent.drop ?_)⟩
    · dsimp only
      rw [show n + 1 - 1 = n by omega]
      exact hA'
    · dsimp only
      intro i
      have := hB' i
      omega
    · dsimp only
      rw [show ((n + 1 : Nat) : Int) = (n : Int) + 1 by omega]
      exact (by repeat (first | exact EnvSub.nil _ | refine EnvSub.cons rfl ?_))
  have hcat : S.cat = cat16 := hA.cat
  have hYok : (lootY seed n).Ok := ⟨⟨seedL_byte seed, by show 3 ≤ 4096; decide⟩, by show 0 ≤ 60; decide, ⟨by show (0 : Int) ≤ (n : Int); omega, by show (n : Int) < 100; omega⟩, ⟨by show (0 : Int) ≤ ((n - 1 : Nat) : Int); omega, by show ((n - 1 : Nat) : Int) ≤ 1099511627776; omega⟩, fun k hk => absurd hk (Nat.not_lt_zero k), fun k hk => absurd hk (Nat.not_lt_zero k)⟩
  have hlo : lootM S (lootY seed n) 2 1 50 = ((0, 0, 6), S, lootY seed n) := lootM_out (by unfold playerP; decide) ⟨by show ((n - 1 : Nat) : Int) ≤ 50; omega, by rw [hA.now]; omega, by decide⟩ (by rw [hcat]; rintro ⟨_, h⟩; exact absurd h (by decide))
  repeat (first | refine runB ?_ | intro _)
  refine GO.ef (Ef.callAll (loot_spec yb lb (lootY seed n) hYok S hA.ok (by rw [hcat]; exact cat16_good) (by rw [hcat]; exact cat16_ok) 2 1 50) rfl) (by decide) ?_
  rintro _ _ ⟨rfl, rfl⟩
  rw [hlo]
  dsimp only
  repeat (first | refine runB ?_ | intro _)
  refine GO.ent (L' := kindsP :: L) (by repeat (first | exact Ent.refl _ | exact Ent.nil _ | refine Ent.take' ?_ | refine Ent.trans Ent.drop ?_)) ?_
  refine GO.ef (Ef.callAll (lives18_spec) rfl) (by decide) ?_
  rintro _ _ ⟨rfl, rfl⟩
  repeat (first | refine runB ?_ | intro _)
  exact KX.ends (by exact ResOk.tmps rfl) (Ent.refl _) ⟨rfl, rfl⟩
end Go.Proofs.YtfmgkkofledkbaaGreatDoor
