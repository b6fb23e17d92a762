/- ChannelOrder. -/
import Derived.Test.YtnpienjfapjjoaaC8
import Derived.Test.YtnpienjfapjjoaaC11
namespace Go.Proofs.Ytnpienjfapjjoaa
open Go.V

structure Sys where
  E : Int → EndS
  s : Int → List Msg
  x : Int → SlV
  g : Int → Nat
def Sys.m (S : Sys) (j : Int) : List Bytes := (S.s j).map (·.bs)
structure Sys.Inv (S : Sys) (i : Nat) (ps : List Pkt) (ts : List Int) : Prop where
  e : ∀ j, j = 0 ∨ j = 1 → EInv (S.m j) (S.m (1 - j)) (S.g j) (S.g (1 - j)) (S.E j)
  len : ∀ j, j = 0 ∨ j = 1 → (S.s j).length ≤ i ∧ (S.E j).held.length ≤ i ∧ (S.x j).n = (S.s j).length
  small : ∀ j, j = 0 ∨ j = 1 → ∀ b ∈ S.m j, b.length = 2
  tl : ts.length = ps.length ∧ ps.length ≤ 16 * i
  to : ∀ r, r < ps.length → (ts[r]! = 0 ∨ ts[r]! = 1) ∧ PInv (S.m (1 - ts[r]!)) (S.g (1 - ts[r]!)) (ps[r]!).abs
theorem Sys.m_len (S : Sys) (j : Int) : (S.m j).length = (S.s j).length := by simp [Sys.m]
theorem Sys.Inv.ok {S : Sys} {i : Nat} {ps : List Pkt} {ts : List Int} (h : S.Inv i ps ts) (hi : i ≤ 80) {j : Int} (hj : j = 0 ∨ j = 1) : (S.E j).Ok :=
  (h.e j hj).ok (by rw [S.m_len]; have := h.len j hj; omega) (by rw [S.m_len]; have := h.len _ (one_sub_cases hj); omega) (by have := h.len j hj; omega)
theorem Sys.Inv.more {S : Sys} {i : Nat} {ps : List Pkt} {ts : List Int} (h : S.Inv i ps ts) : S.Inv (i + 1) ps ts :=
  ⟨h.e, fun j hj => by have := h.len j hj; omega, h.small, by have := h.tl; omega, h.to⟩
theorem Sys.Inv.send {S : Sys} {i : Nat} {ps : List Pkt} {ts : List Int} (h : S.Inv i ps ts) {k : Int} (hk : k = 0 ∨ k = 1) (m : Msg) (hm : m.bs.length = 2) (x : SlV) (hx : x.n = (S.s k).length + 1) :
    (⟨upd S.E k ((S.E k).send m.bs), upd S.s k (S.s k ++ [m]), upd S.x k x, S.g⟩ : Sys).Inv (i + 1) ps ts := by
  have em : ∀ j, (⟨upd S.E k ((S.E k).send m.bs), upd S.s k (S.s k ++ [m]), upd S.x k x, S.g⟩ : Sys).m j = if j = k then S.m k ++ [m.bs] else S.m j := by
    intro j
    by_cases hj : j = k
    · subst hj; simp [Sys.m, upd]
    · simp [Sys.m, upd, hj]
  refine ⟨?_, ?_, ?_, by have := h.tl; omega, ?_⟩
  · intro j hj
    rw [em, em]
    by_cases hjk : j = k
    · subst hjk
      rw [if_pos rfl, if_neg (by omega)]
      simp only [upd_same]
      exact (h.e j hj).send m.bs
    · have h1 : 1 - j = k := by omega
      rw [if_neg hjk, if_pos h1]
      simp only [upd_ne _ hjk]
      have := (h.e j hj).peerSends m.bs
      rw [h1] at this ⊢
      exact this
  · intro j hj
    have := h.len j hj
    by_cases hjk : j = k
    · subst hjk
      simp only [upd_same, List.length_append, List.length_singleton, EndS.send]
      omega
    · simp only [upd_ne _ hjk]
      omega
  · intro j hj b hb
    rw [em] at hb
    split at hb
    · rcases List.mem_append.1 hb with hb | hb
      · exact h.small k hk b hb
      · simp at hb; subst hb; exact hm
    · exact h.small j hj b hb
  · intro r hr
    obtain ⟨h1, h2⟩ := h.to r hr
    refine ⟨h1, ?_⟩
    rw [em]
    split
    · rename_i he
      rw [he] at h2
      simp only [he]
      exact h2.sends _
    · exact h2
theorem Sys.Inv.quiet {S : Sys} {i : Nat} {ps : List Pkt} {ts : List Int} (h : S.Inv i ps ts) {k : Int} (hk : k = 0 ∨ k = 1) (q : List Pkt) (hq : q.map Pkt.abs = (S.E k).out) (hl : q.length ≤ 16) :
    (⟨upd S.E k { S.E k with owing := false }, S.s, S.x, S.g⟩ : Sys).Inv (i + 1) (ps ++ q) (ts ++ List.replicate q.length (1 - k)) := by
  refine ⟨?_, ?_, h.small, by have := h.tl; simp; omega, ?_⟩
  · intro j hj
    by_cases hjk : j = k
    · subst hjk
      simp only [upd_same]
      exact (h.e j hj).quiet
    · simp only [upd_ne _ hjk]
      exact h.e j hj
  · intro j hj
    have := h.len j hj
    by_cases hjk : j = k
    · subst hjk
      simp only [upd_same]
      omega
    · simp only [upd_ne _ hjk]
      omega
  · intro r hr
    have htl := h.tl
    by_cases hrp : r < ps.length
    · have e1 : (ps ++ q)[r]! = ps[r]! := by simp [List.getElem!_eq_getElem?_getD, List.getElem?_append_left hrp]
      have e2 : (ts ++ List.replicate q.length (1 - k))[r]! = ts[r]! := by simp [List.getElem!_eq_getElem?_getD, List.getElem?_append_left (show r < ts.length by omega)]
      rw [e1, e2]
      exact h.to r hrp
    · simp at hr
      have e1 : (ps ++ q)[r]! = q[r - ps.length]! := by simp [List.getElem!_eq_getElem?_getD, List.getElem?_append_right (show ps.length ≤ r by omega)]
      have e2 : (ts ++ List.replicate q.length (1 - k))[r]! = 1 - k := by
        rw [List.getElem!_eq_getElem?_getD, List.getElem?_append_right (show ts.length ≤ r by omega), List.getElem?_replicate, if_pos (by omega)]
        rfl
      rw [e1, e2, one_sub_sub]
      refine ⟨one_sub_cases hk, ?_⟩
      have hmem : (q[r - ps.length]!).abs ∈ (S.E k).out := by
        rw [← hq]
        refine List.mem_map_of_mem ?_
        rw [List.getElem!_eq_getElem?_getD, List.getElem?_eq_getElem (by omega)]
        exact List.getElem_mem _
      exact (h.e k hk).out _ hmem
theorem Sys.Inv.take {S : Sys} {i : Nat} {ps : List Pkt} {ts : List Int} (h : S.Inv i ps ts) {r : Nat} (hr : r < ps.length) {t : Int} (ht : ts[r]! = t) :
    ∃ k E', (S.E t).inn (ps[r]!).seq (ps[r]!).ack (ps[r]!).m.bs = (E', ((S.m (1 - t)).drop (S.g t)).take k) ∧ S.g t + k ≤ (S.m (1 - t)).length ∧ (⟨upd S.E t E', S.s, S.x, upd S.g t (S.g t + k)⟩ : Sys).Inv (i + 1) ps ts := by
  obtain ⟨h1, h2⟩ := h.to r hr
  rw [ht] at h1 h2
  have h3 := (h.e _ (one_sub_cases h1)).le
  rw [one_sub_sub] at h3
  obtain ⟨k, E', e1, e2, e3, e4⟩ := (h.e t h1).take h3 (fun x hx => by have := h.small _ (one_sub_cases h1) x hx; omega) h2
  refine ⟨k, E', e1, e2, ?_, ?_, h.small, by have := h.tl; omega, ?_⟩
  · intro j hj
    by_cases hjt : j = t
    · subst hjt
      simp only [upd_same, upd_other _ hj]
      exact e3
    · have h4 : 1 - j = t := by omega
      simp only [upd_ne _ hjt]
      have := (h.e j hj).peerGets (gp' := S.g t + k) (by rw [h4]; omega)
      rw [h4] at this ⊢
      simp only [upd_same]
      exact this
  · intro j hj
    have := h.len j hj
    by_cases hjt : j = t
    · subst hjt
      simp only [upd_same]
      omega
    · simp only [upd_ne _ hjt]
      omega
  · intro r' hr'
    obtain ⟨g1, g2⟩ := h.to r' hr'
    refine ⟨g1, ?_⟩
    by_cases hjt : 1 - ts[r']! = t
    · rw [hjt] at g2
      simp only [hjt, upd_same]
      exact g2.more (by omega)
    · simp only [upd_ne _ hjt]
      exact g2
/-- One side. -/
def side (es : Int → Nat) (S : Sys) (j : Int) : List HP := [EndR (es j) (S.E j), osl encM 1 31 (S.x j).ad (S.x j).cap (S.s j), allP msgP (S.s j)]
structure Lk where
  lad : Option Addr
  lcap : Nat
  ps : List Pkt
  tad : Option Addr
  tcap : Nat
  ts : List Int
abbrev linkL (l : Lk) (L : List HP) : List HP := osl encPk 3 44 l.lad l.lcap l.ps :: allP (fun p : Pkt => msgP p.m) l.ps :: osl (encI .i64) 1 3 l.tad l.tcap l.ts :: L
abbrev sysL (ce cs cg : Nat) (es : Int → Nat) (S : Sys) (L : List HP) : List HP :=
  osl encP 1 33 (some ⟨ce, 0, none⟩) 2 (pr es) :: osl encSl 1 42 (some ⟨cs, 0, none⟩) 2 (pr S.x) :: osl (encI .i64) 1 3 (some ⟨cg, 0, none⟩) 2 (pr fun j => (S.g j : Int)) :: twoL (side es S) :: L

theorem Sys.Inv.wlen {S : Sys} {i : Nat} {ps : List Pkt} {ts : List Int} (h : S.Inv i ps ts) {j : Int} (hj : j = 0 ∨ j = 1) : (S.E j).waiting.length ≤ i := by
  obtain ⟨a, h1, h2, h3⟩ := (h.e j hj).wait
  have h4 := h.len j hj
  rw [h3, List.length_drop, S.m_len]
  omega
theorem Sys.Inv.wsmall {S : Sys} {i : Nat} {ps : List Pkt} {ts : List Int} (h : S.Inv i ps ts) {j : Int} (hj : j = 0 ∨ j = 1) : ∀ m ∈ (S.E j).waiting, m.length ≤ 65536 := by
  obtain ⟨a, h1, h2, h3⟩ := (h.e j hj).wait
  intro m hm
  rw [h3] at hm
  have := h.small j hj m (List.mem_of_mem_drop hm)
  omega
theorem g_get {g : Int → Nat} {t : Int} (ht : t = 0 ∨ t = 1) (v : Nat) : (pr fun j => ((upd g t v j : Nat) : Int))[t.toNat]! = (v : Int) := by rcases ht with rfl | rfl <;> rfl
theorem g_set {g : Int → Nat} {t : Int} (ht : t = 0 ∨ t = 1) (v v' : Nat) : (pr fun j => ((upd g t v j : Nat) : Int)).set t.toNat (v' : Int) = pr fun j => ((upd g t v' j : Nat) : Int) := by rcases ht with rfl | rfl <;> rfl
theorem got_at {ms sm : List Msg} {g kk r : Nat} (hms : ms.map (·.bs) = ((sm.map (·.bs)).drop g).take kk) (hr : r < ms.length) : g + r < sm.length ∧ (ms[r]!).bs = (sm[g + r]!).bs := by
  have hl := congrArg List.length hms
  simp at hl
  refine ⟨by omega, ?_⟩
  have h2 := congrArg (fun l => l[r]?) hms
  simp only [List.getElem?_map, List.getElem?_take, List.getElem?_drop] at h2
  rw [List.getElem?_eq_getElem hr, if_pos (by omega), List.getElem?_eq_getElem (by omega)] at h2
  simp at h2
  rw [List.getElem!_eq_getElem?_getD, List.getElem!_eq_getElem?_getD, List.getElem?_eq_getElem hr, List.getElem?_eq_getElem (by omega)]
  simpa using h2
theorem Sys.Inv.waits {S : Sys} {i : Nat} {ps : List Pkt} {ts : List Int} (h : S.Inv i ps ts) {j : Int} (hj : j = 0 ∨ j = 1) : (S.E j).waiting.length ≤ (S.x j).n ∧ (S.x j).n ≤ (S.E j).waiting.length + S.g (1 - j) ∧ (S.x j).n ≤ i ∧ S.g (1 - j) ≤ i := by
  obtain ⟨a, h1, h2, h3⟩ := (h.e j hj).wait
  have h4 := h.len j hj
  have h5 := (h.e _ (one_sub_cases hj)).le
  rw [one_sub_sub, S.m_len] at h5
  rw [S.m_len] at h1
  rw [h3, List.length_drop, S.m_len]
  omega
theorem start_inv (w0 w1 : Int) (h0 : 1 ≤ w0 ∧ w0 ≤ 16) (h1 : 1 ≤ w1 ∧ w1 ≤ 16) : (⟨fun j => if j = 0 then EndS.new w0 else EndS.new w1, fun _ => [], fun _ => ⟨none, 0, 0⟩, fun _ => 0⟩ : Sys).Inv 0 [] [] := by
  refine ⟨?_, ?_, by simp [Sys.m], by simp, by simp⟩
  · intro j hj
    rcases hj with rfl | rfl
    · exact ⟨h0, rfl, ⟨0, by simp [Sys.m], by simp, rfl⟩, rfl, by simp, by simp [EndS.new]⟩
    · exact ⟨h1, rfl, ⟨0, by simp [Sys.m], by simp, rfl⟩, rfl, by simp, by simp [EndS.new]⟩
  · intro j hj
    rcases hj with rfl | rfl <;> simp [EndS.new]
abbrev ordEnv (ad : Option Addr) (n c ce cs cg : Nat) (lk : Lk) (i : Int) : Env := [(1, .slice ad n c), (5, .slice (some ⟨ce, 0, none⟩) 2 2), (6, .slice (some ⟨cs, 0, none⟩) 2 2), (7, .slice (some ⟨cg, 0, none⟩) 2 2), (8, .slice lk.lad lk.ps.length lk.lcap), (9, .slice lk.tad lk.ts.length lk.tcap), (10, .int .i64 i)]

attribute [local irreducible] G GO GP GPW GPK Ev Ef Ent CB GB validB
abbrev plC12_4_17 : List Stp := [.ev 0, .ev 1, .ev 2, .ev 3, .ev 4, .ev 5, .ev 6, .ev 7, .ef 8, .ev 9]
abbrev plC12_4_21 : List Stp := [.ev 0, .ev 1, .ev 2, .ev 3, .ev 4, .ev 5, .ev 6, .ev 7, .ev 8, .ev 9, .ev 10, .ev 11, .ev 12, .ev 13, .ev 14, .ev 15, .ev 16, .ev 17, .ev 18, .ev 19, .ev 20, .ev 21, .ev 22, .ev 23, .ev 24, .ev 25, .ev 26, .ef 27, .ev 28, .ev 29]
abbrev plC12_4_41 : List Stp := [.ev 0, .ev 1, .ev 2, .ev 3, .ev 5, .ev 6, .ev 7, .ev 8, .ev 9, .ef 4, .ev 10, .ev 11, .ev 12, .ev 13, .ev 14, .ev 15, .ev 17, .ev 18, .ev 19, .ev 20, .ev 21, .ev 22, .ev 23, .ev 24, .ev 25, .ev 26, .ev 27, .ef 16, .ev 28, .ev 29]
set_option maxHeartbeats 2000000 in
theorem order_spec (window : Int) (h0 : -9223372036854775808 ≤ window ∧ window ≤ 9223372036854775807) (ad : Option Addr) (n c : Nat) (l : List Int) (hn : n = l.length) (hm : n ≤ maxLen) (hl : ∀ x ∈ l, -9223372036854775808 ≤ x ∧ x ≤ 9223372036854775807) :
    Tri Try.prog 4 #[.int .i64 window, .slice ad n c] [isl (encI .i64) 1 ad l] (fun v L => v = .bool true ∧ True) := by
  have hm' : n ≤ 9223372036854775807 := hm
  refine Tri.body (args := [.int .i64 window, .slice ad n c]) 197 en4 Try.func4 rfl rfl rfl (by simp) ?_
  repeat (first | refine run ?_ | intro _ | ((with_reducible apply G.atDraw); first | refine G.draw (id := 17) plC12_4_17 mixed (by kernel_rfl) ?_ | refine G.draw (id := 21) plC12_4_21 mixed (by kernel_rfl) ?_ | refine G.draw (id := 41) plC12_4_41 mixed (by kernel_rfl) ?_))
  (first | ((with_reducible apply GO.atPlain); first | refine GO.ef (Ef.call (ends_spec window h0) rfl (by repeat (first | exact Ent.refl _ | refine Ent.take ?_))) (by decide) ?_ | refine GO.ef (by exact Ef.call (ends_spec window h0) rfl (by repeat (first | exact Ent.refl _ | refine Ent.take ?_))) (by decide) ?_) | ((with_reducible apply GPW.atEf); first | refine GPW.ef (Ef.call (ends_spec window h0) rfl (by repeat (first | exact Ent.refl _ | refine Ent.take ?_))) (by decide) ?_ | refine GPW.ef (by exact Ef.call (ends_spec window h0) rfl (by repeat (first | exact Ent.refl _ | refine Ent.take ?_))) (by decide) ?_))
  rintro _ _ ⟨_, ⟨ce, a, b, rfl, rfl⟩, hL⟩
  simp only [List.cons_append, List.nil_append] at hL; subst hL
  have hw0 := around_bd window (k := 16) (by decide)
  have hw1 := around_bd (window.tdiv 16) (k := 16) (by decide)
  obtain ⟨w0, e0⟩ : ∃ w0, 1 + around window 16 = w0 := ⟨_, rfl⟩
  obtain ⟨w1, e1⟩ : ∃ w1, 1 + around (window.tdiv 16) 16 = w1 := ⟨_, rfl⟩
  have hw0' : 1 ≤ w0 ∧ w0 ≤ 16 := by omega
  have hw1' : 1 ≤ w1 ∧ w1 ≤ 16 := by omega
  rw [e0, e1]
  clear e0 e1 hw0 hw1
  repeat (first | ((fail_if_success (with_reducible refine G.atSS 8 ?_)); (with_reducible apply G.seq)) | refine runS ?_ | intro _ | ((with_reducible apply G.atDraw); first | refine G.draw (id := 17) plC12_4_17 mixed (by kernel_rfl) ?_ | refine G.draw (id := 21) plC12_4_21 mixed (by kernel_rfl) ?_ | refine G.draw (id := 41) plC12_4_41 mixed (by kernel_rfl) ?_))
  rename_i cs cg
  obtain ⟨es, hes⟩ : ∃ es : Int → Nat, es = fun j => if j = 0 then a else b := ⟨_, rfl⟩
  have hpe : [a, b] = pr es := by rw [hes]; rfl
  have hst : Ent [obj cg 3 [.int .i64 0, .int .i64 0], obj cs 42 [.slice none 0 0, .slice none 0 0], osl encP 1 33 (some ⟨ce, 0, none⟩) 2 [a, b], EndR b (EndS.new w1), EndR a (EndS.new w0), isl (encI .i64) 1 ad l]
      (sysL ce cs cg es ⟨fun j => if j = 0 then EndS.new w0 else EndS.new w1, fun _ => [], fun _ => ⟨none, 0, 0⟩, fun _ => 0⟩ (linkL ⟨none, 0, [], none, 0, []⟩ [isl (encI .i64) 1 ad l])) := by
    rw [hpe]
    refine (Ent.objSl (enc := encI .i64) (sz := 1) (n := 2) (xs := pr fun _ => ((0 : Nat) : Int)) rfl rfl (fun _ _ => rfl) (by decide)).trans ?_
    refine (Ent.at (A := obj cs 42 [.slice none 0 0, .slice none 0 0]) (Ent.objSl (enc := encSl) (sz := 1) (n := 2) (xs := pr fun _ => ⟨none, 0, 0⟩) rfl rfl (fun _ _ => rfl) (by decide))).trans ?_
    refine (Ent.nilSl encM 1 31).trans ((Ent.allP_nil msgP).trans ((Ent.nilSl encM 1 31).trans ((Ent.allP_nil msgP).trans ?_)))
    refine (Ent.nilSl encPk 3 44).trans ((Ent.allP_nil (fun p : Pkt => msgP p.m)).trans ((Ent.nilSl (encI .i64) 1 3).trans ?_))
    refine Ent.take' (Ent.take' (Ent.take' (Ent.trans ?_ (Ent.twoClose (k := 0) (.inl rfl)))))
    subst hes
    show Ent _ [EndR a (EndS.new w0), osl encM 1 31 none 0 [], allP msgP [], EndR b (EndS.new w1), osl encM 1 31 none 0 [], allP msgP [], osl encPk 3 44 none 0 [], allP (fun p : Pkt => msgP p.m) [], osl (encI .i64) 1 3 none 0 [], isl (encI .i64) 1 ad l]
    repeat (first | exact Ent.refl _ | exact Ent.nil _ | refine Ent.take' ?_ | refine Ent.trans Ent.drop ?_)
  refine G.ent hst ?_
  clear hst hpe hes
  have hlp := fun {α : Type} (f : Int → α) => pr_len f
  refine G.join (α := Unit) (fun _ => True) (fun _ => []) (fun _ => []) ?_ ?_
  · repeat (first | refine run ?_ | intro _ | ((with_reducible apply G.atDraw); first | refine G.draw (id := 17) plC12_4_17 mixed (by kernel_rfl) ?_ | refine G.draw (id := 21) plC12_4_21 mixed (by kernel_rfl) ?_ | refine G.draw (id := 41) plC12_4_41 mixed (by kernel_rfl) ?_))
    refine G.loop (α := Int × Sys × Lk) (fun (i, S, lk) => 0 ≤ i ∧ i ≤ n ∧ i ≤ 80 ∧ S.Inv i.toNat lk.ps lk.ts) (fun (i, _, lk) => ordEnv ad n c ce cs cg lk i) (fun (_, S, lk) => sysL ce cs cg es S (linkL lk [isl (encI .i64) 1 ad l])) (fun (i, _) => (n - i).toNat)
      (0, _, ⟨none, 0, [], none, 0, []⟩) ⟨by omega, by omega, by omega, start_inv w0 w1 hw0' hw1'⟩ (by repeat (first | exact EnvSub.nil _ | refine EnvSub.cons rfl ?_)) (Ent.refl _) ?_
    rintro ⟨i, S, lk⟩ ⟨hi0, hi1, hi2, hS⟩
    simp only [ordEnv, sysL, linkL] at hi0 hi1 hi2 hS ⊢
    by_cases hc : i < n ∧ i < 80
    case neg =>
      by_cases hcn : i < n
      · repeat (first | refine run ?_ | intro _ | ((with_reducible apply G.atDraw); first | refine G.draw (id := 17) plC12_4_17 mixed (by kernel_rfl) ?_ | refine G.draw (id := 21) plC12_4_21 mixed (by kernel_rfl) ?_ | refine G.draw (id := 41) plC12_4_41 mixed (by kernel_rfl) ?_))
        exact ⟨(), trivial, (by repeat (first | exact EnvSub.nil _ | refine EnvSub.cons rfl ?_)), Ent.nil _⟩
      · repeat (first | refine run ?_ | intro _ | ((with_reducible apply G.atDraw); first | refine G.draw (id := 17) plC12_4_17 mixed (by kernel_rfl) ?_ | refine G.draw (id := 21) plC12_4_21 mixed (by kernel_rfl) ?_ | refine G.draw (id := 41) plC12_4_41 mixed (by kernel_rfl) ?_))
        exact ⟨(), trivial, (by repeat (first | exact EnvSub.nil _ | refine EnvSub.cons rfl ?_)), Ent.nil _⟩
    obtain ⟨hc1, hc2⟩ := hc
    have hv := hl (l[i.toNat]!) (by rw [List.getElem!_eq_getElem?_getD, List.getElem?_eq_getElem (by omega)]; exact List.getElem_mem _)
    have hvq := tdiv_bounds hv.1 hv.2 (b := 8) (by decide)
    repeat (first | refine run ?_ | intro _ | ((with_reducible apply G.atDraw); first | refine G.draw (id := 17) plC12_4_17 mixed (by kernel_rfl) ?_ | refine G.draw (id := 21) plC12_4_21 mixed (by kernel_rfl) ?_ | refine G.draw (id := 41) plC12_4_41 mixed (by kernel_rfl) ?_))
    (first | ((with_reducible apply GO.atPlain); first | refine GO.ef (Ef.call (around_spec ((l[i.toNat]!).tdiv 8) 1073741824 hvq.1 hvq.2 (by decide) (by decide)) rfl (by repeat (first | exact Ent.refl _ | refine Ent.take ?_))) (by decide) ?_ | refine GO.ef (by exact Ef.call (around_spec ((l[i.toNat]!).tdiv 8) 1073741824 hvq.1 hvq.2 (by decide) (by decide)) rfl (by repeat (first | exact Ent.refl _ | refine Ent.take ?_))) (by decide) ?_) | ((with_reducible apply GPW.atEf); first | refine GPW.ef (Ef.call (around_spec ((l[i.toNat]!).tdiv 8) 1073741824 hvq.1 hvq.2 (by decide) (by decide)) rfl (by repeat (first | exact Ent.refl _ | refine Ent.take ?_))) (by decide) ?_ | refine GPW.ef (by exact Ef.call (around_spec ((l[i.toNat]!).tdiv 8) 1073741824 hvq.1 hvq.2 (by decide) (by decide)) rfl (by repeat (first | exact Ent.refl _ | refine Ent.take ?_))) (by decide) ?_))
    rintro _ _ ⟨_, ⟨rfl, rfl⟩, hL⟩
    simp only [List.cons_append, List.nil_append] at hL; subst hL
    have hnn := around_bd ((l[i.toNat]!).tdiv 8) (k := 1073741824) (by decide)
    generalize around ((l[i.toNat]!).tdiv 8) 1073741824 = nn at hnn
    repeat (first | ((fail_if_success (with_reducible refine G.atSS 13 ?_)); (with_reducible apply G.seq)) | refine runS ?_ | intro _ | ((with_reducible apply G.atDraw); first | refine G.draw (id := 17) plC12_4_17 mixed (by kernel_rfl) ?_ | refine G.draw (id := 21) plC12_4_21 mixed (by kernel_rfl) ?_ | refine G.draw (id := 41) plC12_4_41 mixed (by kernel_rfl) ?_))
    obtain ⟨k, hkk⟩ : ∃ k, nn % 2 = k := ⟨_, rfl⟩
    rw [hkk]
    have hk : k = 0 ∨ k = 1 := by omega
    refine G.join (α := Sys × Lk) (fun (S, lk) => S.Inv (i.toNat + 1) lk.ps lk.ts) (fun (_, lk) => ordEnv ad n c ce cs cg lk i) (fun (S, lk) => sysL ce cs cg es S (linkL lk [isl (encI .i64) 1 ad l])) ?_ ?_
    · repeat (first | refine run ?_ | intro _ | ((with_reducible apply G.atDraw); first | refine G.draw (id := 17) plC12_4_17 mixed (by kernel_rfl) ?_ | refine G.draw (id := 21) plC12_4_21 mixed (by kernel_rfl) ?_ | refine G.draw (id := 41) plC12_4_41 mixed (by kernel_rfl) ?_))
      (first | ((with_reducible apply GO.atPlain); first | refine GO.ef (Ef.call (around_spec (l[i.toNat]!) 8 hv.1 hv.2 (by decide) (by decide)) rfl (by repeat (first | exact Ent.refl _ | refine Ent.take ?_))) (by decide) ?_ | refine GO.ef (by exact Ef.call (around_spec (l[i.toNat]!) 8 hv.1 hv.2 (by decide) (by decide)) rfl (by repeat (first | exact Ent.refl _ | refine Ent.take ?_))) (by decide) ?_) | ((with_reducible apply GPW.atEf); first | refine GPW.ef (Ef.call (around_spec (l[i.toNat]!) 8 hv.1 hv.2 (by decide) (by decide)) rfl (by repeat (first | exact Ent.refl _ | refine Ent.take ?_))) (by decide) ?_ | refine GPW.ef (by exact Ef.call (around_spec (l[i.toNat]!) 8 hv.1 hv.2 (by decide) (by decide)) rfl (by repeat (first | exact Ent.refl _ | refine Ent.take ?_))) (by decide) ?_))
      rintro _ _ ⟨_, ⟨rfl, rfl⟩, hL⟩
      simp only [List.cons_append, List.nil_append] at hL; subst hL
      have hq := around_bd (l[i.toNat]!) (k := 8) (by decide)
      generalize around (l[i.toNat]!) 8 = q at hq
      repeat (first | ((fail_if_success (with_reducible refine G.atSS 24 ?_)); (with_reducible apply G.seq)) | refine runS ?_ | intro _ | ((with_reducible apply G.atDraw); first | refine G.draw (id := 17) plC12_4_17 mixed (by kernel_rfl) ?_ | refine G.draw (id := 21) plC12_4_21 mixed (by kernel_rfl) ?_ | refine G.draw (id := 41) plC12_4_41 mixed (by kernel_rfl) ?_))
      refine G.join (α := Bool) (fun g => g = dB (q = 0 ∨ q = 1)) (fun g => (113, .bool g) :: (49, .int .i64 q) :: (11, .int .i64 nn) :: (12, .int .i64 k) :: ordEnv ad n c ce cs cg lk i) (fun _ => sysL ce cs cg es S (linkL lk [isl (encI .i64) 1 ad l])) ?_ ?_
      · repeat (first | refine run ?_ | intro _ | ((with_reducible apply G.atDraw); first | refine G.draw (id := 17) plC12_4_17 mixed (by kernel_rfl) ?_ | refine G.draw (id := 21) plC12_4_21 mixed (by kernel_rfl) ?_ | refine G.draw (id := 41) plC12_4_41 mixed (by kernel_rfl) ?_))
        (first | with_reducible refine CB.dec (fun _ => ?_) (fun _ => ?_) | with_reducible refine GB.dec (fun _ => ?_) (fun _ => ?_) | with_reducible refine CB.bool (fun _ => ?_) (fun _ => ?_) | with_reducible refine GB.bool (fun _ => ?_) (fun _ => ?_))
        · rename_i h
          repeat (first | refine run ?_ | intro _ | ((with_reducible apply G.atDraw); first | refine G.draw (id := 17) plC12_4_17 mixed (by kernel_rfl) ?_ | refine G.draw (id := 21) plC12_4_21 mixed (by kernel_rfl) ?_ | refine G.draw (id := 41) plC12_4_41 mixed (by kernel_rfl) ?_))
          exact ⟨dB (q = 0), by rw [dB_pos h, dB_pos (.inl h)], (by repeat (first | exact EnvSub.nil _ | refine EnvSub.cons rfl ?_)), Ent.refl _⟩
        · rename_i h
          repeat (first | refine run ?_ | intro _ | ((with_reducible apply G.atDraw); first | refine G.draw (id := 17) plC12_4_17 mixed (by kernel_rfl) ?_ | refine G.draw (id := 21) plC12_4_21 mixed (by kernel_rfl) ?_ | refine G.draw (id := 41) plC12_4_41 mixed (by kernel_rfl) ?_))
          refine ⟨dB (q = 1), ?_, (by repeat (first | exact EnvSub.nil _ | refine EnvSub.cons rfl ?_)), Ent.refl _⟩
          congr 1
          exact propext ⟨fun h' => .inr h', fun h' => h'.resolve_left h⟩
      rintro _ rfl
      simp only [ordEnv, sysL, linkL]
      have hlx := pr_len S.x
      have hlg := pr_len fun j => (S.g j : Int)
      have hle := pr_len es
      repeat (first | refine run ?_ | intro _ | ((with_reducible apply G.atDraw); first | refine G.draw (id := 17) plC12_4_17 mixed (by kernel_rfl) ?_ | refine G.draw (id := 21) plC12_4_21 mixed (by kernel_rfl) ?_ | refine G.draw (id := 41) plC12_4_41 mixed (by kernel_rfl) ?_))
      (first | with_reducible refine CB.dec (fun _ => ?_) (fun _ => ?_) | with_reducible refine GB.dec (fun _ => ?_) (fun _ => ?_) | with_reducible refine CB.bool (fun _ => ?_) (fun _ => ?_) | with_reducible refine GB.bool (fun _ => ?_) (fun _ => ?_))
      · rename_i hq01
        clear hq01
        refine G.ent (Ent.at (A := twoL (side es S)) (Ent.twoOpen hk)) ?_
        simp only [side, List.cons_append, List.nil_append]
        have hwl := hS.wlen hk
        have hln := hS.len k hk
        repeat (first | refine run ?_ | intro _ | ((with_reducible apply G.atDraw); first | refine G.draw (id := 17) plC12_4_17 mixed (by kernel_rfl) ?_ | refine G.draw (id := 21) plC12_4_21 mixed (by kernel_rfl) ?_ | refine G.draw (id := 41) plC12_4_41 mixed (by kernel_rfl) ?_))
        rename_i cb
        refine GO.ent (Ent.at (A := obj cb 5 [.int .u8 i, .int .u8 3]) ((Ent.objSl (enc := encI .u8) (sz := 1) (n := 2) (xs := [i, 3]) rfl rfl (fun _ _ => rfl) (by decide)).trans Ent.freezeSl)) ?_
        rw [pr_get es hk]
        (first | ((with_reducible apply GO.atPlain); first | refine GO.ef (Ef.callAt (send_spec _ (S.E k) (some ⟨cb, 0, none⟩) 2 2 [i, 3] rfl (hS.ok (by omega) hk) (by decide) (by omega)) rfl) (by decide) ?_ | refine GO.ef (by exact Ef.callAt (send_spec _ (S.E k) (some ⟨cb, 0, none⟩) 2 2 [i, 3] rfl (hS.ok (by omega) hk) (by decide) (by omega)) rfl) (by decide) ?_) | ((with_reducible apply GPW.atEf); first | refine GPW.ef (Ef.callAt (send_spec _ (S.E k) (some ⟨cb, 0, none⟩) 2 2 [i, 3] rfl (hS.ok (by omega) hk) (by decide) (by omega)) rfl) (by decide) ?_ | refine GPW.ef (by exact Ef.callAt (send_spec _ (S.E k) (some ⟨cb, 0, none⟩) 2 2 [i, 3] rfl (hS.ok (by omega) hk) (by decide) (by omega)) rfl) (by decide) ?_))
        rintro _ _ ⟨rfl, rfl⟩
        repeat (first | refine run ?_ | intro _ | ((with_reducible apply G.atDraw); first | refine G.draw (id := 17) plC12_4_17 mixed (by kernel_rfl) ?_ | refine G.draw (id := 21) plC12_4_21 mixed (by kernel_rfl) ?_ | refine G.draw (id := 41) plC12_4_41 mixed (by kernel_rfl) ?_))
        rw [pr_get S.x hk]
        (first | ((with_reducible apply GO.atPlain); first | refine GO.ef (Ef.append1 (e := (⟨some ⟨cb, 0, none⟩, 2, [i, 3]⟩ : Msg)) rfl rfl rfl (by omega) rfl (by rfl) (encM_one _) (by omega) (by omega)) (by decide) ?_ | refine GO.ef (by exact Ef.append1 (e := (⟨some ⟨cb, 0, none⟩, 2, [i, 3]⟩ : Msg)) rfl rfl rfl (by omega) rfl (by rfl) (encM_one _) (by omega) (by omega)) (by decide) ?_) | ((with_reducible apply GPW.atEf); first | refine GPW.ef (Ef.append1 (e := (⟨some ⟨cb, 0, none⟩, 2, [i, 3]⟩ : Msg)) rfl rfl rfl (by omega) rfl (by rfl) (encM_one _) (by omega) (by omega)) (by decide) ?_ | refine GPW.ef (by exact Ef.append1 (e := (⟨some ⟨cb, 0, none⟩, 2, [i, 3]⟩ : Msg)) rfl rfl rfl (by omega) rfl (by rfl) (encM_one _) (by omega) (by omega)) (by decide) ?_) | ((with_reducible apply GO.atUnit); first | refine GO.efu (Ef.append1 (e := (⟨some ⟨cb, 0, none⟩, 2, [i, 3]⟩ : Msg)) rfl rfl rfl (by omega) rfl (by rfl) (encM_one _) (by omega) (by omega)) ?_ | refine GO.efu (by exact Ef.append1 (e := (⟨some ⟨cb, 0, none⟩, 2, [i, 3]⟩ : Msg)) rfl rfl rfl (by omega) rfl (by rfl) (encM_one _) (by omega) (by omega)) ?_) | ((with_reducible apply GPW.atEfu); first | refine GPW.efu (Ef.append1 (e := (⟨some ⟨cb, 0, none⟩, 2, [i, 3]⟩ : Msg)) rfl rfl rfl (by omega) rfl (by rfl) (encM_one _) (by omega) (by omega)) ?_ | refine GPW.efu (by exact Ef.append1 (e := (⟨some ⟨cb, 0, none⟩, 2, [i, 3]⟩ : Msg)) rfl rfl rfl (by omega) rfl (by rfl) (encM_one _) (by omega) (by omega)) ?_))
        rintro _ _ ⟨ad2, cap2, rfl, rfl⟩
        repeat (first | refine run ?_ | intro _ | ((with_reducible apply G.atDraw); first | refine G.draw (id := 17) plC12_4_17 mixed (by kernel_rfl) ?_ | refine G.draw (id := 21) plC12_4_21 mixed (by kernel_rfl) ?_ | refine G.draw (id := 41) plC12_4_41 mixed (by kernel_rfl) ?_))
        (first | ((with_reducible apply GO.atPlain); first | refine GO.ef (Ef.storeEl (e := (⟨ad2, _, cap2⟩ : SlV)) rfl rfl rfl rfl (by omega) (by omega)) (by decide) ?_ | refine GO.ef (by exact Ef.storeEl (e := (⟨ad2, _, cap2⟩ : SlV)) rfl rfl rfl rfl (by omega) (by omega)) (by decide) ?_) | ((with_reducible apply GPW.atEf); first | refine GPW.ef (Ef.storeEl (e := (⟨ad2, _, cap2⟩ : SlV)) rfl rfl rfl rfl (by omega) (by omega)) (by decide) ?_ | refine GPW.ef (by exact Ef.storeEl (e := (⟨ad2, _, cap2⟩ : SlV)) rfl rfl rfl rfl (by omega) (by omega)) (by decide) ?_) | ((with_reducible apply GO.atUnit); first | refine GO.efu (Ef.storeEl (e := (⟨ad2, _, cap2⟩ : SlV)) rfl rfl rfl rfl (by omega) (by omega)) ?_ | refine GO.efu (by exact Ef.storeEl (e := (⟨ad2, _, cap2⟩ : SlV)) rfl rfl rfl rfl (by omega) (by omega)) ?_) | ((with_reducible apply GPW.atEfu); first | refine GPW.efu (Ef.storeEl (e := (⟨ad2, _, cap2⟩ : SlV)) rfl rfl rfl rfl (by omega) (by omega)) ?_ | refine GPW.efu (by exact Ef.storeEl (e := (⟨ad2, _, cap2⟩ : SlV)) rfl rfl rfl rfl (by omega) (by omega)) ?_))
        rintro _ _ rfl
        rw [pr_set S.x hk]
        repeat (first | refine run ?_ | intro _ | ((with_reducible apply G.atDraw); first | refine G.draw (id := 17) plC12_4_17 mixed (by kernel_rfl) ?_ | refine G.draw (id := 21) plC12_4_21 mixed (by kernel_rfl) ?_ | refine G.draw (id := 41) plC12_4_41 mixed (by kernel_rfl) ?_))
        refine ⟨(⟨upd S.E k ((S.E k).send [i, 3]), upd S.s k (S.s k ++ [⟨some ⟨cb, 0, none⟩, 2, [i, 3]⟩]), upd S.x k ⟨ad2, _, cap2⟩, S.g⟩, lk), hS.send hk ⟨some ⟨cb, 0, none⟩, 2, [i, 3]⟩ rfl ⟨ad2, (S.s k ++ [(⟨some ⟨cb, 0, none⟩, 2, [i, 3]⟩ : Msg)]).length, cap2⟩ (by simp), (by repeat (first | exact EnvSub.nil _ | refine EnvSub.cons rfl ?_)), ?_⟩
        refine (Ent.at (A := isl (encI .u8) 1 (some ⟨cb, 0, none⟩) [i, 3]) (Ent.allP_one (f := msgP) (x := ⟨some ⟨cb, 0, none⟩, 2, [i, 3]⟩) msgP_m)).trans ?_
        refine (Ent.at (A := allP msgP (S.s k)) (Ent.consR (Ent.at (A := allP msgP [⟨some ⟨cb, 0, none⟩, 2, [i, 3]⟩]) (Ent.refl _)))).trans ?_
        refine (Ent.allP_app msgP_m).trans ?_
        refine Ent.take' (Ent.take' (Ent.take' (Ent.trans ?_ (Ent.twoClose hk))))
        simp only [side, upd_same, upd_other _ hk, List.cons_append, List.nil_append]
        repeat (first | exact Ent.refl _ | exact Ent.nil _ | refine Ent.take' ?_ | refine Ent.trans Ent.drop ?_)
      · rename_i hq01
        repeat (first | ((fail_if_success (with_reducible refine G.atSS 30 ?_)); (with_reducible apply G.seq)) | refine runS ?_ | intro _ | ((with_reducible apply G.atDraw); first | refine G.draw (id := 17) plC12_4_17 mixed (by kernel_rfl) ?_ | refine G.draw (id := 21) plC12_4_21 mixed (by kernel_rfl) ?_ | refine G.draw (id := 41) plC12_4_41 mixed (by kernel_rfl) ?_))
        refine G.join (α := Bool) (fun g => g = dB (q = 2 ∨ q = 3)) (fun g => (136, .bool g) :: (49, .int .i64 q) :: (11, .int .i64 nn) :: (12, .int .i64 k) :: ordEnv ad n c ce cs cg lk i) (fun _ => sysL ce cs cg es S (linkL lk [isl (encI .i64) 1 ad l])) ?_ ?_
        · repeat (first | refine run ?_ | intro _ | ((with_reducible apply G.atDraw); first | refine G.draw (id := 17) plC12_4_17 mixed (by kernel_rfl) ?_ | refine G.draw (id := 21) plC12_4_21 mixed (by kernel_rfl) ?_ | refine G.draw (id := 41) plC12_4_41 mixed (by kernel_rfl) ?_))
          (first | with_reducible refine CB.dec (fun _ => ?_) (fun _ => ?_) | with_reducible refine GB.dec (fun _ => ?_) (fun _ => ?_) | with_reducible refine CB.bool (fun _ => ?_) (fun _ => ?_) | with_reducible refine GB.bool (fun _ => ?_) (fun _ => ?_))
          · rename_i h
            repeat (first | refine run ?_ | intro _ | ((with_reducible apply G.atDraw); first | refine G.draw (id := 17) plC12_4_17 mixed (by kernel_rfl) ?_ | refine G.draw (id := 21) plC12_4_21 mixed (by kernel_rfl) ?_ | refine G.draw (id := 41) plC12_4_41 mixed (by kernel_rfl) ?_))
            exact ⟨dB (q = 2), by rw [dB_pos h, dB_pos (.inl h)], (by repeat (first | exact EnvSub.nil _ | refine EnvSub.cons rfl ?_)), Ent.refl _⟩
          · rename_i h
            repeat (first | refine run ?_ | intro _ | ((with_reducible apply G.atDraw); first | refine G.draw (id := 17) plC12_4_17 mixed (by kernel_rfl) ?_ | refine G.draw (id := 21) plC12_4_21 mixed (by kernel_rfl) ?_ | refine G.draw (id := 41) plC12_4_41 mixed (by kernel_rfl) ?_))
            refine ⟨dB (q = 3), ?_, (by repeat (first | exact EnvSub.nil _ | refine EnvSub.cons rfl ?_)), Ent.refl _⟩
            congr 1
            exact propext ⟨fun h' => .inr h', fun h' => h'.resolve_left h⟩
        rintro _ rfl
        simp only [ordEnv, sysL, linkL]
        repeat (first | refine run ?_ | intro _ | ((with_reducible apply G.atDraw); first | refine G.draw (id := 17) plC12_4_17 mixed (by kernel_rfl) ?_ | refine G.draw (id := 21) plC12_4_21 mixed (by kernel_rfl) ?_ | refine G.draw (id := 41) plC12_4_41 mixed (by kernel_rfl) ?_))
        (first | with_reducible refine CB.dec (fun _ => ?_) (fun _ => ?_) | with_reducible refine GB.dec (fun _ => ?_) (fun _ => ?_) | with_reducible refine CB.bool (fun _ => ?_) (fun _ => ?_) | with_reducible refine GB.bool (fun _ => ?_) (fun _ => ?_))
        · rename_i hq23
          clear hq23
          refine G.ent (Ent.at (A := twoL (side es S)) (Ent.twoOpen hk)) ?_
          simp only [side, List.cons_append, List.nil_append]
          have hwl := hS.wlen hk
          have htl := hS.tl
          repeat (first | refine run ?_ | intro _ | ((with_reducible apply G.atDraw); first | refine G.draw (id := 17) plC12_4_17 mixed (by kernel_rfl) ?_ | refine G.draw (id := 21) plC12_4_21 mixed (by kernel_rfl) ?_ | refine G.draw (id := 41) plC12_4_41 mixed (by kernel_rfl) ?_))
          rw [pr_get es hk]
          (first | ((with_reducible apply GO.atPlain); first | refine GO.ef (Ef.callAt (out_spec _ (S.E k) (hS.ok (by omega) hk) (hS.wsmall hk)) rfl) (by decide) ?_ | refine GO.ef (by exact Ef.callAt (out_spec _ (S.E k) (hS.ok (by omega) hk) (hS.wsmall hk)) rfl) (by decide) ?_) | ((with_reducible apply GPW.atEf); first | refine GPW.ef (Ef.callAt (out_spec _ (S.E k) (hS.ok (by omega) hk) (hS.wsmall hk)) rfl) (by decide) ?_ | refine GPW.ef (by exact Ef.callAt (out_spec _ (S.E k) (hS.ok (by omega) hk) (hS.wsmall hk)) rfl) (by decide) ?_))
          rintro _ _ ⟨oad, ocap, qs, rfl, hqs, rfl⟩
          have hql : qs.length ≤ 16 := by
            rw [len_of hqs, EndS.out]
            have := (hS.e k hk).win
            split
            · split <;> simp
            · simp [EndS.firsts]; omega
          refine GO.ent (Ent.at (A := bigO pkO qs) (Ent.bigO_all (fun _ => msgP_m _) (fun x L => Ent.freezeSl) qs _)) ?_
          repeat (first | refine run ?_ | intro _ | ((with_reducible apply G.atDraw); first | refine G.draw (id := 17) plC12_4_17 mixed (by kernel_rfl) ?_ | refine G.draw (id := 21) plC12_4_21 mixed (by kernel_rfl) ?_ | refine G.draw (id := 41) plC12_4_41 mixed (by kernel_rfl) ?_))
          refine G.loop (α := Int × Lk) (fun (j, lk') => 0 ≤ j ∧ j ≤ qs.length ∧ lk'.ps = lk.ps ++ qs.take j.toNat ∧ lk'.ts = lk.ts ++ List.replicate j.toNat (1 - k))
            (fun (j, lk') => (12, .int .i64 k) :: (14, .slice oad qs.length ocap) :: (15, .int .i64 j) :: ordEnv ad n c ce cs cg lk' i)
            (fun (_, lk') => osl encPk 3 44 oad ocap qs :: allP (fun p : Pkt => msgP p.m) qs :: sysL ce cs cg es ⟨upd S.E k { S.E k with owing := false }, S.s, S.x, S.g⟩ (linkL lk' [isl (encI .i64) 1 ad l]))
            (fun (j, _) => (qs.length - j).toNat) (0, lk) ⟨by omega, by omega, by simp, by simp⟩ (by repeat (first | exact EnvSub.nil _ | refine EnvSub.cons rfl ?_)) ?_ ?_
          · refine Ent.take' (Ent.take' (Ent.take' (Ent.take' (Ent.take' (Ent.trans ?_ (Ent.twoClose hk))))))
            simp only [side, upd_same, upd_other _ hk, List.cons_append, List.nil_append]
            repeat (first | exact Ent.refl _ | exact Ent.nil _ | refine Ent.take' ?_ | refine Ent.trans Ent.drop ?_)
          rintro ⟨j, lk'⟩ ⟨hj0, hj1, hj2, hj3⟩
          simp only [ordEnv, sysL, linkL] at hj0 hj1 hj2 hj3 ⊢
          have hl2 := congrArg List.length hj2
          have hl3 := congrArg List.length hj3
          simp at hl2 hl3
          repeat (first | refine run ?_ | intro _ | ((with_reducible apply G.atDraw); first | refine G.draw (id := 17) plC12_4_17 mixed (by kernel_rfl) ?_ | refine G.draw (id := 21) plC12_4_21 mixed (by kernel_rfl) ?_ | refine G.draw (id := 41) plC12_4_41 mixed (by kernel_rfl) ?_))
          (first | with_reducible refine CB.dec (fun _ => ?_) (fun _ => ?_) | with_reducible refine GB.dec (fun _ => ?_) (fun _ => ?_) | with_reducible refine CB.bool (fun _ => ?_) (fun _ => ?_) | with_reducible refine GB.bool (fun _ => ?_) (fun _ => ?_))
          case refine_2 =>
            repeat (first | refine run ?_ | intro _ | ((with_reducible apply G.atDraw); first | refine G.draw (id := 17) plC12_4_17 mixed (by kernel_rfl) ?_ | refine G.draw (id := 21) plC12_4_21 mixed (by kernel_rfl) ?_ | refine G.draw (id := 41) plC12_4_41 mixed (by kernel_rfl) ?_))
            have hh : j.toNat = qs.length := by omega
            rw [hh] at hj3
            rw [hh, List.take_length] at hj2
            refine ⟨(⟨upd S.E k { S.E k with owing := false }, S.s, S.x, S.g⟩, lk'), ?_, (by repeat (first | exact EnvSub.nil _ | refine EnvSub.cons rfl ?_)), ?_⟩
            · simp only [hj2, hj3]
              exact hS.quiet hk qs hqs hql
            · repeat (first | exact Ent.refl _ | exact Ent.nil _ | refine Ent.take' ?_ | refine Ent.trans Ent.drop ?_)
          rename_i hj4
          repeat (first | refine run ?_ | intro _ | ((with_reducible apply G.atDraw); first | refine G.draw (id := 17) plC12_4_17 mixed (by kernel_rfl) ?_ | refine G.draw (id := 21) plC12_4_21 mixed (by kernel_rfl) ?_ | refine G.draw (id := 41) plC12_4_41 mixed (by kernel_rfl) ?_))
          (first | ((with_reducible apply GO.atPlain); first | refine GO.ef (Ef.append1 (e := qs[j.toNat]!) rfl rfl rfl rfl rfl (by rfl) (encPk_one _) (by omega) (by omega)) (by decide) ?_ | refine GO.ef (by exact Ef.append1 (e := qs[j.toNat]!) rfl rfl rfl rfl rfl (by rfl) (encPk_one _) (by omega) (by omega)) (by decide) ?_) | ((with_reducible apply GPW.atEf); first | refine GPW.ef (Ef.append1 (e := qs[j.toNat]!) rfl rfl rfl rfl rfl (by rfl) (encPk_one _) (by omega) (by omega)) (by decide) ?_ | refine GPW.ef (by exact Ef.append1 (e := qs[j.toNat]!) rfl rfl rfl rfl rfl (by rfl) (encPk_one _) (by omega) (by omega)) (by decide) ?_) | ((with_reducible apply GO.atUnit); first | refine GO.efu (Ef.append1 (e := qs[j.toNat]!) rfl rfl rfl rfl rfl (by rfl) (encPk_one _) (by omega) (by omega)) ?_ | refine GO.efu (by exact Ef.append1 (e := qs[j.toNat]!) rfl rfl rfl rfl rfl (by rfl) (encPk_one _) (by omega) (by omega)) ?_) | ((with_reducible apply GPW.atEfu); first | refine GPW.efu (Ef.append1 (e := qs[j.toNat]!) rfl rfl rfl rfl rfl (by rfl) (encPk_one _) (by omega) (by omega)) ?_ | refine GPW.efu (by exact Ef.append1 (e := qs[j.toNat]!) rfl rfl rfl rfl rfl (by rfl) (encPk_one _) (by omega) (by omega)) ?_))
          rintro _ _ ⟨ad2, cap2, rfl, rfl⟩
          repeat (first | refine run ?_ | intro _ | ((with_reducible apply G.atDraw); first | refine G.draw (id := 17) plC12_4_17 mixed (by kernel_rfl) ?_ | refine G.draw (id := 21) plC12_4_21 mixed (by kernel_rfl) ?_ | refine G.draw (id := 41) plC12_4_41 mixed (by kernel_rfl) ?_))
          (first | ((with_reducible apply GO.atPlain); first | refine GO.ef (Ef.append1 (e := 1 - k) rfl rfl rfl rfl rfl (by rfl) (encI_one _ _) (by omega) (by omega)) (by decide) ?_ | refine GO.ef (by exact Ef.append1 (e := 1 - k) rfl rfl rfl rfl rfl (by rfl) (encI_one _ _) (by omega) (by omega)) (by decide) ?_) | ((with_reducible apply GPW.atEf); first | refine GPW.ef (Ef.append1 (e := 1 - k) rfl rfl rfl rfl rfl (by rfl) (encI_one _ _) (by omega) (by omega)) (by decide) ?_ | refine GPW.ef (by exact Ef.append1 (e := 1 - k) rfl rfl rfl rfl rfl (by rfl) (encI_one _ _) (by omega) (by omega)) (by decide) ?_) | ((with_reducible apply GO.atUnit); first | refine GO.efu (Ef.append1 (e := 1 - k) rfl rfl rfl rfl rfl (by rfl) (encI_one _ _) (by omega) (by omega)) ?_ | refine GO.efu (by exact Ef.append1 (e := 1 - k) rfl rfl rfl rfl rfl (by rfl) (encI_one _ _) (by omega) (by omega)) ?_) | ((with_reducible apply GPW.atEfu); first | refine GPW.efu (Ef.append1 (e := 1 - k) rfl rfl rfl rfl rfl (by rfl) (encI_one _ _) (by omega) (by omega)) ?_ | refine GPW.efu (by exact Ef.append1 (e := 1 - k) rfl rfl rfl rfl rfl (by rfl) (encI_one _ _) (by omega) (by omega)) ?_))
          rintro _ _ ⟨ad3, cap3, rfl, rfl⟩
          repeat (first | refine run ?_ | intro _ | ((with_reducible apply G.atDraw); first | refine G.draw (id := 17) plC12_4_17 mixed (by kernel_rfl) ?_ | refine G.draw (id := 21) plC12_4_21 mixed (by kernel_rfl) ?_ | refine G.draw (id := 41) plC12_4_41 mixed (by kernel_rfl) ?_))
          refine ⟨(j + 1, ⟨ad2, cap2, lk'.ps ++ [qs[j.toNat]!], ad3, cap3, lk'.ts ++ [1 - k]⟩), ⟨by simp only []; omega, by simp only []; omega, ?_, ?_⟩, by simp only []; omega, (by repeat (first | exact EnvSub.nil _ | refine EnvSub.cons rfl ?_)), ?_⟩
          · simp only []
            rw [show (j + 1).toNat = j.toNat + 1 by omega, List.take_succ_eq_append_getElem (by omega), hj2, List.append_assoc]
            congr 2
            rw [List.getElem!_eq_getElem?_getD, List.getElem?_eq_getElem (by omega)]
            rfl
          · simp only []
            rw [show (j + 1).toNat = j.toNat + 1 by omega, List.replicate_succ', hj3, List.append_assoc]
          · simp only [linkL]
            have hmem : qs[j.toNat]! ∈ qs := by
              rw [List.getElem!_eq_getElem?_getD, List.getElem?_eq_getElem (by omega)]
              exact List.getElem_mem _
            refine (Ent.at (A := allP (fun p : Pkt => msgP p.m) qs) (Ent.allP_get (x := qs[j.toNat]!) hmem)).trans ?_
            refine (Ent.allP_one (f := fun p : Pkt => msgP p.m) (x := qs[j.toNat]!) (fun _ => msgP_m _)).trans ?_
            refine (Ent.at (A := allP (fun p : Pkt => msgP p.m) lk'.ps) (Ent.consR (Ent.at (A := allP (fun p : Pkt => msgP p.m) [qs[j.toNat]!]) (Ent.refl _)))).trans ?_
            refine (Ent.allP_app (fun _ => msgP_m _)).trans ?_
            repeat (first | exact Ent.refl _ | exact Ent.nil _ | refine Ent.take' ?_ | refine Ent.trans Ent.drop ?_)
        · rename_i hq23
          by_cases hz : lk.ps.length = 0
          · repeat (first | refine run ?_ | intro _ | ((with_reducible apply G.atDraw); first | refine G.draw (id := 17) plC12_4_17 mixed (by kernel_rfl) ?_ | refine G.draw (id := 21) plC12_4_21 mixed (by kernel_rfl) ?_ | refine G.draw (id := 41) plC12_4_41 mixed (by kernel_rfl) ?_))
            refine ⟨(i + 1, S, lk), ⟨by simp only []; omega, by simp only []; omega, by simp only []; omega, ?_⟩, by simp only []; omega, (by repeat (first | exact EnvSub.nil _ | refine EnvSub.cons rfl ?_)), Ent.refl _⟩
            simp only []
            rw [show (i + 1).toNat = i.toNat + 1 by omega]
            exact hS.more
          have htl := hS.tl
          have hj : 0 ≤ nn / 2 % lk.ps.length ∧ nn / 2 % lk.ps.length < lk.ps.length := ⟨Int.emod_nonneg _ (by omega), Int.emod_lt_of_pos _ (by omega)⟩
          repeat (first | ((fail_if_success (with_reducible refine G.atS 16 ?_)); (with_reducible apply G.seq)) | refine runS ?_ | intro _ | ((with_reducible apply G.atDraw); first | refine G.draw (id := 17) plC12_4_17 mixed (by kernel_rfl) ?_ | refine G.draw (id := 21) plC12_4_21 mixed (by kernel_rfl) ?_ | refine G.draw (id := 41) plC12_4_41 mixed (by kernel_rfl) ?_))
          generalize nn / 2 % lk.ps.length = j at hj
          repeat (first | ((fail_if_success (with_reducible refine G.atS 17 ?_)); (with_reducible apply G.seq)) | refine runS ?_ | intro _ | ((with_reducible apply G.atDraw); first | refine G.draw (id := 17) plC12_4_17 mixed (by kernel_rfl) ?_ | refine G.draw (id := 21) plC12_4_21 mixed (by kernel_rfl) ?_ | refine G.draw (id := 41) plC12_4_41 mixed (by kernel_rfl) ?_))
          obtain ⟨t, ht⟩ : ∃ t, lk.ts[j.toNat]! = t := ⟨_, rfl⟩
          rw [ht]
          have ht1 : t = 0 ∨ t = 1 := by
            have := (hS.to j.toNat (by omega)).1
            rw [ht] at this
            exact this
          obtain ⟨kk, E', hin, hle2, hS'⟩ := hS.take (r := j.toNat) (by omega) ht
          have hmem : lk.ps[j.toNat]! ∈ lk.ps := by
            rw [List.getElem!_eq_getElem?_getD, List.getElem?_eq_getElem (by omega)]
            exact List.getElem_mem _
          refine G.ent (Ent.at (A := twoL (side es S)) (Ent.twoOpen ht1)) ?_
          simp only [side, List.cons_append, List.nil_append]
          refine G.ent (Ent.at (A := allP (fun p : Pkt => msgP p.m) lk.ps) (Ent.allP_get (x := lk.ps[j.toNat]!) hmem)) ?_
          repeat (first | refine run ?_ | intro _ | ((with_reducible apply G.atDraw); first | refine G.draw (id := 17) plC12_4_17 mixed (by kernel_rfl) ?_ | refine G.draw (id := 21) plC12_4_21 mixed (by kernel_rfl) ?_ | refine G.draw (id := 41) plC12_4_41 mixed (by kernel_rfl) ?_))
          rw [pr_get es ht1]
          (first | ((with_reducible apply GO.atPlain); first | refine GO.ef (Ef.callAt (in_spec _ (S.E t) (lk.ps[j.toNat]!).seq (lk.ps[j.toNat]!).ack (lk.ps[j.toNat]!).m.ad (lk.ps[j.toNat]!).m.bs.length (lk.ps[j.toNat]!).m.cap (lk.ps[j.toNat]!).m.bs rfl (hS.ok (by omega) ht1)) rfl) (by decide) ?_ | refine GO.ef (by exact Ef.callAt (in_spec _ (S.E t) (lk.ps[j.toNat]!).seq (lk.ps[j.toNat]!).ack (lk.ps[j.toNat]!).m.ad (lk.ps[j.toNat]!).m.bs.length (lk.ps[j.toNat]!).m.cap (lk.ps[j.toNat]!).m.bs rfl (hS.ok (by omega) ht1)) rfl) (by decide) ?_) | ((with_reducible apply GPW.atEf); first | refine GPW.ef (Ef.callAt (in_spec _ (S.E t) (lk.ps[j.toNat]!).seq (lk.ps[j.toNat]!).ack (lk.ps[j.toNat]!).m.ad (lk.ps[j.toNat]!).m.bs.length (lk.ps[j.toNat]!).m.cap (lk.ps[j.toNat]!).m.bs rfl (hS.ok (by omega) ht1)) rfl) (by decide) ?_ | refine GPW.ef (by exact Ef.callAt (in_spec _ (S.E t) (lk.ps[j.toNat]!).seq (lk.ps[j.toNat]!).ack (lk.ps[j.toNat]!).m.ad (lk.ps[j.toNat]!).m.bs.length (lk.ps[j.toNat]!).m.cap (lk.ps[j.toNat]!).m.bs rfl (hS.ok (by omega) ht1)) rfl) (by decide) ?_))
          rw [hin]
          rintro _ _ ⟨ad', cap', ms, rfl, hms, rfl⟩
          simp only [] at hms ⊢
          have hml : ms.length = kk := by
            have := len_of hms
            simp at this
            omega
          have hlx1 := hS.len _ (one_sub_cases ht1)
          have hlm := S.m_len (1 - t)
          repeat (first | refine run ?_ | intro _ | ((with_reducible apply G.atDraw); first | refine G.draw (id := 17) plC12_4_17 mixed (by kernel_rfl) ?_ | refine G.draw (id := 21) plC12_4_21 mixed (by kernel_rfl) ?_ | refine G.draw (id := 41) plC12_4_41 mixed (by kernel_rfl) ?_))
          refine G.loop (α := Int) (fun r => 0 ≤ r ∧ r ≤ ms.length)
            (fun r => (17, .int .i64 t) :: (18, .slice ad' ms.length cap') :: (19, .int .i64 r) :: ordEnv ad n c ce cs cg lk i)
            (fun r => osl encM 1 31 ad' cap' ms :: allP msgP ms :: sysL ce cs cg es ⟨upd S.E t E', S.s, S.x, upd S.g t (S.g t + r.toNat)⟩ (linkL lk [isl (encI .i64) 1 ad l]))
            (fun r => (ms.length - r).toNat) 0 ⟨by omega, by omega⟩ (by repeat (first | exact EnvSub.nil _ | refine EnvSub.cons rfl ?_)) ?_ ?_
          · simp only [show S.g t + (0 : Int).toNat = S.g t from rfl, upd_id]
            refine Ent.take' (Ent.take' (Ent.take' (Ent.take' (Ent.take' (Ent.trans ?_ (Ent.twoClose ht1))))))
            simp only [side, upd_same, upd_other _ ht1, List.cons_append, List.nil_append]
            repeat (first | exact Ent.refl _ | exact Ent.nil _ | refine Ent.take' ?_ | refine Ent.trans Ent.drop ?_)
          rintro r ⟨hr0, hr1⟩
          simp only [ordEnv, sysL, linkL]
          have hlg2 := pr_len fun j => ((upd S.g t (S.g t + r.toNat) j : Nat) : Int)
          have hgv := g_get (g := S.g) ht1 (S.g t + r.toNat)
          repeat (first | refine run ?_ | intro _ | ((with_reducible apply G.atDraw); first | refine G.draw (id := 17) plC12_4_17 mixed (by kernel_rfl) ?_ | refine G.draw (id := 21) plC12_4_21 mixed (by kernel_rfl) ?_ | refine G.draw (id := 41) plC12_4_41 mixed (by kernel_rfl) ?_))
          (first | with_reducible refine CB.dec (fun _ => ?_) (fun _ => ?_) | with_reducible refine GB.dec (fun _ => ?_) (fun _ => ?_) | with_reducible refine CB.bool (fun _ => ?_) (fun _ => ?_) | with_reducible refine GB.bool (fun _ => ?_) (fun _ => ?_))
          case refine_2 =>
            repeat (first | refine run ?_ | intro _ | ((with_reducible apply G.atDraw); first | refine G.draw (id := 17) plC12_4_17 mixed (by kernel_rfl) ?_ | refine G.draw (id := 21) plC12_4_21 mixed (by kernel_rfl) ?_ | refine G.draw (id := 41) plC12_4_41 mixed (by kernel_rfl) ?_))
            rw [show S.g t + r.toNat = S.g t + kk by omega]
            exact ⟨(⟨upd S.E t E', S.s, S.x, upd S.g t (S.g t + kk)⟩, lk), hS', (by repeat (first | exact EnvSub.nil _ | refine EnvSub.cons rfl ?_)), by repeat (first | exact Ent.refl _ | exact Ent.nil _ | refine Ent.take' ?_ | refine Ent.trans Ent.drop ?_)⟩
          rename_i hr2
          have hmem2 : ms[r.toNat]! ∈ ms := by
            rw [List.getElem!_eq_getElem?_getD, List.getElem?_eq_getElem (by omega)]
            exact List.getElem_mem _
          obtain ⟨hg1, hg2⟩ := got_at hms (r := r.toNat) (by omega)
          have hmem3 : (S.s (1 - t))[S.g t + r.toNat]! ∈ S.s (1 - t) := by
            rw [List.getElem!_eq_getElem?_getD, List.getElem?_eq_getElem hg1]
            exact List.getElem_mem _
          have hsm := hS.small _ (one_sub_cases ht1) ((S.s (1 - t))[S.g t + r.toNat]!).bs (List.mem_map_of_mem hmem3)
          have hxx := pr_get S.x (one_sub_cases ht1)
          have hxn : ((pr S.x)[(1 - t).toNat]!).n = (S.s (1 - t)).length := by rw [hxx]; omega
          refine G.ent (Ent.at (A := allP msgP ms) (Ent.allP_get (x := ms[r.toNat]!) hmem2)) ?_
          refine G.ent (Ent.at (A := twoL (side es ⟨upd S.E t E', S.s, S.x, upd S.g t (S.g t + r.toNat)⟩)) (Ent.twoOpen ht1)) ?_
          simp only [side, List.cons_append, List.nil_append]
          repeat (first | refine run ?_ | intro _ | ((with_reducible apply G.atDraw); first | refine G.draw (id := 17) plC12_4_17 mixed (by kernel_rfl) ?_ | refine G.draw (id := 21) plC12_4_21 mixed (by kernel_rfl) ?_ | refine G.draw (id := 41) plC12_4_41 mixed (by kernel_rfl) ?_))
          rw [hxx]
          rw [hxx] at hxn
          repeat (first | refine run ?_ | intro _ | ((with_reducible apply G.atDraw); first | refine G.draw (id := 17) plC12_4_17 mixed (by kernel_rfl) ?_ | refine G.draw (id := 21) plC12_4_21 mixed (by kernel_rfl) ?_ | refine G.draw (id := 41) plC12_4_41 mixed (by kernel_rfl) ?_))
          rw [hgv, Int.toNat_natCast]
          refine GPW.ent (Ent.at (A := allP msgP (S.s (1 - t))) (Ent.allP_get (x := (S.s (1 - t))[S.g t + r.toNat]!) hmem3)) ?_
          (first | ((with_reducible apply GO.atPlain); first | refine GO.ef (Ef.callAll (sameBytes_spec (ms[r.toNat]!).ad _ (ms[r.toNat]!).cap (ms[r.toNat]!).bs ((S.s (1 - t))[S.g t + r.toNat]!).ad _ ((S.s (1 - t))[S.g t + r.toNat]!).cap ((S.s (1 - t))[S.g t + r.toNat]!).bs rfl rfl (by rw [hg2]; omega)) rfl) (by decide) ?_ | refine GO.ef (by exact Ef.callAll (sameBytes_spec (ms[r.toNat]!).ad _ (ms[r.toNat]!).cap (ms[r.toNat]!).bs ((S.s (1 - t))[S.g t + r.toNat]!).ad _ ((S.s (1 - t))[S.g t + r.toNat]!).cap ((S.s (1 - t))[S.g t + r.toNat]!).bs rfl rfl (by rw [hg2]; omega)) rfl) (by decide) ?_) | ((with_reducible apply GPW.atEf); first | refine GPW.ef (Ef.callAll (sameBytes_spec (ms[r.toNat]!).ad _ (ms[r.toNat]!).cap (ms[r.toNat]!).bs ((S.s (1 - t))[S.g t + r.toNat]!).ad _ ((S.s (1 - t))[S.g t + r.toNat]!).cap ((S.s (1 - t))[S.g t + r.toNat]!).bs rfl rfl (by rw [hg2]; omega)) rfl) (by decide) ?_ | refine GPW.ef (by exact Ef.callAll (sameBytes_spec (ms[r.toNat]!).ad _ (ms[r.toNat]!).cap (ms[r.toNat]!).bs ((S.s (1 - t))[S.g t + r.toNat]!).ad _ ((S.s (1 - t))[S.g t + r.toNat]!).cap ((S.s (1 - t))[S.g t + r.toNat]!).bs rfl rfl (by rw [hg2]; omega)) rfl) (by decide) ?_))
          rintro _ _ ⟨rfl, rfl⟩
          rw [dB_pos hg2]
          repeat (first | refine run ?_ | intro _ | ((with_reducible apply G.atDraw); first | refine G.draw (id := 17) plC12_4_17 mixed (by kernel_rfl) ?_ | refine G.draw (id := 21) plC12_4_21 mixed (by kernel_rfl) ?_ | refine G.draw (id := 41) plC12_4_41 mixed (by kernel_rfl) ?_))
          have hset : (pr fun j => ((upd S.g t (S.g t + r.toNat) j : Nat) : Int)).set t.toNat ((pr fun j => ((upd S.g t (S.g t + r.toNat) j : Nat) : Int))[t.toNat]! + 1) = pr fun j => ((upd S.g t (S.g t + (r + 1).toNat) j : Nat) : Int) := by
            rw [hgv, show ((S.g t + r.toNat : Nat) : Int) + 1 = ((S.g t + (r + 1).toNat : Nat) : Int) by omega]
            exact g_set ht1 _ _
          rw [hset]
          refine ⟨r + 1, ⟨by omega, by omega⟩, by omega, (by repeat (first | exact EnvSub.nil _ | refine EnvSub.cons rfl ?_)), ?_⟩
          refine Ent.take' (Ent.take' (Ent.take' (Ent.take' (Ent.take' (Ent.trans ?_ (Ent.twoClose ht1))))))
          simp only [side, List.cons_append, List.nil_append]
          repeat (first | exact Ent.refl _ | exact Ent.nil _ | refine Ent.take' ?_ | refine Ent.trans Ent.drop ?_)
    · clear hS
      clear lk S
      rintro ⟨S, lk⟩ hS
      simp only [ordEnv, sysL, linkL] at hS ⊢
      have hlx := pr_len S.x
      have hlg := pr_len fun j => (S.g j : Int)
      have hle := pr_len es
      repeat (first | refine run ?_ | intro _ | ((with_reducible apply G.atDraw); first | refine G.draw (id := 17) plC12_4_17 mixed (by kernel_rfl) ?_ | refine G.draw (id := 21) plC12_4_21 mixed (by kernel_rfl) ?_ | refine G.draw (id := 41) plC12_4_41 mixed (by kernel_rfl) ?_))
      refine G.loop (α := Int) (fun j => 0 ≤ j ∧ j ≤ 2) (fun j => (20, .int .i64 j) :: ordEnv ad n c ce cs cg lk i) (fun _ => sysL ce cs cg es S (linkL lk [isl (encI .i64) 1 ad l])) (fun j => (2 - j).toNat) 0 ⟨by omega, by omega⟩ (by repeat (first | exact EnvSub.nil _ | refine EnvSub.cons rfl ?_)) (Ent.refl _) ?_
      rintro j ⟨hj0, hj1⟩
      simp only [ordEnv, sysL, linkL]
      repeat (first | refine run ?_ | intro _ | ((with_reducible apply G.atDraw); first | refine G.draw (id := 17) plC12_4_17 mixed (by kernel_rfl) ?_ | refine G.draw (id := 21) plC12_4_21 mixed (by kernel_rfl) ?_ | refine G.draw (id := 41) plC12_4_41 mixed (by kernel_rfl) ?_))
      (first | with_reducible refine CB.dec (fun _ => ?_) (fun _ => ?_) | with_reducible refine GB.dec (fun _ => ?_) (fun _ => ?_) | with_reducible refine CB.bool (fun _ => ?_) (fun _ => ?_) | with_reducible refine GB.bool (fun _ => ?_) (fun _ => ?_))
      case refine_2 =>
        repeat (first | refine run ?_ | intro _ | ((with_reducible apply G.atDraw); first | refine G.draw (id := 17) plC12_4_17 mixed (by kernel_rfl) ?_ | refine G.draw (id := 21) plC12_4_21 mixed (by kernel_rfl) ?_ | refine G.draw (id := 41) plC12_4_41 mixed (by kernel_rfl) ?_))
        refine ⟨(i + 1, S, lk), ⟨by simp only []; omega, by simp only []; omega, by simp only []; omega, ?_⟩, by simp only []; omega, (by repeat (first | exact EnvSub.nil _ | refine EnvSub.cons rfl ?_)), Ent.refl _⟩
        simp only []
        rw [show (i + 1).toNat = i.toNat + 1 by omega]
        exact hS
      rename_i hj2
      have hj : j = 0 ∨ j = 1 := by omega
      have hww := hS.waits hj
      have hxx := pr_get S.x hj
      have hxn : ((pr S.x)[j.toNat]!).n = (S.x j).n := by rw [hxx]
      have hgg : (pr fun j => (S.g j : Int))[(1 - j).toNat]! = (S.g (1 - j) : Int) := pr_get (fun j => (S.g j : Int)) (one_sub_cases hj)
      refine G.ent (Ent.at (A := twoL (side es S)) (Ent.twoOpen hj)) ?_
      simp only [side, List.cons_append, List.nil_append]
      repeat (first | refine run ?_ | intro _ | ((with_reducible apply G.atDraw); first | refine G.draw (id := 17) plC12_4_17 mixed (by kernel_rfl) ?_ | refine G.draw (id := 21) plC12_4_21 mixed (by kernel_rfl) ?_ | refine G.draw (id := 41) plC12_4_41 mixed (by kernel_rfl) ?_))
      rw [pr_get es hj]
      (first | ((with_reducible apply GO.atPlain); first | refine GO.ef (Ef.callAt (waiting_spec _ (S.E j)) rfl) (by decide) ?_ | refine GO.ef (by exact Ef.callAt (waiting_spec _ (S.E j)) rfl) (by decide) ?_) | ((with_reducible apply GPW.atEf); first | refine GPW.ef (Ef.callAt (waiting_spec _ (S.E j)) rfl) (by decide) ?_ | refine GPW.ef (by exact Ef.callAt (waiting_spec _ (S.E j)) rfl) (by decide) ?_))
      rintro _ _ ⟨rfl, rfl⟩
      repeat (first | refine run ?_ | intro _ | ((with_reducible apply G.atDraw); first | refine G.draw (id := 17) plC12_4_17 mixed (by kernel_rfl) ?_ | refine G.draw (id := 21) plC12_4_21 mixed (by kernel_rfl) ?_ | refine G.draw (id := 41) plC12_4_41 mixed (by kernel_rfl) ?_))
      rw [pr_get es hj]
      (first | ((with_reducible apply GO.atPlain); first | refine GO.ef (Ef.callAt (waiting_spec _ (S.E j)) rfl) (by decide) ?_ | refine GO.ef (by exact Ef.callAt (waiting_spec _ (S.E j)) rfl) (by decide) ?_) | ((with_reducible apply GPW.atEf); first | refine GPW.ef (Ef.callAt (waiting_spec _ (S.E j)) rfl) (by decide) ?_ | refine GPW.ef (by exact Ef.callAt (waiting_spec _ (S.E j)) rfl) (by decide) ?_))
      rintro _ _ ⟨rfl, rfl⟩
      repeat (first | refine run ?_ | intro _ | ((with_reducible apply G.atDraw); first | refine G.draw (id := 17) plC12_4_17 mixed (by kernel_rfl) ?_ | refine G.draw (id := 21) plC12_4_21 mixed (by kernel_rfl) ?_ | refine G.draw (id := 41) plC12_4_41 mixed (by kernel_rfl) ?_))
      refine ⟨j + 1, ⟨by omega, by omega⟩, by omega, (by repeat (first | exact EnvSub.nil _ | refine EnvSub.cons rfl ?_)), ?_⟩
      refine Ent.take' (Ent.take' (Ent.take' (Ent.trans ?_ (Ent.twoClose hj))))
      simp only [side, List.cons_append, List.nil_append]
      repeat (first | exact Ent.refl _ | exact Ent.nil _ | refine Ent.take' ?_ | refine Ent.trans Ent.drop ?_)
  · rintro _ _
    repeat (first | refine run ?_ | intro _ | ((with_reducible apply G.atDraw); first | refine G.draw (id := 17) plC12_4_17 mixed (by kernel_rfl) ?_ | refine G.draw (id := 21) plC12_4_21 mixed (by kernel_rfl) ?_ | refine G.draw (id := 41) plC12_4_41 mixed (by kernel_rfl) ?_))
    (first | ((with_reducible apply GO.atPlain); first | refine GO.ef (Ef.call (lives_spec) rfl (by repeat (first | exact Ent.refl _ | refine Ent.take ?_))) (by decide) ?_ | refine GO.ef (by exact Ef.call (lives_spec) rfl (by repeat (first | exact Ent.refl _ | refine Ent.take ?_))) (by decide) ?_) | ((with_reducible apply GPW.atEf); first | refine GPW.ef (Ef.call (lives_spec) rfl (by repeat (first | exact Ent.refl _ | refine Ent.take ?_))) (by decide) ?_ | refine GPW.ef (by exact Ef.call (lives_spec) rfl (by repeat (first | exact Ent.refl _ | refine Ent.take ?_))) (by decide) ?_))
    rintro _ _ ⟨_, ⟨rfl, rfl⟩, hL⟩
    simp only [List.cons_append, List.nil_append] at hL; subst hL
    repeat (first | refine run ?_ | intro _ | ((with_reducible apply G.atDraw); first | refine G.draw (id := 17) plC12_4_17 mixed (by kernel_rfl) ?_ | refine G.draw (id := 21) plC12_4_21 mixed (by kernel_rfl) ?_ | refine G.draw (id := 41) plC12_4_41 mixed (by kernel_rfl) ?_))
    exact KX.ends (by first | exact ResOk.tmps rfl | (repeat (first | exact ResOk.nil | refine ResOk.tmp rfl ?_ | refine ResOk.cell rfl (by rfl) ?_ | refine ResOk.cell1 rfl ?_))) (Ent.nil _) ⟨rfl, trivial⟩
end Go.Proofs.Ytnpienjfapjjoaa
