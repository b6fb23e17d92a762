/- ChannelOrder: what holds of two ends between which packets go in any order. -/
import Derived.Test.YtnpienjfapjjoaaC7
namespace Go.Proofs.Ytnpienjfapjjoaa
open Go.V

/-- An end that has sent 'mine', has got the first 'got' of 'peer', and whose other end has got 'gp' of its own. -/
structure EInv (mine peer : List Bytes) (got gp : Nat) (E : EndS) : Prop where
  win : 1 ≤ E.window ∧ E.window ≤ 16
  sent : E.sent = mine.length
  wait : ∃ a, a ≤ mine.length ∧ a ≤ gp ∧ E.waiting = mine.drop a
  del : E.delivered = got
  le : got ≤ peer.length
  held : ∀ p ∈ E.held, (got : Int) < p.1 ∧ p.1 ≤ peer.length ∧ p.2 = peer[(p.1 - 1).toNat]!
/-- A packet of an end that has sent 'mine' and got 'g'. -/
def PInv (mine : List Bytes) (g : Nat) (p : PktS) : Prop := ((p.1 = 0 ∧ p.2.2 = []) ∨ (1 ≤ p.1 ∧ p.1 ≤ mine.length ∧ p.2.2 = mine[(p.1 - 1).toNat]!)) ∧ 0 ≤ p.2.1 ∧ p.2.1 ≤ g

theorem get_app {l m : List Bytes} {i : Nat} (h : i < l.length) : (l ++ m)[i]! = l[i]! := by
  simp [List.getElem!_eq_getElem?_getD, List.getElem?_append_left h]
theorem EInv.ok {mine peer : List Bytes} {got gp : Nat} {E : EndS} (h : EInv mine peer got gp E) (h1 : mine.length ≤ 1000) (h2 : peer.length ≤ 1000) (h3 : E.held.length ≤ 1000) : E.Ok := by
  obtain ⟨a, h4, h5, h6⟩ := h.wait
  have h7 := h.del
  have h8 := h.sent
  have h9 := h.le
  refine ⟨h.win, ?_, ?_, ?_⟩
  · rw [h6, List.length_drop, h8]; omega
  · rw [h6, List.length_drop]; omega
  · rw [h7]; omega
theorem EInv.send {mine peer : List Bytes} {got gp : Nat} {E : EndS} (h : EInv mine peer got gp E) (b : Bytes) : EInv (mine ++ [b]) peer got gp (E.send b) := by
  obtain ⟨a, h4, h5, h6⟩ := h.wait
  refine ⟨h.win, by simp [EndS.send, h.sent], ⟨a, by simp; omega, h5, ?_⟩, h.del, h.le, h.held⟩
  simp [EndS.send, h6, List.drop_append_of_le_length h4]
theorem EInv.peerSends {mine peer : List Bytes} {got gp : Nat} {E : EndS} (h : EInv mine peer got gp E) (b : Bytes) : EInv mine (peer ++ [b]) got gp E := by
  have h9 := h.le
  refine ⟨h.win, h.sent, h.wait, h.del, by simp; omega, ?_⟩
  intro p hp
  obtain ⟨h1, h2, h3⟩ := h.held p hp
  refine ⟨h1, by simp; omega, ?_⟩
  rw [get_app (by omega)]
  exact h3
theorem PInv.sends {mine : List Bytes} {g : Nat} {p : PktS} (h : PInv mine g p) (b : Bytes) : PInv (mine ++ [b]) g p := by
  obtain ⟨h1, h2⟩ := h
  refine ⟨?_, h2⟩
  rcases h1 with h1 | ⟨h3, h4, h5⟩
  · exact .inl h1
  · refine .inr ⟨h3, by simp; omega, ?_⟩
    rw [get_app (by omega)]
    exact h5
theorem PInv.more {mine : List Bytes} {g g' : Nat} {p : PktS} (h : PInv mine g p) (hg : g ≤ g') : PInv mine g' p := ⟨h.1, h.2.1, by have := h.2.2; omega⟩
theorem EInv.peerGets {mine peer : List Bytes} {got gp gp' : Nat} {E : EndS} (h : EInv mine peer got gp E) (hg : gp ≤ gp') : EInv mine peer got gp' E := by
  obtain ⟨a, h4, h5, h6⟩ := h.wait
  exact ⟨h.win, h.sent, ⟨a, h4, by omega, h6⟩, h.del, h.le, h.held⟩
theorem EInv.quiet {mine peer : List Bytes} {got gp : Nat} {E : EndS} (h : EInv mine peer got gp E) : EInv mine peer got gp { E with owing := false } := ⟨h.win, h.sent, h.wait, h.del, h.le, h.held⟩
theorem EInv.out {mine peer : List Bytes} {got gp : Nat} {E : EndS} (h : EInv mine peer got gp E) : ∀ p ∈ E.out, PInv mine got p := by
  obtain ⟨a, h4, h5, h6⟩ := h.wait
  intro p hp
  unfold EndS.out at hp
  split at hp
  · split at hp
    · simp at hp
      subst hp
      exact ⟨.inl ⟨rfl, rfl⟩, by simp only []; rw [h.del]; omega, by simp only []; rw [h.del]; omega⟩
    · simp at hp
  · simp only [EndS.firsts, List.mem_map] at hp
    obtain ⟨⟨x, i⟩, hx, rfl⟩ := hp
    have hx' := List.mem_zipIdx' hx
    obtain ⟨hi, hxe⟩ := hx'
    simp only [List.length_take] at hi
    simp only [h6, List.length_drop] at hi
    refine ⟨.inr ?_, by simp only []; rw [h.del]; omega, by simp only []; rw [h.del]; omega⟩
    simp only [h6, List.length_drop, h.sent]
    refine ⟨by omega, by omega, ?_⟩
    rw [hxe]
    simp only [List.getElem_take, h6, List.getElem_drop]
    rw [List.getElem!_eq_getElem?_getD, show (((mine.length : Int) - ((mine.length - a : Nat) : Int) + 1 + i - 1)).toNat = a + i by omega, List.getElem?_eq_getElem (by omega)]
    rfl
theorem deliver_inv {mine peer : List Bytes} {gp : Nat} : ∀ (n : Nat) (got : Nat) (E : EndS) (acc : List Bytes), E.held.length ≤ n → EInv mine peer got gp E →
    ∃ k E', E.deliver n acc = (E', acc ++ (peer.drop got).take k) ∧ got + k ≤ peer.length ∧ EInv mine peer (got + k) gp E' ∧ E'.held.length ≤ E.held.length
  | 0, got, E, acc, hl, h => ⟨0, E, by simp [EndS.deliver], h.le, h, Nat.le_refl _⟩
  | n + 1, got, E, acc, hl, h => by
    simp only [EndS.deliver]
    cases hk : E.held.lookup (E.delivered + 1) with
    | none => exact ⟨0, E, by simp, h.le, h, Nat.le_refl _⟩
    | some b =>
      have hm := lookup_mem hk
      obtain ⟨h1, h2, h3⟩ := h.held _ hm
      have hd := h.del
      simp only [] at h1 h2 h3
      have hlt := aera_lt hk
      have hE : EInv mine peer (got + 1) gp { E with delivered := E.delivered + 1, held := aera E.held (E.delivered + 1) } := by
        refine ⟨h.win, h.sent, h.wait, by simp only []; omega, by omega, ?_⟩
        intro p hp
        simp only [aera, List.mem_filter] at hp
        obtain ⟨hp1, hp2⟩ := hp
        obtain ⟨g1, g2, g3⟩ := h.held p hp1
        have hne : p.1 ≠ E.delivered + 1 := by simpa using hp2
        exact ⟨by omega, g2, g3⟩
      obtain ⟨k, E', e1, e2, e3, e4⟩ := deliver_inv n (got + 1) _ (acc ++ [b]) (by simp only []; omega) hE
      refine ⟨k + 1, E', ?_, by omega, by rw [show got + (k + 1) = got + 1 + k by omega]; exact e3, by simp only [] at e4; omega⟩
      simp only []
      rw [e1]
      have hb : b = peer[got] := by
        rw [h3, show (E.delivered + 1 - 1).toNat = got by omega, List.getElem!_eq_getElem?_getD, List.getElem?_eq_getElem (by omega)]
        rfl
      rw [List.drop_eq_getElem_cons (show got < peer.length by omega), List.take_succ_cons, hb]
      simp
theorem EInv.take {mine peer : List Bytes} {got gp : Nat} {E : EndS} (h : EInv mine peer got gp E) (h1 : gp ≤ mine.length) (hb : ∀ x ∈ peer, x.length ≤ 65536) {p : PktS} (hp : PInv peer gp p) :
    ∃ k E', E.inn p.1 p.2.1 p.2.2 = (E', (peer.drop got).take k) ∧ got + k ≤ peer.length ∧ EInv mine peer (got + k) gp E' ∧ E'.held.length ≤ E.held.length + 1 := by
  obtain ⟨s, q, xs⟩ := p
  obtain ⟨h2, h3, h4⟩ := hp
  simp only [] at h2 h3 h4 ⊢
  obtain ⟨a, w1, w2, w3⟩ := h.wait
  have hs := h.sent
  have hd := h.del
  have hack : EInv mine peer got gp (E.ackd q) := by
    unfold EndS.ackd
    split
    · rename_i hq
      refine ⟨h.win, h.sent, ⟨max a q.toNat, by omega, by omega, ?_⟩, h.del, h.le, h.held⟩
      simp only [w3, List.length_drop, hs] at hq ⊢
      rw [List.drop_drop]
      congr 1
      omega
    · exact h
  have hhl : (E.ackd q).held = E.held := ackd_held E q
  unfold EndS.inn
  split
  · exact ⟨0, E, by simp, h.le, h, by omega⟩
  · split
    · exact ⟨0, _, by simp, h.le, hack, by rw [hhl]; omega⟩
    · rename_i hz
      have hr : 1 ≤ s ∧ s ≤ peer.length ∧ xs = peer[(s - 1).toNat]! := by
        rcases h2 with h2 | h2
        · exact absurd h2.1 hz
        · exact h2
      have hh : EInv mine peer got gp (({ E.ackd q with owing := true } : EndS).hold s xs) := by
        unfold EndS.hold
        split
        · rename_i hc
          refine ⟨hack.win, hack.sent, hack.wait, hack.del, hack.le, ?_⟩
          intro p hp
          simp only [] at hc hp
          rw [ains_new hc.1] at hp
          rcases List.mem_append.1 hp with hp | hp
          · exact hack.held p hp
          · simp at hp
            subst hp
            have := hack.del
            exact ⟨by omega, hr.2.1, hr.2.2⟩
        · exact ⟨hack.win, hack.sent, hack.wait, hack.del, hack.le, hack.held⟩
      have hl : (({ E.ackd q with owing := true } : EndS).hold s xs).held.length ≤ E.held.length + 1 := by
        have := hold_len { E.ackd q with owing := true } s xs
        rw [show ({ E.ackd q with owing := true } : EndS).held = E.held from hhl] at this
        exact this
      obtain ⟨k, E', e1, e2, e3, e4⟩ := deliver_inv _ got _ [] (Nat.le_refl _) hh
      exact ⟨k, E', by rw [e1]; simp, e2, e3, by omega⟩
end Go.Proofs.Ytnpienjfapjjoaa
