/- Two ends, and what an end does to packets that come in order. -/
import Derived.Test.YtnpienjfapjjoaaC5
namespace Go.Proofs.Ytnpienjfapjjoaa
open Go.V

/-- An end that has sent ms, of which a are acknowledged, and has delivered d, in order. -/
def ordE (w : Int) (ms : List Bytes) (a d : Nat) (ow : Bool) : EndS := ⟨w, ms.length, ms.drop a, d, [], ow⟩
theorem ordE_ok {w : Int} {ms : List Bytes} {a d : Nat} {ow : Bool} (h1 : 1 ≤ w) (h2 : w ≤ 16) (hm : ms.length ≤ 1000) (hd : d ≤ 1000) : (ordE w ms a d ow).Ok :=
  ⟨⟨h1, h2⟩, by simp [ordE]; omega, by simp [ordE]; omega, by simp [ordE]; omega⟩
theorem ordE_ackd (w : Int) (ms : List Bytes) (a d : Nat) (ow : Bool) (k : Nat) (ha : a ≤ ms.length) : (ordE w ms a d ow).ackd k = ordE w ms (max a k) d ow := by
  simp only [EndS.ackd, ordE, List.length_drop, List.drop_drop]
  split
  · rename_i h
    have : max a k = a + ((k : Int) - (ms.length - ((ms.length - a : Nat) : Int))).toNat := by omega
    rw [this]
  · rename_i h
    have : max a k = a := by omega
    rw [this]
theorem ordE_in (w : Int) (ms : List Bytes) (a d : Nat) (ow : Bool) (s k : Nat) (xs : Bytes) (ha : a ≤ ms.length) (hk : k ≤ ms.length) (hv : validB s k xs.length = true) (hs : s ≤ d + 1) :
    (ordE w ms a d ow).inn s k xs = if s = 0 then (ordE w ms (max a k) d ow, []) else if s = d + 1 then (ordE w ms (max a k) (d + 1) true, [xs]) else (ordE w ms (max a k) d true, []) := by
  have h1 : ¬ (validB (s : Int) (k : Int) xs.length = false ∨ (ordE w ms a d ow).sent < k ∨ (ordE w ms a d ow).delivered + 16 < s) := by
    rintro (h | h | h)
    · rw [hv] at h; cases h
    · simp [ordE] at h; omega
    · simp [ordE] at h; omega
  rw [EndS.inn, if_neg h1, ordE_ackd _ _ _ _ _ _ ha]
  by_cases h0 : s = 0
  · simp [h0]
  · rw [if_neg (by omega), if_neg h0]
    by_cases h2 : s = d + 1
    · rw [if_pos h2]
      subst h2
      have e1 : (({ ordE w ms (max a k) d ow with owing := true } : EndS).hold ((d + 1 : Nat) : Int) xs) = ⟨w, ms.length, ms.drop (max a k), d, [((d : Int) + 1, xs)], true⟩ := by
        rw [EndS.hold, if_pos (by simp [ordE]; omega)]
        simp [ordE, ains]
      rw [e1]
      simp [EndS.deliver, aera, ordE]
    · rw [if_neg h2]
      have e1 : (({ ordE w ms (max a k) d ow with owing := true } : EndS).hold (s : Int) xs) = ordE w ms (max a k) d true := by
        rw [EndS.hold, if_neg (by simp [ordE]; omega)]
        rfl
      rw [e1]
      simp [EndS.deliver, ordE]
/-- What such an end sends. -/
theorem ordE_out_none (w : Int) (ms : List Bytes) (d : Nat) (ow : Bool) (a : Nat) (ha : ms.length ≤ a) : (ordE w ms a d ow).out = if ow then [(0, (d : Int), [])] else [] := by
  have : ms.drop a = [] := List.drop_eq_nil_of_le ha
  simp [EndS.out, ordE, this]
theorem ordE_out_len (w : Int) (ms : List Bytes) (d : Nat) (ow : Bool) (a : Nat) (h1 : 1 ≤ w) (ha : a < ms.length) : (ordE w ms a d ow).out.length = min w.toNat (ms.length - a) := by
  have hn : ¬ (min w.toNat (ms.length - a) = 0) := by omega
  simp only [EndS.out, ordE, List.length_drop, hn, if_false]
  simp [EndS.firsts]
theorem ordE_out_get (w : Int) (ms : List Bytes) (d : Nat) (ow : Bool) (a : Nat) (h1 : 1 ≤ w) (ha : a < ms.length) (j : Nat) (hj : j < (ordE w ms a d ow).out.length) : (ordE w ms a d ow).out[j] = (((a + 1 + j : Nat) : Int), (d : Int), ms[a + j]!) := by
  have hl := ordE_out_len w ms d ow a h1 ha
  have hn : ¬ (min w.toNat (ms.length - a) = 0) := by omega
  have e : (ordE w ms a d ow).out = (ordE w ms a d ow).firsts (min w.toNat (ms.length - a)) := by
    simp only [EndS.out, ordE, List.length_drop, hn, if_false]
  have e2 : (ordE w ms a d ow).firsts (min w.toNat (ms.length - a)) = ((ms.drop a).take (min w.toNat (ms.length - a))).zipIdx.map fun p => ((ms.length : Int) - ((ms.length - a : Nat) : Int) + 1 + (p.2 : Int), (d : Int), p.1) := by simp [EndS.firsts, ordE]
  have e3 := e.trans e2
  have e4 : (ordE w ms a d ow).out[j]? = some (((a + 1 + j : Nat) : Int), (d : Int), ms[a + j]!) := by
    rw [e3, List.getElem?_map, List.getElem?_zipIdx, List.getElem?_take, if_pos (by omega), List.getElem?_drop, List.getElem?_eq_getElem (by omega)]
    simp [List.getElem!_eq_getElem?_getD, List.getElem?_eq_getElem (show a + j < ms.length by omega)]
    omega
  rw [List.getElem?_eq_getElem hj] at e4
  exact Option.some.inj e4

def bytesN (m : Nat) : List Bytes := (List.range m).map fun i : Nat => ([(i : Int)] : Bytes)
theorem bytesN_len (m : Nat) : (bytesN m).length = m := by simp [bytesN]
theorem bytesN_succ (m : Nat) : bytesN (m + 1) = bytesN m ++ [[(m : Int)]] := by simp [bytesN, List.range_succ]
theorem bytesN_get (m i : Nat) (h : i < m) : (bytesN m)[i]! = [(i : Int)] := by simp [bytesN, List.getElem!_eq_getElem?_getD, List.getElem?_eq_getElem, h]
theorem bytesN_mem {m : Nat} {b : Bytes} (h : b ∈ bytesN m) : b.length = 1 := by
  simp [bytesN] at h
  obtain ⟨i, _, rfl⟩ := h
  rfl
theorem abs_get {ps : List Pkt} {l : List PktS} (h : ps.map Pkt.abs = l) (j : Nat) (hj : j < l.length) : (ps[j]!).abs = l[j] := by
  subst h
  simp at hj
  simp [List.getElem!_eq_getElem?_getD, hj]

attribute [local irreducible] G GO GP GPW GPK Ev Ef Ent CB GB validB
theorem ends_spec (window : Int) (h : -9223372036854775808 ≤ window ∧ window ≤ 9223372036854775807) :
    Tri Try.prog 10 #[.int .i64 window] [] (fun v L => ∃ c a b, v = .slice (some ⟨c, 0, none⟩) 2 2 ∧ L = [osl encP 1 33 (some ⟨c, 0, none⟩) 2 [a, b], EndR b (EndS.new (1 + around (window.tdiv 16) 16)), EndR a (EndS.new (1 + around window 16))]) := by
  refine Tri.body (args := [.int .i64 window]) 39 en10 Try.func10 rfl rfl rfl (by simp) ?_
  have hb1 := around_bd window (k := 16) (by decide)
  have hb2 := around_bd (window.tdiv 16) (k := 16) (by decide)
  have hq := tdiv_bounds h.1 h.2 (b := 16) (by decide)
  repeat (first | refine run ?_ | intro _)
  (first | ((with_reducible apply GO.atPlain); first | refine GO.ef (Ef.call (around_spec window 16 h.1 h.2 (by decide) (by decide)) rfl (by repeat (first | exact Ent.refl _ | refine Ent.take ?_))) (by decide) ?_ | refine GO.ef (by exact Ef.call (around_spec window 16 h.1 h.2 (by decide) (by decide)) rfl (by repeat (first | exact Ent.refl _ | refine Ent.take ?_))) (by decide) ?_) | ((with_reducible apply GPW.atEf); first | refine GPW.ef (Ef.call (around_spec window 16 h.1 h.2 (by decide) (by decide)) rfl (by repeat (first | exact Ent.refl _ | refine Ent.take ?_))) (by decide) ?_ | refine GPW.ef (by exact Ef.call (around_spec window 16 h.1 h.2 (by decide) (by decide)) rfl (by repeat (first | exact Ent.refl _ | refine Ent.take ?_))) (by decide) ?_))
  rintro _ _ ⟨_, ⟨rfl, rfl⟩, hL⟩
  simp only [List.cons_append, List.nil_append] at hL; subst hL
  repeat (first | refine run ?_ | intro _)
  (first | ((with_reducible apply GO.atPlain); first | refine GO.ef (Ef.call (new_spec (1 + around window 16) (by omega) (by omega)) rfl (by repeat (first | exact Ent.refl _ | refine Ent.take ?_))) (by decide) ?_ | refine GO.ef (by exact Ef.call (new_spec (1 + around window 16) (by omega) (by omega)) rfl (by repeat (first | exact Ent.refl _ | refine Ent.take ?_))) (by decide) ?_) | ((with_reducible apply GPW.atEf); first | refine GPW.ef (Ef.call (new_spec (1 + around window 16) (by omega) (by omega)) rfl (by repeat (first | exact Ent.refl _ | refine Ent.take ?_))) (by decide) ?_ | refine GPW.ef (by exact Ef.call (new_spec (1 + around window 16) (by omega) (by omega)) rfl (by repeat (first | exact Ent.refl _ | refine Ent.take ?_))) (by decide) ?_))
  rintro _ _ ⟨_, ⟨a, rfl, rfl⟩, hL⟩
  simp only [List.cons_append, List.nil_append] at hL; subst hL
  repeat (first | refine run ?_ | intro _)
  (first | ((with_reducible apply GO.atPlain); first | refine GO.ef (Ef.call (around_spec (window.tdiv 16) 16 (by omega) (by omega) (by decide) (by decide)) rfl (by repeat (first | exact Ent.refl _ | refine Ent.take ?_))) (by decide) ?_ | refine GO.ef (by exact Ef.call (around_spec (window.tdiv 16) 16 (by omega) (by omega) (by decide) (by decide)) rfl (by repeat (first | exact Ent.refl _ | refine Ent.take ?_))) (by decide) ?_) | ((with_reducible apply GPW.atEf); first | refine GPW.ef (Ef.call (around_spec (window.tdiv 16) 16 (by omega) (by omega) (by decide) (by decide)) rfl (by repeat (first | exact Ent.refl _ | refine Ent.take ?_))) (by decide) ?_ | refine GPW.ef (by exact Ef.call (around_spec (window.tdiv 16) 16 (by omega) (by omega) (by decide) (by decide)) rfl (by repeat (first | exact Ent.refl _ | refine Ent.take ?_))) (by decide) ?_))
  rintro _ _ ⟨_, ⟨rfl, rfl⟩, hL⟩
  simp only [List.cons_append, List.nil_append] at hL; subst hL
  repeat (first | refine run ?_ | intro _)
  (first | ((with_reducible apply GO.atPlain); first | refine GO.ef (Ef.call (new_spec (1 + around (window.tdiv 16) 16) (by omega) (by omega)) rfl (by repeat (first | exact Ent.refl _ | refine Ent.take ?_))) (by decide) ?_ | refine GO.ef (by exact Ef.call (new_spec (1 + around (window.tdiv 16) 16) (by omega) (by omega)) rfl (by repeat (first | exact Ent.refl _ | refine Ent.take ?_))) (by decide) ?_) | ((with_reducible apply GPW.atEf); first | refine GPW.ef (Ef.call (new_spec (1 + around (window.tdiv 16) 16) (by omega) (by omega)) rfl (by repeat (first | exact Ent.refl _ | refine Ent.take ?_))) (by decide) ?_ | refine GPW.ef (by exact Ef.call (new_spec (1 + around (window.tdiv 16) 16) (by omega) (by omega)) rfl (by repeat (first | exact Ent.refl _ | refine Ent.take ?_))) (by decide) ?_))
  rintro _ _ ⟨_, ⟨b, rfl, rfl⟩, hL⟩
  simp only [List.cons_append, List.nil_append] at hL; subst hL
  repeat (first | refine run ?_ | intro _)
  rename_i c
  refine KX.ends (by first | exact ResOk.tmps rfl | (repeat (first | exact ResOk.nil | refine ResOk.tmp rfl ?_ | refine ResOk.cell rfl (by rfl) ?_ | refine ResOk.cell1 rfl ?_))) ?_ ⟨c, a, b, rfl, rfl⟩
  exact Ent.objSl (enc := encP) (sz := 1) (xs := [a, b]) rfl rfl (by simp [encP]) (by simp)
end Go.Proofs.Ytnpienjfapjjoaa
