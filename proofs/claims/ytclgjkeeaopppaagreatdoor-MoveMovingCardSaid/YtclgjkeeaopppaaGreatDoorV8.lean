/- From a contract to a given statement: what was there before the call is immutable, so it is as it was. -/
import Derived.Test.YtclgjkeeaopppaaGreatDoorV7
import Derived.ProofKit
import Derived.Carry
import Derived.ChangeSlices
import Derived.ChangeSame
import Derived.OpenShut
namespace Go.V
open Go.ChangeShapes Go.WideShapes Go.ChangeAt Go.RowKit

/-- All blocks of w are immutable. -/
def allOf (w : World) : HP := fun ι _ => Hp.sub (heapOf w) ι
theorem Stars.snoc {L : List HP} {ι h : Hp} {p : HP} (s : Stars L ι h) (hp : p ι Hp.emp) : Stars (L ++ [p]) ι h := by
  induction L generalizing h with
  | nil => exact ⟨ι, Hp.emp, h, Hp.sub.refl _, Hp.emp_disj _, Hp.emp_sub _, Hp.sub.refl _, hp, trivial⟩
  | cons q L ih =>
    obtain ⟨ι₀, h₁, h₂, a, b, c, d, e, f⟩ := s
    exact ⟨ι₀, h₁, h₂, a, b, c, d, e, ih f⟩
theorem Tri.law {P : Program} {f : FuncId} {args : Array Value} {L : List HP} {v : Value} {post : List HP → Prop} (h : Tri P f args L (fun u L' => u = v ∧ post L')) (w : World) (hs : Stars L (heapOf w) Hp.emp) :
    Calls P f args w fun e w' => e = .returned v ∧ Below w.heap.size w w' := by
  have s0 : Sat ⟨w.tape, w.os, w.output⟩ (L ++ [allOf w]) w := ⟨⟨rfl, rfl, rfl⟩, heapOf w, Hp.emp, fun _ _ _ => rfl, Hp.sub.refl _, Hp.emp_sub _, hs.snoc (Hp.sub.refl _)⟩
  refine (h.calls _ _ w s0).mono ?_
  rintro e w' ⟨u, L', rfl, ⟨rfl, _⟩, s1⟩
  refine ⟨rfl, ?_⟩
  have s2 : Sat ⟨w.tape, w.os, w.output⟩ (allOf w :: L') w' := s1.perm (List.perm_append_singleton _ _)
  obtain ⟨ok, ι, h, a, b1, c, ι₀, h₁, h₂, d1, d2, d3, d4, d5, d6⟩ := s2
  have hk : ∀ k o, w.heap[k]? = some o → w'.heap[k]? = some o := fun k o hx => b1 k o (d1 k o (d5 k o hx))
  refine ⟨ok.os, ok.tape, ok.output, ?_, fun k hk2 => ?_⟩
  · rcases Nat.lt_or_ge w'.heap.size w.heap.size with hlt | hge
    · have h1 := hk w'.heap.size _ (Array.getElem?_eq_getElem hlt)
      rw [Array.getElem?_eq_none (Nat.le_refl _)] at h1
      cases h1
    · exact hge
  · rw [Array.getElem?_eq_getElem hk2]
    exact hk k _ (Array.getElem?_eq_getElem hk2)

theorem post_below {H : Type} {enc : TypeId × Value → H} {P : Program} {f : Func} {s : ChangeSpec} {apart fresh handsOn : Bool} {W W' : World} {args : Array Value} {v : Value} {ds gs : List (DataW H)} {before pa pv : List MemPlace}
    (hW : DataW.Whole enc P f.params.toList s.vars apart W args.toList ds gs before)
    (hres : ∀ (b : Nat) (sp : Nat → Bool) (hd : Bool), DataW.TrodAll enc P W' b sp hd f.resultTypes.toList (v.resultList f.resultTypes.size) (s.fn H (ds ++ gs)).results [])
    (hargs : DataW.TrodAll enc P W' 0 (fun b => decide (b < W.heap.size)) true f.params.toList args.toList (s.fn H (ds ++ gs)).args pa)
    (hvars : DataW.TrodVars enc P W' (fun b => decide (b < W.heap.size)) s.vars (s.fn H (ds ++ gs)).vars pv)
    (hps : before = pa ++ pv) (hb : Below W.heap.size W W') :
    s.post enc P f apart fresh handsOn false W args v W' := by
  refine ⟨ds, gs, before, [], pa, pv, hW, hres _ _ _, hargs, hvars, World.keptBut_mono (fun p hp => ⟨hp, ?_⟩) (hb.frame (· ∈ before)), fun h => by cases h⟩
  rw [hps, List.mem_append] at hp
  exact Or.inr hp

/-- An integer slice that came in. -/
theorem isl_of_cells {w : World} {k : IntKind} {b off len : Nat} {zs : List Int} (hc : ∀ i, i < zs.length → w.cell? ⟨b, off + i, none⟩ = some (.int k (zs.getD i 0))) (hl : len ≤ zs.length) : isl (encI k) 1 (some ⟨b, off, none⟩) (zs.take len) (heapOf w) Hp.emp := by
  refine ⟨fun _ _ => rfl, ?_⟩
  rcases Nat.eq_zero_or_pos (zs.take len).length with h0 | hpos
  · exact .inl (List.eq_nil_of_length_eq_zero h0)
  right
  have hz : 0 < zs.length := by simp at hpos; omega
  have h0 := hc 0 hz
  cases hb : w.heap[b]? with
  | none => simp [World.cell?, hb] at h0
  | some o =>
    cases o with
    | cells cur E fz =>
      refine ⟨b, off, cur, E, fz, rfl, hb, fun i v hv => ?_⟩
      rw [encI_flat] at hv
      have hi : i < (zs.take len).length := by
        rcases Nat.lt_or_ge i (zs.take len).length with h | h
        · exact h
        · rw [List.getElem?_eq_none (by simpa using h)] at hv; cases hv
      have h1 := hc i (by simp at hi; omega)
      rw [cell_of_block hb] at h1
      rw [h1, ← hv]
      simp only [List.length_take] at hi
      simp [show i < len by omega, List.getD, List.getElem?_eq_getElem (show i < zs.length by omega)]
    | _ => simp [World.cell?, hb] at h0
theorem Stars.push {L : List HP} {ι : Hp} {p : HP} (hp : p ι Hp.emp) (s : Stars L ι Hp.emp) : Stars (p :: L) ι Hp.emp := ⟨ι, Hp.emp, Hp.emp, Hp.sub.refl _, Hp.emp_disj _, Hp.emp_sub _, Hp.sub.refl _, hp, s⟩
abbrev w_heap_at (W : World) (b : Nat) : Option Obj := W.heap[b]?
/-- An integer slice among the arguments, opened. -/
theorem open_sl {H : Type} {enc : TypeId × Value → H} {P : Program} {W : World} {t e : TypeId} {k : IntKind} {ad : Option Addr} {len cap : Nat} {d : DataW H} {p : List MemPlace} (ht : P.underlying t = some (.slice e)) (he : P.underlying e = some (.int k)) (hc : P.cellsOf e = 1)
    (h : DataW.Trod enc P W 0 (fun _ => true) true t (.slice ad len cap) d p) : ∃ xs : List Int, isl (encI k) 1 ad xs (heapOf W) Hp.emp ∧ len = xs.length ∧ (len ≤ cap ∧ cap ≤ maxLen) ∧ ∀ x ∈ xs, (Lit.int k x).wf = true := by
  obtain ⟨fuel, hf⟩ := h
  rcases open_ints ht he hc hf with ⟨hcs, hx⟩ | ⟨a, len', cap', zs, hcs, _, hl, hm, hz, hx, hcell, hwz⟩
  · simp [Value.cells] at hcs
    obtain ⟨rfl, rfl, rfl⟩ := hcs
    exact ⟨[], ⟨by simp, .inl rfl⟩, rfl, ⟨by simp, by simp⟩, by simp⟩
  · simp [Value.cells] at hcs
    obtain ⟨rfl, rfl, rfl⟩ := hcs
    simp only [if_true] at hz
    refine ⟨zs.take len, ?_, by simp [List.length_take]; omega, ⟨hl, hm⟩, fun x hx => hwz x (List.mem_of_mem_take hx)⟩
    rcases Nat.eq_zero_or_pos zs.length with h0 | hpos
    · have : zs = [] := List.eq_nil_of_length_eq_zero h0
      subst this
      exact ⟨by simp, .inl (by simp)⟩
    · have h1 := hcell 0 hpos
      obtain ⟨b, off, spot⟩ := a
      have hs : spot = none := by
        rw [Addr_add_zero] at h1
        unfold World.cell? at h1
        cases hb : w_heap_at W b with
        | none => simp [w_heap_at] at hb; simp [hb] at h1
        | some o =>
          simp only [w_heap_at] at hb
          simp only [hb] at h1
          cases o with
          | cells c E fz => cases spot with
            | none => rfl
            | some x => simp at h1
          | _ => simp at h1
      subst hs
      exact isl_of_cells (fun i hi => by rw [← Addr_add_lit']; exact hcell i hi) (by omega)
theorem wf_i64 {a : Int} (h : (Lit.int .i64 a).wf = true) : -9223372036854775808 ≤ a ∧ a ≤ 9223372036854775807 := by
  simp [Lit.wf, IntKind.min, IntKind.max, IntKind.signed, IntKind.bits] at h
  omega
theorem wf_u8 {a : Int} (h : (Lit.int .u8 a).wf = true) : 0 ≤ a ∧ a ≤ 255 := by
  simp [Lit.wf, IntKind.min, IntKind.max, IntKind.signed, IntKind.bits] at h
  omega
theorem wf_u64 {a : Int} (h : (Lit.int .u64 a).wf = true) : 0 ≤ a ∧ a ≤ 18446744073709551615 := by
  simp [Lit.wf, IntKind.min, IntKind.max, IntKind.signed, IntKind.bits] at h
  omega
theorem wf_i32 {a : Int} (h : (Lit.int .i32 a).wf = true) : -2147483648 ≤ a ∧ a ≤ 2147483647 := by
  simp [Lit.wf, IntKind.min, IntKind.max, IntKind.signed, IntKind.bits] at h
  omega
theorem wf_u32 {a : Int} (h : (Lit.int .u32 a).wf = true) : 0 ≤ a ∧ a ≤ 4294967295 := by
  simp [Lit.wf, IntKind.min, IntKind.max, IntKind.signed, IntKind.bits] at h
  omega
end Go.V
