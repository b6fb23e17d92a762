/- Bridge: a struct of two integers and a slice of integers among the arguments. Holds for any program. -/
import Derived.Test.YtclgjkeeaopppaaGreatDoorV8
namespace Go.V
open Go.ChangeShapes Go.WideShapes Go.ChangeAt Go.RowKit
theorem open_iis {H : Type} {enc : TypeId × Value → H} {P : Program} {W : World} {r : Reach} {b0 : Nat} {t e : TypeId} {fs : Array Field} {f0 f1 f2 : Field} {k0 k1 k : IntKind} {v : Value} {d : DataW H} {p : List MemPlace} (ht : P.underlying t = some (.struct fs)) (hfs : fs = #[f0, f1, f2])
    (h0 : P.underlying f0.type = some (.int k0)) (h1 : P.underlying f1.type = some (.int k1)) (h2 : P.underlying f2.type = some (.slice e)) (he : P.underlying e = some (.int k)) (hc : P.cellsOf e = 1)
    (ho : f0.offset = 0 ∧ f1.offset = 1 ∧ f2.offset = 2) (hcs : P.cellsOf t = 3 ∧ P.cellsOf f0.type = 1 ∧ P.cellsOf f1.type = 1 ∧ P.cellsOf f2.type = 1)
    (hval : Value.okWide P W r b0 t v) (h : DataW.Trod enc P W 0 (fun _ => true) true t v d p) :
    ∃ a b ad len cap, ∃ xs : List Int, v = .agg #[.int k0 a, .int k1 b, .slice ad len cap] ∧ (Lit.int k0 a).wf = true ∧ (Lit.int k1 b).wf = true ∧ isl (encI k) 1 ad xs (heapOf W) Hp.emp ∧ len = xs.length ∧ (len ≤ cap ∧ cap ≤ maxLen) ∧ ∀ x ∈ xs, (Lit.int k x).wf = true := by
  subst hfs
  obtain ⟨cs, rfl, hsz⟩ := okWide_struct ht hval
  obtain ⟨fuel, hf⟩ := h
  obtain ⟨ys, n, _, _, _, hlen, hget⟩ := DataW.trod_struct ht hf
  rw [hcs.1] at hsz
  obtain ⟨cl⟩ := cs
  match cl, hsz with
  | [x0, x1, x2], _ =>
    match ys, hlen with
    | [y0, y1, y2], _ =>
      have g0 := hget 0 f0 rfl
      have g1 := hget 1 f1 rfl
      have g2 := hget 2 f2 rfl
      simp only [Value.cells, ho.1, ho.2.1, ho.2.2, hcs.2.1, hcs.2.2.1, hcs.2.2.2] at g0 g1 g2
      obtain ⟨a, ha, _, wa⟩ := DataW.trod_int h0 g0
      obtain ⟨b, hb, _, wb⟩ := DataW.trod_int h1 g1
      simp at ha hb
      subst ha hb
      have hx : ∃ ad len cap, x2 = .slice ad len cap := by
        rcases DataW.trod_slice h2 g2 with ⟨hc0, _⟩ | ⟨q, len, cap, _, _, _, _, hc0, _⟩
        · simp at hc0
          exact ⟨_, _, _, hc0⟩
        · simp at hc0
          exact ⟨_, _, _, hc0⟩
      obtain ⟨ad, len, cap, rfl⟩ := hx
      obtain ⟨xs, i1, i2, i3, i4⟩ := open_sl (enc := enc) (d := y2.1) (p := y2.2) h2 he hc ⟨n, by simpa [Value.cells] using g2⟩
      exact ⟨a, b, ad, len, cap, xs, rfl, wa, wb, i1, i2, i3, i4⟩
end Go.V
